/-
  Walks: what functions of the program compute. Printed by wip/gen/mk2.py.
  Conditions: none.
-/
import Derived.Test.YtnnkemdiknefaaaGreatDoorWD
import Derived.Test.YtnnkemdiknefaaaGreatDoorPlain
set_option linter.unusedSimpArgs false
set_option linter.unusedVariables false
namespace Go.W
open Go Go.Eng Go.Proofs Go.L41 Go.Br
attribute [local irreducible] AWP RWP TD
theorem ok26 : callOk Tryz.prog 26 = true := by kernel_rfl
theorem ok29 : callOk Tryz.prog 29 = true := by kernel_rfl
theorem ok50 : callOk Tryz.prog 50 = true := by kernel_rfl
theorem ok71 : callOk Tryz.prog 71 = true := by kernel_rfl
theorem ok86 : callOk Tryz.prog 86 = true := by kernel_rfl
theorem ok87 : callOk Tryz.prog 87 = true := by kernel_rfl
theorem ok92 : callOk Tryz.prog 92 = true := by kernel_rfl
theorem ok157 : callOk Tryz.prog 157 = true := by kernel_rfl
theorem base_Lins (a b : List Lf) (ha : a.length ≤ 6000000000000) (hw : linsWt a ≤ 6000000000000) :
    Pur cfg 71 [vLins a, vLins b] (vB (decide (a = b))) := by
 refine zZ Tryz.func71 rfl Tryz.ntmps71 Tryz.results71 rfl ?_
 intro z hz
 refine zE ?_
 refine zB rfl ?_
 refine zA rfl rfl (zC rfl rfl) ?_
 refine zH ?_
 refine zE ?_
 refine zE ?_
 refine zB rfl ?_
 refine zA rfl rfl (zF rfl rfl) ?_
 refine zA rfl rfl (qB rfl el104 rfl) ?_
 refine zA rfl rfl (zF rfl rfl) ?_
 refine zA rfl rfl (qB rfl el104 rfl) ?_
 refine zA rfl rfl (qV rfl rfl rfl) ?_
 refine zH ?_
 refine zR rfl (fun c1 => ?_) (fun c1 => ?_)
 ·try simp only [sx, List.length_map] at c1
  refine zE ?_
  refine zB rfl ?_
  refine zA rfl rfl (zC rfl rfl) ?_
  refine zH ?_
  refine zS ?_
  repeat (first | refine zO ?_ | refine zM ?_)
  refine fin1 (rs_c rfl) ?_
  rw [qZ (fun h => c1 (by rw [h]))]
 ·try simp only [sx, List.length_map] at c1
  refine zT ?_
  refine zE ?_
  refine zE ?_
  refine zB rfl ?_
  refine zA rfl rfl (zC rfl rfl) ?_
  refine zH ?_
  refine qA ?_
  refine qQ ⟨[(5, .c _), (0, .c _), (1, .c _)], []⟩ (Weak.mk [] ⟨VLe.of_eq rfl, VLe.of_eq rfl, VLe.of_eq rfl, trivial⟩ rfl) ?_
  refine qR 1 0 rfl rfl (Nat) (fun k => [(5, vI k)]) (fun k => []) (fun k => k ≤ a.length ∧ (a.take k = b.take k)) (fun k => a.length - k) ⟨0, ⟨by omega, rfl⟩, Weak.mk [] ⟨VLe.refl _, VLe.refl _, VLe.refl _, trivial⟩ rfl⟩ ?_
  rintro k ⟨hk, hp⟩
  refine zE ?_
  refine zE ?_
  refine zB rfl ?_
  refine zA rfl rfl (zF rfl rfl) ?_
  refine zA rfl rfl (zF rfl rfl) ?_
  refine zA rfl rfl (qB rfl el104 rfl) ?_
  refine zA rfl rfl (qS rfl rfl rfl) ?_
  refine zH ?_
  refine zR rfl (fun c2 => ?_) (fun c2 => ?_)
  ·try simp only [sx, List.length_map] at c2
   obtain ⟨x, hx⟩ := yL a k (by omega)
   obtain ⟨y, hy⟩ := yL b k (by omega)
   have hxw := linsWt_mem (qF hx)
   refine zT ?_
   refine zE ?_
   refine qA ?_
   refine zE ?_
   refine yG 10 mixed (by kernel_rfl) rfl rfl ?_
   refine zV rfl rfl (zF rfl rfl) ?_
   refine zV rfl rfl (zF rfl rfl) ?_
   refine zV rfl rfl (zX rfl el104 rfl rfl (by omega) (getm (by assumption))) ?_
   refine zV rfl rfl (zQ rfl yB rfl qK rfl) ?_
   refine zV rfl rfl (zF rfl rfl) ?_
   refine zV rfl rfl (zF rfl rfl) ?_
   refine zV rfl rfl (zX rfl el104 rfl rfl (by omega) (getm (by assumption))) ?_
   refine zV rfl rfl (zQ rfl yB rfl qK rfl) ?_
   refine zV rfl rfl (zW rfl ok86 (base_Lin x y (by omega)) ⟨VLe.refl _, rfl, VLe.refl _, rfl, trivial⟩) ?_
   refine zV rfl rfl (qY rfl rfl) ?_
   refine kB ?_
   refine zH ?_
   refine zR rfl (fun c3 => ?_) (fun c3 => ?_)
   ·try simp only [sx, List.length_map] at c3
    refine zE ?_
    refine zB rfl ?_
    refine zA rfl rfl (zC rfl rfl) ?_
    refine zH ?_
    refine zS ?_
    repeat (first | refine zO ?_ | refine zM ?_)
    refine fin1 (rs_c rfl) ?_
    rw [qZ (ne_of_get hx hy c3)]
   ·try simp only [sx, List.length_map] at c3
    refine zT ?_
    refine zB rfl ?_
    refine zA rfl rfl (zF rfl rfl) ?_
    refine zA rfl rfl (qL rfl rfl rfl ⟨by omega, by omega⟩) ?_
    refine zA rfl rfl (zC rfl rfl) ?_
    refine zH ?_
    refine ⟨k + 1, ⟨by omega, take_eq_next hx hy hp c3⟩, (by omega), Weak.mk [] ⟨VLe.refl _, VLe.refl _, VLe.refl _, trivial⟩ rfl⟩
  ·try simp only [sx, List.length_map] at c2
   refine qU ?_
   refine zE ?_
   refine zB rfl ?_
   refine zA rfl rfl (zC rfl rfl) ?_
   refine zH ?_
   refine zS ?_
   repeat (first | refine zO ?_ | refine zM ?_)
   refine fin1 (rs_c rfl) ?_
   rw [kG (eq_of_take hp (by omega) (by omega))]

theorem base_Index (a b : Ix) (ha : a.wt ≤ 6000000000000) :
    Pur cfg 157 [vIndex a, vIndex b] (vB (decide (a = b))) := by
 refine zZ Tryz.func157 rfl Tryz.ntmps157 Tryz.results157 rfl ?_
 intro z hz
 have hw := ha
 unfold Ix.wt at hw
 refine zE ?_
 refine zB rfl ?_
 refine qC rfl rfl (qN rfl rfl) ?_
 rintro _ _ ⟨b1, rfl, rfl⟩
 refine qC rfl rfl (qN rfl rfl) ?_
 rintro _ _ ⟨b2, rfl, rfl⟩
 refine zA rfl rfl (zC rfl rfl) ?_
 refine zH ?_
 refine zE ?_
 refine zB rfl ?_
 refine zA rfl rfl (zJ rfl fd117_1 rfl) ?_
 refine zA rfl rfl (zK rfl one9 rfl (zP 1 rfl) rfl) ?_
 refine zA rfl rfl (zJ rfl fd117_1 rfl) ?_
 refine zA rfl rfl (zK rfl one9 rfl (zP 0 rfl) rfl) ?_
 refine zA rfl rfl (yJ rfl rfl rfl) ?_
 refine zA rfl rfl (zF rfl rfl) ?_
 refine zN [] rfl rfl rfl rfl gv1 trivial (fun g1_5 => zJ rfl fd117_0 rfl) rfl ?_
 refine zN [(11, _)] rfl rfl rfl rfl gv1 ⟨rfl, rfl, trivial⟩ (fun g1_5 => zQ rfl yB rfl (zP 1 rfl) rfl) rfl ?_
 refine zN [] rfl rfl rfl rfl gv1 trivial (fun g1_5 => zJ rfl fd117_0 rfl) rfl ?_
 refine zN [(13, _)] rfl rfl rfl rfl gv1 ⟨rfl, rfl, trivial⟩ (fun g1_5 => zQ rfl yB rfl (zP 0 rfl) rfl) rfl ?_
 refine zN [(12, _), (14, _)] rfl rfl rfl rfl gv1 ⟨rfl, rfl, rfl, rfl, trivial⟩ (fun g1_5 => zW rfl ok86 (base_Lin a.Lin b.Lin (by omega)) ⟨VLe.refl _, rfl, VLe.refl _, rfl, trivial⟩) rfl ?_
 refine zA rfl rfl (qM rfl rfl rfl (fun h => h) rfl) ?_
 refine zA rfl rfl (zF rfl rfl) ?_
 refine zN [] rfl rfl rfl rfl gv1 trivial (fun g1_12 => zJ rfl kZ rfl) rfl ?_
 refine zN [(18, _)] rfl rfl rfl rfl gv1 ⟨rfl, rfl, trivial⟩ (fun g1_12 => zK rfl one104 rfl (zP 1 rfl) rfl) rfl ?_
 refine zN [] rfl rfl rfl rfl gv1 trivial (fun g1_12 => zJ rfl kZ rfl) rfl ?_
 refine zN [(20, _)] rfl rfl rfl rfl gv1 ⟨rfl, rfl, trivial⟩ (fun g1_12 => zK rfl one104 rfl (zP 0 rfl) rfl) rfl ?_
 refine zN [(19, _), (21, _)] rfl rfl rfl rfl gv1 ⟨rfl, rfl, rfl, rfl, trivial⟩ (fun g1_12 => zW rfl ok71 (base_Lins a.At b.At (by omega) (by omega)) ⟨VLe.refl _, rfl, VLe.refl _, rfl, trivial⟩) rfl ?_
 refine zA rfl rfl (qM rfl rfl rfl (fun h => h) rfl) ?_
 refine zA rfl rfl (zC rfl rfl) ?_
 refine zH ?_
 refine zS ?_
 repeat (first | refine zO ?_ | refine zM ?_)
 refine fin1 (rs_c rfl) ?_
 exact congrArg vB (ix_eq a b)

theorem base_Indices (a b : List Ix) (ha : a.length ≤ 6000000000000) (hw : idxWt a ≤ 6000000000000) :
    Pur cfg 87 [vIndices a, vIndices b] (vB (decide (a = b))) := by
 refine zZ Tryz.func87 rfl Tryz.ntmps87 Tryz.results87 rfl ?_
 intro z hz
 refine zE ?_
 refine zB rfl ?_
 refine zA rfl rfl (zC rfl rfl) ?_
 refine zH ?_
 refine zE ?_
 refine zE ?_
 refine zB rfl ?_
 refine zA rfl rfl (zF rfl rfl) ?_
 refine zA rfl rfl (qB rfl el30 rfl) ?_
 refine zA rfl rfl (zF rfl rfl) ?_
 refine zA rfl rfl (qB rfl el30 rfl) ?_
 refine zA rfl rfl (qV rfl rfl rfl) ?_
 refine zH ?_
 refine zR rfl (fun c1 => ?_) (fun c1 => ?_)
 ·try simp only [sx, List.length_map] at c1
  refine zE ?_
  refine zB rfl ?_
  refine zA rfl rfl (zC rfl rfl) ?_
  refine zH ?_
  refine zS ?_
  repeat (first | refine zO ?_ | refine zM ?_)
  refine fin1 (rs_c rfl) ?_
  rw [qZ (fun h => c1 (by rw [h]))]
 ·try simp only [sx, List.length_map] at c1
  refine zT ?_
  refine zE ?_
  refine zE ?_
  refine zB rfl ?_
  refine zA rfl rfl (zC rfl rfl) ?_
  refine zH ?_
  refine qA ?_
  refine qQ ⟨[(5, .c _), (0, .c _), (1, .c _)], []⟩ (Weak.mk [] ⟨VLe.of_eq rfl, VLe.of_eq rfl, VLe.of_eq rfl, trivial⟩ rfl) ?_
  refine qR 1 0 rfl rfl (Nat) (fun k => [(5, vI k)]) (fun k => []) (fun k => k ≤ a.length ∧ (a.take k = b.take k)) (fun k => a.length - k) ⟨0, ⟨by omega, rfl⟩, Weak.mk [] ⟨VLe.refl _, VLe.refl _, VLe.refl _, trivial⟩ rfl⟩ ?_
  rintro k ⟨hk, hp⟩
  refine zE ?_
  refine zE ?_
  refine zB rfl ?_
  refine zA rfl rfl (zF rfl rfl) ?_
  refine zA rfl rfl (zF rfl rfl) ?_
  refine zA rfl rfl (qB rfl el30 rfl) ?_
  refine zA rfl rfl (qS rfl rfl rfl) ?_
  refine zH ?_
  refine zR rfl (fun c2 => ?_) (fun c2 => ?_)
  ·try simp only [sx, List.length_map] at c2
   obtain ⟨x, hx⟩ := yL a k (by omega)
   obtain ⟨y, hy⟩ := yL b k (by omega)
   have hxw := idxWt_mem (qF hx)
   refine zT ?_
   refine zE ?_
   refine qA ?_
   refine zE ?_
   refine yG 10 mixed (by kernel_rfl) rfl rfl ?_
   refine zV rfl rfl (zF rfl rfl) ?_
   refine zV rfl rfl (zF rfl rfl) ?_
   refine zV rfl rfl (zX rfl el30 rfl rfl (by omega) (getm (by assumption))) ?_
   refine zV rfl rfl (zQ rfl agg117 rfl qK rfl) ?_
   refine zV rfl rfl (zF rfl rfl) ?_
   refine zV rfl rfl (zF rfl rfl) ?_
   refine zV rfl rfl (zX rfl el30 rfl rfl (by omega) (getm (by assumption))) ?_
   refine zV rfl rfl (zQ rfl agg117 rfl qK rfl) ?_
   refine zV rfl rfl (zW rfl ok157 (base_Index x y (by omega)) ⟨VLe.refl _, rfl, VLe.refl _, rfl, trivial⟩) ?_
   refine zV rfl rfl (qY rfl rfl) ?_
   refine kB ?_
   refine zH ?_
   refine zR rfl (fun c3 => ?_) (fun c3 => ?_)
   ·try simp only [sx, List.length_map] at c3
    refine zE ?_
    refine zB rfl ?_
    refine zA rfl rfl (zC rfl rfl) ?_
    refine zH ?_
    refine zS ?_
    repeat (first | refine zO ?_ | refine zM ?_)
    refine fin1 (rs_c rfl) ?_
    rw [qZ (ne_of_get hx hy c3)]
   ·try simp only [sx, List.length_map] at c3
    refine zT ?_
    refine zB rfl ?_
    refine zA rfl rfl (zF rfl rfl) ?_
    refine zA rfl rfl (qL rfl rfl rfl ⟨by omega, by omega⟩) ?_
    refine zA rfl rfl (zC rfl rfl) ?_
    refine zH ?_
    refine ⟨k + 1, ⟨by omega, take_eq_next hx hy hp c3⟩, (by omega), Weak.mk [] ⟨VLe.refl _, VLe.refl _, VLe.refl _, trivial⟩ rfl⟩
  ·try simp only [sx, List.length_map] at c2
   refine qU ?_
   refine zE ?_
   refine zB rfl ?_
   refine zA rfl rfl (zC rfl rfl) ?_
   refine zH ?_
   refine zS ?_
   repeat (first | refine zO ?_ | refine zM ?_)
   refine fin1 (rs_c rfl) ?_
   rw [kG (eq_of_take hp (by omega) (by omega))]

theorem base_Exprs_of (a b : List Ex) (hE : ∀ x, x ∈ a → ∀ y, Pur cfg 26 [vE x, vE y] (vB (decide (x = y)))) (ha : a.length ≤ 6000000000000) :
    Pur cfg 29 [vEs a, vEs b] (vB (decide (a = b))) := by
 refine zZ Tryz.func29 rfl Tryz.ntmps29 Tryz.results29 rfl ?_
 intro z hz
 refine zE ?_
 refine zB rfl ?_
 refine zA rfl rfl (zC rfl rfl) ?_
 refine zH ?_
 refine zE ?_
 refine zE ?_
 refine zB rfl ?_
 refine zA rfl rfl (zF rfl rfl) ?_
 refine zA rfl rfl (qB rfl el31 rfl) ?_
 refine zA rfl rfl (zF rfl rfl) ?_
 refine zA rfl rfl (qB rfl el31 rfl) ?_
 refine zA rfl rfl (qV rfl rfl rfl) ?_
 refine zH ?_
 refine zR rfl (fun c1 => ?_) (fun c1 => ?_)
 ·try simp only [sx, List.length_map] at c1
  refine zE ?_
  refine zB rfl ?_
  refine zA rfl rfl (zC rfl rfl) ?_
  refine zH ?_
  refine zS ?_
  repeat (first | refine zO ?_ | refine zM ?_)
  refine fin1 (rs_c rfl) ?_
  rw [qZ (fun h => c1 (by rw [h]))]
 ·try simp only [sx, List.length_map] at c1
  refine zT ?_
  refine zE ?_
  refine zE ?_
  refine zB rfl ?_
  refine zA rfl rfl (zC rfl rfl) ?_
  refine zH ?_
  refine qA ?_
  refine qQ ⟨[(5, .c _), (0, .c _), (1, .c _)], []⟩ (Weak.mk [] ⟨VLe.of_eq rfl, VLe.of_eq rfl, VLe.of_eq rfl, trivial⟩ rfl) ?_
  refine qR 1 0 rfl rfl (Nat) (fun k => [(5, vI k)]) (fun k => []) (fun k => k ≤ a.length ∧ (a.take k = b.take k)) (fun k => a.length - k) ⟨0, ⟨by omega, rfl⟩, Weak.mk [] ⟨VLe.refl _, VLe.refl _, VLe.refl _, trivial⟩ rfl⟩ ?_
  rintro k ⟨hk, hp⟩
  refine zE ?_
  refine zE ?_
  refine zB rfl ?_
  refine zA rfl rfl (zF rfl rfl) ?_
  refine zA rfl rfl (zF rfl rfl) ?_
  refine zA rfl rfl (qB rfl el31 rfl) ?_
  refine zA rfl rfl (qS rfl rfl rfl) ?_
  refine zH ?_
  refine zR rfl (fun c2 => ?_) (fun c2 => ?_)
  ·try simp only [sx, List.length_map] at c2
   obtain ⟨x, hx⟩ := yL a k (by omega)
   obtain ⟨y, hy⟩ := yL b k (by omega)
   refine zT ?_
   refine zE ?_
   refine qA ?_
   refine zE ?_
   refine yG 10 mixed (by kernel_rfl) rfl rfl ?_
   refine zV rfl rfl (zF rfl rfl) ?_
   refine zV rfl rfl (zF rfl rfl) ?_
   refine zV rfl rfl (zX rfl el31 rfl rfl (by omega) (getmE (by assumption))) ?_
   refine zV rfl rfl (zQ rfl yA rfl qK rfl) ?_
   refine zV rfl rfl (zF rfl rfl) ?_
   refine zV rfl rfl (zF rfl rfl) ?_
   refine zV rfl rfl (zX rfl el31 rfl rfl (by omega) (getmE (by assumption))) ?_
   refine zV rfl rfl (zQ rfl yA rfl qK rfl) ?_
   refine zV rfl rfl (zW rfl ok26 (hE x (qF hx) y) ⟨VLe.refl _, rfl, VLe.refl _, rfl, trivial⟩) ?_
   refine zV rfl rfl (qY rfl rfl) ?_
   refine kB ?_
   refine zH ?_
   refine zR rfl (fun c3 => ?_) (fun c3 => ?_)
   ·try simp only [sx, List.length_map] at c3
    refine zE ?_
    refine zB rfl ?_
    refine zA rfl rfl (zC rfl rfl) ?_
    refine zH ?_
    refine zS ?_
    repeat (first | refine zO ?_ | refine zM ?_)
    refine fin1 (rs_c rfl) ?_
    rw [qZ (ne_of_get hx hy c3)]
   ·try simp only [sx, List.length_map] at c3
    refine zT ?_
    refine zB rfl ?_
    refine zA rfl rfl (zF rfl rfl) ?_
    refine zA rfl rfl (qL rfl rfl rfl ⟨by omega, by omega⟩) ?_
    refine zA rfl rfl (zC rfl rfl) ?_
    refine zH ?_
    refine ⟨k + 1, ⟨by omega, take_eq_next hx hy hp c3⟩, (by omega), Weak.mk [] ⟨VLe.refl _, VLe.refl _, VLe.refl _, trivial⟩ rfl⟩
  ·try simp only [sx, List.length_map] at c2
   refine qU ?_
   refine zE ?_
   refine zB rfl ?_
   refine zA rfl rfl (zC rfl rfl) ?_
   refine zH ?_
   refine zS ?_
   repeat (first | refine zO ?_ | refine zM ?_)
   refine fin1 (rs_c rfl) ?_
   rw [kG (eq_of_take hp (by omega) (by omega))]

theorem base_Expr_step (a : Ex) (ih : ∀ x, x ∈ a.Args → x.wt ≤ 6000000000000 → ∀ y, Pur cfg 26 [vE x, vE y] (vB (decide (x = y)))) (ha : a.wt ≤ 6000000000000) (b : Ex) :
    Pur cfg 26 [vE a, vE b] (vB (decide (a = b))) := by
 refine zZ Tryz.func26 rfl Tryz.ntmps26 Tryz.results26 rfl ?_
 intro z hz
 obtain ⟨hL, hI, hA⟩ := a.parts ha
 have hw := Ex.wt_eq a
 refine zE ?_
 refine zB rfl ?_
 refine qC rfl rfl (qN rfl rfl) ?_
 rintro _ _ ⟨b1, rfl, rfl⟩
 refine qC rfl rfl (qN rfl rfl) ?_
 rintro _ _ ⟨b2, rfl, rfl⟩
 refine zA rfl rfl (zC rfl rfl) ?_
 refine zH ?_
 refine zE ?_
 refine zB rfl ?_
 refine zA rfl rfl (zJ rfl yW rfl) ?_
 refine zA rfl rfl (zK rfl one3 rfl (zP 1 rfl) rfl) ?_
 refine zA rfl rfl (zJ rfl yW rfl) ?_
 refine zA rfl rfl (zK rfl one3 rfl (zP 0 rfl) rfl) ?_
 refine zA rfl rfl (qJ rfl rfl rfl) ?_
 refine zA rfl rfl (zF rfl rfl) ?_
 refine zN [] rfl rfl rfl rfl gv1 trivial (fun g1_5 => zJ rfl fd33_1 rfl) rfl ?_
 refine zN [(11, _)] rfl rfl rfl rfl gv1 ⟨rfl, rfl, trivial⟩ (fun g1_5 => zK rfl one9 rfl (zP 1 rfl) rfl) rfl ?_
 refine zN [] rfl rfl rfl rfl gv1 trivial (fun g1_5 => zJ rfl fd33_1 rfl) rfl ?_
 refine zN [(13, _)] rfl rfl rfl rfl gv1 ⟨rfl, rfl, trivial⟩ (fun g1_5 => zK rfl one9 rfl (zP 0 rfl) rfl) rfl ?_
 refine zN [(12, _), (14, _)] rfl rfl rfl rfl gv1 ⟨rfl, rfl, rfl, rfl, trivial⟩ (fun g1_5 => yJ rfl rfl rfl) rfl ?_
 refine zA rfl rfl (qM rfl rfl rfl (fun h => h) rfl) ?_
 refine zA rfl rfl (zF rfl rfl) ?_
 refine zN [] rfl rfl rfl rfl gv1 trivial (fun g1_12 => zJ rfl fd33_2 rfl) rfl ?_
 refine zN [(18, _)] rfl rfl rfl rfl gv1 ⟨rfl, rfl, trivial⟩ (fun g1_12 => zQ rfl agg26 rfl (zP 1 rfl) rfl) rfl ?_
 refine zN [] rfl rfl rfl rfl gv1 trivial (fun g1_12 => zJ rfl fd33_2 rfl) rfl ?_
 refine zN [(20, _)] rfl rfl rfl rfl gv1 ⟨rfl, rfl, trivial⟩ (fun g1_12 => zQ rfl agg26 rfl (zP 0 rfl) rfl) rfl ?_
 refine zN [(19, _), (21, _)] rfl rfl rfl rfl gv1 ⟨rfl, rfl, rfl, rfl, trivial⟩ (fun g1_12 => det_aeql rfl fl26 rfl rfl rfl) rfl ?_
 refine zA rfl rfl (qM rfl rfl rfl (fun h => h) rfl) ?_
 refine zA rfl rfl (zF rfl rfl) ?_
 refine zN [] rfl rfl rfl rfl gv1 trivial (fun g1_19 => zJ rfl fd33_3 rfl) rfl ?_
 refine zN [(25, _)] rfl rfl rfl rfl gv1 ⟨rfl, rfl, trivial⟩ (fun g1_19 => zQ rfl agg23 rfl (zP 1 rfl) rfl) rfl ?_
 refine zN [] rfl rfl rfl rfl gv1 trivial (fun g1_19 => zJ rfl fd33_3 rfl) rfl ?_
 refine zN [(27, _)] rfl rfl rfl rfl gv1 ⟨rfl, rfl, trivial⟩ (fun g1_19 => zQ rfl agg23 rfl (zP 0 rfl) rfl) rfl ?_
 refine zN [(26, _), (28, _)] rfl rfl rfl rfl gv1 ⟨rfl, rfl, rfl, rfl, trivial⟩ (fun g1_19 => det_aeql rfl fl23 rfl rfl rfl) rfl ?_
 refine zA rfl rfl (qM rfl rfl rfl (fun h => h) rfl) ?_
 refine zA rfl rfl (zF rfl rfl) ?_
 refine zN [] rfl rfl rfl rfl gv1 trivial (fun g1_26 => zJ rfl fd33_4 rfl) rfl ?_
 refine zN [(32, _)] rfl rfl rfl rfl gv1 ⟨rfl, rfl, trivial⟩ (fun g1_26 => zQ rfl yB rfl (zP 1 rfl) rfl) rfl ?_
 refine zN [] rfl rfl rfl rfl gv1 trivial (fun g1_26 => zJ rfl fd33_4 rfl) rfl ?_
 refine zN [(34, _)] rfl rfl rfl rfl gv1 ⟨rfl, rfl, trivial⟩ (fun g1_26 => zQ rfl yB rfl (zP 0 rfl) rfl) rfl ?_
 refine zN [(33, _), (35, _)] rfl rfl rfl rfl gv1 ⟨rfl, rfl, rfl, rfl, trivial⟩ (fun g1_26 => zW rfl ok86 (base_Lin a.Lin b.Lin hL) ⟨VLe.refl _, rfl, VLe.refl _, rfl, trivial⟩) rfl ?_
 refine zA rfl rfl (qM rfl rfl rfl (fun h => h) rfl) ?_
 refine zA rfl rfl (zF rfl rfl) ?_
 refine zN [] rfl rfl rfl rfl gv1 trivial (fun g1_33 => zJ rfl kN rfl) rfl ?_
 refine zN [(39, _)] rfl rfl rfl rfl gv1 ⟨rfl, rfl, trivial⟩ (fun g1_33 => zK rfl one30 rfl (zP 1 rfl) rfl) rfl ?_
 refine zN [] rfl rfl rfl rfl gv1 trivial (fun g1_33 => zJ rfl kN rfl) rfl ?_
 refine zN [(41, _)] rfl rfl rfl rfl gv1 ⟨rfl, rfl, trivial⟩ (fun g1_33 => zK rfl one30 rfl (zP 0 rfl) rfl) rfl ?_
 refine zN [(40, _), (42, _)] rfl rfl rfl rfl gv1 ⟨rfl, rfl, rfl, rfl, trivial⟩ (fun g1_33 => zW rfl ok87 (base_Indices a.Idx b.Idx hI (by omega)) ⟨VLe.refl _, rfl, VLe.refl _, rfl, trivial⟩) rfl ?_
 refine zA rfl rfl (qM rfl rfl rfl (fun h => h) rfl) ?_
 refine zA rfl rfl (zF rfl rfl) ?_
 refine zN [] rfl rfl rfl rfl gv1 trivial (fun g1_40 => zJ rfl kE rfl) rfl ?_
 refine zN [(46, _)] rfl rfl rfl rfl gv1 ⟨rfl, rfl, trivial⟩ (fun g1_40 => zK rfl wC rfl (zP 1 rfl) rfl) rfl ?_
 refine zN [] rfl rfl rfl rfl gv1 trivial (fun g1_40 => zJ rfl kE rfl) rfl ?_
 refine zN [(48, _)] rfl rfl rfl rfl gv1 ⟨rfl, rfl, trivial⟩ (fun g1_40 => zK rfl wC rfl (zP 0 rfl) rfl) rfl ?_
 refine zN [(47, _), (49, _)] rfl rfl rfl rfl gv1 ⟨rfl, rfl, rfl, rfl, trivial⟩ (fun g1_40 => zW rfl ok29 (base_Exprs_of a.Args b.Args (fun x hx y => ih x hx (by have := Ex.arg_wt hx; omega) y) hA) ⟨VLe.refl _, rfl, VLe.refl _, rfl, trivial⟩) rfl ?_
 refine zA rfl rfl (qM rfl rfl rfl (fun h => h) rfl) ?_
 refine zA rfl rfl (zC rfl rfl) ?_
 refine zH ?_
 refine zS ?_
 repeat (first | refine zO ?_ | refine zM ?_)
 refine fin1 (rs_c rfl) ?_
 exact congrArg vB (ex_eq a b)

theorem base_Expr (a b : Ex) (ha : a.wt ≤ 6000000000000) : Pur cfg 26 [vE a, vE b] (vB (decide (a = b))) := by
  induction a using Ex.ind generalizing b with
  | _ a ih => exact base_Expr_step a (fun x hx h y => ih x hx y h) ha b

theorem base_Weigh_step (e : Ex) (ih : ∀ a, a ∈ e.Args → ∀ (m : Nat) (x : Int), a.fit → m ≤ 1000000 → x = m → Pur cfg 50 [vE a, vI x] (vI (weighE a m))) (m : Nat) (x : Int) (hf : e.fit) (hm : m ≤ 1000000) (hx : x = m) :
    Pur cfg 50 [vE e, vI x] (vI (weighE e m)) := by
 refine zZ Tryz.func50 rfl Tryz.ntmps50 Tryz.results50 rfl ?_
 intro z hz
 obtain ⟨f1, f2, f3, f4, f5⟩ := Ex.fit_eq hf
 have hW := weighE_eq e m
 refine zE ?_
 refine zB rfl ?_
 refine qC rfl rfl (qN rfl rfl) ?_
 rintro _ _ ⟨b1, rfl, rfl⟩
 refine zA rfl rfl (zC rfl rfl) ?_
 refine zH ?_
 refine zE ?_
 refine zB rfl ?_
 refine zA rfl rfl (zJ rfl fd33_4 rfl) ?_
 refine zA rfl rfl (zJ rfl yI rfl) ?_
 refine zA rfl rfl (zK rfl kH rfl (zP 0 rfl) rfl) ?_
 refine zA rfl rfl (qB rfl el27 rfl) ?_
 refine zA rfl rfl (qL rfl rfl rfl ⟨by omega, by omega⟩) ?_
 refine zA rfl rfl (zJ rfl kN rfl) ?_
 refine zA rfl rfl (zK rfl one30 rfl (zP 0 rfl) rfl) ?_
 refine zA rfl rfl (qB rfl el30 rfl) ?_
 refine zA rfl rfl (qL rfl rfl rfl ⟨by omega, by omega⟩) ?_
 refine zA rfl rfl (zC rfl rfl) ?_
 refine zH ?_
 refine zE ?_
 refine zE ?_
 refine zB rfl ?_
 refine zA rfl rfl (zC rfl rfl) ?_
 refine zH ?_
 refine qA ?_
 refine qQ ⟨[(6, .c _), (5, .c _), (1, .c _), (2, .c _)], [_]⟩ (Weak.mk [true] ⟨VLe.of_eq rfl, VLe.of_eq rfl, VLe.of_eq rfl, VLe.of_eq rfl, trivial⟩ rfl) ?_
 refine qR 2 0 rfl rfl (Nat × Nat) (fun ⟨k, n⟩ => [(6, vI k), (5, vI n)]) (fun ⟨k, n⟩ => []) (fun ⟨k, n⟩ => k ≤ e.Idx.length ∧ (n ≤ m + 4 * 140737488355328) ∧ (weighIdx m (1 + e.Lin.L.length + e.Idx.length) e.Idx = weighIdx m n (e.Idx.drop k))) (fun ⟨k, n⟩ => e.Idx.length - k) ⟨⟨0, 1 + e.Lin.L.length + e.Idx.length⟩, ⟨by omega, by omega, rfl⟩, Weak.mk [true] ⟨VLe.refl _, VLe.of_eq (congrArg vI (by omega)), VLe.refl _, VLe.refl _, trivial⟩ rfl⟩ ?_
 rintro ⟨k, n⟩ ⟨hk, hn1, hn2⟩
 show AWP _ _ _ _ _ ⟨[(6, vI k), (5, vI n)] ++ _, [] ++ _⟩
 refine zE ?_
 refine zE ?_
 refine zB rfl ?_
 refine zA rfl rfl (zF rfl rfl) ?_
 refine zA rfl rfl (zJ rfl kN rfl) ?_
 refine zA rfl rfl (zK rfl one30 rfl (zP 0 rfl) rfl) ?_
 refine zA rfl rfl (qB rfl el30 rfl) ?_
 refine zA rfl rfl (qS rfl rfl rfl) ?_
 refine zA rfl rfl (zF rfl rfl) ?_
 refine zN [] rfl rfl rfl rfl gv1 trivial (fun g3_5 => zF rfl rfl) rfl ?_
 refine zN [] rfl rfl rfl rfl gv1 trivial (fun g3_5 => zF rfl rfl) rfl ?_
 refine zN [(24, _), (25, _)] rfl rfl rfl rfl gv1 ⟨rfl, rfl, rfl, rfl, trivial⟩ (fun g3_5 => kQ rfl rfl rfl) rfl ?_
 refine zA rfl rfl (qM rfl rfl rfl (fun h => h) rfl) ?_
 refine zH ?_
 refine zR rfl (fun c1 => ?_) (fun c1 => ?_)
 ·try simp only [sx, List.length_map] at c1
  obtain ⟨y, hy⟩ := yL e.Idx k (by omega)
  obtain ⟨i1, i2, i3⟩ := f4 y (qF hy)
  refine zT ?_
  refine zE ?_
  refine qA ?_
  refine zE ?_
  refine yG 19 mixed (by kernel_rfl) rfl rfl ?_
  refine zV rfl rfl (zF rfl rfl) ?_
  refine zV rfl rfl (zJ rfl kN rfl) ?_
  refine zV rfl rfl (zK rfl one30 rfl (zP 0 rfl) rfl) ?_
  refine zV rfl rfl (zF rfl rfl) ?_
  refine zV rfl rfl (zX rfl el30 rfl rfl (by omega) (getm (by assumption))) ?_
  refine zV rfl rfl (qG rfl fd117_0 rfl) ?_
  refine zV rfl rfl (qG rfl yI rfl) ?_
  refine zV rfl rfl (zK rfl kH rfl qK rfl) ?_
  refine zV rfl rfl (qB rfl el27 rfl) ?_
  refine zV rfl rfl (qL rfl rfl rfl ⟨by omega, by omega⟩) ?_
  refine zV rfl rfl (zJ rfl kN rfl) ?_
  refine zV rfl rfl (zK rfl one30 rfl (zP 0 rfl) rfl) ?_
  refine zV rfl rfl (zF rfl rfl) ?_
  refine zV rfl rfl (zX rfl el30 rfl rfl (by omega) (getm (by assumption))) ?_
  refine zV rfl rfl (qG rfl kZ rfl) ?_
  refine zV rfl rfl (zK rfl one104 rfl qK rfl) ?_
  refine zV rfl rfl (qB rfl el104 rfl) ?_
  refine zV rfl rfl (qL rfl rfl rfl ⟨by omega, by omega⟩) ?_
  refine zV rfl rfl (zC rfl rfl) ?_
  refine kB ?_
  refine zH ?_
  refine zE ?_
  refine zB rfl ?_
  refine zA rfl rfl (zC rfl rfl) ?_
  refine zH ?_
  refine qA ?_
  refine qQ ⟨[(7, .c _), (5, .c _), (1, .c _), (2, .c _), (6, .c _)], [_]⟩ (Weak.mk [true] ⟨VLe.of_eq rfl, VLe.of_eq rfl, VLe.of_eq rfl, VLe.of_eq rfl, VLe.of_eq rfl, trivial⟩ rfl) ?_
  refine qR 2 0 rfl rfl (Nat × Nat) (fun ⟨j, p⟩ => [(7, vI j), (5, vI p)]) (fun ⟨j, p⟩ => []) (fun ⟨j, p⟩ => j ≤ y.At.length ∧ (p ≤ m + 4 * 140737488355328) ∧ (weighAt m (n + y.Lin.L.length + y.At.length) y.At = weighAt m p (y.At.drop j))) (fun ⟨j, p⟩ => y.At.length - j) ⟨⟨0, n + y.Lin.L.length + y.At.length⟩, ⟨by omega, by omega, rfl⟩, Weak.mk [true] ⟨VLe.refl _, VLe.of_eq (congrArg vI (by omega)), VLe.refl _, VLe.refl _, VLe.refl _, trivial⟩ rfl⟩ ?_
  rintro ⟨j, p⟩ ⟨hj, hp1, hp2⟩
  show AWP _ _ _ _ _ ⟨[(7, vI j), (5, vI p)] ++ _, [] ++ _⟩
  refine zE ?_
  refine zE ?_
  refine zB rfl ?_
  refine zA rfl rfl (zF rfl rfl) ?_
  refine zA rfl rfl (zJ rfl kN rfl) ?_
  refine zA rfl rfl (zK rfl one30 rfl (zP 0 rfl) rfl) ?_
  refine zA rfl rfl (zF rfl rfl) ?_
  refine zA rfl rfl (zX rfl el30 rfl rfl (by omega) (getm (by assumption))) ?_
  refine zA rfl rfl (qG rfl kZ rfl) ?_
  refine zA rfl rfl (zK rfl one104 rfl qK rfl) ?_
  refine zA rfl rfl (qB rfl el104 rfl) ?_
  refine zA rfl rfl (qS rfl rfl rfl) ?_
  refine zA rfl rfl (zF rfl rfl) ?_
  refine zN [] rfl rfl rfl rfl gv1 trivial (fun g7_9 => zF rfl rfl) rfl ?_
  refine zN [] rfl rfl rfl rfl gv1 trivial (fun g7_9 => zF rfl rfl) rfl ?_
  refine zN [(58, _), (59, _)] rfl rfl rfl rfl gv1 ⟨rfl, rfl, rfl, rfl, trivial⟩ (fun g7_9 => kQ rfl rfl rfl) rfl ?_
  refine zA rfl rfl (qM rfl rfl rfl (fun h => h) rfl) ?_
  refine zH ?_
  refine zR rfl (fun c2 => ?_) (fun c2 => ?_)
  ·try simp only [sx, List.length_map] at c2
   obtain ⟨l, hl⟩ := yL y.At j (by omega)
   have hl2 := i3 l (qF hl)
   refine zT ?_
   refine zE ?_
   refine qA ?_
   refine zB rfl ?_
   refine zA rfl rfl (zF rfl rfl) ?_
   refine zA rfl rfl (zJ rfl kN rfl) ?_
   refine zA rfl rfl (zK rfl one30 rfl (zP 0 rfl) rfl) ?_
   refine zA rfl rfl (zF rfl rfl) ?_
   refine zA rfl rfl (zX rfl el30 rfl rfl (by omega) (getm (by assumption))) ?_
   refine zA rfl rfl (qG rfl kZ rfl) ?_
   refine zA rfl rfl (zK rfl one104 rfl qK rfl) ?_
   refine zA rfl rfl (zF rfl rfl) ?_
   refine zA rfl rfl (zX rfl el104 rfl rfl (by omega) (getm (by assumption))) ?_
   refine zA rfl rfl (qG rfl yI rfl) ?_
   refine zA rfl rfl (zK rfl kH rfl qK rfl) ?_
   refine zA rfl rfl (qB rfl el27 rfl) ?_
   refine zA rfl rfl (qL rfl rfl rfl ⟨by omega, by omega⟩) ?_
   refine zA rfl rfl (zC rfl rfl) ?_
   refine zH ?_
   refine zB rfl ?_
   refine zA rfl rfl (zF rfl rfl) ?_
   refine zA rfl rfl (qL rfl rfl rfl ⟨by omega, by omega⟩) ?_
   refine zA rfl rfl (zC rfl rfl) ?_
   refine zH ?_
   refine ⟨⟨j + 1, p + l.L.length⟩, ⟨by omega, by omega, by rw [hp2, yC hl, weighAt, if_pos (by omega)]⟩, (by show y.At.length - (j + 1) < y.At.length - j; omega), Weak.mk [true] ⟨VLe.refl _, VLe.of_eq (congrArg vI (by omega)), VLe.refl _, VLe.refl _, VLe.refl _, trivial⟩ rfl⟩
  ·try simp only [sx, List.length_map] at c2
   have hN2 := weighAt_end (l := y.At) (k := j) (n := p) hx (by omega)
   refine qU ?_
   refine zB rfl ?_
   refine zA rfl rfl (zF rfl rfl) ?_
   refine zA rfl rfl (qL rfl rfl rfl ⟨by omega, by omega⟩) ?_
   refine zA rfl rfl (zC rfl rfl) ?_
   refine zH ?_
   refine ⟨⟨k + 1, p⟩, ⟨by omega, hp1, by rw [hn2, yC hy, weighIdx, if_pos (by omega), hp2, ← hN2]⟩, (by show e.Idx.length - (k + 1) < e.Idx.length - k; omega), Weak.mk [true] ⟨VLe.refl _, VLe.refl _, VLe.refl _, VLe.refl _, trivial⟩ rfl⟩
 ·try simp only [sx, List.length_map] at c1
  have hN := weighIdx_end (l := e.Idx) (k := k) (n := n) hx (by omega)
  refine qU ?_
  refine zE ?_
  refine zE ?_
  refine zB rfl ?_
  refine zA rfl rfl (zC rfl rfl) ?_
  refine zH ?_
  refine qA ?_
  refine qQ ⟨[(8, .c _), (5, .c _), (1, .c _), (2, .c _)], [_]⟩ (Weak.mk [true] ⟨VLe.of_eq rfl, VLe.of_eq rfl, VLe.of_eq rfl, VLe.of_eq rfl, trivial⟩ rfl) ?_
  refine qR 2 0 rfl rfl (Nat × Nat) (fun ⟨k, n⟩ => [(8, vI k), (5, vI n)]) (fun ⟨k, n⟩ => []) (fun ⟨k, n⟩ => k ≤ e.Args.length ∧ (n ≤ m + 4 * 140737488355328) ∧ (weighE e m = weighL (e.Args.drop k) m n)) (fun ⟨k, n⟩ => e.Args.length - k) ⟨⟨0, n⟩, ⟨by omega, hn1, by rw [hW, hn2, ← hN]; rfl⟩, Weak.mk [true] ⟨VLe.refl _, VLe.refl _, VLe.refl _, VLe.refl _, trivial⟩ rfl⟩ ?_
  rintro ⟨k, n⟩ ⟨hk3, hn3, hn4⟩
  show AWP _ _ _ _ _ ⟨[(8, vI k), (5, vI n)] ++ _, [] ++ _⟩
  refine zE ?_
  refine zE ?_
  refine zB rfl ?_
  refine zA rfl rfl (zF rfl rfl) ?_
  refine zA rfl rfl (zJ rfl kE rfl) ?_
  refine zA rfl rfl (zK rfl wC rfl (zP 0 rfl) rfl) ?_
  refine zA rfl rfl (qB rfl el31 rfl) ?_
  refine zA rfl rfl (qS rfl rfl rfl) ?_
  refine zA rfl rfl (zF rfl rfl) ?_
  refine zN [] rfl rfl rfl rfl gv1 trivial (fun g11_5 => zF rfl rfl) rfl ?_
  refine zN [] rfl rfl rfl rfl gv1 trivial (fun g11_5 => zF rfl rfl) rfl ?_
  refine zN [(83, _), (84, _)] rfl rfl rfl rfl gv1 ⟨rfl, rfl, rfl, rfl, trivial⟩ (fun g11_5 => kQ rfl rfl rfl) rfl ?_
  refine zA rfl rfl (qM rfl rfl rfl (fun h => h) rfl) ?_
  refine zH ?_
  refine zR rfl (fun c3 => ?_) (fun c3 => ?_)
  ·try simp only [sx, List.length_map] at c3
   obtain ⟨a, ha⟩ := yL e.Args k (by omega)
   have hwa := weighE_le a (m - n) (f5 a (qF ha))
   refine zT ?_
   refine zE ?_
   refine qA ?_
   refine zB rfl ?_
   refine zA rfl rfl (zF rfl rfl) ?_
   refine zA rfl rfl (zJ rfl kE rfl) ?_
   refine zA rfl rfl (zK rfl wC rfl (zP 0 rfl) rfl) ?_
   refine zA rfl rfl (zF rfl rfl) ?_
   refine zA rfl rfl (zX rfl el31 rfl rfl (by omega) (getmE (by assumption))) ?_
   refine zA rfl rfl (zQ rfl yA rfl qK rfl) ?_
   refine zA rfl rfl (zF rfl rfl) ?_
   refine zA rfl rfl (zF rfl rfl) ?_
   refine zA rfl rfl (kA rfl rfl rfl ⟨by omega, by omega⟩) ?_
   refine zA rfl rfl (zW rfl ok50 (ih a (qF ha) (m - n) _ (f5 a (qF ha)) (by omega) (by omega)) ⟨VLe.refl _, rfl, VLe.refl _, rfl, trivial⟩) ?_
   refine zA rfl rfl (qL rfl rfl rfl ⟨by omega, by omega⟩) ?_
   refine zA rfl rfl (zC rfl rfl) ?_
   refine zH ?_
   refine zB rfl ?_
   refine zA rfl rfl (zF rfl rfl) ?_
   refine zA rfl rfl (qL rfl rfl rfl ⟨by omega, by omega⟩) ?_
   refine zA rfl rfl (zC rfl rfl) ?_
   refine zH ?_
   refine ⟨⟨k + 1, n + weighE a (m - n)⟩, ⟨by omega, by omega, by rw [hn4, yC ha, weighL, if_pos (by omega)]⟩, (by show e.Args.length - (k + 1) < e.Args.length - k; omega), Weak.mk [true] ⟨VLe.refl _, VLe.of_eq (congrArg vI (by omega)), VLe.refl _, VLe.refl _, trivial⟩ rfl⟩
  ·try simp only [sx, List.length_map] at c3
   refine qU ?_
   refine zE ?_
   refine zB rfl ?_
   refine zA rfl rfl (zF rfl rfl) ?_
   refine zA rfl rfl (zC rfl rfl) ?_
   refine zH ?_
   refine zS ?_
   repeat (first | refine zO ?_ | refine zM ?_)
   refine fin1 (rs_c rfl) ?_
   exact congrArg vI (by rw [hn4, ← weighL_end hx (by omega)])

theorem base_Weigh (e : Ex) (m : Nat) (x : Int) (hf : e.fit) (hm : m ≤ 1000000) (hx : x = m) : Pur cfg 50 [vE e, vI x] (vI (weighE e m)) := by
  induction e using Ex.ind generalizing m x with
  | _ e ih => exact base_Weigh_step e (fun a ha m x h1 h2 h3 => ih a ha m x h1 h2 h3) m x hf hm hx

theorem slices_Clone_mono (l : List Mono) (hl : l.length ≤ 5864062014805) :
    OwnR cfg 92 [vMonos l] 75 2 (l.map Mono.cells) := by
 refine zZ Tryz.func92 rfl Tryz.ntmps92 Tryz.results92 rfl ?_
 intro z hz
 refine zE ?_
 refine zB rfl ?_
 refine zA rfl rfl (yT 2 rfl rfl) ?_
 refine zH ?_
 refine zE ?_
 refine zE ?_
 refine zB rfl ?_
 refine zA rfl rfl (zF rfl rfl) ?_
 refine qC rfl rfl (ope_nileq rfl el27 rfl rfl) ?_
 rintro _ _ ⟨nb1, rfl, hnil1, rfl⟩
 refine zH ?_
 refine zR rfl (fun c1 => ?_) (fun c1 => ?_)
 ·try simp only [sx, List.length_map] at c1
  refine zE ?_
  refine zB rfl ?_
  refine zA rfl rfl (zC rfl rfl) ?_
  refine yN _ (kI 75 2) ?_
  refine zH ?_
  refine zS ?_
  repeat (first | refine zO ?_ | refine zM ?_)
  refine fin1 (rs_c rfl) ?_
  exact ⟨_, rfl, by rw [hnil1 c1]⟩
 ·try simp only [sx, List.length_map] at c1
  refine zT ?_
  refine zE ?_
  refine zB rfl ?_
  refine qC rfl rfl (ope_bslice rfl el27 zr75 rfl rfl rfl rfl) ?_
  rintro _ _ ⟨sv3, rfl, rfl⟩
  refine zA rfl rfl (zF rfl rfl) ?_
  refine qC rfl rfl (yO 0 rfl el27 rfl rfl rfl (by simp only [List.length_map, List.length_nil, Nat.zero_add]; omega) (by simp only [List.length_map, List.length_nil, Nat.zero_add]; omega)) ?_
  rintro _ _ ⟨sv4, rfl, rfl⟩
  refine zA rfl rfl (zC rfl rfl) ?_
  refine zH ?_
  refine zS ?_
  repeat (first | refine zO ?_ | refine zM ?_)
  refine fin1 (rs_c rfl) ?_
  exact ⟨_, rfl, rfl⟩

theorem slices_Clone_lin (l : List Lf) (hl : l.length ≤ 4294967296) :
    OwnR cfg 149 [vLins l] 29 2 (l.map Lf.cells) := by
 refine zZ Tryz.func149 rfl Tryz.ntmps149 Tryz.results149 rfl ?_
 intro z hz
 refine zE ?_
 refine zB rfl ?_
 refine zA rfl rfl (yT 2 rfl rfl) ?_
 refine zH ?_
 refine zE ?_
 refine zE ?_
 refine zB rfl ?_
 refine zA rfl rfl (zF rfl rfl) ?_
 refine qC rfl rfl (ope_nileq rfl el104 rfl rfl) ?_
 rintro _ _ ⟨nb1, rfl, hnil1, rfl⟩
 refine zH ?_
 refine zR rfl (fun c1 => ?_) (fun c1 => ?_)
 ·try simp only [sx, List.length_map] at c1
  refine zE ?_
  refine zB rfl ?_
  refine zA rfl rfl (zC rfl rfl) ?_
  refine yN _ (kI 29 2) ?_
  refine zH ?_
  refine zS ?_
  repeat (first | refine zO ?_ | refine zM ?_)
  refine fin1 (rs_c rfl) ?_
  exact ⟨_, rfl, by rw [hnil1 c1]⟩
 ·try simp only [sx, List.length_map] at c1
  refine zT ?_
  refine zE ?_
  refine zB rfl ?_
  refine qC rfl rfl (ope_bslice rfl el104 zr29 rfl rfl rfl rfl) ?_
  rintro _ _ ⟨sv3, rfl, rfl⟩
  refine zA rfl rfl (zF rfl rfl) ?_
  refine qC rfl rfl (yO 0 rfl el104 rfl rfl rfl (by simp only [List.length_map, List.length_nil, Nat.zero_add]; omega) (by simp only [List.length_map, List.length_nil, Nat.zero_add]; omega)) ?_
  rintro _ _ ⟨sv4, rfl, rfl⟩
  refine zA rfl rfl (zC rfl rfl) ?_
  refine zH ?_
  refine zS ?_
  repeat (first | refine zO ?_ | refine zM ?_)
  refine fin1 (rs_c rfl) ?_
  exact ⟨_, rfl, rfl⟩

theorem slices_Clone_ix (l : List Ix) (hl : l.length ≤ 4294967296) :
    OwnR cfg 148 [vIndices l] 117 4 (l.map Ix.cells) := by
 refine zZ Tryz.func148 rfl Tryz.ntmps148 Tryz.results148 rfl ?_
 intro z hz
 refine zE ?_
 refine zB rfl ?_
 refine zA rfl rfl (yT 4 rfl rfl) ?_
 refine zH ?_
 refine zE ?_
 refine zE ?_
 refine zB rfl ?_
 refine zA rfl rfl (zF rfl rfl) ?_
 refine qC rfl rfl (ope_nileq rfl el30 rfl rfl) ?_
 rintro _ _ ⟨nb1, rfl, hnil1, rfl⟩
 refine zH ?_
 refine zR rfl (fun c1 => ?_) (fun c1 => ?_)
 ·try simp only [sx, List.length_map] at c1
  refine zE ?_
  refine zB rfl ?_
  refine zA rfl rfl (zC rfl rfl) ?_
  refine yN _ (kI 117 4) ?_
  refine zH ?_
  refine zS ?_
  repeat (first | refine zO ?_ | refine zM ?_)
  refine fin1 (rs_c rfl) ?_
  exact ⟨_, rfl, by rw [hnil1 c1]⟩
 ·try simp only [sx, List.length_map] at c1
  refine zT ?_
  refine zE ?_
  refine zB rfl ?_
  refine qC rfl rfl (ope_bslice rfl el30 zr117 rfl rfl rfl rfl) ?_
  rintro _ _ ⟨sv3, rfl, rfl⟩
  refine zA rfl rfl (zF rfl rfl) ?_
  refine qC rfl rfl (yO 0 rfl el30 rfl rfl rfl (by simp only [List.length_map, List.length_nil, Nat.zero_add]; omega) (by simp only [List.length_map, List.length_nil, Nat.zero_add]; omega)) ?_
  rintro _ _ ⟨sv4, rfl, rfl⟩
  refine zA rfl rfl (zC rfl rfl) ?_
  refine zH ?_
  refine zS ?_
  repeat (first | refine zO ?_ | refine zM ?_)
  refine fin1 (rs_c rfl) ?_
  exact ⟨_, rfl, rfl⟩

theorem slices_Clone_ex (l : List Ex) (hl : l.length ≤ 4294967296) :
    OwnR cfg 150 [vEs l] 33 13 (l.map Ex.cells) := by
 refine zZ Tryz.func150 rfl Tryz.ntmps150 Tryz.results150 rfl ?_
 intro z hz
 refine zE ?_
 refine zB rfl ?_
 refine zA rfl rfl (yT 13 rfl rfl) ?_
 refine zH ?_
 refine zE ?_
 refine zE ?_
 refine zB rfl ?_
 refine zA rfl rfl (zF rfl rfl) ?_
 refine qC rfl rfl (ope_nileq rfl el31 rfl rfl) ?_
 rintro _ _ ⟨nb1, rfl, hnil1, rfl⟩
 refine zH ?_
 refine zR rfl (fun c1 => ?_) (fun c1 => ?_)
 ·try simp only [sx, List.length_map] at c1
  refine zE ?_
  refine zB rfl ?_
  refine zA rfl rfl (zC rfl rfl) ?_
  refine yN _ (kI 33 13) ?_
  refine zH ?_
  refine zS ?_
  repeat (first | refine zO ?_ | refine zM ?_)
  refine fin1 (rs_c rfl) ?_
  exact ⟨_, rfl, by rw [hnil1 c1]⟩
 ·try simp only [sx, List.length_map] at c1
  refine zT ?_
  refine zE ?_
  refine zB rfl ?_
  refine qC rfl rfl (ope_bslice rfl el31 zr33 rfl rfl rfl rfl) ?_
  rintro _ _ ⟨sv3, rfl, rfl⟩
  refine zA rfl rfl (zF rfl rfl) ?_
  refine qC rfl rfl (yO 0 rfl el31 rfl rfl rfl (by simp only [List.length_map, List.length_nil, Nat.zero_add]; omega) (by simp only [List.length_map, List.length_nil, Nat.zero_add]; omega)) ?_
  rintro _ _ ⟨sv4, rfl, rfl⟩
  refine zA rfl rfl (zC rfl rfl) ?_
  refine zH ?_
  refine zS ?_
  repeat (first | refine zO ?_ | refine zM ?_)
  refine fin1 (rs_c rfl) ?_
  exact ⟨_, rfl, rfl⟩

theorem expr_Copy_1 (l : Lf) (hl : l.L.length ≤ 5864062014805) :
    Pur cfg 91 [vLin l] (.tup [vLin (idF l).1, vI (idF l).2]) := by
 refine zZ Tryz.func91 rfl Tryz.ntmps91 Tryz.results91 rfl ?_
 intro z hz
 refine zE ?_
 refine zB rfl ?_
 refine qC rfl rfl (qN rfl rfl) ?_
 rintro _ _ ⟨b1, rfl, rfl⟩
 refine qC rfl rfl (qH [none, some 2] rfl zr29 rfl) ?_
 rintro _ _ ⟨b2, rfl, rfl⟩
 refine zA rfl rfl (zC rfl rfl) ?_
 refine zH ?_
 refine zE ?_
 refine yG 6 mixed (by kernel_rfl) rfl rfl ?_
 refine zV rfl rfl (zJ rfl fd29_0 rfl) ?_
 refine zV rfl rfl (zK rfl one2 rfl (zP 1 rfl) rfl) ?_
 refine zV rfl rfl (zJ rfl yI rfl) ?_
 refine zV rfl rfl (zK rfl kH rfl (zP 1 rfl) rfl) ?_
 refine zV rfl rfl (zW rfl ok92 (OwnR.pur (slices_Clone_mono l.L hl)) ⟨VLe.refl _, rfl, trivial⟩) ?_
 refine zV rfl rfl (yE rfl zr29 pl29 rfl) ?_
 refine kB ?_
 refine zY rfl rfl (zU rfl sz29 rfl rfl rfl (qI 0 rfl rfl)) ?_
 refine zA rfl rfl (zC rfl rfl) ?_
 refine zH ?_
 refine zS ?_
 repeat (first | refine zO ?_ | refine zM ?_)
 refine fin2 (qD yB rfl (zP 0 rfl) rfl) (rs_c rfl) ?_
 exact rfl

end Go.W
