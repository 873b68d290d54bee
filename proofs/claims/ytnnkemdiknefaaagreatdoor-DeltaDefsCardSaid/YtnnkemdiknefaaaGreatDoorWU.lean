/-
  Walks: what functions of the program compute. Printed by wip/gen/mk2.py.
  Conditions: none.
-/
import Derived.Test.YtnnkemdiknefaaaGreatDoorWT
import Derived.Test.YtnnkemdiknefaaaGreatDoorWR
import Derived.Test.YtnnkemdiknefaaaGreatDoorPlain
set_option linter.unusedSimpArgs false
set_option linter.unusedVariables false
namespace Go.W
open Go Go.Eng Go.Proofs Go.L41 Go.Br
attribute [local irreducible] AWP RWP TD
theorem fd111_1 : fieldT Tryz.prog 111 1 = some (2, 4) := by kernel_rfl
theorem ok16 : callOk Tryz.prog 16 = true := by kernel_rfl
theorem ok68 : callOk Tryz.prog 68 = true := by kernel_rfl
theorem one4 : oneT Tryz.prog 4 = true := by kernel_rfl
theorem base_Axes (a b : List Ax) (ha : a.length ≤ 4294967296) (hx0 : ∀ x, x ∈ a → x.Size.L.length ≤ 6000000000000) :
    Pur cfg 68 [.c (.sl 3 (a.map Ax.cells)), .c (.sl 3 (b.map Ax.cells))] (vB (decide (a = b))) := by
 refine zZ Tryz.func68 rfl Tryz.ntmps68 Tryz.results68 rfl ?_
 intro z hz
 refine zE ?_
 refine zB rfl ?_
 refine zA rfl rfl (zC rfl rfl) ?_
 refine zH ?_
 refine zE ?_
 refine zE ?_
 refine zB rfl ?_
 refine zA rfl rfl (zF rfl rfl) ?_
 refine zA rfl rfl (qB rfl el24 rfl) ?_
 refine zA rfl rfl (zF rfl rfl) ?_
 refine zA rfl rfl (qB rfl el24 rfl) ?_
 refine zA rfl rfl (qV rfl rfl rfl) ?_
 refine zH ?_
 refine zR rfl (fun c1 => ?_) (fun c1 => ?_)
 ·try simp only [sx, List.length_map] at c1
  refine zE ?_
  refine zB rfl ?_
  refine zA rfl rfl (zC rfl rfl) ?_
  refine zH ?_
  refine zS ?_
  repeat (first | refine zO ?_ | refine zM ?_)
  refine fin1 (rs_c rfl) ?_
  rw [qZ (fun h => c1 (by rw [h]))]
 ·try simp only [sx, List.length_map] at c1
  refine zT ?_
  refine zE ?_
  refine zE ?_
  refine zB rfl ?_
  refine zA rfl rfl (zC rfl rfl) ?_
  refine zH ?_
  refine qA ?_
  refine qQ ⟨[(5, .c _), (0, .c _), (1, .c _)], []⟩ (Weak.mk [] ⟨VLe.of_eq rfl, VLe.of_eq rfl, VLe.of_eq rfl, trivial⟩ rfl) ?_
  refine qR 1 0 rfl rfl (Nat) (fun k => [(5, vI k)]) (fun k => []) (fun k => k ≤ a.length ∧ (a.take k = b.take k)) (fun k => a.length - k) ⟨0, ⟨by omega, rfl⟩, Weak.mk [] ⟨VLe.refl _, VLe.refl _, VLe.refl _, trivial⟩ rfl⟩ ?_
  rintro k ⟨hk, hp⟩
  refine zE ?_
  refine zE ?_
  refine zB rfl ?_
  refine zA rfl rfl (zF rfl rfl) ?_
  refine zA rfl rfl (zF rfl rfl) ?_
  refine zA rfl rfl (qB rfl el24 rfl) ?_
  refine zA rfl rfl (qS rfl rfl rfl) ?_
  refine zH ?_
  refine zR rfl (fun c2 => ?_) (fun c2 => ?_)
  ·try simp only [sx, List.length_map] at c2
   obtain ⟨x, hx⟩ := yL a k (by omega)
   obtain ⟨y, hy⟩ := yL b k (by omega)
   refine zT ?_
   refine zE ?_
   refine qA ?_
   refine zE ?_
   refine yG 25 mixed (by kernel_rfl) rfl rfl ?_
   refine zV rfl rfl (zF rfl rfl) ?_
   refine zV rfl rfl (zF rfl rfl) ?_
   refine zV rfl rfl (zX rfl el24 rfl rfl (by omega) (getm hx)) ?_
   refine zV rfl rfl (qG rfl fd88_0 rfl) ?_
   refine zV rfl rfl (zK rfl one9 rfl qK rfl) ?_
   refine zV rfl rfl (zF rfl rfl) ?_
   refine zV rfl rfl (zF rfl rfl) ?_
   refine zV rfl rfl (zX rfl el24 rfl rfl (by omega) (getm hy)) ?_
   refine zV rfl rfl (qG rfl fd88_0 rfl) ?_
   refine zV rfl rfl (zK rfl one9 rfl qK rfl) ?_
   refine zV rfl rfl (det_sneq rfl rfl rfl) ?_
   refine zV rfl rfl (zF rfl rfl) ?_
   refine qE [] rfl rfl rfl rfl gv1 trivial (fun g6_11 => zF rfl rfl) rfl ?_
   refine qE [] rfl rfl rfl rfl gv1 trivial (fun g6_11 => zF rfl rfl) rfl ?_
   refine qE [(29, _), (30, _)] rfl rfl rfl rfl gv1 ⟨rfl, rfl, rfl, rfl, trivial⟩ (fun g6_11 => zX rfl el24 rfl rfl (by omega) (getm hx)) rfl ?_
   refine qE [(31, _)] rfl rfl rfl rfl gv1 ⟨rfl, rfl, trivial⟩ (fun g6_11 => qG rfl fd88_1 rfl) rfl ?_
   refine qE [(32, _)] rfl rfl rfl rfl gv1 ⟨rfl, rfl, trivial⟩ (fun g6_11 => zQ rfl yB rfl qK rfl) rfl ?_
   refine qE [] rfl rfl rfl rfl gv1 trivial (fun g6_11 => zF rfl rfl) rfl ?_
   refine qE [] rfl rfl rfl rfl gv1 trivial (fun g6_11 => zF rfl rfl) rfl ?_
   refine qE [(34, _), (35, _)] rfl rfl rfl rfl gv1 ⟨rfl, rfl, rfl, rfl, trivial⟩ (fun g6_11 => zX rfl el24 rfl rfl (by omega) (getm hy)) rfl ?_
   refine qE [(36, _)] rfl rfl rfl rfl gv1 ⟨rfl, rfl, trivial⟩ (fun g6_11 => qG rfl fd88_1 rfl) rfl ?_
   refine qE [(37, _)] rfl rfl rfl rfl gv1 ⟨rfl, rfl, trivial⟩ (fun g6_11 => zQ rfl yB rfl qK rfl) rfl ?_
   refine qE [(33, _), (38, _)] rfl rfl rfl rfl gv1 ⟨rfl, rfl, rfl, rfl, trivial⟩ (fun g6_11 => zW rfl ok86 (base_Lin x.Size y.Size (hx0 x (qF hx))) ⟨VLe.refl _, rfl, VLe.refl _, rfl, trivial⟩) rfl ?_
   refine qE [(39, _)] rfl rfl rfl rfl gv1 ⟨rfl, rfl, trivial⟩ (fun g6_11 => qY rfl rfl) rfl ?_
   refine zV rfl rfl (yD rfl rfl rfl rfl (fun h => (lzf h))) ?_
   refine kB ?_
   refine zH ?_
   refine zR rfl (fun c3 => ?_) (fun c3 => ?_)
   ·have hne := ax_ne c3
    refine zE ?_
    refine zB rfl ?_
    refine zA rfl rfl (zC rfl rfl) ?_
    refine zH ?_
    refine zS ?_
    repeat (first | refine zO ?_ | refine zM ?_)
    refine fin1 (rs_c rfl) ?_
    rw [qZ (ne_of_get hx hy hne)]
   ·have heq := ax_yes' c3
    refine zT ?_
    refine zB rfl ?_
    refine zA rfl rfl (zF rfl rfl) ?_
    refine zA rfl rfl (qL rfl rfl rfl ⟨by omega, by omega⟩) ?_
    refine zA rfl rfl (zC rfl rfl) ?_
    refine zH ?_
    refine ⟨k + 1, ⟨by omega, take_eq_next hx hy hp heq⟩, (by omega), Weak.mk [] ⟨VLe.refl _, VLe.refl _, VLe.refl _, trivial⟩ rfl⟩
  ·try simp only [sx, List.length_map] at c2
   refine qU ?_
   refine zE ?_
   refine zB rfl ?_
   refine zA rfl rfl (zC rfl rfl) ?_
   refine zH ?_
   refine zS ?_
   repeat (first | refine zO ?_ | refine zM ?_)
   refine fin1 (rs_c rfl) ?_
   rw [kG (eq_of_take hp (by omega) (by omega))]

theorem base_Def (a b : Df) (h1 : a.Dims.length ≤ 4294967296) (h2 : a.Red.length ≤ 4294967296) (h3 : ∀ x, x ∈ a.Dims → x.Size.L.length ≤ 6000000000000) (h4 : ∀ x, x ∈ a.Red → x.Size.L.length ≤ 6000000000000) (h5 : a.Body.wt ≤ 6000000000000) :
    Pur cfg 16 [vDf a, vDf b] (vB (decide (a = b))) := by
 refine zZ Tryz.func16 rfl Tryz.ntmps16 Tryz.results16 rfl ?_
 intro z hz
 refine zE ?_
 refine zB rfl ?_
 refine qC rfl rfl (qN rfl rfl) ?_
 rintro _ _ ⟨b1, rfl, rfl⟩
 refine qC rfl rfl (qN rfl rfl) ?_
 rintro _ _ ⟨b2, rfl, rfl⟩
 refine zA rfl rfl (zC rfl rfl) ?_
 refine zH ?_
 refine zE ?_
 refine zB rfl ?_
 refine zA rfl rfl (zJ rfl fd35_0 rfl) ?_
 refine zA rfl rfl (zK rfl one9 rfl (zP 1 rfl) rfl) ?_
 refine zA rfl rfl (zJ rfl fd35_0 rfl) ?_
 refine zA rfl rfl (zK rfl one9 rfl (zP 0 rfl) rfl) ?_
 refine zA rfl rfl (yJ rfl rfl rfl) ?_
 refine zA rfl rfl (zF rfl rfl) ?_
 refine zN [] rfl rfl rfl rfl gv1 trivial (fun g1_5 => zJ rfl fd35_1 rfl) rfl ?_
 refine zN [(11, _)] rfl rfl rfl rfl gv1 ⟨rfl, rfl, trivial⟩ (fun g1_5 => zQ rfl agg23 rfl (zP 1 rfl) rfl) rfl ?_
 refine zN [] rfl rfl rfl rfl gv1 trivial (fun g1_5 => zJ rfl fd35_1 rfl) rfl ?_
 refine zN [(13, _)] rfl rfl rfl rfl gv1 ⟨rfl, rfl, trivial⟩ (fun g1_5 => zQ rfl agg23 rfl (zP 0 rfl) rfl) rfl ?_
 refine zN [(12, _), (14, _)] rfl rfl rfl rfl gv1 ⟨rfl, rfl, rfl, rfl, trivial⟩ (fun g1_5 => det_aeql rfl fl23 rfl rfl rfl) rfl ?_
 refine zA rfl rfl (qM rfl rfl rfl (fun h => h) rfl) ?_
 refine zA rfl rfl (zF rfl rfl) ?_
 refine zN [] rfl rfl rfl rfl gv1 trivial (fun g1_12 => zJ rfl fd35_4 rfl) rfl ?_
 refine zN [(18, _)] rfl rfl rfl rfl gv1 ⟨rfl, rfl, trivial⟩ (fun g1_12 => zK rfl one3 rfl (zP 1 rfl) rfl) rfl ?_
 refine zN [] rfl rfl rfl rfl gv1 trivial (fun g1_12 => zJ rfl fd35_4 rfl) rfl ?_
 refine zN [(20, _)] rfl rfl rfl rfl gv1 ⟨rfl, rfl, trivial⟩ (fun g1_12 => zK rfl one3 rfl (zP 0 rfl) rfl) rfl ?_
 refine zN [(19, _), (21, _)] rfl rfl rfl rfl gv1 ⟨rfl, rfl, rfl, rfl, trivial⟩ (fun g1_12 => qJ rfl rfl rfl) rfl ?_
 refine zA rfl rfl (qM rfl rfl rfl (fun h => h) rfl) ?_
 refine zA rfl rfl (zF rfl rfl) ?_
 refine zN [] rfl rfl rfl rfl gv1 trivial (fun g1_19 => zJ rfl fd35_2 rfl) rfl ?_
 refine zN [(25, _)] rfl rfl rfl rfl gv1 ⟨rfl, rfl, trivial⟩ (fun g1_19 => zK rfl one24 rfl (zP 1 rfl) rfl) rfl ?_
 refine zN [] rfl rfl rfl rfl gv1 trivial (fun g1_19 => zJ rfl fd35_2 rfl) rfl ?_
 refine zN [(27, _)] rfl rfl rfl rfl gv1 ⟨rfl, rfl, trivial⟩ (fun g1_19 => zK rfl one24 rfl (zP 0 rfl) rfl) rfl ?_
 refine zN [(26, _), (28, _)] rfl rfl rfl rfl gv1 ⟨rfl, rfl, rfl, rfl, trivial⟩ (fun g1_19 => zW rfl ok68 (base_Axes a.Dims b.Dims h1 h3) ⟨VLe.refl _, rfl, VLe.refl _, rfl, trivial⟩) rfl ?_
 refine zA rfl rfl (qM rfl rfl rfl (fun h => h) rfl) ?_
 refine zA rfl rfl (zF rfl rfl) ?_
 refine zN [] rfl rfl rfl rfl gv1 trivial (fun g1_26 => zJ rfl fd35_3 rfl) rfl ?_
 refine zN [(32, _)] rfl rfl rfl rfl gv1 ⟨rfl, rfl, trivial⟩ (fun g1_26 => zK rfl one24 rfl (zP 1 rfl) rfl) rfl ?_
 refine zN [] rfl rfl rfl rfl gv1 trivial (fun g1_26 => zJ rfl fd35_3 rfl) rfl ?_
 refine zN [(34, _)] rfl rfl rfl rfl gv1 ⟨rfl, rfl, trivial⟩ (fun g1_26 => zK rfl one24 rfl (zP 0 rfl) rfl) rfl ?_
 refine zN [(33, _), (35, _)] rfl rfl rfl rfl gv1 ⟨rfl, rfl, rfl, rfl, trivial⟩ (fun g1_26 => zW rfl ok68 (base_Axes a.Red b.Red h2 h4) ⟨VLe.refl _, rfl, VLe.refl _, rfl, trivial⟩) rfl ?_
 refine zA rfl rfl (qM rfl rfl rfl (fun h => h) rfl) ?_
 refine zA rfl rfl (zF rfl rfl) ?_
 refine zN [] rfl rfl rfl rfl gv1 trivial (fun g1_33 => zJ rfl fd35_5 rfl) rfl ?_
 refine zN [(39, _)] rfl rfl rfl rfl gv1 ⟨rfl, rfl, trivial⟩ (fun g1_33 => zQ rfl yA rfl (zP 1 rfl) rfl) rfl ?_
 refine zN [] rfl rfl rfl rfl gv1 trivial (fun g1_33 => zJ rfl fd35_5 rfl) rfl ?_
 refine zN [(41, _)] rfl rfl rfl rfl gv1 ⟨rfl, rfl, trivial⟩ (fun g1_33 => zQ rfl yA rfl (zP 0 rfl) rfl) rfl ?_
 refine zN [(40, _), (42, _)] rfl rfl rfl rfl gv1 ⟨rfl, rfl, rfl, rfl, trivial⟩ (fun g1_33 => zW rfl ok26 (base_Expr a.Body b.Body h5) ⟨VLe.refl _, rfl, VLe.refl _, rfl, trivial⟩) rfl ?_
 refine zA rfl rfl (qM rfl rfl rfl (fun h => h) rfl) ?_
 refine zA rfl rfl (zC rfl rfl) ?_
 refine zH ?_
 refine zS ?_
 repeat (first | refine zO ?_ | refine zM ?_)
 refine fin1 (rs_c rfl) ?_
 exact congrArg vB (df_eq a b)

end Go.W
