/-
  Walks: what functions of the program compute. Printed by wip/gen/mk2.py.
  Conditions: none.
-/
import Derived.Test.YtnnkemdiknefaaaGreatDoorWZ
import Derived.Test.YtnnkemdiknefaaaGreatDoorPlain2
import Derived.Test.YtnnkemdiknefaaaGreatDoorEngZ
set_option linter.unusedSimpArgs false
set_option linter.unusedVariables false
namespace Go.W
open Go Go.Eng Go.Proofs Go.L41 Go.Br
attribute [local irreducible] AWP RWP TD
theorem ok25 : callOk Tryz.prog 25 = true := by kernel_rfl
theorem ok84 : callOk Tryz.prog 84 = true := by kernel_rfl
theorem ok85 : callOk Tryz.prog 85 = true := by kernel_rfl
theorem ok155 : callOk Tryz.prog 155 = true := by kernel_rfl
theorem ok156 : callOk Tryz.prog 156 = true := by kernel_rfl
theorem ref14_sum (a b : Lf) (c : Int) (ha : a.L.length ≤ 4294967296) (hb : b.L.length ≤ 4294967296) (hra : a.rng) (hrb : b.rng) (hc : r64 c) (hne : ∀ m, m ∈ a.L → m.By ≠ 0) :
    Pur cfg 156 [vLin a, vLin b, vI c] (.tup [vLin (addT (a.K + b.K * c) (mulT c (mergeL a.L b.L))).1, vI (addT (a.K + b.K * c) (mulT c (mergeL a.L b.L))).2]) := by
 refine zZ Tryz.func156 rfl Tryz.ntmps156 Tryz.results156 rfl ?_
 intro z hz
 have z0 : r64 0 := by unfold r64; omega
 refine zE ?_
 refine zB rfl ?_
 refine qC rfl rfl (qN rfl rfl) ?_
 rintro _ _ ⟨b1, rfl, rfl⟩
 refine qC rfl rfl (qN rfl rfl) ?_
 rintro _ _ ⟨b2, rfl, rfl⟩
 refine qC rfl rfl (qH [none, some 2] rfl zr29 rfl) ?_
 rintro _ _ ⟨b3, rfl, rfl⟩
 refine zA rfl rfl (zC rfl rfl) ?_
 refine zH ?_
 refine zE ?_
 refine zB rfl ?_
 refine zA rfl rfl (zJ rfl fd29_0 rfl) ?_
 refine zA rfl rfl (zK rfl one2 rfl (zP 2 rfl) rfl) ?_
 refine zA rfl rfl (zJ rfl fd29_0 rfl) ?_
 refine zA rfl rfl (zK rfl one2 rfl (zP 1 rfl) rfl) ?_
 refine zA rfl rfl (zF rfl rfl) ?_
 refine zA rfl rfl (zW rfl ok208 (ref14_both a.K b.K c hra.1 hrb.1 hc) ⟨VLe.refl _, rfl, VLe.refl _, rfl, VLe.refl _, rfl, trivial⟩) ?_
 refine zA rfl rfl (qT rfl rfl) ?_
 refine zA rfl rfl (qX rfl rfl rfl) ?_
 refine zA rfl rfl (qX rfl rfl rfl) ?_
 refine zA rfl rfl (zC rfl rfl) ?_
 refine zA rfl rfl (zC rfl rfl) ?_
 refine zH ?_
 refine zE ?_
 refine zB rfl ?_
 refine zA rfl rfl (zF rfl rfl) ?_
 refine zA rfl rfl (yE rfl zr29 pl29 rfl) ?_
 refine qC rfl rfl (kK rfl zr29) ?_
 rintro _ _ ⟨b4, rfl, rfl⟩
 refine yN _ (kI 75 2) ?_
 refine zY rfl rfl (zU rfl sz29 rfl rfl rfl (qI 1 rfl rfl)) ?_
 refine zH ?_
 refine zE ?_
 refine zB rfl ?_
 refine zA rfl rfl (zC rfl rfl) ?_
 refine zA rfl rfl (zC rfl rfl) ?_
 refine zH ?_
 refine zE ?_
 refine qA ?_
 refine qQ ⟨[(9, .c _), (11, .c _), (12, .c _), (2, .c _), (3, .c _), (4, .c _), (6, .c _), (10, .c _)], [_, _, _, _, _]⟩ (Weak.mk [true, true, true, true, true] ⟨VLe.of_eq rfl, VLe.of_eq rfl, VLe.of_eq rfl, VLe.of_eq rfl, VLe.of_eq rfl, VLe.of_eq rfl, VLe.of_eq rfl, VLe.of_eq rfl, trivial⟩ rfl) ?_
 refine qR 3 2 rfl rfl (Nat × Nat × List Tr × Value) (fun ⟨i, n, d, sv⟩ => [(9, vB (okF (decide (r64 (a.K + b.K * c))) (mulT c d))), (11, vI i), (12, vI n)]) (fun ⟨i, n, d, sv⟩ => [E.vec sv 75 2 ((sumW (mulT c d)).map Mono.cells), E.row b4 29 [cI (w64 (a.K + b.K * c)), .lit sv]]) (fun ⟨i, n, d, sv⟩ => i ≤ a.L.length ∧ n ≤ b.L.length ∧ mergeL a.L b.L = d ++ mergeL (a.L.drop i) (b.L.drop n)) (fun ⟨i, n, d, sv⟩ => (a.L.length - i) + (b.L.length - n)) ⟨⟨0, 0, [], .slice none 0 0⟩, ⟨by omega, by omega, rfl⟩, Weak.mk [true, true, true, true, true] ⟨VLe.refl _, VLe.refl _, VLe.refl _, VLe.refl _, VLe.refl _, VLe.refl _, VLe.refl _, VLe.refl _, trivial⟩ rfl⟩ ?_
 rintro ⟨i, n, d, sv⟩ ⟨hia, hnb, hm⟩
 show AWP _ _ _ _ _ ⟨[(9, vB (okF (decide (r64 (a.K + b.K * c))) (mulT c d))), (11, vI i), (12, vI n)] ++ _, [E.vec sv 75 2 ((sumW (mulT c d)).map Mono.cells), E.row b4 29 [cI (w64 (a.K + b.K * c)), .lit sv]] ++ _⟩
 refine zE ?_
 refine zE ?_
 refine zB rfl ?_
 refine zA rfl rfl (zF rfl rfl) ?_
 refine zA rfl rfl (zJ rfl yI rfl) ?_
 refine zA rfl rfl (zK rfl kH rfl (zP 4 rfl) rfl) ?_
 refine zA rfl rfl (qB rfl el27 rfl) ?_
 refine zA rfl rfl (qS rfl rfl rfl) ?_
 refine zA rfl rfl (zF rfl rfl) ?_
 refine zN [] rfl rfl rfl rfl gv1 trivial (fun g4_5 => zF rfl rfl) rfl ?_
 refine zN [] rfl rfl rfl rfl gv1 trivial (fun g4_5 => zJ rfl yI rfl) rfl ?_
 refine zN [(36, _)] rfl rfl rfl rfl gv1 ⟨rfl, rfl, trivial⟩ (fun g4_5 => zK rfl kH rfl (zP 3 rfl) rfl) rfl ?_
 refine zN [(37, _)] rfl rfl rfl rfl gv1 ⟨rfl, rfl, trivial⟩ (fun g4_5 => qB rfl el27 rfl) rfl ?_
 refine zN [(35, _), (38, _)] rfl rfl rfl rfl gv1 ⟨rfl, rfl, rfl, rfl, trivial⟩ (fun g4_5 => qS rfl rfl rfl) rfl ?_
 refine zA rfl rfl (yD rfl rfl rfl rfl (fun h => (lzf h))) ?_
 refine zH ?_
 refine zR rfl (fun c1 => ?_) (fun c1 => ?_)
 ·try simp only [sx, List.length_map] at c1
  refine zT ?_
  refine qA ?_
  refine zE ?_
  refine zB rfl ?_
  refine zA rfl rfl (zC rfl rfl) ?_
  refine zA rfl rfl (zC rfl rfl) ?_
  refine zA rfl rfl (zC rfl rfl) ?_
  refine zH ?_
  refine zE ?_
  refine zE ?_
  refine yG 27 mixed (by kernel_rfl) rfl rfl ?_
  refine zV rfl rfl (zF rfl rfl) ?_
  refine zV rfl rfl (zJ rfl yI rfl) ?_
  refine zV rfl rfl (zK rfl kH rfl (zP 3 rfl) rfl) ?_
  refine zV rfl rfl (qB rfl el27 rfl) ?_
  refine zV rfl rfl (qJ rfl rfl rfl) ?_
  refine zV rfl rfl (zF rfl rfl) ?_
  refine qE [] rfl rfl rfl rfl gv1 trivial (fun g6_5 => zF rfl rfl) rfl ?_
  refine qE [] rfl rfl rfl rfl gv1 trivial (fun g6_5 => zJ rfl yI rfl) rfl ?_
  refine qE [(48, _)] rfl rfl rfl rfl gv1 ⟨rfl, rfl, trivial⟩ (fun g6_5 => zK rfl kH rfl (zP 4 rfl) rfl) rfl ?_
  refine qE [(49, _)] rfl rfl rfl rfl gv1 ⟨rfl, rfl, trivial⟩ (fun g6_5 => qB rfl el27 rfl) rfl ?_
  refine qE [(47, _), (50, _)] rfl rfl rfl rfl gv1 ⟨rfl, rfl, rfl, rfl, trivial⟩ (fun g6_5 => qS rfl rfl rfl) rfl ?_
  refine qE [(51, _)] rfl rfl rfl rfl gv1 ⟨rfl, rfl, trivial⟩ (fun g6_5 => zF rfl rfl) rfl ?_
  refine qE [] rfl rfl rfl rfl gv2 trivial (fun g6_11 => zJ rfl yI rfl) rfl ?_
  refine qE [(53, _)] rfl rfl rfl rfl gv2 ⟨rfl, rfl, trivial⟩ (fun g6_11 => zK rfl kH rfl (zP 4 rfl) rfl) rfl ?_
  refine qE [] rfl rfl rfl rfl gv2 trivial (fun g6_11 => zF rfl rfl) rfl ?_
  refine qE [(54, _), (55, _)] rfl rfl rfl rfl gv2 ⟨rfl, rfl, rfl, rfl, trivial⟩ (fun g6_11 => zX rfl el27 rfl rfl (by simp only [Lz, cond_true, cond_false, Bool.and_eq_true, Bool.or_eq_true, Bool.not_eq_true', Bool.not_eq_false', Bool.or_eq_false_iff, Bool.and_eq_false_iff, decide_eq_true_eq, decide_eq_false_iff_not, Bool.not_eq_true, Bool.not_eq_false] at g6_11; omega) (getm (at_get (by simp only [Lz, cond_true, cond_false, Bool.and_eq_true, Bool.or_eq_true, Bool.not_eq_true', Bool.not_eq_false', Bool.or_eq_false_iff, Bool.and_eq_false_iff, decide_eq_true_eq, decide_eq_false_iff_not, Bool.not_eq_true, Bool.not_eq_false] at g6_11; omega)))) rfl ?_
  refine qE [(56, _)] rfl rfl rfl rfl gv2 ⟨rfl, rfl, trivial⟩ (fun g6_11 => qG rfl fd75_0 rfl) rfl ?_
  refine qE [(57, _)] rfl rfl rfl rfl gv2 ⟨rfl, rfl, trivial⟩ (fun g6_11 => zK rfl one9 rfl qK rfl) rfl ?_
  refine qE [] rfl rfl rfl rfl gv2 trivial (fun g6_11 => zJ rfl yI rfl) rfl ?_
  refine qE [(59, _)] rfl rfl rfl rfl gv2 ⟨rfl, rfl, trivial⟩ (fun g6_11 => zK rfl kH rfl (zP 3 rfl) rfl) rfl ?_
  refine qE [] rfl rfl rfl rfl gv2 trivial (fun g6_11 => zF rfl rfl) rfl ?_
  refine qE [(60, _), (61, _)] rfl rfl rfl rfl gv2 ⟨rfl, rfl, rfl, rfl, trivial⟩ (fun g6_11 => zX rfl el27 rfl rfl (by simp only [Lz, cond_true, cond_false, Bool.and_eq_true, Bool.or_eq_true, Bool.not_eq_true', Bool.not_eq_false', Bool.or_eq_false_iff, Bool.and_eq_false_iff, decide_eq_true_eq, decide_eq_false_iff_not, Bool.not_eq_true, Bool.not_eq_false] at g6_11; omega) (getm (at_get (by simp only [Lz, cond_true, cond_false, Bool.and_eq_true, Bool.or_eq_true, Bool.not_eq_true', Bool.not_eq_false', Bool.or_eq_false_iff, Bool.and_eq_false_iff, decide_eq_true_eq, decide_eq_false_iff_not, Bool.not_eq_true, Bool.not_eq_false] at g6_11; omega)))) rfl ?_
  refine qE [(62, _)] rfl rfl rfl rfl gv2 ⟨rfl, rfl, trivial⟩ (fun g6_11 => qG rfl fd75_0 rfl) rfl ?_
  refine qE [(63, _)] rfl rfl rfl rfl gv2 ⟨rfl, rfl, trivial⟩ (fun g6_11 => zK rfl one9 rfl qK rfl) rfl ?_
  refine qE [(58, _), (64, _)] rfl rfl rfl rfl gv2 ⟨rfl, rfl, rfl, rfl, trivial⟩ (fun g6_11 => det_sleq rfl rfl rfl) rfl ?_
  refine qE [(52, _)] rfl rfl rfl rfl gv1 ⟨rfl, rfl, trivial⟩ (fun g6_5 => qM rfl rfl rfl (fun h => yQ (by assumption) h) rfl) rfl ?_
  refine zV rfl rfl (yD rfl rfl rfl rfl (fun h => (lzf h))) ?_
  refine kB ?_
  refine zH ?_
  refine zR rfl (fun c2 => ?_) (fun c2 => ?_)
  ·have hi := sum_t (a := a.L) (b := b.L) (i := i) (n := n) (by omega) hnb c2
   refine zE ?_
   refine zB rfl ?_
   refine zA rfl rfl (zJ rfl yI rfl) ?_
   refine zA rfl rfl (zK rfl kH rfl (zP 4 rfl) rfl) ?_
   refine zA rfl rfl (zF rfl rfl) ?_
   refine zA rfl rfl (zX rfl el27 rfl rfl (by omega) (getm (at_get (by omega)))) ?_
   refine zA rfl rfl (qG rfl fd75_0 rfl) ?_
   refine zA rfl rfl (zK rfl one9 rfl qK rfl) ?_
   refine zA rfl rfl (zC rfl rfl) ?_
   refine zH ?_
   refine zB rfl ?_
   refine zA rfl rfl (zJ rfl yI rfl) ?_
   refine zA rfl rfl (zK rfl kH rfl (zP 4 rfl) rfl) ?_
   refine zA rfl rfl (zF rfl rfl) ?_
   refine zA rfl rfl (zX rfl el27 rfl rfl (by omega) (getm (at_get (by omega)))) ?_
   refine zA rfl rfl (qG rfl fd75_1 rfl) ?_
   refine zA rfl rfl (zK rfl one2 rfl qK rfl) ?_
   refine zA rfl rfl (zC rfl rfl) ?_
   refine zH ?_
   refine zE ?_
   refine zE ?_
   refine zB rfl ?_
   refine zA rfl rfl (zF rfl rfl) ?_
   refine zA rfl rfl (zJ rfl yI rfl) ?_
   refine zA rfl rfl (zK rfl kH rfl (zP 3 rfl) rfl) ?_
   refine zA rfl rfl (qB rfl el27 rfl) ?_
   refine zA rfl rfl (qS rfl rfl rfl) ?_
   refine zA rfl rfl (zF rfl rfl) ?_
   refine zN [] rfl rfl rfl rfl gv1 trivial (fun g10_5 => zJ rfl yI rfl) rfl ?_
   refine zN [(92, _)] rfl rfl rfl rfl gv1 ⟨rfl, rfl, trivial⟩ (fun g10_5 => zK rfl kH rfl (zP 3 rfl) rfl) rfl ?_
   refine zN [] rfl rfl rfl rfl gv1 trivial (fun g10_5 => zF rfl rfl) rfl ?_
   refine zN [(93, _), (94, _)] rfl rfl rfl rfl gv1 ⟨rfl, rfl, rfl, rfl, trivial⟩ (fun g10_5 => zX rfl el27 rfl rfl (by simp only [Lz, cond_true, cond_false, Bool.and_eq_true, Bool.or_eq_true, Bool.not_eq_true', Bool.not_eq_false', Bool.or_eq_false_iff, Bool.and_eq_false_iff, decide_eq_true_eq, decide_eq_false_iff_not, Bool.not_eq_true, Bool.not_eq_false] at g10_5; omega) (getm (at_get (by simp only [Lz, cond_true, cond_false, Bool.and_eq_true, Bool.or_eq_true, Bool.not_eq_true', Bool.not_eq_false', Bool.or_eq_false_iff, Bool.and_eq_false_iff, decide_eq_true_eq, decide_eq_false_iff_not, Bool.not_eq_true, Bool.not_eq_false] at g10_5; omega)))) rfl ?_
   refine zN [(95, _)] rfl rfl rfl rfl gv1 ⟨rfl, rfl, trivial⟩ (fun g10_5 => qG rfl fd75_0 rfl) rfl ?_
   refine zN [(96, _)] rfl rfl rfl rfl gv1 ⟨rfl, rfl, trivial⟩ (fun g10_5 => zK rfl one9 rfl qK rfl) rfl ?_
   refine zN [] rfl rfl rfl rfl gv1 trivial (fun g10_5 => zF rfl rfl) rfl ?_
   refine zN [(97, _), (98, _)] rfl rfl rfl rfl gv1 ⟨rfl, rfl, rfl, rfl, trivial⟩ (fun g10_5 => yJ rfl rfl rfl) rfl ?_
   refine zA rfl rfl (qM rfl rfl rfl (fun h => h) rfl) ?_
   refine zH ?_
   refine zR rfl (fun c3 => ?_) (fun c3 => ?_)
   ·obtain ⟨hn1, hL⟩ := sum_tt (a := a.L) (b := b.L) (i := i) (n := n) hi c3
    have hm1 : mergeL a.L b.L = (d ++ [((atM a.L i).Name, (atM a.L i).By, (atM b.L n).By)]) ++ mergeL (a.L.drop (i + 1)) (b.L.drop (n + 1)) := by rw [hm, hL]; simp
    refine zE ?_
    refine zB rfl ?_
    refine zA rfl rfl (zJ rfl yI rfl) ?_
    refine zA rfl rfl (zK rfl kH rfl (zP 3 rfl) rfl) ?_
    refine zA rfl rfl (zF rfl rfl) ?_
    refine zA rfl rfl (zX rfl el27 rfl rfl (by omega) (getm (at_get (by omega)))) ?_
    refine zA rfl rfl (qG rfl fd75_1 rfl) ?_
    refine zA rfl rfl (zK rfl one2 rfl qK rfl) ?_
    refine zA rfl rfl (zC rfl rfl) ?_
    refine zH ?_
    refine zB rfl ?_
    refine zA rfl rfl (zF rfl rfl) ?_
    refine zA rfl rfl (qL rfl rfl rfl ⟨by omega, by omega⟩) ?_
    refine zA rfl rfl (zC rfl rfl) ?_
    refine zH ?_
    refine zE ?_
    refine zE ?_
    refine zB rfl ?_
    refine zA rfl rfl (zF rfl rfl) ?_
    refine zA rfl rfl (qV rfl rfl rfl) ?_
    refine zH ?_
    refine zR rfl (fun c4 => ?_) (fun c4 => ?_)
    ·try simp only [sx, List.length_map] at c4
     refine zB rfl ?_
     refine zA rfl rfl (zF rfl rfl) ?_
     refine zA rfl rfl (qL rfl rfl rfl ⟨by omega, by omega⟩) ?_
     refine zA rfl rfl (zC rfl rfl) ?_
     refine zH ?_
     refine zE ?_
     refine zB rfl ?_
     refine zA rfl rfl (zF rfl rfl) ?_
     refine zA rfl rfl (zF rfl rfl) ?_
     refine zA rfl rfl (zF rfl rfl) ?_
     refine zA rfl rfl (zW rfl ok208 (ref14_both _ _ c (by first | exact z0 | exact hra.2 _ (at_mem hi)) (by first | exact z0 | exact hrb.2 _ (at_mem hn1)) hc) ⟨VLe.refl _, rfl, VLe.refl _, rfl, VLe.refl _, rfl, trivial⟩) ?_
     refine zA rfl rfl (qT rfl rfl) ?_
     refine zA rfl rfl (qX rfl rfl rfl) ?_
     refine zA rfl rfl (qX rfl rfl rfl) ?_
     refine zA rfl rfl (zC rfl rfl) ?_
     refine zA rfl rfl (zC rfl rfl) ?_
     refine zH ?_
     refine zE ?_
     refine zB rfl ?_
     refine zA rfl rfl (zF rfl rfl) ?_
     refine zA rfl rfl (zF rfl rfl) ?_
     refine zN [] rfl rfl rfl rfl gv1 trivial (fun g16_1 => zF rfl rfl) rfl ?_
     refine zA rfl rfl (qM rfl rfl rfl (fun h => h) rfl) ?_
     refine zA rfl rfl (zC rfl rfl) ?_
     refine zH ?_
     refine zE ?_
     refine zB rfl ?_
     refine zA rfl rfl (zF rfl rfl) ?_
     refine zA rfl rfl (qV rfl rfl rfl) ?_
     refine zH ?_
     refine zR rfl (fun c5 => ?_) (fun c5 => ?_)
     ·try simp only [sx, List.length_map] at c5
      refine zB rfl ?_
      refine zA rfl rfl (zJ rfl yI rfl) ?_
      refine zA rfl rfl (zK rfl kH rfl (zP 1 rfl) rfl) ?_
      refine zA rfl rfl (zF rfl rfl) ?_
      refine zA rfl rfl (zF rfl rfl) ?_
      refine zA rfl rfl (yE rfl zr75 pl75 rfl) ?_
      refine zA rfl rfl (yF rfl el27 zr75 rfl rfl rfl rfl) ?_
      refine qC rfl rfl (yO 0 rfl el27 rfl rfl rfl (by have := sumM_len c d; have := congrArg List.length hm1; have := mergeL_len a.L b.L; simp only [List.length_map, List.length_append, List.length_cons, List.length_nil] at *; omega) (by have := sumM_len c d; have := congrArg List.length hm1; have := mergeL_len a.L b.L; simp only [List.length_map, List.length_append, List.length_cons, List.length_nil] at *; omega)) ?_
      rintro _ _ ⟨sv6, rfl, rfl⟩
      refine zA rfl rfl (zJ rfl yI rfl) ?_
      refine zY rfl rfl (zU rfl sz27 rfl rfl rfl (qI 1 rfl rfl)) ?_
      refine zH ?_
      refine ⟨⟨i + 1, n + 1, d ++ [((atM a.L i).Name, (atM a.L i).By, (atM b.L n).By)], sv6⟩, ⟨by omega, by omega, hm1⟩, (by dsimp only; omega), Weak.mk [true, true, true, true, true] ⟨VLe.of_eq (by rw [mul_next, okF_next]; rfl), VLe.refl _, VLe.refl _, VLe.refl _, VLe.refl _, VLe.refl _, VLe.refl _, VLe.refl _, trivial⟩ (by exact mem2c_eq (by rw [mul_next, sumW_next]; rw [if_neg (show ¬ w64 (trV ((atM a.L i).Name, (atM a.L i).By, (atM b.L n).By * c)) = 0 from c5), List.map_append]; rfl))⟩
     ·try simp only [sx, List.length_map] at c5
      refine zT ?_
      refine ⟨⟨i + 1, n + 1, d ++ [((atM a.L i).Name, (atM a.L i).By, (atM b.L n).By)], sv⟩, ⟨by omega, by omega, hm1⟩, (by dsimp only; omega), Weak.mk [true, true, true, true, true] ⟨VLe.of_eq (by rw [mul_next, okF_next]; rfl), VLe.refl _, VLe.refl _, VLe.refl _, VLe.refl _, VLe.refl _, VLe.refl _, VLe.refl _, trivial⟩ (by exact mem2c_eq (by rw [mul_next, sumW_next]; rw [if_pos (show w64 (trV ((atM a.L i).Name, (atM a.L i).By, (atM b.L n).By * c)) = 0 from c5), List.append_nil]))⟩
    ·try simp only [sx, List.length_map] at c4
     exact absurd c4 (hne _ (at_mem hi))
   ·have hL := sum_tf (a := a.L) (b := b.L) (i := i) (n := n) hi hnb c2 c3
    have hm1 : mergeL a.L b.L = (d ++ [((atM a.L i).Name, (atM a.L i).By, 0)]) ++ mergeL (a.L.drop (i + 1)) (b.L.drop n) := by rw [hm, hL]; simp
    refine zT ?_
    refine zE ?_
    refine zE ?_
    refine zB rfl ?_
    refine zA rfl rfl (zF rfl rfl) ?_
    refine zA rfl rfl (qV rfl rfl rfl) ?_
    refine zH ?_
    refine zR rfl (fun c4 => ?_) (fun c4 => ?_)
    ·try simp only [sx, List.length_map] at c4
     refine zB rfl ?_
     refine zA rfl rfl (zF rfl rfl) ?_
     refine zA rfl rfl (qL rfl rfl rfl ⟨by omega, by omega⟩) ?_
     refine zA rfl rfl (zC rfl rfl) ?_
     refine zH ?_
     refine zE ?_
     refine zB rfl ?_
     refine zA rfl rfl (zF rfl rfl) ?_
     refine zA rfl rfl (zF rfl rfl) ?_
     refine zA rfl rfl (zF rfl rfl) ?_
     refine zA rfl rfl (zW rfl ok208 (ref14_both _ _ c (by first | exact z0 | exact hra.2 _ (at_mem hi)) (by first | exact z0 | exact hrb.2 _ (at_mem hn1)) hc) ⟨VLe.refl _, rfl, VLe.refl _, rfl, VLe.refl _, rfl, trivial⟩) ?_
     refine zA rfl rfl (qT rfl rfl) ?_
     refine zA rfl rfl (qX rfl rfl rfl) ?_
     refine zA rfl rfl (qX rfl rfl rfl) ?_
     refine zA rfl rfl (zC rfl rfl) ?_
     refine zA rfl rfl (zC rfl rfl) ?_
     refine zH ?_
     refine zE ?_
     refine zB rfl ?_
     refine zA rfl rfl (zF rfl rfl) ?_
     refine zA rfl rfl (zF rfl rfl) ?_
     refine zN [] rfl rfl rfl rfl gv1 trivial (fun g16_1 => zF rfl rfl) rfl ?_
     refine zA rfl rfl (qM rfl rfl rfl (fun h => h) rfl) ?_
     refine zA rfl rfl (zC rfl rfl) ?_
     refine zH ?_
     refine zE ?_
     refine zB rfl ?_
     refine zA rfl rfl (zF rfl rfl) ?_
     refine zA rfl rfl (qV rfl rfl rfl) ?_
     refine zH ?_
     refine zR rfl (fun c5 => ?_) (fun c5 => ?_)
     ·try simp only [sx, List.length_map] at c5
      refine zB rfl ?_
      refine zA rfl rfl (zJ rfl yI rfl) ?_
      refine zA rfl rfl (zK rfl kH rfl (zP 1 rfl) rfl) ?_
      refine zA rfl rfl (zF rfl rfl) ?_
      refine zA rfl rfl (zF rfl rfl) ?_
      refine zA rfl rfl (yE rfl zr75 pl75 rfl) ?_
      refine zA rfl rfl (yF rfl el27 zr75 rfl rfl rfl rfl) ?_
      refine qC rfl rfl (yO 0 rfl el27 rfl rfl rfl (by have := sumM_len c d; have := congrArg List.length hm1; have := mergeL_len a.L b.L; simp only [List.length_map, List.length_append, List.length_cons, List.length_nil] at *; omega) (by have := sumM_len c d; have := congrArg List.length hm1; have := mergeL_len a.L b.L; simp only [List.length_map, List.length_append, List.length_cons, List.length_nil] at *; omega)) ?_
      rintro _ _ ⟨sv7, rfl, rfl⟩
      refine zA rfl rfl (zJ rfl yI rfl) ?_
      refine zY rfl rfl (zU rfl sz27 rfl rfl rfl (qI 1 rfl rfl)) ?_
      refine zH ?_
      refine ⟨⟨i + 1, n, d ++ [((atM a.L i).Name, (atM a.L i).By, 0)], sv7⟩, ⟨by omega, by omega, hm1⟩, (by dsimp only; omega), Weak.mk [true, true, true, true, true] ⟨VLe.of_eq (by rw [mul_next, okF_next]; rfl), VLe.refl _, VLe.refl _, VLe.refl _, VLe.refl _, VLe.refl _, VLe.refl _, VLe.refl _, trivial⟩ (by exact mem2c_eq (by rw [mul_next, sumW_next]; rw [if_neg (show ¬ w64 (trV ((atM a.L i).Name, (atM a.L i).By, 0 * c)) = 0 from c5), List.map_append]; rfl))⟩
     ·try simp only [sx, List.length_map] at c5
      refine zT ?_
      refine ⟨⟨i + 1, n, d ++ [((atM a.L i).Name, (atM a.L i).By, 0)], sv⟩, ⟨by omega, by omega, hm1⟩, (by dsimp only; omega), Weak.mk [true, true, true, true, true] ⟨VLe.of_eq (by rw [mul_next, okF_next]; rfl), VLe.refl _, VLe.refl _, VLe.refl _, VLe.refl _, VLe.refl _, VLe.refl _, VLe.refl _, trivial⟩ (by exact mem2c_eq (by rw [mul_next, sumW_next]; rw [if_pos (show w64 (trV ((atM a.L i).Name, (atM a.L i).By, 0 * c)) = 0 from c5), List.append_nil]))⟩
    ·try simp only [sx, List.length_map] at c4
     exact absurd c4 (hne _ (at_mem hi))
  ·have hn1 := sum_f (a := a.L) (b := b.L) (i := i) (n := n) hnb c2
   obtain ⟨hL, hs3⟩ := sum_fx (a := a.L) (b := b.L) (i := i) (n := n) hn1 c2
   refine zB rfl ?_
   refine zA rfl rfl (zJ rfl yI rfl) ?_
   refine zA rfl rfl (zK rfl kH rfl (zP 3 rfl) rfl) ?_
   refine zA rfl rfl (zF rfl rfl) ?_
   refine zA rfl rfl (zX rfl el27 rfl rfl (by omega) (getm (at_get (by omega)))) ?_
   refine zA rfl rfl (qG rfl fd75_0 rfl) ?_
   refine zA rfl rfl (zK rfl one9 rfl qK rfl) ?_
   refine zA rfl rfl (zC rfl rfl) ?_
   refine zH ?_
   refine zE ?_
   refine zE ?_
   refine zB rfl ?_
   refine zA rfl rfl (zF rfl rfl) ?_
   refine zA rfl rfl (zJ rfl yI rfl) ?_
   refine zA rfl rfl (zK rfl kH rfl (zP 3 rfl) rfl) ?_
   refine zA rfl rfl (qB rfl el27 rfl) ?_
   refine zA rfl rfl (qS rfl rfl rfl) ?_
   refine zA rfl rfl (zF rfl rfl) ?_
   refine zN [] rfl rfl rfl rfl gv1 trivial (fun g10_5 => zJ rfl yI rfl) rfl ?_
   refine zN [(92, _)] rfl rfl rfl rfl gv1 ⟨rfl, rfl, trivial⟩ (fun g10_5 => zK rfl kH rfl (zP 3 rfl) rfl) rfl ?_
   refine zN [] rfl rfl rfl rfl gv1 trivial (fun g10_5 => zF rfl rfl) rfl ?_
   refine zN [(93, _), (94, _)] rfl rfl rfl rfl gv1 ⟨rfl, rfl, rfl, rfl, trivial⟩ (fun g10_5 => zX rfl el27 rfl rfl (by simp only [Lz, cond_true, cond_false, Bool.and_eq_true, Bool.or_eq_true, Bool.not_eq_true', Bool.not_eq_false', Bool.or_eq_false_iff, Bool.and_eq_false_iff, decide_eq_true_eq, decide_eq_false_iff_not, Bool.not_eq_true, Bool.not_eq_false] at g10_5; omega) (getm (at_get (by simp only [Lz, cond_true, cond_false, Bool.and_eq_true, Bool.or_eq_true, Bool.not_eq_true', Bool.not_eq_false', Bool.or_eq_false_iff, Bool.and_eq_false_iff, decide_eq_true_eq, decide_eq_false_iff_not, Bool.not_eq_true, Bool.not_eq_false] at g10_5; omega)))) rfl ?_
   refine zN [(95, _)] rfl rfl rfl rfl gv1 ⟨rfl, rfl, trivial⟩ (fun g10_5 => qG rfl fd75_0 rfl) rfl ?_
   refine zN [(96, _)] rfl rfl rfl rfl gv1 ⟨rfl, rfl, trivial⟩ (fun g10_5 => zK rfl one9 rfl qK rfl) rfl ?_
   refine zN [] rfl rfl rfl rfl gv1 trivial (fun g10_5 => zF rfl rfl) rfl ?_
   refine zN [(97, _), (98, _)] rfl rfl rfl rfl gv1 ⟨rfl, rfl, rfl, rfl, trivial⟩ (fun g10_5 => yJ rfl rfl rfl) rfl ?_
   refine zA rfl rfl (qM rfl rfl rfl (fun h => h) rfl) ?_
   refine zH ?_
   refine zR rfl (fun c3 => ?_) (fun c3 => ?_)
   ·have hm1 : mergeL a.L b.L = (d ++ [((atM b.L n).Name, 0, (atM b.L n).By)]) ++ mergeL (a.L.drop i) (b.L.drop (n + 1)) := by rw [hm, hL]; simp
    refine zE ?_
    refine zB rfl ?_
    refine zA rfl rfl (zJ rfl yI rfl) ?_
    refine zA rfl rfl (zK rfl kH rfl (zP 3 rfl) rfl) ?_
    refine zA rfl rfl (zF rfl rfl) ?_
    refine zA rfl rfl (zX rfl el27 rfl rfl (by omega) (getm (at_get (by omega)))) ?_
    refine zA rfl rfl (qG rfl fd75_1 rfl) ?_
    refine zA rfl rfl (zK rfl one2 rfl qK rfl) ?_
    refine zA rfl rfl (zC rfl rfl) ?_
    refine zH ?_
    refine zB rfl ?_
    refine zA rfl rfl (zF rfl rfl) ?_
    refine zA rfl rfl (qL rfl rfl rfl ⟨by omega, by omega⟩) ?_
    refine zA rfl rfl (zC rfl rfl) ?_
    refine zH ?_
    refine zE ?_
    refine zE ?_
    refine zB rfl ?_
    refine zA rfl rfl (zF rfl rfl) ?_
    refine zA rfl rfl (qV rfl rfl rfl) ?_
    refine zH ?_
    refine zR rfl (fun c4 => ?_) (fun c4 => ?_)
    ·try simp only [sx, List.length_map] at c4
     exact absurd trivial c4
    ·try simp only [sx, List.length_map] at c4
     refine zT ?_
     refine zE ?_
     refine zB rfl ?_
     refine zA rfl rfl (zF rfl rfl) ?_
     refine zA rfl rfl (zF rfl rfl) ?_
     refine zA rfl rfl (zF rfl rfl) ?_
     refine zA rfl rfl (zW rfl ok208 (ref14_both _ _ c (by first | exact z0 | exact hra.2 _ (at_mem hi)) (by first | exact z0 | exact hrb.2 _ (at_mem hn1)) hc) ⟨VLe.refl _, rfl, VLe.refl _, rfl, VLe.refl _, rfl, trivial⟩) ?_
     refine zA rfl rfl (qT rfl rfl) ?_
     refine zA rfl rfl (qX rfl rfl rfl) ?_
     refine zA rfl rfl (qX rfl rfl rfl) ?_
     refine zA rfl rfl (zC rfl rfl) ?_
     refine zA rfl rfl (zC rfl rfl) ?_
     refine zH ?_
     refine zE ?_
     refine zB rfl ?_
     refine zA rfl rfl (zF rfl rfl) ?_
     refine zA rfl rfl (zF rfl rfl) ?_
     refine zN [] rfl rfl rfl rfl gv1 trivial (fun g16_1 => zF rfl rfl) rfl ?_
     refine zA rfl rfl (qM rfl rfl rfl (fun h => h) rfl) ?_
     refine zA rfl rfl (zC rfl rfl) ?_
     refine zH ?_
     refine zE ?_
     refine zB rfl ?_
     refine zA rfl rfl (zF rfl rfl) ?_
     refine zA rfl rfl (qV rfl rfl rfl) ?_
     refine zH ?_
     refine zR rfl (fun c5 => ?_) (fun c5 => ?_)
     ·try simp only [sx, List.length_map] at c5
      refine zB rfl ?_
      refine zA rfl rfl (zJ rfl yI rfl) ?_
      refine zA rfl rfl (zK rfl kH rfl (zP 1 rfl) rfl) ?_
      refine zA rfl rfl (zF rfl rfl) ?_
      refine zA rfl rfl (zF rfl rfl) ?_
      refine zA rfl rfl (yE rfl zr75 pl75 rfl) ?_
      refine zA rfl rfl (yF rfl el27 zr75 rfl rfl rfl rfl) ?_
      refine qC rfl rfl (yO 0 rfl el27 rfl rfl rfl (by have := sumM_len c d; have := congrArg List.length hm1; have := mergeL_len a.L b.L; simp only [List.length_map, List.length_append, List.length_cons, List.length_nil] at *; omega) (by have := sumM_len c d; have := congrArg List.length hm1; have := mergeL_len a.L b.L; simp only [List.length_map, List.length_append, List.length_cons, List.length_nil] at *; omega)) ?_
      rintro _ _ ⟨sv8, rfl, rfl⟩
      refine zA rfl rfl (zJ rfl yI rfl) ?_
      refine zY rfl rfl (zU rfl sz27 rfl rfl rfl (qI 1 rfl rfl)) ?_
      refine zH ?_
      refine ⟨⟨i, n + 1, d ++ [((atM b.L n).Name, 0, (atM b.L n).By)], sv8⟩, ⟨by omega, by omega, hm1⟩, (by dsimp only; omega), Weak.mk [true, true, true, true, true] ⟨VLe.of_eq (by rw [mul_next, okF_next]; rfl), VLe.refl _, VLe.refl _, VLe.refl _, VLe.refl _, VLe.refl _, VLe.refl _, VLe.refl _, trivial⟩ (by exact mem2c_eq (by rw [mul_next, sumW_next]; rw [if_neg (show ¬ w64 (trV ((atM b.L n).Name, 0, (atM b.L n).By * c)) = 0 from c5), List.map_append]; rfl))⟩
     ·try simp only [sx, List.length_map] at c5
      refine zT ?_
      refine ⟨⟨i, n + 1, d ++ [((atM b.L n).Name, 0, (atM b.L n).By)], sv⟩, ⟨by omega, by omega, hm1⟩, (by dsimp only; omega), Weak.mk [true, true, true, true, true] ⟨VLe.of_eq (by rw [mul_next, okF_next]; rfl), VLe.refl _, VLe.refl _, VLe.refl _, VLe.refl _, VLe.refl _, VLe.refl _, VLe.refl _, trivial⟩ (by exact mem2c_eq (by rw [mul_next, sumW_next]; rw [if_pos (show w64 (trV ((atM b.L n).Name, 0, (atM b.L n).By * c)) = 0 from c5), List.append_nil]))⟩
   ·exact absurd (hs3.symm.trans c3) (by decide)
 ·try simp only [sx, List.length_map] at c1
  refine qU ?_
  refine zE ?_
  refine zE ?_
  refine zB rfl ?_
  refine zA rfl rfl (zF rfl rfl) ?_
  refine zA rfl rfl (qY rfl rfl) ?_
  refine zH ?_
  refine zR rfl (fun c6 => ?_) (fun c6 => ?_)
  ·try simp only [sx, List.length_map] at c6
   refine zE ?_
   refine zB rfl ?_
   refine zA rfl rfl (qO [none, some 2] rfl zr29 pl29 rfl rfl) ?_
   refine zY rfl rfl (zU rfl sz29 rfl rfl rfl (qI 2 rfl rfl)) ?_
   refine zA rfl rfl (zC rfl rfl) ?_
   refine zH ?_
   refine zS ?_
   repeat (first | refine zO ?_ | refine zM ?_)
   refine fin2 (qD yB rfl (zP 2 rfl) rfl) (rs_c rfl) ?_
   rw [hm, sum_end (by omega) (by omega), List.append_nil, add_no' c6]; rfl
  ·try simp only [sx, List.length_map] at c6
   refine zT ?_
   refine zE ?_
   refine zB rfl ?_
   refine zA rfl rfl (zQ rfl yB rfl (zP 1 rfl) rfl) ?_
   refine zY rfl rfl (zU rfl sz29 rfl rfl rfl (qI 2 rfl rfl)) ?_
   refine zA rfl rfl (zC rfl rfl) ?_
   refine zH ?_
   refine qQ _ (yV 0 rfl (regs' := [(137, .agg [_, _])]) (μ' := [_, _, _, _]) ⟨FLe.agg ⟨.inl rfl, .inr ⟨rfl, rfl⟩, trivial⟩, trivial⟩ ⟨EFle.row (ds := [_, _]) ⟨.inl rfl, .inr ⟨rfl, rfl⟩, trivial⟩, EFle.row (ds := [_, _]) ⟨.inl rfl, .inr ⟨rfl, rfl⟩, trivial⟩, EFle.refl _, EFle.refl _, trivial⟩) ?_
   refine zS ?_
   repeat (first | refine zO ?_ | refine zM ?_)
   refine fin2 (qD yB rfl (zP 1 rfl) rfl) (rs_c rfl) ?_
   rw [hm, sum_end (by omega) (by omega), List.append_nil, add_ok' c6]; rfl

theorem ref14_LinSubstitute (l : Lf) (s : ByteArray) (u : Lf) (hl : l.L.length ≤ 4294967296) (ht : u.L.length ≤ 4294967296) (hrl : l.rng) (hrt : u.rng) :
    Pur cfg 84 [vLin l, vS s, vLin u] (.tup [vLin (substR l s u).1, vI (substR l s u).2]) := by
 refine zZ Tryz.func84 rfl Tryz.ntmps84 Tryz.results84 rfl ?_
 intro z hz
 obtain ⟨hr1, hr2⟩ := rest_rng hrl s
 refine zE ?_
 refine zB rfl ?_
 refine qC rfl rfl (qN rfl rfl) ?_
 rintro _ _ ⟨b1, rfl, rfl⟩
 refine qC rfl rfl (qN rfl rfl) ?_
 rintro _ _ ⟨b2, rfl, rfl⟩
 refine qC rfl rfl (qH [none, some 2] rfl zr29 rfl) ?_
 rintro _ _ ⟨b3, rfl, rfl⟩
 refine zA rfl rfl (zC rfl rfl) ?_
 refine zH ?_
 refine zE ?_
 refine zE ?_
 refine zB rfl ?_
 refine zA rfl rfl (zQ rfl yB rfl (zP 2 rfl) rfl) ?_
 refine zA rfl rfl (zW rfl ok35 (base_LinRight l (by omega)) ⟨VLe.refl _, rfl, trivial⟩) ?_
 refine zA rfl rfl (qY rfl rfl) ?_
 refine zA rfl rfl (zF rfl rfl) ?_
 refine zN [] rfl rfl rfl rfl gv1 trivial (fun g1_3 => zQ rfl yB rfl (zP 1 rfl) rfl) rfl ?_
 refine zN [(15, _)] rfl rfl rfl rfl gv1 ⟨rfl, rfl, trivial⟩ (fun g1_3 => zW rfl ok35 (base_LinRight u (by omega)) ⟨VLe.refl _, rfl, trivial⟩) rfl ?_
 refine zN [(16, _)] rfl rfl rfl rfl gv1 ⟨rfl, rfl, trivial⟩ (fun g1_3 => qY rfl rfl) rfl ?_
 refine zA rfl rfl (yD rfl rfl rfl rfl (fun h => (lzf h))) ?_
 refine zA rfl rfl (zF rfl rfl) ?_
 refine zN [] rfl rfl rfl rfl gv1 trivial (fun g1_8 => zF rfl rfl) rfl ?_
 refine zN [(20, _)] rfl rfl rfl rfl gv1 ⟨rfl, rfl, trivial⟩ (fun g1_8 => zW rfl ok36 (base_Name s) ⟨VLe.refl _, rfl, trivial⟩) rfl ?_
 refine zN [(21, _)] rfl rfl rfl rfl gv1 ⟨rfl, rfl, trivial⟩ (fun g1_8 => qY rfl rfl) rfl ?_
 refine zA rfl rfl (yD rfl rfl rfl rfl (fun h => (lzf h))) ?_
 refine zH ?_
 refine zR rfl (fun c1 => ?_) (fun c1 => ?_)
 ·try simp only [sx, List.length_map] at c1
  have hS : substR l s u = (zL, 1) := substR_bad c1
  refine zE ?_
  refine zB rfl ?_
  refine zA rfl rfl (qO [none, some 2] rfl zr29 pl29 rfl rfl) ?_
  refine zY rfl rfl (zU rfl sz29 rfl rfl rfl (qI 0 rfl rfl)) ?_
  refine zA rfl rfl (zC rfl rfl) ?_
  refine zH ?_
  refine zS ?_
  repeat (first | refine zO ?_ | refine zM ?_)
  refine fin2 (qD yB rfl (zP 0 rfl) rfl) (rs_c rfl) ?_
  rw [hS]; rfl
 ·try simp only [sx, List.length_map] at c1
  obtain ⟨hl1, hl2, hl3⟩ := substR_c1 c1
  refine zT ?_
  refine zE ?_
  refine zB rfl ?_
  refine zA rfl rfl (zC rfl rfl) ?_
  refine zH ?_
  refine zE ?_
  refine zB rfl ?_
  refine zA rfl rfl (zJ rfl fd29_0 rfl) ?_
  refine zA rfl rfl (zK rfl one2 rfl (zP 2 rfl) rfl) ?_
  refine zA rfl rfl (yE rfl zr29 pl29 rfl) ?_
  refine qC rfl rfl (kK rfl zr29) ?_
  rintro _ _ ⟨b4, rfl, rfl⟩
  refine yN _ (kI 75 2) ?_
  refine zY rfl rfl (zU rfl sz29 rfl rfl rfl (qI 1 rfl rfl)) ?_
  refine zH ?_
  refine zE ?_
  refine zE ?_
  refine zB rfl ?_
  refine zA rfl rfl (zC rfl rfl) ?_
  refine zH ?_
  refine qA ?_
  refine qQ ⟨[(10, .c _), (8, .c _), (1, .c _), (3, .c _), (5, .c _), (6, .c _), (9, .c _)], [_, _, _, _, _]⟩ (Weak.mk [true, true, true, true, true] ⟨VLe.of_eq rfl, VLe.of_eq rfl, VLe.of_eq rfl, VLe.of_eq rfl, VLe.of_eq rfl, VLe.of_eq rfl, VLe.of_eq rfl, trivial⟩ rfl) ?_
  refine qR 2 2 rfl rfl (Nat × Value) (fun ⟨k, sv⟩ => [(10, vI k), (8, vI (lastBy (l.L.take k) s))]) (fun ⟨k, sv⟩ => [E.vec sv 75 2 (((l.L.take k).filter (fun m => !decide (m.Name = s))).map Mono.cells), E.row b4 29 [cI l.K, .lit sv]]) (fun ⟨k, sv⟩ => k ≤ l.L.length) (fun ⟨k, sv⟩ => l.L.length - k) ⟨⟨0, _⟩, (by omega), Weak.mk [true, true, true, true, true] ⟨VLe.refl _, VLe.of_eq (rfl), VLe.refl _, VLe.refl _, VLe.refl _, VLe.refl _, VLe.refl _, trivial⟩ rfl⟩ ?_
  rintro ⟨k, sv⟩ hk
  show AWP _ _ _ _ _ ⟨[(10, vI k), (8, vI (lastBy (l.L.take k) s))] ++ _, [E.vec sv 75 2 (((l.L.take k).filter (fun m => !decide (m.Name = s))).map Mono.cells), E.row b4 29 [cI l.K, .lit sv]] ++ _⟩
  refine zE ?_
  refine zE ?_
  refine zB rfl ?_
  refine zA rfl rfl (zF rfl rfl) ?_
  refine zA rfl rfl (zJ rfl yI rfl) ?_
  refine zA rfl rfl (zK rfl kH rfl (zP 4 rfl) rfl) ?_
  refine zA rfl rfl (qB rfl el27 rfl) ?_
  refine zA rfl rfl (qS rfl rfl rfl) ?_
  refine zH ?_
  refine zR rfl (fun c2 => ?_) (fun c2 => ?_)
  ·try simp only [sx, List.length_map] at c2
   obtain ⟨x, hx⟩ := yL l.L k (by omega)
   refine zT ?_
   refine zE ?_
   refine qA ?_
   refine zE ?_
   refine zB rfl ?_
   refine zA rfl rfl (zJ rfl yI rfl) ?_
   refine zA rfl rfl (zK rfl kH rfl (zP 4 rfl) rfl) ?_
   refine zA rfl rfl (zF rfl rfl) ?_
   refine zA rfl rfl (zX rfl el27 rfl rfl (by omega) (getm (by assumption))) ?_
   refine zA rfl rfl (qG rfl fd75_0 rfl) ?_
   refine zA rfl rfl (zK rfl one9 rfl qK rfl) ?_
   refine zA rfl rfl (zF rfl rfl) ?_
   refine zA rfl rfl (yJ rfl rfl rfl) ?_
   refine zH ?_
   refine zR rfl (fun c3 => ?_) (fun c3 => ?_)
   ·try simp only [sx, List.length_map] at c3
    refine zB rfl ?_
    refine zA rfl rfl (zJ rfl yI rfl) ?_
    refine zA rfl rfl (zK rfl kH rfl (zP 4 rfl) rfl) ?_
    refine zA rfl rfl (zF rfl rfl) ?_
    refine zA rfl rfl (zX rfl el27 rfl rfl (by omega) (getm (by assumption))) ?_
    refine zA rfl rfl (qG rfl fd75_1 rfl) ?_
    refine zA rfl rfl (zK rfl one2 rfl qK rfl) ?_
    refine zA rfl rfl (zC rfl rfl) ?_
    refine zH ?_
    refine zB rfl ?_
    refine zA rfl rfl (zF rfl rfl) ?_
    refine zA rfl rfl (qL rfl rfl rfl ⟨by omega, by omega⟩) ?_
    refine zA rfl rfl (zC rfl rfl) ?_
    refine zH ?_
    refine ⟨⟨k + 1, _⟩, (by omega), (by show l.L.length - (k + 1) < l.L.length - k; omega), Weak.mk [true, true, true, true, true] ⟨VLe.refl _, VLe.of_eq (by rw [lastBy_next hx]; first | (rw [if_pos c3]; rfl) | (rw [if_neg c3]; rfl)), VLe.refl _, VLe.refl _, VLe.refl _, VLe.refl _, VLe.refl _, trivial⟩ (by exact mem2c_eq (by rw [rest_next hx]; first | (rw [if_pos c3, List.append_nil]) | (rw [if_neg c3, List.map_append]; rfl)))⟩
   ·try simp only [sx, List.length_map] at c3
    refine yG 8 mixed (by kernel_rfl) rfl rfl ?_
    refine zV rfl rfl (zJ rfl yI rfl) ?_
    refine zV rfl rfl (zK rfl kH rfl (zP 1 rfl) rfl) ?_
    refine zV rfl rfl (zJ rfl yI rfl) ?_
    refine zV rfl rfl (zK rfl kH rfl (zP 4 rfl) rfl) ?_
    refine zV rfl rfl (zF rfl rfl) ?_
    refine zV rfl rfl (zX rfl el27 rfl rfl (by omega) (getm (by assumption))) ?_
    refine zV rfl rfl (zQ rfl agg75 rfl qK rfl) ?_
    refine zV rfl rfl (yF rfl el27 zr75 rfl rfl rfl rfl) ?_
    refine kB ?_
    refine qC rfl rfl (yO 0 rfl el27 rfl rfl rfl (by have := List.length_filter_le (fun m : Mono => !decide (m.Name = s)) (l.L.take k); simp only [List.length_map, List.length_append, List.length_cons, List.length_nil, List.length_take] at *; omega) (by have := List.length_filter_le (fun m : Mono => !decide (m.Name = s)) (l.L.take k); simp only [List.length_map, List.length_append, List.length_cons, List.length_nil, List.length_take] at *; omega)) ?_
    rintro _ _ ⟨sv6, rfl, rfl⟩
    refine zA rfl rfl (zJ rfl yI rfl) ?_
    refine zY rfl rfl (zU rfl sz27 rfl rfl rfl (qI 1 rfl rfl)) ?_
    refine zH ?_
    refine zB rfl ?_
    refine zA rfl rfl (zF rfl rfl) ?_
    refine zA rfl rfl (qL rfl rfl rfl ⟨by omega, by omega⟩) ?_
    refine zA rfl rfl (zC rfl rfl) ?_
    refine zH ?_
    refine ⟨⟨k + 1, _⟩, (by omega), (by show l.L.length - (k + 1) < l.L.length - k; omega), Weak.mk [true, true, true, true, true] ⟨VLe.refl _, VLe.of_eq (by rw [lastBy_next hx]; first | (rw [if_pos c3]; rfl) | (rw [if_neg c3]; rfl)), VLe.refl _, VLe.refl _, VLe.refl _, VLe.refl _, VLe.refl _, trivial⟩ (by exact mem2c_eq (by rw [rest_next hx]; first | (rw [if_pos c3, List.append_nil]) | (rw [if_neg c3, List.map_append]; rfl)))⟩
  ·try simp only [sx, List.length_map] at c2
   rw [kJ (l := l.L) (k := k) (by omega)]
   refine qU ?_
   refine zE ?_
   refine zE ?_
   refine zB rfl ?_
   refine zA rfl rfl (zF rfl rfl) ?_
   refine zA rfl rfl (qJ rfl rfl rfl) ?_
   refine zH ?_
   refine zR rfl (fun c4 => ?_) (fun c4 => ?_)
   ·try simp only [sx, List.length_map] at c4
    refine zE ?_
    refine zB rfl ?_
    refine zA rfl rfl (zQ rfl yB rfl (zP 4 rfl) rfl) ?_
    refine zY rfl rfl (zU rfl sz29 rfl rfl rfl (qI 2 rfl rfl)) ?_
    refine zA rfl rfl (zC rfl rfl) ?_
    refine zH ?_
    refine zS ?_
    repeat (first | refine zO ?_ | refine zM ?_)
    refine fin2 (qD yB rfl (zP 2 rfl) rfl) (rs_c rfl) ?_
    rw [substR_same ⟨hl1, hl2, hl3⟩ c4]; rfl
   ·try simp only [sx, List.length_map] at c4
    refine zT ?_
    refine zE ?_
    refine zE ?_
    refine zB rfl ?_
    refine zA rfl rfl (zQ rfl yB rfl (zP 3 rfl) rfl) ?_
    refine zA rfl rfl (zF rfl rfl) ?_
    refine zA rfl rfl (zW rfl ok155 (ref14_scales u (lastBy l.L s) ht hrt (last_rng hrl s)) ⟨VLe.refl _, rfl, VLe.refl _, rfl, trivial⟩) ?_
    refine zA rfl rfl (qY rfl rfl) ?_
    refine zH ?_
    refine zR rfl (fun c5 => ?_) (fun c5 => ?_)
    ·try simp only [sx, List.length_map] at c5
     refine zE ?_
     refine zB rfl ?_
     refine zA rfl rfl (qO [none, some 2] rfl zr29 pl29 rfl rfl) ?_
     refine zY rfl rfl (zU rfl sz29 rfl rfl rfl (qI 2 rfl rfl)) ?_
     refine zA rfl rfl (zC rfl rfl) ?_
     refine zH ?_
     refine zS ?_
     repeat (first | refine zO ?_ | refine zM ?_)
     refine fin2 (qD yB rfl (zP 2 rfl) rfl) (rs_c rfl) ?_
     rw [substR_no ⟨hl1, hl2, hl3⟩ c4 c5]; rfl
    ·try simp only [sx, List.length_map] at c5
     refine qQ _ (yV 0 rfl (regs' := []) (μ' := [_, _, _, _]) trivial ⟨EFle.row (ds := [_, _]) ⟨.inl rfl, .inr ⟨rfl, rfl⟩, trivial⟩, EFle.refl _, EFle.refl _, EFle.refl _, trivial⟩) ?_
     refine zT ?_
     refine zE ?_
     refine zB rfl ?_
     refine zA rfl rfl (zQ rfl yB rfl (zP 0 rfl) rfl) ?_
     refine zA rfl rfl (zQ rfl yB rfl (zP 2 rfl) rfl) ?_
     refine zA rfl rfl (zF rfl rfl) ?_
     refine zA rfl rfl (zW rfl ok156 (ref14_sum (restL l s) u (lastBy l.L s) (by omega) ht hr1 hrt (last_rng hrl s) (fun m hm => (monos_name hl1 m (List.mem_filter.1 hm).1).1)) ⟨VLe.refl _, rfl, VLe.refl _, rfl, VLe.refl _, rfl, trivial⟩) ?_
     refine zA rfl rfl (yH rfl rfl rfl) ?_
     refine zA rfl rfl (qX rfl rfl rfl) ?_
     refine zY rfl rfl (zU rfl sz29 rfl rfl rfl (qI 1 rfl rfl)) ?_
     refine zA rfl rfl (zC rfl rfl) ?_
     refine zH ?_
     refine zS ?_
     repeat (first | refine zO ?_ | refine zM ?_)
     refine fin2 (qD yB rfl (zP 1 rfl) rfl) (rs_c rfl) ?_
     rw [substR_yes ⟨hl1, hl2, hl3⟩ c4 c5]; rfl

theorem ref14_indexSubstitute (x : Ix) (s : ByteArray) (u : Lf) (ht : u.L.length ≤ 4294967296) (hrt : u.rng) (hx : x.wt ≤ 4294967296) (hr1 : x.Lin.rng) (hr2 : ∀ l, l ∈ x.At → l.rng) :
    Pur cfg 85 [vIndex x, vS s, vLin u] (.tup [vIndex (outI (mIx (fun l => substR l s u) x)), vI (errE (mIx (fun l => substR l s u) x))]) := by
 refine zZ Tryz.func85 rfl Tryz.ntmps85 Tryz.results85 rfl ?_
 intro z hz
 have hxw := hx
 unfold Ix.wt at hxw
 refine zE ?_
 refine zB rfl ?_
 refine qC rfl rfl (qN rfl rfl) ?_
 rintro _ _ ⟨b1, rfl, rfl⟩
 refine qC rfl rfl (qN rfl rfl) ?_
 rintro _ _ ⟨b2, rfl, rfl⟩
 refine qC rfl rfl (qH [none, some 2, none, some 2] rfl zr117 rfl) ?_
 rintro _ _ ⟨b3, rfl, rfl⟩
 refine zA rfl rfl (zC rfl rfl) ?_
 refine zH ?_
 refine zE ?_
 refine zB rfl ?_
 refine zA rfl rfl (zJ rfl fd117_0 rfl) ?_
 refine zA rfl rfl (zQ rfl yB rfl (zP 2 rfl) rfl) ?_
 refine zA rfl rfl (zF rfl rfl) ?_
 refine zA rfl rfl (zQ rfl yB rfl (zP 1 rfl) rfl) ?_
 refine zA rfl rfl (zW rfl ok84 (ref14_LinSubstitute x.Lin s u (by omega) ht hr1 hrt) ⟨VLe.refl _, rfl, VLe.refl _, rfl, VLe.refl _, rfl, trivial⟩) ?_
 refine zA rfl rfl (qT rfl rfl) ?_
 refine zA rfl rfl (yH rfl rfl rfl) ?_
 refine zA rfl rfl (qX rfl rfl rfl) ?_
 refine qC rfl rfl (qH [none, some 2] rfl zr29 rfl) ?_
 rintro _ _ ⟨b4, rfl, rfl⟩
 refine zY rfl rfl (zU rfl sz29 rfl rfl rfl (qI 0 rfl rfl)) ?_
 refine zA rfl rfl (zC rfl rfl) ?_
 refine zH ?_
 refine zE ?_
 refine zE ?_
 refine zB rfl ?_
 refine zA rfl rfl (zF rfl rfl) ?_
 refine zA rfl rfl (qV rfl rfl rfl) ?_
 refine zH ?_
 refine zR rfl (fun c1 => ?_) (fun c1 => ?_)
 ·try simp only [sx, List.length_map] at c1
  refine zE ?_
  refine zB rfl ?_
  refine zA rfl rfl (qO [none, some 2, none, some 2] rfl zr117 pl117 rfl rfl) ?_
  refine zA rfl rfl (zF rfl rfl) ?_
  refine zY rfl rfl (zU rfl sz117 rfl rfl rfl (qI 1 rfl rfl)) ?_
  refine zA rfl rfl (zC rfl rfl) ?_
  refine zH ?_
  refine zS ?_
  repeat (first | refine zO ?_ | refine zM ?_)
  refine fin2 (qD agg117 rfl (zP 1 rfl) rfl) (rs_c rfl) ?_
  rw [mIx_e1 c1]; rfl
 ·try simp only [sx, List.length_map] at c1
  refine zT ?_
  refine zE ?_
  refine zB rfl ?_
  refine zA rfl rfl (zQ rfl yB rfl (zP 0 rfl) rfl) ?_
  refine zA rfl rfl (zJ rfl fd117_1 rfl) ?_
  refine zA rfl rfl (zK rfl one9 rfl (zP 3 rfl) rfl) ?_
  refine zA rfl rfl (yE rfl zr117 pl117 rfl) ?_
  refine qC rfl rfl (kK rfl zr117) ?_
  rintro _ _ ⟨b5, rfl, rfl⟩
  refine yN _ (kI 75 2) ?_
  refine yN _ (kI 29 2) ?_
  refine zY rfl rfl (zU rfl sz117 rfl rfl rfl (qI 2 rfl rfl)) ?_
  refine zH ?_
  refine zE ?_
  refine zE ?_
  refine zB rfl ?_
  refine zA rfl rfl (zC rfl rfl) ?_
  refine zH ?_
  refine qA ?_
  refine qQ ⟨[(11, .c _), (1, .c _), (3, .c _), (5, .c _), (6, .c _), (10, .c _)], [_, _, _, _, _]⟩ (Weak.mk [true, false, true, false, true, true, true] ⟨VLe.of_eq rfl, VLe.of_eq rfl, VLe.of_eq rfl, VLe.of_eq rfl, VLe.of_eq rfl, VLe.of_eq rfl, trivial⟩ rfl) ?_
  refine qR 1 2 rfl rfl (Nat × List Lf × Value) (fun ⟨k, outs, sv⟩ => [(11, vI k)]) (fun ⟨k, outs, sv⟩ => [E.vec sv 29 2 (outs.map Lf.cells), E.row b5 117 [cI (substR x.Lin s u).1.K, .sl 2 ((substR x.Lin s u).1.L.map Mono.cells), cS x.From, .lit sv]]) (fun ⟨k, outs, sv⟩ => k ≤ x.At.length ∧ (outs.length = k) ∧ (mLins (fun l => substR l s u) x.At = mapRest outs (mLins (fun l => substR l s u) (x.At.drop k)))) (fun ⟨k, outs, sv⟩ => x.At.length - k) ⟨⟨0, [], .slice none 0 0⟩, ⟨by omega, rfl, (mapRest_nil _).symm⟩, Weak.mk [true, true, true, true, true] ⟨VLe.refl _, VLe.refl _, VLe.refl _, VLe.refl _, VLe.refl _, VLe.refl _, trivial⟩ rfl⟩ ?_
  rintro ⟨k, outs, sv⟩ ⟨hk, ho, hp⟩
  show AWP _ _ _ _ _ ⟨[(11, vI k)] ++ _, [E.vec sv 29 2 (outs.map Lf.cells), E.row b5 117 [cI (substR x.Lin s u).1.K, .sl 2 ((substR x.Lin s u).1.L.map Mono.cells), cS x.From, .lit sv]] ++ _⟩
  refine zE ?_
  refine zE ?_
  refine zB rfl ?_
  refine zA rfl rfl (zF rfl rfl) ?_
  refine zA rfl rfl (zJ rfl kZ rfl) ?_
  refine zA rfl rfl (zK rfl one104 rfl (zP 4 rfl) rfl) ?_
  refine zA rfl rfl (qB rfl el104 rfl) ?_
  refine zA rfl rfl (qS rfl rfl rfl) ?_
  refine zH ?_
  refine zR rfl (fun c2 => ?_) (fun c2 => ?_)
  ·try simp only [sx, List.length_map] at c2
   obtain ⟨l, hl⟩ := yL x.At k (by omega)
   refine zT ?_
   refine zE ?_
   refine qA ?_
   refine zE ?_
   refine awp_draw_c 13 1 [⟨0, .q []⟩, ⟨1, .q [5]⟩, ⟨2, .q []⟩, ⟨3, .q []⟩, ⟨4, .q []⟩, ⟨5, .q []⟩, ⟨6, .q [4]⟩, ⟨7, .q []⟩, ⟨8, .q []⟩, ⟨9, .q []⟩, ⟨10, .q []⟩, ⟨11, .e 0 []⟩, ⟨12, .e 0 []⟩] mixed (by kernel_rfl) (by kernel_rfl) rfl rfl rfl ?_
   refine qP rfl ?_
   refine qP rfl ?_
   refine qP rfl ?_
   refine qP rfl ?_
   refine qP rfl ?_
   refine qP rfl ?_
   refine qP rfl ?_
   refine qP rfl ?_
   refine qP rfl ?_
   refine qP rfl ?_
   refine qP rfl ?_
   refine qP rfl ?_
   refine qP rfl ?_
   refine fx_nil ?_
   refine qW rfl (by decide) rfl rfl (zJ rfl kZ rfl) ?_
   refine qW rfl (by decide) rfl rfl (zK rfl one104 rfl (zP 0 rfl) rfl) ?_
   refine qW rfl (by decide) rfl rfl (zF rfl rfl) ?_
   refine qW rfl (by decide) rfl rfl (zX rfl el104 rfl rfl (by omega) (getm (by assumption))) ?_
   refine qW rfl (by decide) rfl rfl (zQ rfl yB rfl qK rfl) ?_
   refine qW rfl (by decide) rfl rfl (zF rfl rfl) ?_
   refine qW rfl (by decide) rfl rfl (zQ rfl yB rfl (zP 0 rfl) rfl) ?_
   refine qW rfl (by decide) rfl rfl (zW rfl ok84 (ref14_LinSubstitute l s u (by have := linsWt_mem (qF hl); omega) ht (hr2 l (qF hl)) hrt) ⟨VLe.refl _, rfl, VLe.refl _, rfl, VLe.refl _, rfl, trivial⟩) ?_
   refine qW rfl (by decide) rfl rfl (qT rfl rfl) ?_
   refine qW rfl (by decide) rfl rfl (yH rfl rfl rfl) ?_
   refine qW rfl (by decide) rfl rfl (qX rfl rfl rfl) ?_
   refine sq_op rfl rfl (by decide) rfl rfl (qH [none, some 2] rfl zr29 rfl) ?_
   rintro _ _ ⟨b8, rfl, rfl⟩
   refine ⟨_, rfl, ?_⟩
   refine sq_op0 rfl rfl (by decide) rfl rfl (zU rfl sz29 rfl rfl rfl (qI 0 rfl rfl)) ?_
   rintro _ _ ⟨rfl, rfl⟩
   refine ⟨_, rfl, ?_⟩
   refine sq_nil rfl ?_
   refine zA rfl rfl (zC rfl rfl) ?_
   refine zH ?_
   refine zE ?_
   refine zE ?_
   refine zB rfl ?_
   refine zA rfl rfl (zF rfl rfl) ?_
   refine zA rfl rfl (qV rfl rfl rfl) ?_
   refine zH ?_
   refine zR rfl (fun c3 => ?_) (fun c3 => ?_)
   ·try simp only [sx, List.length_map] at c3
    refine zE ?_
    refine zB rfl ?_
    refine zA rfl rfl (qO [none, some 2, none, some 2] rfl zr117 pl117 rfl rfl) ?_
    refine zA rfl rfl (zF rfl rfl) ?_
    refine zY rfl rfl (zU rfl sz117 rfl rfl rfl (qI 3 rfl rfl)) ?_
    refine zA rfl rfl (zC rfl rfl) ?_
    refine zH ?_
    refine zS ?_
    repeat (first | refine zO ?_ | refine zM ?_)
    refine fin2 (qD agg117 rfl (zP 3 rfl) rfl) (rs_c rfl) ?_
    rw [mIx_e2 c1 (mLins_no hl hp c3)]; rfl
   ·try simp only [sx, List.length_map] at c3
    refine zT ?_
    refine zB rfl ?_
    refine zA rfl rfl (zJ rfl kZ rfl) ?_
    refine zA rfl rfl (zK rfl one104 rfl (zP 2 rfl) rfl) ?_
    refine zA rfl rfl (zQ rfl yB rfl (zP 0 rfl) rfl) ?_
    refine zA rfl rfl (yF rfl el104 zr29 rfl rfl rfl rfl) ?_
    refine qC rfl rfl (yO 1 rfl el104 rfl rfl rfl (by simp only [List.length_map, List.length_append, List.length_cons, List.length_nil]; omega) (by simp only [List.length_map, List.length_append, List.length_cons, List.length_nil]; omega)) ?_
    rintro _ _ ⟨sv9, rfl, rfl⟩
    refine zA rfl rfl (zJ rfl kZ rfl) ?_
    refine zY rfl rfl (zU rfl sz104 rfl rfl rfl (qI 2 rfl rfl)) ?_
    refine zH ?_
    refine zB rfl ?_
    refine zA rfl rfl (zF rfl rfl) ?_
    refine zA rfl rfl (qL rfl rfl rfl ⟨by omega, by omega⟩) ?_
    refine zA rfl rfl (zC rfl rfl) ?_
    refine zH ?_
    refine ⟨⟨k + 1, outs ++ [(substR l s u).1], sv9⟩, ⟨by omega, by simp; omega, mLins_next hl hp c3⟩, (by show x.At.length - (k + 1) < x.At.length - k; omega), Weak.mk [false, true, true, true, true, true] ⟨VLe.refl _, VLe.refl _, VLe.refl _, VLe.refl _, VLe.refl _, VLe.refl _, trivial⟩ (by exact mem2_eq' (by rw [List.map_append]; rfl))⟩
  ·try simp only [sx, List.length_map] at c2
   have hml := mLins_end hp (by omega)
   refine qQ _ (yV 0 rfl (regs' := []) (μ' := [_, _, _, _]) trivial ⟨EFle.row (ds := [_, _, _, _]) ⟨.inl rfl, .inl rfl, .inl rfl, .inr ⟨rfl, rfl⟩, trivial⟩, EFle.refl _, EFle.refl _, EFle.refl _, trivial⟩) ?_
   refine qU ?_
   refine zE ?_
   refine zB rfl ?_
   refine zA rfl rfl (zQ rfl agg117 rfl (zP 0 rfl) rfl) ?_
   refine zY rfl rfl (zU rfl sz117 rfl rfl rfl (qI 1 rfl rfl)) ?_
   refine zA rfl rfl (zC rfl rfl) ?_
   refine zH ?_
   refine zS ?_
   repeat (first | refine zO ?_ | refine zM ?_)
   refine fin2 (qD agg117 rfl (zP 1 rfl) rfl) (rs_c rfl) ?_
   rw [mIx_ok c1 hml]; rfl

theorem ref14_Substitute_step (e : Ex) (s : ByteArray) (u : Lf) (ht : u.L.length ≤ 4294967296) (hrt : u.rng) (ih : ∀ a, a ∈ e.Args → a.allF Lf.rng → a.wt ≤ 4294967296 → Pur cfg 25 [vE a, vS s, vLin u] (.tup [vE (outE (mEx (fun l => substR l s u) a)), vI (errE (mEx (fun l => substR l s u) a))])) (hP : e.allF Lf.rng) (he : e.wt ≤ 4294967296) :
    Pur cfg 25 [vE e, vS s, vLin u] (.tup [vE (outE (mEx (fun l => substR l s u) e)), vI (errE (mEx (fun l => substR l s u) e))]) := by
 refine zZ Tryz.func25 rfl Tryz.ntmps25 Tryz.results25 rfl ?_
 intro z hz
 obtain ⟨hL, hI, hA⟩ := e.parts he
 have hew := Ex.wt_eq e
 refine zE ?_
 refine zB rfl ?_
 refine qC rfl rfl (qN rfl rfl) ?_
 rintro _ _ ⟨b1, rfl, rfl⟩
 refine qC rfl rfl (qN rfl rfl) ?_
 rintro _ _ ⟨b2, rfl, rfl⟩
 refine qC rfl rfl (qH [none, none, none, none, none, none, none, none, none, none, some 2, some 4, some 13] rfl zr33 rfl) ?_
 rintro _ _ ⟨b3, rfl, rfl⟩
 refine zA rfl rfl (zC rfl rfl) ?_
 refine zH ?_
 refine zE ?_
 refine zB rfl ?_
 refine zA rfl rfl (zJ rfl yW rfl) ?_
 refine zA rfl rfl (zK rfl one3 rfl (zP 2 rfl) rfl) ?_
 refine zA rfl rfl (zJ rfl fd33_1 rfl) ?_
 refine zA rfl rfl (zK rfl one9 rfl (zP 2 rfl) rfl) ?_
 refine zA rfl rfl (zJ rfl fd33_2 rfl) ?_
 refine zA rfl rfl (zQ rfl agg26 rfl (zP 2 rfl) rfl) ?_
 refine zA rfl rfl (zJ rfl fd33_3 rfl) ?_
 refine zA rfl rfl (zQ rfl agg23 rfl (zP 2 rfl) rfl) ?_
 refine zA rfl rfl (yE rfl zr33 pl33 rfl) ?_
 refine qC rfl rfl (kK rfl zr33) ?_
 rintro _ _ ⟨b4, rfl, rfl⟩
 refine yN _ (kI 75 2) ?_
 refine yN _ (kI 117 4) ?_
 refine yN _ (kI 33 13) ?_
 refine zY rfl rfl (zU rfl sz33 rfl rfl rfl (qI 3 rfl rfl)) ?_
 refine zH ?_
 refine zE ?_
 refine zB rfl ?_
 refine zA rfl rfl (zJ rfl fd33_4 rfl) ?_
 refine zA rfl rfl (zQ rfl yB rfl (zP 6 rfl) rfl) ?_
 refine zA rfl rfl (zF rfl rfl) ?_
 refine zA rfl rfl (zQ rfl yB rfl (zP 5 rfl) rfl) ?_
 refine zA rfl rfl (zW rfl ok84 (ref14_LinSubstitute e.Lin s u hL ht (Ex.allF_lin hP) hrt) ⟨VLe.refl _, rfl, VLe.refl _, rfl, VLe.refl _, rfl, trivial⟩) ?_
 refine zA rfl rfl (qT rfl rfl) ?_
 refine zA rfl rfl (yH rfl rfl rfl) ?_
 refine zA rfl rfl (qX rfl rfl rfl) ?_
 refine qC rfl rfl (qH [none, some 2] rfl zr29 rfl) ?_
 rintro _ _ ⟨b8, rfl, rfl⟩
 refine zY rfl rfl (zU rfl sz29 rfl rfl rfl (qI 0 rfl rfl)) ?_
 refine zA rfl rfl (zC rfl rfl) ?_
 refine zH ?_
 refine zE ?_
 refine zE ?_
 refine zB rfl ?_
 refine zA rfl rfl (zF rfl rfl) ?_
 refine zA rfl rfl (qV rfl rfl rfl) ?_
 refine zH ?_
 refine zR rfl (fun c1 => ?_) (fun c1 => ?_)
 ·try simp only [sx, List.length_map] at c1
  refine zE ?_
  refine zB rfl ?_
  refine zA rfl rfl (qO [none, none, none, none, none, none, none, none, none, none, some 2, some 4, some 13] rfl zr33 pl33 rfl rfl) ?_
  refine zA rfl rfl (zF rfl rfl) ?_
  refine zY rfl rfl (zU rfl sz33 rfl rfl rfl (qI 5 rfl rfl)) ?_
  refine zA rfl rfl (zC rfl rfl) ?_
  refine zH ?_
  refine zS ?_
  repeat (first | refine zO ?_ | refine zM ?_)
  refine fin2 (qD yA rfl (zP 5 rfl) rfl) (rs_c rfl) ?_
  rw [mEx_e1 c1]; rfl
 ·try simp only [sx, List.length_map] at c1
  refine zT ?_
  refine zE ?_
  refine zB rfl ?_
  refine zA rfl rfl (zQ rfl yB rfl (zP 0 rfl) rfl) ?_
  refine zA rfl rfl (zJ rfl fd33_4 rfl) ?_
  refine zY rfl rfl (zU rfl sz29 rfl rfl rfl (qI 4 rfl rfl)) ?_
  refine zH ?_
  refine zE ?_
  refine zE ?_
  refine zB rfl ?_
  refine zA rfl rfl (zC rfl rfl) ?_
  refine zH ?_
  refine qA ?_
  refine qQ ⟨[(11, .c _), (1, .c _), (3, .c _), (5, .c _), (6, .c _), (8, .c _)], [_, _, _, _, _, _]⟩ (Weak.mk [false, true, true, false, true, true, true, true] ⟨VLe.of_eq rfl, VLe.of_eq rfl, VLe.of_eq rfl, VLe.of_eq rfl, VLe.of_eq rfl, VLe.of_eq rfl, trivial⟩ rfl) ?_
  refine qR 1 3 rfl rfl (Nat × List Ix × Value) (fun ⟨k, outs, sv⟩ => [(11, vI k)]) (fun ⟨k, outs, sv⟩ => [E.vec (.slice none 0 0) 33 13 [], E.vec sv 117 4 (outs.map Ix.cells), E.row b4 33 [cI e.Op, cS e.Name, cI e.Val.N, cI e.Val.D, cI e.Ty.Kind, cI e.Ty.Bits, cI e.Ty.Frac, cI e.Ty.Round, cI e.Ty.Over, cI (substR e.Lin s u).1.K, .sl 2 ((substR e.Lin s u).1.L.map Mono.cells), .lit sv, .lit (.slice none 0 0)]]) (fun ⟨k, outs, sv⟩ => k ≤ e.Idx.length ∧ (outs.length = k) ∧ (mIxs (fun l => substR l s u) e.Idx = mapRest outs (mIxs (fun l => substR l s u) (e.Idx.drop k)))) (fun ⟨k, outs, sv⟩ => e.Idx.length - k) ⟨⟨0, [], .slice none 0 0⟩, ⟨by omega, rfl, (mapRest_nil _).symm⟩, Weak.mk [true, true, true, true, true, true] ⟨VLe.refl _, VLe.refl _, VLe.refl _, VLe.refl _, VLe.refl _, VLe.refl _, trivial⟩ rfl⟩ ?_
  rintro ⟨k, outs, sv⟩ ⟨hk, ho, hp⟩
  show AWP _ _ _ _ _ ⟨[(11, vI k)] ++ _, [E.vec (.slice none 0 0) 33 13 [], E.vec sv 117 4 (outs.map Ix.cells), E.row b4 33 [cI e.Op, cS e.Name, cI e.Val.N, cI e.Val.D, cI e.Ty.Kind, cI e.Ty.Bits, cI e.Ty.Frac, cI e.Ty.Round, cI e.Ty.Over, cI (substR e.Lin s u).1.K, .sl 2 ((substR e.Lin s u).1.L.map Mono.cells), .lit sv, .lit (.slice none 0 0)]] ++ _⟩
  refine zE ?_
  refine zE ?_
  refine zB rfl ?_
  refine zA rfl rfl (zF rfl rfl) ?_
  refine zA rfl rfl (zJ rfl kN rfl) ?_
  refine zA rfl rfl (zK rfl one30 rfl (zP 5 rfl) rfl) ?_
  refine zA rfl rfl (qB rfl el30 rfl) ?_
  refine zA rfl rfl (qS rfl rfl rfl) ?_
  refine zH ?_
  refine zR rfl (fun c2 => ?_) (fun c2 => ?_)
  ·try simp only [sx, List.length_map] at c2
   obtain ⟨x, hx⟩ := yL e.Idx k (by omega)
   refine zT ?_
   refine zE ?_
   refine qA ?_
   refine zE ?_
   refine awp_draw_c 13 1 [⟨0, .q []⟩, ⟨1, .q [6]⟩, ⟨2, .q []⟩, ⟨3, .q []⟩, ⟨4, .q []⟩, ⟨5, .q []⟩, ⟨6, .q [5]⟩, ⟨7, .q []⟩, ⟨8, .q []⟩, ⟨9, .q []⟩, ⟨10, .q []⟩, ⟨11, .e 0 []⟩, ⟨12, .e 0 []⟩] mixed (by kernel_rfl) (by kernel_rfl) rfl rfl rfl ?_
   refine qP rfl ?_
   refine qP rfl ?_
   refine qP rfl ?_
   refine qP rfl ?_
   refine qP rfl ?_
   refine qP rfl ?_
   refine qP rfl ?_
   refine qP rfl ?_
   refine qP rfl ?_
   refine qP rfl ?_
   refine qP rfl ?_
   refine qP rfl ?_
   refine qP rfl ?_
   refine fx_nil ?_
   refine qW rfl (by decide) rfl rfl (zJ rfl kN rfl) ?_
   refine qW rfl (by decide) rfl rfl (zK rfl one30 rfl (zP 0 rfl) rfl) ?_
   refine qW rfl (by decide) rfl rfl (zF rfl rfl) ?_
   refine qW rfl (by decide) rfl rfl (zX rfl el30 rfl rfl (by omega) (getm (by assumption))) ?_
   refine qW rfl (by decide) rfl rfl (zQ rfl agg117 rfl qK rfl) ?_
   refine qW rfl (by decide) rfl rfl (zF rfl rfl) ?_
   refine qW rfl (by decide) rfl rfl (zQ rfl yB rfl (zP 0 rfl) rfl) ?_
   refine qW rfl (by decide) rfl rfl (zW rfl ok85 (ref14_indexSubstitute x s u ht hrt (by have := idxWt_mem (qF hx); omega) (Ex.allF_ix hP (qF hx)) (fun l hl => Ex.allF_at hP (qF hx) hl)) ⟨VLe.refl _, rfl, VLe.refl _, rfl, VLe.refl _, rfl, trivial⟩) ?_
   refine qW rfl (by decide) rfl rfl (qT rfl rfl) ?_
   refine qW rfl (by decide) rfl rfl (yH rfl rfl rfl) ?_
   refine qW rfl (by decide) rfl rfl (qX rfl rfl rfl) ?_
   refine sq_op rfl rfl (by decide) rfl rfl (qH [none, some 2, none, some 2] rfl zr117 rfl) ?_
   rintro _ _ ⟨b9, rfl, rfl⟩
   refine ⟨_, rfl, ?_⟩
   refine sq_op0 rfl rfl (by decide) rfl rfl (zU rfl sz117 rfl rfl rfl (qI 0 rfl rfl)) ?_
   rintro _ _ ⟨rfl, rfl⟩
   refine ⟨_, rfl, ?_⟩
   refine sq_nil rfl ?_
   refine zA rfl rfl (zC rfl rfl) ?_
   refine zH ?_
   refine zE ?_
   refine zE ?_
   refine zB rfl ?_
   refine zA rfl rfl (zF rfl rfl) ?_
   refine zA rfl rfl (qV rfl rfl rfl) ?_
   refine zH ?_
   refine zR rfl (fun c3 => ?_) (fun c3 => ?_)
   ·try simp only [sx, List.length_map] at c3
    refine zE ?_
    refine zB rfl ?_
    refine zA rfl rfl (qO [none, none, none, none, none, none, none, none, none, none, some 2, some 4, some 13] rfl zr33 pl33 rfl rfl) ?_
    refine zA rfl rfl (zF rfl rfl) ?_
    refine zY rfl rfl (zU rfl sz33 rfl rfl rfl (qI 4 rfl rfl)) ?_
    refine zA rfl rfl (zC rfl rfl) ?_
    refine zH ?_
    refine zS ?_
    repeat (first | refine zO ?_ | refine zM ?_)
    refine fin2 (qD yA rfl (zP 4 rfl) rfl) (rs_c rfl) ?_
    rw [mEx_e2 c1 (mIxs_no' hx hp c3)]; rfl
   ·try simp only [sx, List.length_map] at c3
    refine zT ?_
    refine zB rfl ?_
    refine zA rfl rfl (zJ rfl kN rfl) ?_
    refine zA rfl rfl (zK rfl one30 rfl (zP 3 rfl) rfl) ?_
    refine zA rfl rfl (zQ rfl agg117 rfl (zP 0 rfl) rfl) ?_
    refine zA rfl rfl (yF rfl el30 zr117 rfl rfl rfl rfl) ?_
    refine qC rfl rfl (yO 2 rfl el30 rfl rfl rfl (by simp only [List.length_map, List.length_append, List.length_cons, List.length_nil]; omega) (by simp only [List.length_map, List.length_append, List.length_cons, List.length_nil]; omega)) ?_
    rintro _ _ ⟨sv10, rfl, rfl⟩
    refine zA rfl rfl (zJ rfl kN rfl) ?_
    refine zY rfl rfl (zU rfl sz30 rfl rfl rfl (qI 3 rfl rfl)) ?_
    refine zH ?_
    refine zB rfl ?_
    refine zA rfl rfl (zF rfl rfl) ?_
    refine zA rfl rfl (qL rfl rfl rfl ⟨by omega, by omega⟩) ?_
    refine zA rfl rfl (zC rfl rfl) ?_
    refine zH ?_
    refine ⟨⟨k + 1, outs ++ [outI (mIx (fun l => substR l s u) x)], sv10⟩, ⟨by omega, by simp; omega, mIxs_next' hx hp c3⟩, (by show e.Idx.length - (k + 1) < e.Idx.length - k; omega), Weak.mk [false, true, true, true, true, true, true] ⟨VLe.refl _, VLe.refl _, VLe.refl _, VLe.refl _, VLe.refl _, VLe.refl _, trivial⟩ (by exact mem3_eq (by rw [List.map_append]; rfl))⟩
  ·try simp only [sx, List.length_map] at c2
   have hmi := mIxs_end hp (by omega)
   refine qQ _ (yV 1 rfl (regs' := []) (μ' := [_, _, _, _, _]) trivial ⟨EFle.refl _, EFle.row (ds := [_, _, _, _, _, _, _, _, _, _, _, _, _]) ⟨.inl rfl, .inl rfl, .inl rfl, .inl rfl, .inl rfl, .inl rfl, .inl rfl, .inl rfl, .inl rfl, .inl rfl, .inl rfl, .inr ⟨rfl, rfl⟩, .inl rfl, trivial⟩, EFle.refl _, EFle.refl _, EFle.refl _, trivial⟩) ?_
   refine qU ?_
   refine zE ?_
   refine zE ?_
   refine zB rfl ?_
   refine zA rfl rfl (zC rfl rfl) ?_
   refine zH ?_
   refine qA ?_
   refine qQ ⟨[(14, .c _), (1, .c _), (3, .c _), (5, .c _), (6, .c _), (8, .c _)], [_, _, _, _, _]⟩ (Weak.mk [true, true, true, true, true] ⟨VLe.of_eq rfl, VLe.of_eq rfl, VLe.of_eq rfl, VLe.of_eq rfl, VLe.of_eq rfl, VLe.of_eq rfl, trivial⟩ rfl) ?_
   refine qR 1 2 rfl rfl (Nat × List Ex × Value) (fun ⟨n, exs, sw⟩ => [(14, vI n)]) (fun ⟨n, exs, sw⟩ => [E.vec sw 33 13 (exs.map Ex.cells), E.row b4 33 [cI e.Op, cS e.Name, cI e.Val.N, cI e.Val.D, cI e.Ty.Kind, cI e.Ty.Bits, cI e.Ty.Frac, cI e.Ty.Round, cI e.Ty.Over, cI (substR e.Lin s u).1.K, .sl 2 ((substR e.Lin s u).1.L.map Mono.cells), .sl 4 (outs.map Ix.cells), .lit sw]]) (fun ⟨n, exs, sw⟩ => n ≤ e.Args.length ∧ (exs.length = n) ∧ (mExs (fun l => substR l s u) e.Args = mapRest exs (mExs (fun l => substR l s u) (e.Args.drop n)))) (fun ⟨n, exs, sw⟩ => e.Args.length - n) ⟨⟨0, [], .slice none 0 0⟩, ⟨by omega, rfl, (mapRest_nil _).symm⟩, Weak.mk [true, true, true, true, true] ⟨VLe.refl _, VLe.refl _, VLe.refl _, VLe.refl _, VLe.refl _, VLe.refl _, trivial⟩ rfl⟩ ?_
   rintro ⟨n, exs, sw⟩ ⟨hn, hno, hr⟩
   show AWP _ _ _ _ _ ⟨[(14, vI n)] ++ _, [E.vec sw 33 13 (exs.map Ex.cells), E.row b4 33 [cI e.Op, cS e.Name, cI e.Val.N, cI e.Val.D, cI e.Ty.Kind, cI e.Ty.Bits, cI e.Ty.Frac, cI e.Ty.Round, cI e.Ty.Over, cI (substR e.Lin s u).1.K, .sl 2 ((substR e.Lin s u).1.L.map Mono.cells), .sl 4 (outs.map Ix.cells), .lit sw]] ++ _⟩
   refine zE ?_
   refine zE ?_
   refine zB rfl ?_
   refine zA rfl rfl (zF rfl rfl) ?_
   refine zA rfl rfl (zJ rfl kE rfl) ?_
   refine zA rfl rfl (zK rfl wC rfl (zP 4 rfl) rfl) ?_
   refine zA rfl rfl (qB rfl el31 rfl) ?_
   refine zA rfl rfl (qS rfl rfl rfl) ?_
   refine zH ?_
   refine zR rfl (fun c4 => ?_) (fun c4 => ?_)
   ·try simp only [sx, List.length_map] at c4
    obtain ⟨a, ha⟩ := yL e.Args n (by omega)
    refine zT ?_
    refine zE ?_
    refine qA ?_
    refine zE ?_
    refine awp_draw_c 13 1 [⟨0, .q []⟩, ⟨1, .q [5]⟩, ⟨2, .q []⟩, ⟨3, .q []⟩, ⟨4, .q []⟩, ⟨5, .q []⟩, ⟨6, .q [4]⟩, ⟨7, .q []⟩, ⟨8, .q []⟩, ⟨9, .q []⟩, ⟨10, .q []⟩, ⟨11, .e 0 []⟩, ⟨12, .e 0 []⟩] mixed (by kernel_rfl) (by kernel_rfl) rfl rfl rfl ?_
    refine qP rfl ?_
    refine qP rfl ?_
    refine qP rfl ?_
    refine qP rfl ?_
    refine qP rfl ?_
    refine qP rfl ?_
    refine qP rfl ?_
    refine qP rfl ?_
    refine qP rfl ?_
    refine qP rfl ?_
    refine qP rfl ?_
    refine qP rfl ?_
    refine qP rfl ?_
    refine fx_nil ?_
    refine qW rfl (by decide) rfl rfl (zJ rfl kE rfl) ?_
    refine qW rfl (by decide) rfl rfl (zK rfl wC rfl (zP 0 rfl) rfl) ?_
    refine qW rfl (by decide) rfl rfl (zF rfl rfl) ?_
    refine qW rfl (by decide) rfl rfl (zX rfl el31 rfl rfl (by omega) (getmE (by assumption))) ?_
    refine qW rfl (by decide) rfl rfl (zQ rfl yA rfl qK rfl) ?_
    refine qW rfl (by decide) rfl rfl (zF rfl rfl) ?_
    refine qW rfl (by decide) rfl rfl (zQ rfl yB rfl (zP 0 rfl) rfl) ?_
    refine qW rfl (by decide) rfl rfl (zW rfl ok25 (ih a (qF ha) (Ex.allF_arg hP (qF ha)) (by have := Ex.arg_wt (qF ha); omega)) ⟨VLe.refl _, rfl, VLe.refl _, rfl, VLe.refl _, rfl, trivial⟩) ?_
    refine qW rfl (by decide) rfl rfl (qT rfl rfl) ?_
    refine qW rfl (by decide) rfl rfl (yH rfl rfl rfl) ?_
    refine qW rfl (by decide) rfl rfl (qX rfl rfl rfl) ?_
    refine sq_op rfl rfl (by decide) rfl rfl (qH [none, none, none, none, none, none, none, none, none, none, some 2, some 4, some 13] rfl zr33 rfl) ?_
    rintro _ _ ⟨b11, rfl, rfl⟩
    refine ⟨_, rfl, ?_⟩
    refine sq_op0 rfl rfl (by decide) rfl rfl (zU rfl sz33 rfl rfl rfl (qI 0 rfl rfl)) ?_
    rintro _ _ ⟨rfl, rfl⟩
    refine ⟨_, rfl, ?_⟩
    refine sq_nil rfl ?_
    refine zA rfl rfl (zC rfl rfl) ?_
    refine zH ?_
    refine zE ?_
    refine zE ?_
    refine zB rfl ?_
    refine zA rfl rfl (zF rfl rfl) ?_
    refine zA rfl rfl (qV rfl rfl rfl) ?_
    refine zH ?_
    refine zR rfl (fun c5 => ?_) (fun c5 => ?_)
    ·try simp only [sx, List.length_map] at c5
     refine zE ?_
     refine zB rfl ?_
     refine zA rfl rfl (qO [none, none, none, none, none, none, none, none, none, none, some 2, some 4, some 13] rfl zr33 pl33 rfl rfl) ?_
     refine zA rfl rfl (zF rfl rfl) ?_
     refine zY rfl rfl (zU rfl sz33 rfl rfl rfl (qI 3 rfl rfl)) ?_
     refine zA rfl rfl (zC rfl rfl) ?_
     refine zH ?_
     refine zS ?_
     repeat (first | refine zO ?_ | refine zM ?_)
     refine fin2 (qD yA rfl (zP 3 rfl) rfl) (rs_c rfl) ?_
     rw [mEx_e3 c1 hmi (mExs_no ha hr c5)]; rfl
    ·try simp only [sx, List.length_map] at c5
     refine zT ?_
     refine zB rfl ?_
     refine zA rfl rfl (zJ rfl kE rfl) ?_
     refine zA rfl rfl (zK rfl wC rfl (zP 2 rfl) rfl) ?_
     refine zA rfl rfl (zQ rfl yA rfl (zP 0 rfl) rfl) ?_
     refine zA rfl rfl (yF rfl el31 zr33 rfl rfl rfl rfl) ?_
     refine qC rfl rfl (yO 1 rfl el31 rfl rfl rfl (by simp only [List.length_map, List.length_append, List.length_cons, List.length_nil]; omega) (by simp only [List.length_map, List.length_append, List.length_cons, List.length_nil]; omega)) ?_
     rintro _ _ ⟨sv12, rfl, rfl⟩
     refine zA rfl rfl (zJ rfl kE rfl) ?_
     refine zY rfl rfl (zU rfl sz31 rfl rfl rfl (qI 2 rfl rfl)) ?_
     refine zH ?_
     refine zB rfl ?_
     refine zA rfl rfl (zF rfl rfl) ?_
     refine zA rfl rfl (qL rfl rfl rfl ⟨by omega, by omega⟩) ?_
     refine zA rfl rfl (zC rfl rfl) ?_
     refine zH ?_
     refine ⟨⟨n + 1, exs ++ [outE (mEx (fun l => substR l s u) a)], sv12⟩, ⟨by omega, by simp; omega, mExs_next ha hr c5⟩, (by show e.Args.length - (n + 1) < e.Args.length - n; omega), Weak.mk [false, true, true, true, true, true] ⟨VLe.refl _, VLe.refl _, VLe.refl _, VLe.refl _, VLe.refl _, VLe.refl _, trivial⟩ (by exact mem2_eq' (by rw [List.map_append]; simp only [List.map_cons, List.map_nil, Ex.cells_eq]; rfl))⟩
   ·try simp only [sx, List.length_map] at c4
    have hme := mExs_end hr (by omega)
    refine qQ _ (yV 0 rfl (regs' := []) (μ' := [_, _, _, _]) trivial ⟨EFle.row (ds := [_, _, _, _, _, _, _, _, _, _, _, _, _]) ⟨.inl rfl, .inl rfl, .inl rfl, .inl rfl, .inl rfl, .inl rfl, .inl rfl, .inl rfl, .inl rfl, .inl rfl, .inl rfl, .inl rfl, .inr ⟨rfl, rfl⟩, trivial⟩, EFle.refl _, EFle.refl _, EFle.refl _, trivial⟩) ?_
    refine qU ?_
    refine zE ?_
    refine zB rfl ?_
    refine zA rfl rfl (zQ rfl yA rfl (zP 0 rfl) rfl) ?_
    refine zY rfl rfl (zU rfl sz33 rfl rfl rfl (qI 1 rfl rfl)) ?_
    refine zA rfl rfl (zC rfl rfl) ?_
    refine zH ?_
    refine zS ?_
    repeat (first | refine zO ?_ | refine zM ?_)
    refine fin2 (qD yA rfl (zP 1 rfl) rfl) (rs_c rfl) ?_
    rw [mEx_ok c1 hmi hme]; rfl

theorem ref14_Substitute (e : Ex) (s : ByteArray) (u : Lf) (ht : u.L.length ≤ 4294967296) (hrt : u.rng) (hP : e.allF Lf.rng) (he : e.wt ≤ 4294967296) : Pur cfg 25 [vE e, vS s, vLin u] (.tup [vE (outE (mEx (fun l => substR l s u) e)), vI (errE (mEx (fun l => substR l s u) e))]) := by
  induction e using Ex.ind with
  | _ e ih => exact ref14_Substitute_step e s u ht hrt ih hP he

end Go.W
