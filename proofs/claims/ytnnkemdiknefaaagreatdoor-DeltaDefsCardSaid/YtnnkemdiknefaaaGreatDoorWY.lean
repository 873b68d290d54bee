/-
  Walks: what functions of the program compute. Printed by wip/gen/mk2.py.
  Conditions: none.
-/
import Derived.Test.YtnnkemdiknefaaaGreatDoorWX
import Derived.Test.YtnnkemdiknefaaaGreatDoorWU
set_option linter.unusedSimpArgs false
set_option linter.unusedVariables false
namespace Go.W
open Go Go.Eng Go.Proofs Go.L41 Go.Br
attribute [local irreducible] AWP RWP TD
theorem ok153 : callOk Tryz.prog 153 = true := by kernel_rfl
theorem ok154 : callOk Tryz.prog 154 = true := by kernel_rfl
theorem ok205 : callOk Tryz.prog 205 = true := by kernel_rfl
theorem ok206 : callOk Tryz.prog 206 = true := by kernel_rfl
theorem ok207 : callOk Tryz.prog 207 = true := by kernel_rfl
theorem sz2 : (Tryz.prog.info? 2).map (·.size) = some 1 := by kernel_rfl
theorem sz4 : (Tryz.prog.info? 4).map (·.size) = some 1 := by kernel_rfl
theorem zr4 : zeroT Tryz.prog 4 = some [(Value.bool false)] := by kernel_rfl
theorem merge_con (a0 b0 : List Mono) (ha0 : a0.length ≤ 4294967296) (hb0 : b0.length ≤ 4294967296) :
    ∀ (y : C) (J : List Tr → List E → Prop) (μ : List E), (∀ d t s m, mergeL a0 b0 = d ++ t :: s → J d m → FnCon cfg y [vS t.1, vI t.2.1, vI t.2.2] m fun r m' => r = .tup [] ∧ J (d ++ [t]) m') → J [] μ → Con cfg 206 [.c (.sl 2 (a0.map Mono.cells)), .c (.sl 2 (b0.map Mono.cells)), .c y] μ fun r μ' => r = .tup [] ∧ J (mergeL a0 b0) μ' := by
 intro y J μ hy h0
 refine zZ Tryz.func206 rfl Tryz.ntmps206 Tryz.results206 rfl ?_
 intro z hz
 refine qA ?_
 refine qQ ⟨[(0, .c _), (1, .c _), (2, .c _)], _⟩ (Weak.regs ⟨VLe.of_eq rfl, VLe.of_eq rfl, VLe.of_eq rfl, trivial⟩) ?_
 refine awp_loop_m 2 rfl (List Mono × List Mono × List Tr × List E) (fun ⟨a, b, d, m⟩ => [(0, .c (.sl 2 (a.map Mono.cells))), (1, .c (.sl 2 (b.map Mono.cells)))]) (fun ⟨a, b, d, m⟩ => m) (fun ⟨a, b, d, m⟩ => a.length ≤ 4294967296 ∧ b.length ≤ 4294967296 ∧ mergeL a0 b0 = d ++ mergeL a b ∧ J d m) (fun ⟨a, b, d, m⟩ => a.length + b.length) ⟨⟨a0, b0, [], μ⟩, ⟨ha0, hb0, rfl, h0⟩, Weak.regs ⟨VLe.refl _, VLe.refl _, VLe.refl _, trivial⟩⟩ ?_
 rintro ⟨a, b, d, m⟩ ⟨hal, hbl, hm, hJ⟩
 refine zE ?_
 refine zE ?_
 refine zB rfl ?_
 refine zA rfl rfl (zF rfl rfl) ?_
 refine zA rfl rfl (qB rfl el27 rfl) ?_
 refine zA rfl rfl (yX rfl rfl rfl) ?_
 refine zA rfl rfl (zF rfl rfl) ?_
 refine zN [] rfl rfl rfl rfl gv1 trivial (fun g0_3 => zF rfl rfl) rfl ?_
 refine zN [(10, _)] rfl rfl rfl rfl gv1 ⟨rfl, rfl, trivial⟩ (fun g0_3 => qB rfl el27 rfl) rfl ?_
 refine zN [(11, _)] rfl rfl rfl rfl gv1 ⟨rfl, rfl, trivial⟩ (fun g0_3 => yX rfl rfl rfl) rfl ?_
 refine zA rfl rfl (yD rfl rfl rfl rfl (fun h => (lzf h))) ?_
 refine zH ?_
 refine zR rfl (fun c1 => ?_) (fun c1 => ?_)
 ·try simp only [sx, List.length_map] at c1
  refine zT ?_
  refine qA ?_
  refine qA ?_
  refine zE ?_
  refine yG 20 mixed (by kernel_rfl) rfl rfl ?_
  refine zV rfl rfl (zF rfl rfl) ?_
  refine zV rfl rfl (qB rfl el27 rfl) ?_
  refine zV rfl rfl (qJ rfl rfl rfl) ?_
  refine zV rfl rfl (zF rfl rfl) ?_
  refine qE [] rfl rfl rfl rfl gv1 trivial (fun g3_3 => zF rfl rfl) rfl ?_
  refine qE [(37, _)] rfl rfl rfl rfl gv1 ⟨rfl, rfl, trivial⟩ (fun g3_3 => qB rfl el27 rfl) rfl ?_
  refine qE [(38, _)] rfl rfl rfl rfl gv1 ⟨rfl, rfl, trivial⟩ (fun g3_3 => yX rfl rfl rfl) rfl ?_
  refine qE [(39, _)] rfl rfl rfl rfl gv1 ⟨rfl, rfl, trivial⟩ (fun g3_3 => zF rfl rfl) rfl ?_
  refine qE [] rfl rfl rfl rfl gv2 trivial (fun g3_7 => zF rfl rfl) rfl ?_
  refine qE [(41, _)] rfl rfl rfl rfl gv2 ⟨rfl, rfl, trivial⟩ (fun g3_7 => zX rfl el27 rfl rfl (by simp only [Lz, cond_true, cond_false, Bool.and_eq_true, Bool.or_eq_true, Bool.not_eq_true', Bool.not_eq_false', Bool.or_eq_false_iff, Bool.and_eq_false_iff, decide_eq_true_eq, decide_eq_false_iff_not, Bool.not_eq_true, Bool.not_eq_false] at g3_7; omega) (getm (hd_get (by simp only [Lz, cond_true, cond_false, Bool.and_eq_true, Bool.or_eq_true, Bool.not_eq_true', Bool.not_eq_false', Bool.or_eq_false_iff, Bool.and_eq_false_iff, decide_eq_true_eq, decide_eq_false_iff_not, Bool.not_eq_true, Bool.not_eq_false] at g3_7; omega)))) rfl ?_
  refine qE [(42, _)] rfl rfl rfl rfl gv2 ⟨rfl, rfl, trivial⟩ (fun g3_7 => qG rfl fd75_0 rfl) rfl ?_
  refine qE [(43, _)] rfl rfl rfl rfl gv2 ⟨rfl, rfl, trivial⟩ (fun g3_7 => zK rfl one9 rfl qK rfl) rfl ?_
  refine qE [] rfl rfl rfl rfl gv2 trivial (fun g3_7 => zF rfl rfl) rfl ?_
  refine qE [(45, _)] rfl rfl rfl rfl gv2 ⟨rfl, rfl, trivial⟩ (fun g3_7 => zX rfl el27 rfl rfl (by simp only [Lz, cond_true, cond_false, Bool.and_eq_true, Bool.or_eq_true, Bool.not_eq_true', Bool.not_eq_false', Bool.or_eq_false_iff, Bool.and_eq_false_iff, decide_eq_true_eq, decide_eq_false_iff_not, Bool.not_eq_true, Bool.not_eq_false] at g3_7; omega) (getm (hd_get (by simp only [Lz, cond_true, cond_false, Bool.and_eq_true, Bool.or_eq_true, Bool.not_eq_true', Bool.not_eq_false', Bool.or_eq_false_iff, Bool.and_eq_false_iff, decide_eq_true_eq, decide_eq_false_iff_not, Bool.not_eq_true, Bool.not_eq_false] at g3_7; omega)))) rfl ?_
  refine qE [(46, _)] rfl rfl rfl rfl gv2 ⟨rfl, rfl, trivial⟩ (fun g3_7 => qG rfl fd75_0 rfl) rfl ?_
  refine qE [(47, _)] rfl rfl rfl rfl gv2 ⟨rfl, rfl, trivial⟩ (fun g3_7 => zK rfl one9 rfl qK rfl) rfl ?_
  refine qE [(44, _), (48, _)] rfl rfl rfl rfl gv2 ⟨rfl, rfl, rfl, rfl, trivial⟩ (fun g3_7 => det_slss rfl rfl rfl) rfl ?_
  refine qE [(40, _)] rfl rfl rfl rfl gv1 ⟨rfl, rfl, trivial⟩ (fun g3_3 => qM rfl rfl rfl (fun h => yQ (by assumption) h) rfl) rfl ?_
  refine zV rfl rfl (yD rfl rfl rfl rfl (fun h => (lzf h))) ?_
  refine zV rfl rfl (zC rfl rfl) ?_
  refine kB ?_
  refine zH ?_
  refine zR rfl (fun c2 => ?_) (fun c2 => ?_)
  ·have hL := merge_left (by omega) c2
   have hdec : (a.drop 1).length + (b).length < a.length + b.length := by simp only [List.length_drop]; omega
   have hm1 : mergeL a0 b0 = (d ++ [((hdM a).Name, (hdM a).By, 0)]) ++ mergeL (a.drop 1) (b) := by rw [hm, hL.2]; simp
   refine zE ?_
   refine yG 9 mixed (by kernel_rfl) rfl rfl ?_
   refine zV rfl rfl (zF rfl rfl) ?_
   refine zV rfl rfl (zF rfl rfl) ?_
   refine zV rfl rfl (zX rfl el27 rfl rfl (by omega) (getm (hd_get (by omega)))) ?_
   refine zV rfl rfl (qG rfl fd75_0 rfl) ?_
   refine zV rfl rfl (zK rfl one9 rfl qK rfl) ?_
   refine zV rfl rfl (zF rfl rfl) ?_
   refine zV rfl rfl (zX rfl el27 rfl rfl (by omega) (getm (hd_get (by omega)))) ?_
   refine zV rfl rfl (qG rfl fd75_1 rfl) ?_
   refine zV rfl rfl (zK rfl one2 rfl qK rfl) ?_
   refine kB ?_
   refine qC rfl rfl (wB rfl rfl (hy d ((hdM a).Name, (hdM a).By, 0) _ m (by rw [hm1, List.append_assoc]; rfl) hJ) ⟨VLe.refl _, rfl, VLe.refl _, rfl, VLe.refl _, rfl, trivial⟩) ?_
   rintro _ m1 ⟨rfl, hJ1⟩
   refine zH ?_
   refine zB rfl ?_
   refine zA rfl rfl (zF rfl rfl) ?_
   refine zA rfl rfl (det_cut_drop (k := 1) rfl el27 rfl rfl (by omega)) ?_
   refine zA rfl rfl (zC rfl rfl) ?_
   refine zH ?_
   refine ⟨⟨_, _, _, _⟩, ⟨by first | omega | (simp only [List.length_drop]; omega), by first | omega | (simp only [List.length_drop]; omega), hm1, hJ1⟩, hdec, Weak.regs ⟨VLe.refl _, VLe.refl _, VLe.refl _, trivial⟩⟩
  ·have hb1 := mC2_b c2
   refine zE ?_
   refine yG 15 mixed (by kernel_rfl) rfl rfl ?_
   refine zV rfl rfl (zF rfl rfl) ?_
   refine zV rfl rfl (qB rfl el27 rfl) ?_
   refine zV rfl rfl (qJ rfl rfl rfl) ?_
   refine zV rfl rfl (zF rfl rfl) ?_
   refine qE [] rfl rfl rfl rfl gv1 trivial (fun g6_3 => zF rfl rfl) rfl ?_
   refine qE [(69, _)] rfl rfl rfl rfl gv1 ⟨rfl, rfl, trivial⟩ (fun g6_3 => zX rfl el27 rfl rfl (by simp only [Lz, cond_true, cond_false, Bool.and_eq_true, Bool.or_eq_true, Bool.not_eq_true', Bool.not_eq_false', Bool.or_eq_false_iff, Bool.and_eq_false_iff, decide_eq_true_eq, decide_eq_false_iff_not, Bool.not_eq_true, Bool.not_eq_false] at g6_3; omega) (getm (hd_get (by simp only [Lz, cond_true, cond_false, Bool.and_eq_true, Bool.or_eq_true, Bool.not_eq_true', Bool.not_eq_false', Bool.or_eq_false_iff, Bool.and_eq_false_iff, decide_eq_true_eq, decide_eq_false_iff_not, Bool.not_eq_true, Bool.not_eq_false] at g6_3; omega)))) rfl ?_
   refine qE [(70, _)] rfl rfl rfl rfl gv1 ⟨rfl, rfl, trivial⟩ (fun g6_3 => qG rfl fd75_0 rfl) rfl ?_
   refine qE [(71, _)] rfl rfl rfl rfl gv1 ⟨rfl, rfl, trivial⟩ (fun g6_3 => zK rfl one9 rfl qK rfl) rfl ?_
   refine qE [] rfl rfl rfl rfl gv1 trivial (fun g6_3 => zF rfl rfl) rfl ?_
   refine qE [(73, _)] rfl rfl rfl rfl gv1 ⟨rfl, rfl, trivial⟩ (fun g6_3 => zX rfl el27 rfl rfl (by simp only [Lz, cond_true, cond_false, Bool.and_eq_true, Bool.or_eq_true, Bool.not_eq_true', Bool.not_eq_false', Bool.or_eq_false_iff, Bool.and_eq_false_iff, decide_eq_true_eq, decide_eq_false_iff_not, Bool.not_eq_true, Bool.not_eq_false] at g6_3; omega) (getm (hd_get (by simp only [Lz, cond_true, cond_false, Bool.and_eq_true, Bool.or_eq_true, Bool.not_eq_true', Bool.not_eq_false', Bool.or_eq_false_iff, Bool.and_eq_false_iff, decide_eq_true_eq, decide_eq_false_iff_not, Bool.not_eq_true, Bool.not_eq_false] at g6_3; omega)))) rfl ?_
   refine qE [(74, _)] rfl rfl rfl rfl gv1 ⟨rfl, rfl, trivial⟩ (fun g6_3 => qG rfl fd75_0 rfl) rfl ?_
   refine qE [(75, _)] rfl rfl rfl rfl gv1 ⟨rfl, rfl, trivial⟩ (fun g6_3 => zK rfl one9 rfl qK rfl) rfl ?_
   refine qE [(72, _), (76, _)] rfl rfl rfl rfl gv1 ⟨rfl, rfl, rfl, rfl, trivial⟩ (fun g6_3 => det_slss rfl rfl rfl) rfl ?_
   refine zV rfl rfl (yD rfl rfl rfl rfl (fun h => (lzf h))) ?_
   refine zV rfl rfl (zC rfl rfl) ?_
   refine kB ?_
   refine zH ?_
   refine zR rfl (fun c3 => ?_) (fun c3 => ?_)
   ·have hL := merge_right (by omega) c2 c3
    have hdec : (a).length + (b.drop 1).length < a.length + b.length := by simp only [List.length_drop]; omega
    have hm1 : mergeL a0 b0 = (d ++ [((hdM b).Name, 0, (hdM b).By)]) ++ mergeL (a) (b.drop 1) := by rw [hm, hL.2]; simp
    refine zE ?_
    refine yG 9 mixed (by kernel_rfl) rfl rfl ?_
    refine zV rfl rfl (zF rfl rfl) ?_
    refine zV rfl rfl (zF rfl rfl) ?_
    refine zV rfl rfl (zX rfl el27 rfl rfl (by omega) (getm (hd_get (by omega)))) ?_
    refine zV rfl rfl (qG rfl fd75_0 rfl) ?_
    refine zV rfl rfl (zK rfl one9 rfl qK rfl) ?_
    refine zV rfl rfl (zF rfl rfl) ?_
    refine zV rfl rfl (zX rfl el27 rfl rfl (by omega) (getm (hd_get (by omega)))) ?_
    refine zV rfl rfl (qG rfl fd75_1 rfl) ?_
    refine zV rfl rfl (zK rfl one2 rfl qK rfl) ?_
    refine kB ?_
    refine qC rfl rfl (wB rfl rfl (hy d ((hdM b).Name, 0, (hdM b).By) _ m (by rw [hm1, List.append_assoc]; rfl) hJ) ⟨VLe.refl _, rfl, VLe.refl _, rfl, VLe.refl _, rfl, trivial⟩) ?_
    rintro _ m1 ⟨rfl, hJ1⟩
    refine zH ?_
    refine zB rfl ?_
    refine zA rfl rfl (zF rfl rfl) ?_
    refine zA rfl rfl (det_cut_drop (k := 1) rfl el27 rfl rfl (by omega)) ?_
    refine zA rfl rfl (zC rfl rfl) ?_
    refine zH ?_
    refine ⟨⟨_, _, _, _⟩, ⟨by first | omega | (simp only [List.length_drop]; omega), by first | omega | (simp only [List.length_drop]; omega), hm1, hJ1⟩, hdec, Weak.regs ⟨VLe.refl _, VLe.refl _, VLe.refl _, trivial⟩⟩
   ·have hL := merge_both c2 c3
    have hdec : (a.drop 1).length + (b.drop 1).length < a.length + b.length := by simp only [List.length_drop]; omega
    have hm1 : mergeL a0 b0 = (d ++ [((hdM a).Name, (hdM a).By, (hdM b).By)]) ++ mergeL (a.drop 1) (b.drop 1) := by rw [hm, hL.2.2]; simp
    refine zE ?_
    refine yG 13 mixed (by kernel_rfl) rfl rfl ?_
    refine zV rfl rfl (zF rfl rfl) ?_
    refine zV rfl rfl (zF rfl rfl) ?_
    refine zV rfl rfl (zX rfl el27 rfl rfl (by omega) (getm (hd_get (by omega)))) ?_
    refine zV rfl rfl (qG rfl fd75_0 rfl) ?_
    refine zV rfl rfl (zK rfl one9 rfl qK rfl) ?_
    refine zV rfl rfl (zF rfl rfl) ?_
    refine zV rfl rfl (zX rfl el27 rfl rfl (by omega) (getm (hd_get (by omega)))) ?_
    refine zV rfl rfl (qG rfl fd75_1 rfl) ?_
    refine zV rfl rfl (zK rfl one2 rfl qK rfl) ?_
    refine zV rfl rfl (zF rfl rfl) ?_
    refine zV rfl rfl (zX rfl el27 rfl rfl (by omega) (getm (hd_get (by omega)))) ?_
    refine zV rfl rfl (qG rfl fd75_1 rfl) ?_
    refine zV rfl rfl (zK rfl one2 rfl qK rfl) ?_
    refine kB ?_
    refine qC rfl rfl (wB rfl rfl (hy d ((hdM a).Name, (hdM a).By, (hdM b).By) _ m (by rw [hm1, List.append_assoc]; rfl) hJ) ⟨VLe.refl _, rfl, VLe.refl _, rfl, VLe.refl _, rfl, trivial⟩) ?_
    rintro _ m1 ⟨rfl, hJ1⟩
    refine zH ?_
    refine yG 6 mixed (by kernel_rfl) rfl rfl ?_
    refine zV rfl rfl (zF rfl rfl) ?_
    refine zV rfl rfl (det_cut_drop (k := 1) rfl el27 rfl rfl (by omega)) ?_
    refine zV rfl rfl (zF rfl rfl) ?_
    refine zV rfl rfl (det_cut_drop (k := 1) rfl el27 rfl rfl (by omega)) ?_
    refine zV rfl rfl (zC rfl rfl) ?_
    refine zV rfl rfl (zC rfl rfl) ?_
    refine kB ?_
    refine zH ?_
    refine ⟨⟨_, _, _, _⟩, ⟨by first | omega | (simp only [List.length_drop]; omega), by first | omega | (simp only [List.length_drop]; omega), hm1, hJ1⟩, hdec, Weak.regs ⟨VLe.refl _, VLe.refl _, VLe.refl _, trivial⟩⟩
 ·try simp only [sx, List.length_map] at c1
  refine qU ?_
  repeat (first | refine then_exit ?_ | refine block_exit ?_)
  refine fin_end <| fin0 ?_
  exact ⟨rfl, by rw [hm, show a = [] from List.eq_nil_of_length_eq_zero (by omega), show b = [] from List.eq_nil_of_length_eq_zero (by omega), mergeL_nil, List.append_nil]; exact hJ⟩

theorem lin_Add_1 (bo bl : Nat) (ok : Bool) (K : Int) (sv : Value) (d : List Tr) (t : Tr) (h1 : r64 t.2.1) (h2 : r64 t.2.2) (hd : d.length ≤ 8589934592) :
    Con cfg 207 [vS t.1, vI t.2.1, vI t.2.2, .c (.lit (.pointer (some ⟨bo, 0, none⟩))), .c (.lit (.pointer (some ⟨bl, 0, none⟩)))] [E.row bo 4 [cB (okF ok (d))], E.vec sv 75 2 ((sumW (d)).map Mono.cells), E.row bl 29 [cI K, .lit sv]] fun r μ' => r = .tup [] ∧ ∃ sv', μ' = [E.row bo 4 [cB (okF ok (d ++ [t]))], E.vec sv' 75 2 ((sumW (d ++ [t])).map Mono.cells), E.row bl 29 [cI K, .lit sv']] := by
 refine zZ Tryz.func207 rfl Tryz.ntmps207 Tryz.results207 rfl ?_
 intro z hz
 refine zE ?_
 refine zB rfl ?_
 refine zA rfl rfl (zF rfl rfl) ?_
 refine zA rfl rfl (zF rfl rfl) ?_
 refine zA rfl rfl (zW rfl ok205 (lin_plus t.2.1 t.2.2 h1 h2) ⟨VLe.refl _, rfl, VLe.refl _, rfl, trivial⟩) ?_
 refine zA rfl rfl (qT rfl rfl) ?_
 refine zA rfl rfl (qX rfl rfl rfl) ?_
 refine zA rfl rfl (qX rfl rfl rfl) ?_
 refine zA rfl rfl (zC rfl rfl) ?_
 refine zA rfl rfl (zC rfl rfl) ?_
 refine zH ?_
 refine zE ?_
 refine zB rfl ?_
 refine zA rfl rfl (zK rfl one4 rfl (zP 0 rfl) rfl) ?_
 refine zA rfl rfl (zF rfl rfl) ?_
 refine zN [] rfl rfl rfl rfl gv1 trivial (fun g1_1 => zF rfl rfl) rfl ?_
 refine zA rfl rfl (qM rfl rfl rfl (fun h => h) rfl) ?_
 refine zY rfl rfl (zU rfl sz4 rfl rfl rfl (qI 0 rfl rfl)) ?_
 refine zH ?_
 refine zE ?_
 refine zB rfl ?_
 refine zA rfl rfl (zF rfl rfl) ?_
 refine zA rfl rfl (qV rfl rfl rfl) ?_
 refine zH ?_
 refine zR rfl (fun c1 => ?_) (fun c1 => ?_)
 ·try simp only [sx, List.length_map] at c1
  refine zB rfl ?_
  refine zA rfl rfl (zJ rfl yI rfl) ?_
  refine zA rfl rfl (zK rfl kH rfl (zP 2 rfl) rfl) ?_
  refine zA rfl rfl (zF rfl rfl) ?_
  refine zA rfl rfl (zF rfl rfl) ?_
  refine zA rfl rfl (yE rfl zr75 pl75 rfl) ?_
  refine zA rfl rfl (yF rfl el27 zr75 rfl rfl rfl rfl) ?_
  refine qC rfl rfl (yO 1 rfl el27 rfl rfl rfl (by have := sumW_len d; simp only [List.length_map, List.length_append, List.length_cons, List.length_nil]; omega) (by have := sumW_len d; simp only [List.length_map, List.length_append, List.length_cons, List.length_nil]; omega)) ?_
  rintro _ _ ⟨sv1, rfl, rfl⟩
  refine zA rfl rfl (zJ rfl yI rfl) ?_
  refine zY rfl rfl (zU rfl sz27 rfl rfl rfl (qI 2 rfl rfl)) ?_
  refine zH ?_
  repeat (first | refine then_exit ?_ | refine block_exit ?_)
  refine fin_end <| fin0 ?_
  exact ⟨rfl, _, by rw [okF_next, sumW_next, if_neg (show ¬ w64 (trV t) = 0 from c1), List.map_append]; rfl⟩
 ·try simp only [sx, List.length_map] at c1
  refine zT ?_
  repeat (first | refine then_exit ?_ | refine block_exit ?_)
  refine fin_end <| fin0 ?_
  exact ⟨rfl, _, by rw [okF_next, sumW_next, if_pos (show w64 (trV t) = 0 from c1), List.append_nil]; rfl⟩

theorem lin_Add (a b : Lf) (ha : a.L.length ≤ 4294967296) (hb : b.L.length ≤ 4294967296) (hra : a.rng) (hrb : b.rng) :
    Pur cfg 154 [vLin a, vLin b] (.tup [vLin (addL a b).1, vI (addL a b).2]) := by
 refine zZ Tryz.func154 rfl Tryz.ntmps154 Tryz.results154 rfl ?_
 intro z hz
 refine zE ?_
 refine zB rfl ?_
 refine qC rfl rfl (qN rfl rfl) ?_
 rintro _ _ ⟨b1, rfl, rfl⟩
 refine qC rfl rfl (qN rfl rfl) ?_
 rintro _ _ ⟨b2, rfl, rfl⟩
 refine qC rfl rfl (qH [none, some 2] rfl zr29 rfl) ?_
 rintro _ _ ⟨b3, rfl, rfl⟩
 refine zA rfl rfl (zC rfl rfl) ?_
 refine zH ?_
 refine zE ?_
 refine zE ?_
 refine zB rfl ?_
 refine zA rfl rfl (zQ rfl yB rfl (zP 2 rfl) rfl) ?_
 refine zA rfl rfl (zW rfl ok151 (lin_Validate a (by omega)) ⟨VLe.refl _, rfl, trivial⟩) ?_
 refine zA rfl rfl (qV rfl rfl rfl) ?_
 refine zA rfl rfl (zF rfl rfl) ?_
 refine zN [] rfl rfl rfl rfl gv1 trivial (fun g1_3 => zQ rfl yB rfl (zP 1 rfl) rfl) rfl ?_
 refine zN [(12, _)] rfl rfl rfl rfl gv1 ⟨rfl, rfl, trivial⟩ (fun g1_3 => zW rfl ok151 (lin_Validate b (by omega)) ⟨VLe.refl _, rfl, trivial⟩) rfl ?_
 refine zN [(13, _)] rfl rfl rfl rfl gv1 ⟨rfl, rfl, trivial⟩ (fun g1_3 => qV rfl rfl rfl) rfl ?_
 refine zA rfl rfl (yD rfl rfl rfl rfl (fun h => (lzf h))) ?_
 refine zH ?_
 refine zR rfl (fun c1 => ?_) (fun c1 => ?_)
 ·try simp only [sx, List.length_map] at c1
  refine zE ?_
  refine zB rfl ?_
  refine zA rfl rfl (qO [none, some 2] rfl zr29 pl29 rfl rfl) ?_
  refine zY rfl rfl (zU rfl sz29 rfl rfl rfl (qI 0 rfl rfl)) ?_
  refine zA rfl rfl (zC rfl rfl) ?_
  refine zH ?_
  refine zS ?_
  repeat (first | refine zO ?_ | refine zM ?_)
  refine fin2 (qD yB rfl (zP 0 rfl) rfl) (rs_c rfl) ?_
  rw [add_c1 c1]; rfl
 ·try simp only [sx, List.length_map] at c1
  have hla := linErr_yes c1.1
  have hlb := linErr_yes c1.2
  refine zT ?_
  refine zE ?_
  refine zB rfl ?_
  refine qC rfl rfl (kK rfl zr29) ?_
  rintro _ _ ⟨b4, rfl, rfl⟩
  refine yN _ (kI 75 2) ?_
  refine zH ?_
  refine zE ?_
  refine zB rfl ?_
  refine qC rfl rfl (kK rfl zr4) ?_
  rintro _ _ ⟨b6, rfl, rfl⟩
  refine zH ?_
  refine zE ?_
  refine zB rfl ?_
  refine zA rfl rfl (zJ rfl fd29_0 rfl) ?_
  refine zA rfl rfl (zK rfl one2 rfl (zP 5 rfl) rfl) ?_
  refine zA rfl rfl (zJ rfl fd29_0 rfl) ?_
  refine zA rfl rfl (zK rfl one2 rfl (zP 4 rfl) rfl) ?_
  refine zA rfl rfl (zW rfl ok205 (lin_plus a.K b.K hra.1 hrb.1) ⟨VLe.refl _, rfl, VLe.refl _, rfl, trivial⟩) ?_
  refine zA rfl rfl (qT rfl rfl) ?_
  refine zA rfl rfl (qX rfl rfl rfl) ?_
  refine zA rfl rfl (qX rfl rfl rfl) ?_
  refine zA rfl rfl (zJ rfl fd29_0 rfl) ?_
  refine zY rfl rfl (zU rfl sz2 rfl rfl rfl (qI 2 rfl rfl)) ?_
  refine zY rfl rfl (zU rfl sz4 rfl rfl rfl (qI 0 rfl rfl)) ?_
  refine zH ?_
  refine zE ?_
  refine zB rfl ?_
  refine zA rfl rfl (zJ rfl yI rfl) ?_
  refine zA rfl rfl (zK rfl kH rfl (zP 5 rfl) rfl) ?_
  refine zA rfl rfl (zJ rfl yI rfl) ?_
  refine zA rfl rfl (zK rfl kH rfl (zP 4 rfl) rfl) ?_
  refine zA rfl rfl (det_func rfl rfl rfl rfl rfl) ?_
  refine qC rfl rfl (ope_call rfl ok206 (Con.frame (merge_con a.L b.L ha hb _ (fun d m => ∃ sv, m = [E.row b6 4 [cB (okF (decide (r64 (a.K + b.K))) (d))], E.vec sv 75 2 ((sumW (d)).map Mono.cells), E.row b4 29 [cI (w64 (a.K + b.K)), .lit sv]]) _ (fun d t s m he hj => by obtain ⟨sv, rfl⟩ := hj; obtain ⟨k1, k2, k3⟩ := merge_rng hra.2 hrb.2 he; exact FnCon.of_con (first := []) (cap := [.lit (.pointer (some ⟨b6, 0, none⟩)), .lit (.pointer (some ⟨b4, 0, none⟩))]) ok207 (lin_Add_1 b6 b4 (decide (r64 (a.K + b.K))) (w64 (a.K + b.K)) sv d t k1 k2 (by omega))) ⟨_, rfl⟩) _) ⟨VLe.refl _, rfl, VLe.refl _, rfl, VLe.refl _, rfl, trivial⟩) ?_
  rintro _ _ ⟨_, ⟨rfl, sv7, rfl⟩, rfl⟩
  refine zH ?_
  refine zE ?_
  refine zE ?_
  refine zB rfl ?_
  refine zA rfl rfl (zK rfl one4 rfl (zP 0 rfl) rfl) ?_
  refine zA rfl rfl (qY rfl rfl) ?_
  refine zH ?_
  refine zR rfl (fun c2 => ?_) (fun c2 => ?_)
  ·try simp only [sx, List.length_map] at c2
   refine zE ?_
   refine zB rfl ?_
   refine zA rfl rfl (qO [none, some 2] rfl zr29 pl29 rfl rfl) ?_
   refine zY rfl rfl (zU rfl sz29 rfl rfl rfl (qI 3 rfl rfl)) ?_
   refine zA rfl rfl (zC rfl rfl) ?_
   refine zH ?_
   refine zS ?_
   repeat (first | refine zO ?_ | refine zM ?_)
   refine fin2 (qD yB rfl (zP 3 rfl) rfl) (rs_c rfl) ?_
   rw [add_no hla hlb c2]; rfl
  ·try simp only [sx, List.length_map] at c2
   refine zT ?_
   refine zE ?_
   refine zB rfl ?_
   refine zA rfl rfl (zQ rfl yB rfl (zP 2 rfl) rfl) ?_
   refine zY rfl rfl (zU rfl sz29 rfl rfl rfl (qI 3 rfl rfl)) ?_
   refine zA rfl rfl (zC rfl rfl) ?_
   refine zH ?_
   refine qQ _ (yV 1 rfl (regs' := [(35, .agg [_, _])]) (μ' := [_, _, _, _, _]) ⟨FLe.agg ⟨.inl rfl, .inr ⟨rfl, rfl⟩, trivial⟩, trivial⟩ ⟨EFle.refl _, EFle.row (ds := [_, _]) ⟨.inl rfl, .inr ⟨rfl, rfl⟩, trivial⟩, EFle.row (ds := [_, _]) ⟨.inl rfl, .inr ⟨rfl, rfl⟩, trivial⟩, EFle.refl _, EFle.refl _, trivial⟩) ?_
   refine zS ?_
   repeat (first | refine zO ?_ | refine zM ?_)
   refine fin2 (qD yB rfl (zP 2 rfl) rfl) (rs_c rfl) ?_
   rw [add_ok hla hlb c2]; rfl

theorem lin_Substitute (l : Lf) (s : ByteArray) (u : Lf) (hl : l.L.length ≤ 4294967296) (ht : u.L.length ≤ 4294967296) (hrl : l.rng) (hrt : u.rng) :
    Pur cfg 83 [vLin l, vS s, vLin u] (.tup [vLin (substP l s u).1, vI (substP l s u).2]) := by
 refine zZ Tryz.func83 rfl Tryz.ntmps83 Tryz.results83 rfl ?_
 intro z hz
 obtain ⟨hs1, hs2⟩ := scale_rng u (lastBy l.L s)
 obtain ⟨hr1, hr2⟩ := rest_rng hrl s
 refine zE ?_
 refine zB rfl ?_
 refine qC rfl rfl (qN rfl rfl) ?_
 rintro _ _ ⟨b1, rfl, rfl⟩
 refine qC rfl rfl (qN rfl rfl) ?_
 rintro _ _ ⟨b2, rfl, rfl⟩
 refine qC rfl rfl (qH [none, some 2] rfl zr29 rfl) ?_
 rintro _ _ ⟨b3, rfl, rfl⟩
 refine zA rfl rfl (zC rfl rfl) ?_
 refine zH ?_
 refine zE ?_
 refine zE ?_
 refine zB rfl ?_
 refine zA rfl rfl (zQ rfl yB rfl (zP 2 rfl) rfl) ?_
 refine zA rfl rfl (zW rfl ok151 (lin_Validate l (by omega)) ⟨VLe.refl _, rfl, trivial⟩) ?_
 refine zA rfl rfl (qV rfl rfl rfl) ?_
 refine zA rfl rfl (zF rfl rfl) ?_
 refine zN [] rfl rfl rfl rfl gv1 trivial (fun g1_3 => zF rfl rfl) rfl ?_
 refine zN [(18, _)] rfl rfl rfl rfl gv1 ⟨rfl, rfl, trivial⟩ (fun g1_3 => zW rfl ok152 (lin_identifier s) ⟨VLe.refl _, rfl, trivial⟩) rfl ?_
 refine zN [(19, _)] rfl rfl rfl rfl gv1 ⟨rfl, rfl, trivial⟩ (fun g1_3 => qY rfl rfl) rfl ?_
 refine zA rfl rfl (yD rfl rfl rfl rfl (fun h => (lzf h))) ?_
 refine zA rfl rfl (zF rfl rfl) ?_
 refine zN [] rfl rfl rfl rfl gv1 trivial (fun g1_8 => zQ rfl yB rfl (zP 1 rfl) rfl) rfl ?_
 refine zN [(23, _)] rfl rfl rfl rfl gv1 ⟨rfl, rfl, trivial⟩ (fun g1_8 => zW rfl ok151 (lin_Validate u (by omega)) ⟨VLe.refl _, rfl, trivial⟩) rfl ?_
 refine zN [(24, _)] rfl rfl rfl rfl gv1 ⟨rfl, rfl, trivial⟩ (fun g1_8 => qV rfl rfl rfl) rfl ?_
 refine zA rfl rfl (yD rfl rfl rfl rfl (fun h => (lzf h))) ?_
 refine zH ?_
 refine zR rfl (fun c1 => ?_) (fun c1 => ?_)
 ·try simp only [sx, List.length_map] at c1
  refine zE ?_
  refine zB rfl ?_
  refine zA rfl rfl (qO [none, some 2] rfl zr29 pl29 rfl rfl) ?_
  refine zY rfl rfl (zU rfl sz29 rfl rfl rfl (qI 0 rfl rfl)) ?_
  refine zA rfl rfl (zC rfl rfl) ?_
  refine zH ?_
  refine zS ?_
  repeat (first | refine zO ?_ | refine zM ?_)
  refine fin2 (qD yB rfl (zP 0 rfl) rfl) (rs_c rfl) ?_
  rw [subst_c1 c1]; rfl
 ·try simp only [sx, List.length_map] at c1
  refine zT ?_
  refine zE ?_
  refine zB rfl ?_
  refine zA rfl rfl (zJ rfl fd29_0 rfl) ?_
  refine zA rfl rfl (zK rfl one2 rfl (zP 2 rfl) rfl) ?_
  refine zA rfl rfl (yE rfl zr29 pl29 rfl) ?_
  refine qC rfl rfl (kK rfl zr29) ?_
  rintro _ _ ⟨b4, rfl, rfl⟩
  refine yN _ (kI 75 2) ?_
  refine zY rfl rfl (zU rfl sz29 rfl rfl rfl (qI 1 rfl rfl)) ?_
  refine zH ?_
  refine zE ?_
  refine zB rfl ?_
  refine zA rfl rfl (zC rfl rfl) ?_
  refine zH ?_
  refine zE ?_
  refine zE ?_
  refine zB rfl ?_
  refine zA rfl rfl (zJ rfl yI rfl) ?_
  refine zA rfl rfl (zK rfl kH rfl (zP 4 rfl) rfl) ?_
  refine zA rfl rfl (qB rfl el27 rfl) ?_
  refine zA rfl rfl (zF rfl rfl) ?_
  refine zH ?_
  refine qA ?_
  refine qQ ⟨[(34, .c _), (9, .c _), (1, .c _), (5, .c _), (6, .c _), (8, .c _), (32, .c _), (33, .c _)], [_, _, _, _]⟩ (Weak.mk [true, true, true, true, false] ⟨VLe.of_eq rfl, VLe.of_eq rfl, VLe.of_eq rfl, VLe.of_eq rfl, VLe.of_eq rfl, VLe.of_eq rfl, VLe.of_eq rfl, VLe.of_eq rfl, trivial⟩ rfl) ?_
  refine qR 2 2 rfl rfl (Nat × Value) (fun ⟨k, sv⟩ => [(34, vI k), (9, vI (lastBy (l.L.take k) s))]) (fun ⟨k, sv⟩ => [E.vec sv 75 2 (((l.L.take k).filter (fun m => !decide (m.Name = s))).map Mono.cells), E.row b4 29 [cI l.K, .lit sv]]) (fun ⟨k, sv⟩ => k ≤ l.L.length) (fun ⟨k, sv⟩ => l.L.length - k) ⟨⟨0, _⟩, (by omega), Weak.mk [true, true, true, true] ⟨VLe.refl _, VLe.of_eq (rfl), VLe.refl _, VLe.refl _, VLe.refl _, VLe.refl _, VLe.refl _, VLe.refl _, trivial⟩ rfl⟩ ?_
  rintro ⟨k, sv⟩ hk
  show AWP _ _ _ _ _ ⟨[(34, vI k), (9, vI (lastBy (l.L.take k) s))] ++ _, [E.vec sv 75 2 (((l.L.take k).filter (fun m => !decide (m.Name = s))).map Mono.cells), E.row b4 29 [cI l.K, .lit sv]] ++ _⟩
  refine zE ?_
  refine zB rfl ?_
  refine zA rfl rfl (qS rfl rfl rfl) ?_
  refine zH ?_
  refine zE ?_
  refine zR rfl (fun c2 => ?_) (fun c2 => ?_)
  ·try simp only [sx, List.length_map] at c2
   obtain ⟨x, hx⟩ := yL l.L k (by omega)
   refine zT ?_
   refine zE ?_
   refine qA ?_
   refine zE ?_
   refine zB rfl ?_
   refine zA rfl rfl (zX rfl el27 rfl rfl (by omega) (getm (by assumption))) ?_
   refine zA rfl rfl (zQ rfl agg75 rfl qK rfl) ?_
   refine qC rfl rfl (kK rfl zr75) ?_
   rintro _ _ ⟨b6, rfl, rfl⟩
   refine zY rfl rfl (zU rfl sz75 rfl rfl rfl (qI 0 rfl rfl)) ?_
   refine zH ?_
   refine zE ?_
   refine zE ?_
   refine zB rfl ?_
   refine zA rfl rfl (zJ rfl fd75_0 rfl) ?_
   refine zA rfl rfl (zK rfl one9 rfl (zP 0 rfl) rfl) ?_
   refine zA rfl rfl (zF rfl rfl) ?_
   refine zA rfl rfl (yJ rfl rfl rfl) ?_
   refine zH ?_
   refine zR rfl (fun c3 => ?_) (fun c3 => ?_)
   ·try simp only [sx, List.length_map] at c3
    refine zE ?_
    refine zB rfl ?_
    refine zA rfl rfl (zJ rfl fd75_1 rfl) ?_
    refine zA rfl rfl (zK rfl one2 rfl (zP 0 rfl) rfl) ?_
    refine zA rfl rfl (zC rfl rfl) ?_
    refine zH ?_
    refine qU ?_
    refine zB rfl ?_
    refine zA rfl rfl (qL rfl rfl rfl ⟨by omega, by omega⟩) ?_
    refine zA rfl rfl (zF rfl rfl) ?_
    refine zH ?_
    refine ⟨⟨k + 1, _⟩, (by omega), (by show l.L.length - (k + 1) < l.L.length - k; omega), Weak.mk [false, true, true, true, true] ⟨VLe.refl _, VLe.of_eq (by rw [lastBy_next hx]; first | (rw [if_pos c3]; rfl) | (rw [if_neg c3]; rfl)), VLe.refl _, VLe.refl _, VLe.refl _, VLe.refl _, VLe.refl _, VLe.refl _, trivial⟩ (by exact mem2c_eq (by rw [rest_next hx]; first | (rw [if_pos c3, List.append_nil]) | (rw [if_neg c3, List.map_append]; rfl)))⟩
   ·try simp only [sx, List.length_map] at c3
    refine zT ?_
    refine zB rfl ?_
    refine zA rfl rfl (zJ rfl yI rfl) ?_
    refine zA rfl rfl (zK rfl kH rfl (zP 2 rfl) rfl) ?_
    refine zA rfl rfl (zQ rfl agg75 rfl (zP 0 rfl) rfl) ?_
    refine zA rfl rfl (yF rfl el27 zr75 rfl rfl rfl rfl) ?_
    refine qC rfl rfl (yO 1 rfl el27 rfl rfl rfl (by have := List.length_filter_le (fun m : Mono => !decide (m.Name = s)) (l.L.take k); simp only [List.length_map, List.length_append, List.length_cons, List.length_nil, List.length_take] at *; omega) (by have := List.length_filter_le (fun m : Mono => !decide (m.Name = s)) (l.L.take k); simp only [List.length_map, List.length_append, List.length_cons, List.length_nil, List.length_take] at *; omega)) ?_
    rintro _ _ ⟨sv7, rfl, rfl⟩
    refine zA rfl rfl (zJ rfl yI rfl) ?_
    refine zY rfl rfl (zU rfl sz27 rfl rfl rfl (qI 2 rfl rfl)) ?_
    refine zH ?_
    refine zB rfl ?_
    refine zA rfl rfl (qL rfl rfl rfl ⟨by omega, by omega⟩) ?_
    refine zA rfl rfl (zF rfl rfl) ?_
    refine zH ?_
    refine ⟨⟨k + 1, _⟩, (by omega), (by show l.L.length - (k + 1) < l.L.length - k; omega), Weak.mk [false, true, true, true, true] ⟨VLe.refl _, VLe.of_eq (by rw [lastBy_next hx]; first | (rw [if_pos c3]; rfl) | (rw [if_neg c3]; rfl)), VLe.refl _, VLe.refl _, VLe.refl _, VLe.refl _, VLe.refl _, VLe.refl _, trivial⟩ (by exact mem2c_eq (by rw [rest_next hx]; first | (rw [if_pos c3, List.append_nil]) | (rw [if_neg c3, List.map_append]; rfl)))⟩
  ·try simp only [sx, List.length_map] at c2
   rw [kJ (l := l.L) (k := k) (by omega)]
   refine qU ?_
   refine zE ?_
   refine zB rfl ?_
   refine zA rfl rfl (zQ rfl yB rfl (zP 3 rfl) rfl) ?_
   refine zA rfl rfl (zF rfl rfl) ?_
   refine zA rfl rfl (zW rfl ok153 (lin_Scale u (lastBy l.L s) ht hrt (last_rng hrl s)) ⟨VLe.refl _, rfl, VLe.refl _, rfl, trivial⟩) ?_
   refine zA rfl rfl (qT rfl rfl) ?_
   refine zA rfl rfl (yH rfl rfl rfl) ?_
   refine zA rfl rfl (qX rfl rfl rfl) ?_
   refine qC rfl rfl (qH [none, some 2] rfl zr29 rfl) ?_
   rintro _ _ ⟨b8, rfl, rfl⟩
   refine zY rfl rfl (zU rfl sz29 rfl rfl rfl (qI 0 rfl rfl)) ?_
   refine zA rfl rfl (zC rfl rfl) ?_
   refine zH ?_
   refine zE ?_
   refine zE ?_
   refine zB rfl ?_
   refine zA rfl rfl (zF rfl rfl) ?_
   refine zA rfl rfl (qV rfl rfl rfl) ?_
   refine zH ?_
   refine zR rfl (fun c4 => ?_) (fun c4 => ?_)
   ·try simp only [sx, List.length_map] at c4
    refine zE ?_
    refine zB rfl ?_
    refine zA rfl rfl (qO [none, some 2] rfl zr29 pl29 rfl rfl) ?_
    refine zA rfl rfl (zF rfl rfl) ?_
    refine zY rfl rfl (zU rfl sz29 rfl rfl rfl (qI 3 rfl rfl)) ?_
    refine zA rfl rfl (zC rfl rfl) ?_
    refine zH ?_
    refine zS ?_
    repeat (first | refine zO ?_ | refine zM ?_)
    refine fin2 (qD yB rfl (zP 3 rfl) rfl) (rs_c rfl) ?_
    rw [subst_c4 c1 c4]; rfl
   ·try simp only [sx, List.length_map] at c4
    refine qQ _ (yV 1 rfl (regs' := []) (μ' := [_, _, _, _]) trivial ⟨EFle.refl _, EFle.row (ds := [_, _]) ⟨.inl rfl, .inr ⟨rfl, rfl⟩, trivial⟩, EFle.refl _, EFle.refl _, trivial⟩) ?_
    refine zT ?_
    refine zE ?_
    refine zB rfl ?_
    refine zA rfl rfl (zQ rfl yB rfl (zP 1 rfl) rfl) ?_
    refine zA rfl rfl (zQ rfl yB rfl (zP 0 rfl) rfl) ?_
    refine zA rfl rfl (zW rfl ok154 (lin_Add (restL l s) (scaleL u (lastBy l.L s)).1 (by omega) (by omega) hr1 hs1) ⟨VLe.refl _, rfl, VLe.refl _, rfl, trivial⟩) ?_
    refine zA rfl rfl (yH rfl rfl rfl) ?_
    refine zA rfl rfl (qX rfl rfl rfl) ?_
    refine zY rfl rfl (zU rfl sz29 rfl rfl rfl (qI 2 rfl rfl)) ?_
    refine zA rfl rfl (zC rfl rfl) ?_
    refine zH ?_
    refine zS ?_
    repeat (first | refine zO ?_ | refine zM ?_)
    refine fin2 (qD yB rfl (zP 2 rfl) rfl) (rs_c rfl) ?_
    rw [subst_ok c1 c4]; rfl

end Go.W
