/-
  Walks: what functions of the program compute. Printed by wip/gen/mk2.py.
  Conditions: none.
-/
import Derived.Test.YtnnkemdiknefaaaGreatDoorWZ
import Derived.Test.YtnnkemdiknefaaaGreatDoorPlain2
import Derived.Test.YtnnkemdiknefaaaGreatDoorEngZ
set_option linter.unusedSimpArgs false
set_option linter.unusedVariables false
namespace Go.W
open Go Go.Eng Go.Proofs Go.L41 Go.Br
attribute [local irreducible] AWP RWP TD
theorem ok25 : callOk Tryz.prog 25 = true := by kernel_rfl
theorem ok84 : callOk Tryz.prog 84 = true := by kernel_rfl
theorem ok85 : callOk Tryz.prog 85 = true := by kernel_rfl
theorem ok155 : callOk Tryz.prog 155 = true := by kernel_rfl
theorem ok156 : callOk Tryz.prog 156 = true := by kernel_rfl
theorem ref14_sum (a b : Lf) (c : Int) (ha : a.L.length ≤ 4294967296) (hb : b.L.length ≤ 4294967296) (hra : a.rng) (hrb : b.rng) (hc : r64 c) (hne : ∀ m, m ∈ a.L → m.By ≠ 0) :
    Pur cfg 156 [vLin a, vLin b, vI c] (.tup [vLin (addT (a.K + b.K * c) (mulT c (mergeL a.L b.L))).1, vI (addT (a.K + b.K * c) (mulT c (mergeL a.L b.L))).2]) := by
 refine con_intro Tryz.func156 rfl Tryz.ntmps156 Tryz.results156 rfl ?_
 intro z hz
 have z0 : r64 0 := by unfold r64; omega
 refine awp_seq ?_
 refine awp_region rfl ?_
 refine rwp_op rfl rfl (ope_box rfl rfl) ?_
 rintro _ _ ⟨b1, rfl, rfl⟩
 refine rwp_op rfl rfl (ope_box rfl rfl) ?_
 rintro _ _ ⟨b2, rfl, rfl⟩
 refine rwp_op rfl rfl (ope_allocN [none, some 2] rfl zr29 rfl) ?_
 rintro _ _ ⟨b3, rfl, rfl⟩
 refine rwp_det rfl rfl (det_assign rfl rfl) ?_
 refine rwp_nil ?_
 refine awp_seq ?_
 refine awp_region rfl ?_
 refine rwp_det rfl rfl (det_field_lit rfl fd29_0 rfl) ?_
 refine rwp_det rfl rfl (det_load_one rfl one2 rfl (ptr_row 2 rfl) rfl) ?_
 refine rwp_det rfl rfl (det_field_lit rfl fd29_0 rfl) ?_
 refine rwp_det rfl rfl (det_load_one rfl one2 rfl (ptr_row 1 rfl) rfl) ?_
 refine rwp_det rfl rfl (det_move rfl rfl) ?_
 refine rwp_det rfl rfl (det_call rfl ok208 (ref14_both a.K b.K c hra.1 hrb.1 hc) ⟨VLe.refl _, rfl, VLe.refl _, rfl, VLe.refl _, rfl, trivial⟩) ?_
 refine rwp_det rfl rfl (det_move_tup rfl rfl) ?_
 refine rwp_det rfl rfl (det_ex_c rfl rfl rfl) ?_
 refine rwp_det rfl rfl (det_ex_c rfl rfl rfl) ?_
 refine rwp_det rfl rfl (det_assign rfl rfl) ?_
 refine rwp_det rfl rfl (det_assign rfl rfl) ?_
 refine rwp_nil ?_
 refine awp_seq ?_
 refine awp_region rfl ?_
 refine rwp_det rfl rfl (det_move rfl rfl) ?_
 refine rwp_det rfl rfl (det_build rfl zr29 pl29 rfl) ?_
 refine rwp_op rfl rfl (ope_alloc rfl zr29) ?_
 rintro _ _ ⟨b4, rfl, rfl⟩
 refine rwp_weak _ (weak_own 75 2) ?_
 refine rwp_det0 rfl rfl (det_store rfl sz29 rfl rfl rfl (st_row 1 rfl rfl)) ?_
 refine rwp_nil ?_
 refine awp_seq ?_
 refine awp_region rfl ?_
 refine rwp_det rfl rfl (det_assign rfl rfl) ?_
 refine rwp_det rfl rfl (det_assign rfl rfl) ?_
 refine rwp_nil ?_
 refine awp_seq ?_
 refine awp_block ?_
 refine awp_weak ⟨[(9, .c _), (11, .c _), (12, .c _), (2, .c _), (3, .c _), (4, .c _), (6, .c _), (10, .c _)], [_, _, _, _, _]⟩ (Weak.mk [true, true, true, true, true] ⟨VLe.of_eq rfl, VLe.of_eq rfl, VLe.of_eq rfl, VLe.of_eq rfl, VLe.of_eq rfl, VLe.of_eq rfl, VLe.of_eq rfl, VLe.of_eq rfl, trivial⟩ rfl) ?_
 refine awp_loop_k 3 2 rfl rfl (Nat × Nat × List Tr × Value) (fun ⟨i, n, d, sv⟩ => [(9, vB (okF (decide (r64 (a.K + b.K * c))) (mulT c d))), (11, vI i), (12, vI n)]) (fun ⟨i, n, d, sv⟩ => [E.vec sv 75 2 ((sumW (mulT c d)).map Mono.cells), E.row b4 29 [cI (w64 (a.K + b.K * c)), .lit sv]]) (fun ⟨i, n, d, sv⟩ => i ≤ a.L.length ∧ n ≤ b.L.length ∧ mergeL a.L b.L = d ++ mergeL (a.L.drop i) (b.L.drop n)) (fun ⟨i, n, d, sv⟩ => (a.L.length - i) + (b.L.length - n)) ⟨⟨0, 0, [], .slice none 0 0⟩, ⟨by omega, by omega, rfl⟩, Weak.mk [true, true, true, true, true] ⟨VLe.refl _, VLe.refl _, VLe.refl _, VLe.refl _, VLe.refl _, VLe.refl _, VLe.refl _, VLe.refl _, trivial⟩ rfl⟩ ?_
 rintro ⟨i, n, d, sv⟩ ⟨hia, hnb, hm⟩
 show AWP _ _ _ _ _ ⟨[(9, vB (okF (decide (r64 (a.K + b.K * c))) (mulT c d))), (11, vI i), (12, vI n)] ++ _, [E.vec sv 75 2 ((sumW (mulT c d)).map Mono.cells), E.row b4 29 [cI (w64 (a.K + b.K * c)), .lit sv]] ++ _⟩
 refine awp_seq ?_
 refine awp_seq ?_
 refine awp_region rfl ?_
 refine rwp_det rfl rfl (det_move rfl rfl) ?_
 refine rwp_det rfl rfl (det_field_lit rfl fd29_1 rfl) ?_
 refine rwp_det rfl rfl (det_load_one rfl one27 rfl (ptr_row 4 rfl) rfl) ?_
 refine rwp_det rfl rfl (det_len_slm rfl el27 rfl) ?_
 refine rwp_det rfl rfl (det_lss rfl rfl rfl) ?_
 refine rwp_det rfl rfl (det_move rfl rfl) ?_
 refine rwp_lazy [] rfl rfl rfl rfl gv1 trivial (fun g4_5 => det_move rfl rfl) rfl ?_
 refine rwp_lazy [] rfl rfl rfl rfl gv1 trivial (fun g4_5 => det_field_lit rfl fd29_1 rfl) rfl ?_
 refine rwp_lazy [(36, _)] rfl rfl rfl rfl gv1 ⟨rfl, rfl, trivial⟩ (fun g4_5 => det_load_one rfl one27 rfl (ptr_row 3 rfl) rfl) rfl ?_
 refine rwp_lazy [(37, _)] rfl rfl rfl rfl gv1 ⟨rfl, rfl, trivial⟩ (fun g4_5 => det_len_slm rfl el27 rfl) rfl ?_
 refine rwp_lazy [(35, _), (38, _)] rfl rfl rfl rfl gv1 ⟨rfl, rfl, rfl, rfl, trivial⟩ (fun g4_5 => det_lss rfl rfl rfl) rfl ?_
 refine rwp_det rfl rfl (det_or rfl rfl rfl rfl (fun h => (lzf h))) ?_
 refine rwp_nil ?_
 refine awp_cond rfl (fun c1 => ?_) (fun c1 => ?_)
 ·try simp only [sx, List.length_map] at c1
  refine awp_skip ?_
  refine awp_block ?_
  refine awp_seq ?_
  refine awp_region rfl ?_
  refine rwp_det rfl rfl (det_assign rfl rfl) ?_
  refine rwp_det rfl rfl (det_assign rfl rfl) ?_
  refine rwp_det rfl rfl (det_assign rfl rfl) ?_
  refine rwp_nil ?_
  refine awp_seq ?_
  refine awp_seq ?_
  refine awp_draw 27 mixed (by kernel_rfl) rfl rfl ?_
  refine td_det rfl rfl (det_move rfl rfl) ?_
  refine td_det rfl rfl (det_field_lit rfl fd29_1 rfl) ?_
  refine td_det rfl rfl (det_load_one rfl one27 rfl (ptr_row 3 rfl) rfl) ?_
  refine td_det rfl rfl (det_len_slm rfl el27 rfl) ?_
  refine td_det rfl rfl (det_eql rfl rfl rfl) ?_
  refine td_det rfl rfl (det_move rfl rfl) ?_
  refine td_lazy [] rfl rfl rfl rfl gv1 trivial (fun g6_5 => det_move rfl rfl) rfl ?_
  refine td_lazy [] rfl rfl rfl rfl gv1 trivial (fun g6_5 => det_field_lit rfl fd29_1 rfl) rfl ?_
  refine td_lazy [(48, _)] rfl rfl rfl rfl gv1 ⟨rfl, rfl, trivial⟩ (fun g6_5 => det_load_one rfl one27 rfl (ptr_row 4 rfl) rfl) rfl ?_
  refine td_lazy [(49, _)] rfl rfl rfl rfl gv1 ⟨rfl, rfl, trivial⟩ (fun g6_5 => det_len_slm rfl el27 rfl) rfl ?_
  refine td_lazy [(47, _), (50, _)] rfl rfl rfl rfl gv1 ⟨rfl, rfl, rfl, rfl, trivial⟩ (fun g6_5 => det_lss rfl rfl rfl) rfl ?_
  refine td_lazy [(51, _)] rfl rfl rfl rfl gv1 ⟨rfl, rfl, trivial⟩ (fun g6_5 => det_move rfl rfl) rfl ?_
  refine td_lazy [] rfl rfl rfl rfl gv2 trivial (fun g6_11 => det_field_lit rfl fd29_1 rfl) rfl ?_
  refine td_lazy [(53, _)] rfl rfl rfl rfl gv2 ⟨rfl, rfl, trivial⟩ (fun g6_11 => det_load_one rfl one27 rfl (ptr_row 4 rfl) rfl) rfl ?_
  refine td_lazy [] rfl rfl rfl rfl gv2 trivial (fun g6_11 => det_move rfl rfl) rfl ?_
  refine td_lazy [(54, _), (55, _)] rfl rfl rfl rfl gv2 ⟨rfl, rfl, rfl, rfl, trivial⟩ (fun g6_11 => det_index_sl rfl el27 rfl rfl (by simp only [Lz, cond_true, cond_false, Bool.and_eq_true, Bool.or_eq_true, Bool.not_eq_true', Bool.not_eq_false', Bool.or_eq_false_iff, Bool.and_eq_false_iff, decide_eq_true_eq, decide_eq_false_iff_not, Bool.not_eq_true, Bool.not_eq_false] at g6_11; omega) (getm (at_get (by simp only [Lz, cond_true, cond_false, Bool.and_eq_true, Bool.or_eq_true, Bool.not_eq_true', Bool.not_eq_false', Bool.or_eq_false_iff, Bool.and_eq_false_iff, decide_eq_true_eq, decide_eq_false_iff_not, Bool.not_eq_true, Bool.not_eq_false] at g6_11; omega)))) rfl ?_
  refine td_lazy [(56, _)] rfl rfl rfl rfl gv2 ⟨rfl, rfl, trivial⟩ (fun g6_11 => det_field_imm rfl fd75_0 rfl) rfl ?_
  refine td_lazy [(57, _)] rfl rfl rfl rfl gv2 ⟨rfl, rfl, trivial⟩ (fun g6_11 => det_load_one rfl one9 rfl ptr_imm rfl) rfl ?_
  refine td_lazy [] rfl rfl rfl rfl gv2 trivial (fun g6_11 => det_field_lit rfl fd29_1 rfl) rfl ?_
  refine td_lazy [(59, _)] rfl rfl rfl rfl gv2 ⟨rfl, rfl, trivial⟩ (fun g6_11 => det_load_one rfl one27 rfl (ptr_row 3 rfl) rfl) rfl ?_
  refine td_lazy [] rfl rfl rfl rfl gv2 trivial (fun g6_11 => det_move rfl rfl) rfl ?_
  refine td_lazy [(60, _), (61, _)] rfl rfl rfl rfl gv2 ⟨rfl, rfl, rfl, rfl, trivial⟩ (fun g6_11 => det_index_sl rfl el27 rfl rfl (by simp only [Lz, cond_true, cond_false, Bool.and_eq_true, Bool.or_eq_true, Bool.not_eq_true', Bool.not_eq_false', Bool.or_eq_false_iff, Bool.and_eq_false_iff, decide_eq_true_eq, decide_eq_false_iff_not, Bool.not_eq_true, Bool.not_eq_false] at g6_11; omega) (getm (at_get (by simp only [Lz, cond_true, cond_false, Bool.and_eq_true, Bool.or_eq_true, Bool.not_eq_true', Bool.not_eq_false', Bool.or_eq_false_iff, Bool.and_eq_false_iff, decide_eq_true_eq, decide_eq_false_iff_not, Bool.not_eq_true, Bool.not_eq_false] at g6_11; omega)))) rfl ?_
  refine td_lazy [(62, _)] rfl rfl rfl rfl gv2 ⟨rfl, rfl, trivial⟩ (fun g6_11 => det_field_imm rfl fd75_0 rfl) rfl ?_
  refine td_lazy [(63, _)] rfl rfl rfl rfl gv2 ⟨rfl, rfl, trivial⟩ (fun g6_11 => det_load_one rfl one9 rfl ptr_imm rfl) rfl ?_
  refine td_lazy [(58, _), (64, _)] rfl rfl rfl rfl gv2 ⟨rfl, rfl, rfl, rfl, trivial⟩ (fun g6_11 => det_sleq rfl rfl rfl) rfl ?_
  refine td_lazy [(52, _)] rfl rfl rfl rfl gv1 ⟨rfl, rfl, trivial⟩ (fun g6_5 => det_and rfl rfl rfl (fun h => and_mk (by assumption) h) rfl) rfl ?_
  refine td_det rfl rfl (det_or rfl rfl rfl rfl (fun h => (lzf h))) ?_
  refine td_nil ?_
  refine rwp_nil ?_
  refine awp_cond rfl (fun c2 => ?_) (fun c2 => ?_)
  ·have hi := sum_t (a := a.L) (b := b.L) (i := i) (n := n) (by omega) hnb c2
   refine awp_seq ?_
   refine awp_region rfl ?_
   refine rwp_det rfl rfl (det_field_lit rfl fd29_1 rfl) ?_
   refine rwp_det rfl rfl (det_load_one rfl one27 rfl (ptr_row 4 rfl) rfl) ?_
   refine rwp_det rfl rfl (det_move rfl rfl) ?_
   refine rwp_det rfl rfl (det_index_sl rfl el27 rfl rfl (by omega) (getm (at_get (by omega)))) ?_
   refine rwp_det rfl rfl (det_field_imm rfl fd75_0 rfl) ?_
   refine rwp_det rfl rfl (det_load_one rfl one9 rfl ptr_imm rfl) ?_
   refine rwp_det rfl rfl (det_assign rfl rfl) ?_
   refine rwp_nil ?_
   refine awp_region rfl ?_
   refine rwp_det rfl rfl (det_field_lit rfl fd29_1 rfl) ?_
   refine rwp_det rfl rfl (det_load_one rfl one27 rfl (ptr_row 4 rfl) rfl) ?_
   refine rwp_det rfl rfl (det_move rfl rfl) ?_
   refine rwp_det rfl rfl (det_index_sl rfl el27 rfl rfl (by omega) (getm (at_get (by omega)))) ?_
   refine rwp_det rfl rfl (det_field_imm rfl fd75_1 rfl) ?_
   refine rwp_det rfl rfl (det_load_one rfl one2 rfl ptr_imm rfl) ?_
   refine rwp_det rfl rfl (det_assign rfl rfl) ?_
   refine rwp_nil ?_
   refine awp_seq ?_
   refine awp_seq ?_
   refine awp_region rfl ?_
   refine rwp_det rfl rfl (det_move rfl rfl) ?_
   refine rwp_det rfl rfl (det_field_lit rfl fd29_1 rfl) ?_
   refine rwp_det rfl rfl (det_load_one rfl one27 rfl (ptr_row 3 rfl) rfl) ?_
   refine rwp_det rfl rfl (det_len_slm rfl el27 rfl) ?_
   refine rwp_det rfl rfl (det_lss rfl rfl rfl) ?_
   refine rwp_det rfl rfl (det_move rfl rfl) ?_
   refine rwp_lazy [] rfl rfl rfl rfl gv1 trivial (fun g10_5 => det_field_lit rfl fd29_1 rfl) rfl ?_
   refine rwp_lazy [(92, _)] rfl rfl rfl rfl gv1 ⟨rfl, rfl, trivial⟩ (fun g10_5 => det_load_one rfl one27 rfl (ptr_row 3 rfl) rfl) rfl ?_
   refine rwp_lazy [] rfl rfl rfl rfl gv1 trivial (fun g10_5 => det_move rfl rfl) rfl ?_
   refine rwp_lazy [(93, _), (94, _)] rfl rfl rfl rfl gv1 ⟨rfl, rfl, rfl, rfl, trivial⟩ (fun g10_5 => det_index_sl rfl el27 rfl rfl (by simp only [Lz, cond_true, cond_false, Bool.and_eq_true, Bool.or_eq_true, Bool.not_eq_true', Bool.not_eq_false', Bool.or_eq_false_iff, Bool.and_eq_false_iff, decide_eq_true_eq, decide_eq_false_iff_not, Bool.not_eq_true, Bool.not_eq_false] at g10_5; omega) (getm (at_get (by simp only [Lz, cond_true, cond_false, Bool.and_eq_true, Bool.or_eq_true, Bool.not_eq_true', Bool.not_eq_false', Bool.or_eq_false_iff, Bool.and_eq_false_iff, decide_eq_true_eq, decide_eq_false_iff_not, Bool.not_eq_true, Bool.not_eq_false] at g10_5; omega)))) rfl ?_
   refine rwp_lazy [(95, _)] rfl rfl rfl rfl gv1 ⟨rfl, rfl, trivial⟩ (fun g10_5 => det_field_imm rfl fd75_0 rfl) rfl ?_
   refine rwp_lazy [(96, _)] rfl rfl rfl rfl gv1 ⟨rfl, rfl, trivial⟩ (fun g10_5 => det_load_one rfl one9 rfl ptr_imm rfl) rfl ?_
   refine rwp_lazy [] rfl rfl rfl rfl gv1 trivial (fun g10_5 => det_move rfl rfl) rfl ?_
   refine rwp_lazy [(97, _), (98, _)] rfl rfl rfl rfl gv1 ⟨rfl, rfl, rfl, rfl, trivial⟩ (fun g10_5 => det_seql rfl rfl rfl) rfl ?_
   refine rwp_det rfl rfl (det_and rfl rfl rfl (fun h => h) rfl) ?_
   refine rwp_nil ?_
   refine awp_cond rfl (fun c3 => ?_) (fun c3 => ?_)
   ·obtain ⟨hn1, hL⟩ := sum_tt (a := a.L) (b := b.L) (i := i) (n := n) hi c3
    have hm1 : mergeL a.L b.L = (d ++ [((atM a.L i).Name, (atM a.L i).By, (atM b.L n).By)]) ++ mergeL (a.L.drop (i + 1)) (b.L.drop (n + 1)) := by rw [hm, hL]; simp
    refine awp_seq ?_
    refine awp_region rfl ?_
    refine rwp_det rfl rfl (det_field_lit rfl fd29_1 rfl) ?_
    refine rwp_det rfl rfl (det_load_one rfl one27 rfl (ptr_row 3 rfl) rfl) ?_
    refine rwp_det rfl rfl (det_move rfl rfl) ?_
    refine rwp_det rfl rfl (det_index_sl rfl el27 rfl rfl (by omega) (getm (at_get (by omega)))) ?_
    refine rwp_det rfl rfl (det_field_imm rfl fd75_1 rfl) ?_
    refine rwp_det rfl rfl (det_load_one rfl one2 rfl ptr_imm rfl) ?_
    refine rwp_det rfl rfl (det_assign rfl rfl) ?_
    refine rwp_nil ?_
    refine awp_region rfl ?_
    refine rwp_det rfl rfl (det_move rfl rfl) ?_
    refine rwp_det rfl rfl (det_add_nw rfl rfl rfl ⟨by omega, by omega⟩) ?_
    refine rwp_det rfl rfl (det_assign rfl rfl) ?_
    refine rwp_nil ?_
    refine awp_seq ?_
    refine awp_seq ?_
    refine awp_region rfl ?_
    refine rwp_det rfl rfl (det_move rfl rfl) ?_
    refine rwp_det rfl rfl (det_neq rfl rfl rfl) ?_
    refine rwp_nil ?_
    refine awp_cond rfl (fun c4 => ?_) (fun c4 => ?_)
    ·try simp only [sx, List.length_map] at c4
     refine awp_region rfl ?_
     refine rwp_det rfl rfl (det_move rfl rfl) ?_
     refine rwp_det rfl rfl (det_add_nw rfl rfl rfl ⟨by omega, by omega⟩) ?_
     refine rwp_det rfl rfl (det_assign rfl rfl) ?_
     refine rwp_nil ?_
     refine awp_seq ?_
     refine awp_region rfl ?_
     refine rwp_det rfl rfl (det_move rfl rfl) ?_
     refine rwp_det rfl rfl (det_move rfl rfl) ?_
     refine rwp_det rfl rfl (det_move rfl rfl) ?_
     refine rwp_det rfl rfl (det_call rfl ok208 (ref14_both _ _ c (by first | exact z0 | exact hra.2 _ (at_mem hi)) (by first | exact z0 | exact hrb.2 _ (at_mem hn1)) hc) ⟨VLe.refl _, rfl, VLe.refl _, rfl, VLe.refl _, rfl, trivial⟩) ?_
     refine rwp_det rfl rfl (det_move_tup rfl rfl) ?_
     refine rwp_det rfl rfl (det_ex_c rfl rfl rfl) ?_
     refine rwp_det rfl rfl (det_ex_c rfl rfl rfl) ?_
     refine rwp_det rfl rfl (det_assign rfl rfl) ?_
     refine rwp_det rfl rfl (det_assign rfl rfl) ?_
     refine rwp_nil ?_
     refine awp_seq ?_
     refine awp_region rfl ?_
     refine rwp_det rfl rfl (det_move rfl rfl) ?_
     refine rwp_det rfl rfl (det_move rfl rfl) ?_
     refine rwp_lazy [] rfl rfl rfl rfl gv1 trivial (fun g16_1 => det_move rfl rfl) rfl ?_
     refine rwp_det rfl rfl (det_and rfl rfl rfl (fun h => h) rfl) ?_
     refine rwp_det rfl rfl (det_assign rfl rfl) ?_
     refine rwp_nil ?_
     refine awp_seq ?_
     refine awp_region rfl ?_
     refine rwp_det rfl rfl (det_move rfl rfl) ?_
     refine rwp_det rfl rfl (det_neq rfl rfl rfl) ?_
     refine rwp_nil ?_
     refine awp_cond rfl (fun c5 => ?_) (fun c5 => ?_)
     ·try simp only [sx, List.length_map] at c5
      refine awp_region rfl ?_
      refine rwp_det rfl rfl (det_field_lit rfl fd29_1 rfl) ?_
      refine rwp_det rfl rfl (det_load_one rfl one27 rfl (ptr_row 1 rfl) rfl) ?_
      refine rwp_det rfl rfl (det_move rfl rfl) ?_
      refine rwp_det rfl rfl (det_move rfl rfl) ?_
      refine rwp_det rfl rfl (det_build rfl zr75 pl75 rfl) ?_
      refine rwp_det rfl rfl (det_bslice rfl el27 zr75 rfl rfl rfl rfl) ?_
      refine rwp_op rfl rfl (ope_append 0 rfl el27 rfl rfl rfl (by have := sumM_len c d; have := congrArg List.length hm1; have := mergeL_len a.L b.L; simp only [List.length_map, List.length_append, List.length_cons, List.length_nil] at *; omega) (by have := sumM_len c d; have := congrArg List.length hm1; have := mergeL_len a.L b.L; simp only [List.length_map, List.length_append, List.length_cons, List.length_nil] at *; omega)) ?_
      rintro _ _ ⟨sv6, rfl, rfl⟩
      refine rwp_det rfl rfl (det_field_lit rfl fd29_1 rfl) ?_
      refine rwp_det0 rfl rfl (det_store rfl sz27 rfl rfl rfl (st_row 1 rfl rfl)) ?_
      refine rwp_nil ?_
      refine ⟨⟨i + 1, n + 1, d ++ [((atM a.L i).Name, (atM a.L i).By, (atM b.L n).By)], sv6⟩, ⟨by omega, by omega, hm1⟩, (by dsimp only; omega), Weak.mk [true, true, true, true, true] ⟨VLe.of_eq (by rw [mul_next, okF_next]; rfl), VLe.refl _, VLe.refl _, VLe.refl _, VLe.refl _, VLe.refl _, VLe.refl _, VLe.refl _, trivial⟩ (by exact mem2c_eq (by rw [mul_next, sumW_next]; rw [if_neg (show ¬ w64 (trV ((atM a.L i).Name, (atM a.L i).By, (atM b.L n).By * c)) = 0 from c5), List.map_append]; rfl))⟩
     ·try simp only [sx, List.length_map] at c5
      refine awp_skip ?_
      refine ⟨⟨i + 1, n + 1, d ++ [((atM a.L i).Name, (atM a.L i).By, (atM b.L n).By)], sv⟩, ⟨by omega, by omega, hm1⟩, (by dsimp only; omega), Weak.mk [true, true, true, true, true] ⟨VLe.of_eq (by rw [mul_next, okF_next]; rfl), VLe.refl _, VLe.refl _, VLe.refl _, VLe.refl _, VLe.refl _, VLe.refl _, VLe.refl _, trivial⟩ (by exact mem2c_eq (by rw [mul_next, sumW_next]; rw [if_pos (show w64 (trV ((atM a.L i).Name, (atM a.L i).By, (atM b.L n).By * c)) = 0 from c5), List.append_nil]))⟩
    ·try simp only [sx, List.length_map] at c4
     exact absurd c4 (hne _ (at_mem hi))
   ·have hL := sum_tf (a := a.L) (b := b.L) (i := i) (n := n) hi hnb c2 c3
    have hm1 : mergeL a.L b.L = (d ++ [((atM a.L i).Name, (atM a.L i).By, 0)]) ++ mergeL (a.L.drop (i + 1)) (b.L.drop n) := by rw [hm, hL]; simp
    refine awp_skip ?_
    refine awp_seq ?_
    refine awp_seq ?_
    refine awp_region rfl ?_
    refine rwp_det rfl rfl (det_move rfl rfl) ?_
    refine rwp_det rfl rfl (det_neq rfl rfl rfl) ?_
    refine rwp_nil ?_
    refine awp_cond rfl (fun c4 => ?_) (fun c4 => ?_)
    ·try simp only [sx, List.length_map] at c4
     refine awp_region rfl ?_
     refine rwp_det rfl rfl (det_move rfl rfl) ?_
     refine rwp_det rfl rfl (det_add_nw rfl rfl rfl ⟨by omega, by omega⟩) ?_
     refine rwp_det rfl rfl (det_assign rfl rfl) ?_
     refine rwp_nil ?_
     refine awp_seq ?_
     refine awp_region rfl ?_
     refine rwp_det rfl rfl (det_move rfl rfl) ?_
     refine rwp_det rfl rfl (det_move rfl rfl) ?_
     refine rwp_det rfl rfl (det_move rfl rfl) ?_
     refine rwp_det rfl rfl (det_call rfl ok208 (ref14_both _ _ c (by first | exact z0 | exact hra.2 _ (at_mem hi)) (by first | exact z0 | exact hrb.2 _ (at_mem hn1)) hc) ⟨VLe.refl _, rfl, VLe.refl _, rfl, VLe.refl _, rfl, trivial⟩) ?_
     refine rwp_det rfl rfl (det_move_tup rfl rfl) ?_
     refine rwp_det rfl rfl (det_ex_c rfl rfl rfl) ?_
     refine rwp_det rfl rfl (det_ex_c rfl rfl rfl) ?_
     refine rwp_det rfl rfl (det_assign rfl rfl) ?_
     refine rwp_det rfl rfl (det_assign rfl rfl) ?_
     refine rwp_nil ?_
     refine awp_seq ?_
     refine awp_region rfl ?_
     refine rwp_det rfl rfl (det_move rfl rfl) ?_
     refine rwp_det rfl rfl (det_move rfl rfl) ?_
     refine rwp_lazy [] rfl rfl rfl rfl gv1 trivial (fun g16_1 => det_move rfl rfl) rfl ?_
     refine rwp_det rfl rfl (det_and rfl rfl rfl (fun h => h) rfl) ?_
     refine rwp_det rfl rfl (det_assign rfl rfl) ?_
     refine rwp_nil ?_
     refine awp_seq ?_
     refine awp_region rfl ?_
     refine rwp_det rfl rfl (det_move rfl rfl) ?_
     refine rwp_det rfl rfl (det_neq rfl rfl rfl) ?_
     refine rwp_nil ?_
     refine awp_cond rfl (fun c5 => ?_) (fun c5 => ?_)
     ·try simp only [sx, List.length_map] at c5
      refine awp_region rfl ?_
      refine rwp_det rfl rfl (det_field_lit rfl fd29_1 rfl) ?_
      refine rwp_det rfl rfl (det_load_one rfl one27 rfl (ptr_row 1 rfl) rfl) ?_
      refine rwp_det rfl rfl (det_move rfl rfl) ?_
      refine rwp_det rfl rfl (det_move rfl rfl) ?_
      refine rwp_det rfl rfl (det_build rfl zr75 pl75 rfl) ?_
      refine rwp_det rfl rfl (det_bslice rfl el27 zr75 rfl rfl rfl rfl) ?_
      refine rwp_op rfl rfl (ope_append 0 rfl el27 rfl rfl rfl (by have := sumM_len c d; have := congrArg List.length hm1; have := mergeL_len a.L b.L; simp only [List.length_map, List.length_append, List.length_cons, List.length_nil] at *; omega) (by have := sumM_len c d; have := congrArg List.length hm1; have := mergeL_len a.L b.L; simp only [List.length_map, List.length_append, List.length_cons, List.length_nil] at *; omega)) ?_
      rintro _ _ ⟨sv7, rfl, rfl⟩
      refine rwp_det rfl rfl (det_field_lit rfl fd29_1 rfl) ?_
      refine rwp_det0 rfl rfl (det_store rfl sz27 rfl rfl rfl (st_row 1 rfl rfl)) ?_
      refine rwp_nil ?_
      refine ⟨⟨i + 1, n, d ++ [((atM a.L i).Name, (atM a.L i).By, 0)], sv7⟩, ⟨by omega, by omega, hm1⟩, (by dsimp only; omega), Weak.mk [true, true, true, true, true] ⟨VLe.of_eq (by rw [mul_next, okF_next]; rfl), VLe.refl _, VLe.refl _, VLe.refl _, VLe.refl _, VLe.refl _, VLe.refl _, VLe.refl _, trivial⟩ (by exact mem2c_eq (by rw [mul_next, sumW_next]; rw [if_neg (show ¬ w64 (trV ((atM a.L i).Name, (atM a.L i).By, 0 * c)) = 0 from c5), List.map_append]; rfl))⟩
     ·try simp only [sx, List.length_map] at c5
      refine awp_skip ?_
      refine ⟨⟨i + 1, n, d ++ [((atM a.L i).Name, (atM a.L i).By, 0)], sv⟩, ⟨by omega, by omega, hm1⟩, (by dsimp only; omega), Weak.mk [true, true, true, true, true] ⟨VLe.of_eq (by rw [mul_next, okF_next]; rfl), VLe.refl _, VLe.refl _, VLe.refl _, VLe.refl _, VLe.refl _, VLe.refl _, VLe.refl _, trivial⟩ (by exact mem2c_eq (by rw [mul_next, sumW_next]; rw [if_pos (show w64 (trV ((atM a.L i).Name, (atM a.L i).By, 0 * c)) = 0 from c5), List.append_nil]))⟩
    ·try simp only [sx, List.length_map] at c4
     exact absurd c4 (hne _ (at_mem hi))
  ·have hn1 := sum_f (a := a.L) (b := b.L) (i := i) (n := n) hnb c2
   obtain ⟨hL, hs3⟩ := sum_fx (a := a.L) (b := b.L) (i := i) (n := n) hn1 c2
   refine awp_region rfl ?_
   refine rwp_det rfl rfl (det_field_lit rfl fd29_1 rfl) ?_
   refine rwp_det rfl rfl (det_load_one rfl one27 rfl (ptr_row 3 rfl) rfl) ?_
   refine rwp_det rfl rfl (det_move rfl rfl) ?_
   refine rwp_det rfl rfl (det_index_sl rfl el27 rfl rfl (by omega) (getm (at_get (by omega)))) ?_
   refine rwp_det rfl rfl (det_field_imm rfl fd75_0 rfl) ?_
   refine rwp_det rfl rfl (det_load_one rfl one9 rfl ptr_imm rfl) ?_
   refine rwp_det rfl rfl (det_assign rfl rfl) ?_
   refine rwp_nil ?_
   refine awp_seq ?_
   refine awp_seq ?_
   refine awp_region rfl ?_
   refine rwp_det rfl rfl (det_move rfl rfl) ?_
   refine rwp_det rfl rfl (det_field_lit rfl fd29_1 rfl) ?_
   refine rwp_det rfl rfl (det_load_one rfl one27 rfl (ptr_row 3 rfl) rfl) ?_
   refine rwp_det rfl rfl (det_len_slm rfl el27 rfl) ?_
   refine rwp_det rfl rfl (det_lss rfl rfl rfl) ?_
   refine rwp_det rfl rfl (det_move rfl rfl) ?_
   refine rwp_lazy [] rfl rfl rfl rfl gv1 trivial (fun g10_5 => det_field_lit rfl fd29_1 rfl) rfl ?_
   refine rwp_lazy [(92, _)] rfl rfl rfl rfl gv1 ⟨rfl, rfl, trivial⟩ (fun g10_5 => det_load_one rfl one27 rfl (ptr_row 3 rfl) rfl) rfl ?_
   refine rwp_lazy [] rfl rfl rfl rfl gv1 trivial (fun g10_5 => det_move rfl rfl) rfl ?_
   refine rwp_lazy [(93, _), (94, _)] rfl rfl rfl rfl gv1 ⟨rfl, rfl, rfl, rfl, trivial⟩ (fun g10_5 => det_index_sl rfl el27 rfl rfl (by simp only [Lz, cond_true, cond_false, Bool.and_eq_true, Bool.or_eq_true, Bool.not_eq_true', Bool.not_eq_false', Bool.or_eq_false_iff, Bool.and_eq_false_iff, decide_eq_true_eq, decide_eq_false_iff_not, Bool.not_eq_true, Bool.not_eq_false] at g10_5; omega) (getm (at_get (by simp only [Lz, cond_true, cond_false, Bool.and_eq_true, Bool.or_eq_true, Bool.not_eq_true', Bool.not_eq_false', Bool.or_eq_false_iff, Bool.and_eq_false_iff, decide_eq_true_eq, decide_eq_false_iff_not, Bool.not_eq_true, Bool.not_eq_false] at g10_5; omega)))) rfl ?_
   refine rwp_lazy [(95, _)] rfl rfl rfl rfl gv1 ⟨rfl, rfl, trivial⟩ (fun g10_5 => det_field_imm rfl fd75_0 rfl) rfl ?_
   refine rwp_lazy [(96, _)] rfl rfl rfl rfl gv1 ⟨rfl, rfl, trivial⟩ (fun g10_5 => det_load_one rfl one9 rfl ptr_imm rfl) rfl ?_
   refine rwp_lazy [] rfl rfl rfl rfl gv1 trivial (fun g10_5 => det_move rfl rfl) rfl ?_
   refine rwp_lazy [(97, _), (98, _)] rfl rfl rfl rfl gv1 ⟨rfl, rfl, rfl, rfl, trivial⟩ (fun g10_5 => det_seql rfl rfl rfl) rfl ?_
   refine rwp_det rfl rfl (det_and rfl rfl rfl (fun h => h) rfl) ?_
   refine rwp_nil ?_
   refine awp_cond rfl (fun c3 => ?_) (fun c3 => ?_)
   ·have hm1 : mergeL a.L b.L = (d ++ [((atM b.L n).Name, 0, (atM b.L n).By)]) ++ mergeL (a.L.drop i) (b.L.drop (n + 1)) := by rw [hm, hL]; simp
    refine awp_seq ?_
    refine awp_region rfl ?_
    refine rwp_det rfl rfl (det_field_lit rfl fd29_1 rfl) ?_
    refine rwp_det rfl rfl (det_load_one rfl one27 rfl (ptr_row 3 rfl) rfl) ?_
    refine rwp_det rfl rfl (det_move rfl rfl) ?_
    refine rwp_det rfl rfl (det_index_sl rfl el27 rfl rfl (by omega) (getm (at_get (by omega)))) ?_
    refine rwp_det rfl rfl (det_field_imm rfl fd75_1 rfl) ?_
    refine rwp_det rfl rfl (det_load_one rfl one2 rfl ptr_imm rfl) ?_
    refine rwp_det rfl rfl (det_assign rfl rfl) ?_
    refine rwp_nil ?_
    refine awp_region rfl ?_
    refine rwp_det rfl rfl (det_move rfl rfl) ?_
    refine rwp_det rfl rfl (det_add_nw rfl rfl rfl ⟨by omega, by omega⟩) ?_
    refine rwp_det rfl rfl (det_assign rfl rfl) ?_
    refine rwp_nil ?_
    refine awp_seq ?_
    refine awp_seq ?_
    refine awp_region rfl ?_
    refine rwp_det rfl rfl (det_move rfl rfl) ?_
    refine rwp_det rfl rfl (det_neq rfl rfl rfl) ?_
    refine rwp_nil ?_
    refine awp_cond rfl (fun c4 => ?_) (fun c4 => ?_)
    ·try simp only [sx, List.length_map] at c4
     exact absurd trivial c4
    ·try simp only [sx, List.length_map] at c4
     refine awp_skip ?_
     refine awp_seq ?_
     refine awp_region rfl ?_
     refine rwp_det rfl rfl (det_move rfl rfl) ?_
     refine rwp_det rfl rfl (det_move rfl rfl) ?_
     refine rwp_det rfl rfl (det_move rfl rfl) ?_
     refine rwp_det rfl rfl (det_call rfl ok208 (ref14_both _ _ c (by first | exact z0 | exact hra.2 _ (at_mem hi)) (by first | exact z0 | exact hrb.2 _ (at_mem hn1)) hc) ⟨VLe.refl _, rfl, VLe.refl _, rfl, VLe.refl _, rfl, trivial⟩) ?_
     refine rwp_det rfl rfl (det_move_tup rfl rfl) ?_
     refine rwp_det rfl rfl (det_ex_c rfl rfl rfl) ?_
     refine rwp_det rfl rfl (det_ex_c rfl rfl rfl) ?_
     refine rwp_det rfl rfl (det_assign rfl rfl) ?_
     refine rwp_det rfl rfl (det_assign rfl rfl) ?_
     refine rwp_nil ?_
     refine awp_seq ?_
     refine awp_region rfl ?_
     refine rwp_det rfl rfl (det_move rfl rfl) ?_
     refine rwp_det rfl rfl (det_move rfl rfl) ?_
     refine rwp_lazy [] rfl rfl rfl rfl gv1 trivial (fun g16_1 => det_move rfl rfl) rfl ?_
     refine rwp_det rfl rfl (det_and rfl rfl rfl (fun h => h) rfl) ?_
     refine rwp_det rfl rfl (det_assign rfl rfl) ?_
     refine rwp_nil ?_
     refine awp_seq ?_
     refine awp_region rfl ?_
     refine rwp_det rfl rfl (det_move rfl rfl) ?_
     refine rwp_det rfl rfl (det_neq rfl rfl rfl) ?_
     refine rwp_nil ?_
     refine awp_cond rfl (fun c5 => ?_) (fun c5 => ?_)
     ·try simp only [sx, List.length_map] at c5
      refine awp_region rfl ?_
      refine rwp_det rfl rfl (det_field_lit rfl fd29_1 rfl) ?_
      refine rwp_det rfl rfl (det_load_one rfl one27 rfl (ptr_row 1 rfl) rfl) ?_
      refine rwp_det rfl rfl (det_move rfl rfl) ?_
      refine rwp_det rfl rfl (det_move rfl rfl) ?_
      refine rwp_det rfl rfl (det_build rfl zr75 pl75 rfl) ?_
      refine rwp_det rfl rfl (det_bslice rfl el27 zr75 rfl rfl rfl rfl) ?_
      refine rwp_op rfl rfl (ope_append 0 rfl el27 rfl rfl rfl (by have := sumM_len c d; have := congrArg List.length hm1; have := mergeL_len a.L b.L; simp only [List.length_map, List.length_append, List.length_cons, List.length_nil] at *; omega) (by have := sumM_len c d; have := congrArg List.length hm1; have := mergeL_len a.L b.L; simp only [List.length_map, List.length_append, List.length_cons, List.length_nil] at *; omega)) ?_
      rintro _ _ ⟨sv8, rfl, rfl⟩
      refine rwp_det rfl rfl (det_field_lit rfl fd29_1 rfl) ?_
      refine rwp_det0 rfl rfl (det_store rfl sz27 rfl rfl rfl (st_row 1 rfl rfl)) ?_
      refine rwp_nil ?_
      refine ⟨⟨i, n + 1, d ++ [((atM b.L n).Name, 0, (atM b.L n).By)], sv8⟩, ⟨by omega, by omega, hm1⟩, (by dsimp only; omega), Weak.mk [true, true, true, true, true] ⟨VLe.of_eq (by rw [mul_next, okF_next]; rfl), VLe.refl _, VLe.refl _, VLe.refl _, VLe.refl _, VLe.refl _, VLe.refl _, VLe.refl _, trivial⟩ (by exact mem2c_eq (by rw [mul_next, sumW_next]; rw [if_neg (show ¬ w64 (trV ((atM b.L n).Name, 0, (atM b.L n).By * c)) = 0 from c5), List.map_append]; rfl))⟩
     ·try simp only [sx, List.length_map] at c5
      refine awp_skip ?_
      refine ⟨⟨i, n + 1, d ++ [((atM b.L n).Name, 0, (atM b.L n).By)], sv⟩, ⟨by omega, by omega, hm1⟩, (by dsimp only; omega), Weak.mk [true, true, true, true, true] ⟨VLe.of_eq (by rw [mul_next, okF_next]; rfl), VLe.refl _, VLe.refl _, VLe.refl _, VLe.refl _, VLe.refl _, VLe.refl _, VLe.refl _, trivial⟩ (by exact mem2c_eq (by rw [mul_next, sumW_next]; rw [if_pos (show w64 (trV ((atM b.L n).Name, 0, (atM b.L n).By * c)) = 0 from c5), List.append_nil]))⟩
   ·exact absurd (hs3.symm.trans c3) (by decide)
 ·try simp only [sx, List.length_map] at c1
  refine awp_exit ?_
  refine awp_seq ?_
  refine awp_seq ?_
  refine awp_region rfl ?_
  refine rwp_det rfl rfl (det_move rfl rfl) ?_
  refine rwp_det rfl rfl (det_not rfl rfl) ?_
  refine rwp_nil ?_
  refine awp_cond rfl (fun c6 => ?_) (fun c6 => ?_)
  ·try simp only [sx, List.length_map] at c6
   refine awp_seq ?_
   refine awp_region rfl ?_
   refine rwp_det rfl rfl (det_buildN [none, some 2] rfl zr29 pl29 rfl rfl) ?_
   refine rwp_det0 rfl rfl (det_store rfl sz29 rfl rfl rfl (st_row 2 rfl rfl)) ?_
   refine rwp_det rfl rfl (det_assign rfl rfl) ?_
   refine rwp_nil ?_
   refine awp_ret ?_
   repeat (first | refine thenQ_ret ?_ | refine blockQ_ret ?_)
   refine fin2 (rs_cell_agg agg29 rfl (ptr_row 2 rfl) rfl) (rs_c rfl) ?_
   rw [hm, sum_end (by omega) (by omega), List.append_nil, add_no' c6]; rfl
  ·try simp only [sx, List.length_map] at c6
   refine awp_skip ?_
   refine awp_seq ?_
   refine awp_region rfl ?_
   refine rwp_det rfl rfl (det_load_agg rfl agg29 rfl (ptr_row 1 rfl) rfl) ?_
   refine rwp_det0 rfl rfl (det_store rfl sz29 rfl rfl rfl (st_row 2 rfl rfl)) ?_
   refine rwp_det rfl rfl (det_assign rfl rfl) ?_
   refine rwp_nil ?_
   refine awp_weak _ (weak_freezeM 0 rfl (regs' := [(137, .agg [_, _])]) (μ' := [_, _, _, _]) ⟨FLe.agg ⟨.inl rfl, .inr ⟨rfl, rfl⟩, trivial⟩, trivial⟩ ⟨EFle.row (ds := [_, _]) ⟨.inl rfl, .inr ⟨rfl, rfl⟩, trivial⟩, EFle.row (ds := [_, _]) ⟨.inl rfl, .inr ⟨rfl, rfl⟩, trivial⟩, EFle.refl _, EFle.refl _, trivial⟩) ?_
   refine awp_ret ?_
   repeat (first | refine thenQ_ret ?_ | refine blockQ_ret ?_)
   refine fin2 (rs_cell_agg agg29 rfl (ptr_row 1 rfl) rfl) (rs_c rfl) ?_
   rw [hm, sum_end (by omega) (by omega), List.append_nil, add_ok' c6]; rfl

theorem ref14_LinSubstitute (l : Lf) (s : ByteArray) (u : Lf) (hl : l.L.length ≤ 4294967296) (ht : u.L.length ≤ 4294967296) (hrl : l.rng) (hrt : u.rng) :
    Pur cfg 84 [vLin l, vS s, vLin u] (.tup [vLin (substR l s u).1, vI (substR l s u).2]) := by
 refine con_intro Tryz.func84 rfl Tryz.ntmps84 Tryz.results84 rfl ?_
 intro z hz
 obtain ⟨hr1, hr2⟩ := rest_rng hrl s
 refine awp_seq ?_
 refine awp_region rfl ?_
 refine rwp_op rfl rfl (ope_box rfl rfl) ?_
 rintro _ _ ⟨b1, rfl, rfl⟩
 refine rwp_op rfl rfl (ope_box rfl rfl) ?_
 rintro _ _ ⟨b2, rfl, rfl⟩
 refine rwp_op rfl rfl (ope_allocN [none, some 2] rfl zr29 rfl) ?_
 rintro _ _ ⟨b3, rfl, rfl⟩
 refine rwp_det rfl rfl (det_assign rfl rfl) ?_
 refine rwp_nil ?_
 refine awp_seq ?_
 refine awp_seq ?_
 refine awp_region rfl ?_
 refine rwp_det rfl rfl (det_load_agg rfl agg29 rfl (ptr_row 2 rfl) rfl) ?_
 refine rwp_det rfl rfl (det_call rfl ok35 (base_LinRight l hl) ⟨VLe.refl _, rfl, trivial⟩) ?_
 refine rwp_det rfl rfl (det_not rfl rfl) ?_
 refine rwp_det rfl rfl (det_move rfl rfl) ?_
 refine rwp_lazy [] rfl rfl rfl rfl gv1 trivial (fun g1_3 => det_load_agg rfl agg29 rfl (ptr_row 1 rfl) rfl) rfl ?_
 refine rwp_lazy [(15, _)] rfl rfl rfl rfl gv1 ⟨rfl, rfl, trivial⟩ (fun g1_3 => det_call rfl ok35 (base_LinRight u ht) ⟨VLe.refl _, rfl, trivial⟩) rfl ?_
 refine rwp_lazy [(16, _)] rfl rfl rfl rfl gv1 ⟨rfl, rfl, trivial⟩ (fun g1_3 => det_not rfl rfl) rfl ?_
 refine rwp_det rfl rfl (det_or rfl rfl rfl rfl (fun h => (lzf h))) ?_
 refine rwp_det rfl rfl (det_move rfl rfl) ?_
 refine rwp_lazy [] rfl rfl rfl rfl gv1 trivial (fun g1_8 => det_move rfl rfl) rfl ?_
 refine rwp_lazy [(20, _)] rfl rfl rfl rfl gv1 ⟨rfl, rfl, trivial⟩ (fun g1_8 => det_call rfl ok36 (base_Name s) ⟨VLe.refl _, rfl, trivial⟩) rfl ?_
 refine rwp_lazy [(21, _)] rfl rfl rfl rfl gv1 ⟨rfl, rfl, trivial⟩ (fun g1_8 => det_not rfl rfl) rfl ?_
 refine rwp_det rfl rfl (det_or rfl rfl rfl rfl (fun h => (lzf h))) ?_
 refine rwp_nil ?_
 refine awp_cond rfl (fun c1 => ?_) (fun c1 => ?_)
 ·try simp only [sx, List.length_map] at c1
  have hS : substR l s u = (zL, 1) := substR_bad c1
  refine awp_seq ?_
  refine awp_region rfl ?_
  refine rwp_det rfl rfl (det_buildN [none, some 2] rfl zr29 pl29 rfl rfl) ?_
  refine rwp_det0 rfl rfl (det_store rfl sz29 rfl rfl rfl (st_row 0 rfl rfl)) ?_
  refine rwp_det rfl rfl (det_assign rfl rfl) ?_
  refine rwp_nil ?_
  refine awp_ret ?_
  repeat (first | refine thenQ_ret ?_ | refine blockQ_ret ?_)
  refine fin2 (rs_cell_agg agg29 rfl (ptr_row 0 rfl) rfl) (rs_c rfl) ?_
  rw [hS]; rfl
 ·try simp only [sx, List.length_map] at c1
  obtain ⟨hl1, hl2, hl3⟩ := substR_c1 c1
  refine awp_skip ?_
  refine awp_seq ?_
  refine awp_region rfl ?_
  refine rwp_det rfl rfl (det_assign rfl rfl) ?_
  refine rwp_nil ?_
  refine awp_seq ?_
  refine awp_region rfl ?_
  refine rwp_det rfl rfl (det_field_lit rfl fd29_0 rfl) ?_
  refine rwp_det rfl rfl (det_load_one rfl one2 rfl (ptr_row 2 rfl) rfl) ?_
  refine rwp_det rfl rfl (det_build rfl zr29 pl29 rfl) ?_
  refine rwp_op rfl rfl (ope_alloc rfl zr29) ?_
  rintro _ _ ⟨b4, rfl, rfl⟩
  refine rwp_weak _ (weak_own 75 2) ?_
  refine rwp_det0 rfl rfl (det_store rfl sz29 rfl rfl rfl (st_row 1 rfl rfl)) ?_
  refine rwp_nil ?_
  refine awp_seq ?_
  refine awp_seq ?_
  refine awp_region rfl ?_
  refine rwp_det rfl rfl (det_assign rfl rfl) ?_
  refine rwp_nil ?_
  refine awp_block ?_
  refine awp_weak ⟨[(10, .c _), (8, .c _), (1, .c _), (3, .c _), (5, .c _), (6, .c _), (9, .c _)], [_, _, _, _, _]⟩ (Weak.mk [true, true, true, true, true] ⟨VLe.of_eq rfl, VLe.of_eq rfl, VLe.of_eq rfl, VLe.of_eq rfl, VLe.of_eq rfl, VLe.of_eq rfl, VLe.of_eq rfl, trivial⟩ rfl) ?_
  refine awp_loop_k 2 2 rfl rfl (Nat × Value) (fun ⟨k, sv⟩ => [(10, vI k), (8, vI (lastBy (l.L.take k) s))]) (fun ⟨k, sv⟩ => [E.vec sv 75 2 (((l.L.take k).filter (fun m => !decide (m.Name = s))).map Mono.cells), E.row b4 29 [cI l.K, .lit sv]]) (fun ⟨k, sv⟩ => k ≤ l.L.length) (fun ⟨k, sv⟩ => l.L.length - k) ⟨⟨0, _⟩, (by omega), Weak.mk [true, true, true, true, true] ⟨VLe.refl _, VLe.of_eq (rfl), VLe.refl _, VLe.refl _, VLe.refl _, VLe.refl _, VLe.refl _, trivial⟩ rfl⟩ ?_
  rintro ⟨k, sv⟩ hk
  show AWP _ _ _ _ _ ⟨[(10, vI k), (8, vI (lastBy (l.L.take k) s))] ++ _, [E.vec sv 75 2 (((l.L.take k).filter (fun m => !decide (m.Name = s))).map Mono.cells), E.row b4 29 [cI l.K, .lit sv]] ++ _⟩
  refine awp_seq ?_
  refine awp_seq ?_
  refine awp_region rfl ?_
  refine rwp_det rfl rfl (det_move rfl rfl) ?_
  refine rwp_det rfl rfl (det_field_lit rfl fd29_1 rfl) ?_
  refine rwp_det rfl rfl (det_load_one rfl one27 rfl (ptr_row 4 rfl) rfl) ?_
  refine rwp_det rfl rfl (det_len_slm rfl el27 rfl) ?_
  refine rwp_det rfl rfl (det_lss rfl rfl rfl) ?_
  refine rwp_nil ?_
  refine awp_cond rfl (fun c2 => ?_) (fun c2 => ?_)
  ·try simp only [sx, List.length_map] at c2
   obtain ⟨x, hx⟩ := ex_get l.L k (by omega)
   refine awp_skip ?_
   refine awp_seq ?_
   refine awp_block ?_
   refine awp_seq ?_
   refine awp_region rfl ?_
   refine rwp_det rfl rfl (det_field_lit rfl fd29_1 rfl) ?_
   refine rwp_det rfl rfl (det_load_one rfl one27 rfl (ptr_row 4 rfl) rfl) ?_
   refine rwp_det rfl rfl (det_move rfl rfl) ?_
   refine rwp_det rfl rfl (det_index_sl rfl el27 rfl rfl (by omega) (getm (by assumption))) ?_
   refine rwp_det rfl rfl (det_field_imm rfl fd75_0 rfl) ?_
   refine rwp_det rfl rfl (det_load_one rfl one9 rfl ptr_imm rfl) ?_
   refine rwp_det rfl rfl (det_move rfl rfl) ?_
   refine rwp_det rfl rfl (det_seql rfl rfl rfl) ?_
   refine rwp_nil ?_
   refine awp_cond rfl (fun c3 => ?_) (fun c3 => ?_)
   ·try simp only [sx, List.length_map] at c3
    refine awp_region rfl ?_
    refine rwp_det rfl rfl (det_field_lit rfl fd29_1 rfl) ?_
    refine rwp_det rfl rfl (det_load_one rfl one27 rfl (ptr_row 4 rfl) rfl) ?_
    refine rwp_det rfl rfl (det_move rfl rfl) ?_
    refine rwp_det rfl rfl (det_index_sl rfl el27 rfl rfl (by omega) (getm (by assumption))) ?_
    refine rwp_det rfl rfl (det_field_imm rfl fd75_1 rfl) ?_
    refine rwp_det rfl rfl (det_load_one rfl one2 rfl ptr_imm rfl) ?_
    refine rwp_det rfl rfl (det_assign rfl rfl) ?_
    refine rwp_nil ?_
    refine awp_region rfl ?_
    refine rwp_det rfl rfl (det_move rfl rfl) ?_
    refine rwp_det rfl rfl (det_add_nw rfl rfl rfl ⟨by omega, by omega⟩) ?_
    refine rwp_det rfl rfl (det_assign rfl rfl) ?_
    refine rwp_nil ?_
    refine ⟨⟨k + 1, _⟩, (by omega), (by show l.L.length - (k + 1) < l.L.length - k; omega), Weak.mk [true, true, true, true, true] ⟨VLe.refl _, VLe.of_eq (by rw [lastBy_next hx]; first | (rw [if_pos c3]; rfl) | (rw [if_neg c3]; rfl)), VLe.refl _, VLe.refl _, VLe.refl _, VLe.refl _, VLe.refl _, trivial⟩ (by exact mem2c_eq (by rw [rest_next hx]; first | (rw [if_pos c3, List.append_nil]) | (rw [if_neg c3, List.map_append]; rfl)))⟩
   ·try simp only [sx, List.length_map] at c3
    refine awp_draw 8 mixed (by kernel_rfl) rfl rfl ?_
    refine td_det rfl rfl (det_field_lit rfl fd29_1 rfl) ?_
    refine td_det rfl rfl (det_load_one rfl one27 rfl (ptr_row 1 rfl) rfl) ?_
    refine td_det rfl rfl (det_field_lit rfl fd29_1 rfl) ?_
    refine td_det rfl rfl (det_load_one rfl one27 rfl (ptr_row 4 rfl) rfl) ?_
    refine td_det rfl rfl (det_move rfl rfl) ?_
    refine td_det rfl rfl (det_index_sl rfl el27 rfl rfl (by omega) (getm (by assumption))) ?_
    refine td_det rfl rfl (det_load_agg rfl agg75 rfl ptr_imm rfl) ?_
    refine td_det rfl rfl (det_bslice rfl el27 zr75 rfl rfl rfl rfl) ?_
    refine td_nil ?_
    refine rwp_op rfl rfl (ope_append 0 rfl el27 rfl rfl rfl (by have := List.length_filter_le (fun m : Mono => !decide (m.Name = s)) (l.L.take k); simp only [List.length_map, List.length_append, List.length_cons, List.length_nil, List.length_take] at *; omega) (by have := List.length_filter_le (fun m : Mono => !decide (m.Name = s)) (l.L.take k); simp only [List.length_map, List.length_append, List.length_cons, List.length_nil, List.length_take] at *; omega)) ?_
    rintro _ _ ⟨sv6, rfl, rfl⟩
    refine rwp_det rfl rfl (det_field_lit rfl fd29_1 rfl) ?_
    refine rwp_det0 rfl rfl (det_store rfl sz27 rfl rfl rfl (st_row 1 rfl rfl)) ?_
    refine rwp_nil ?_
    refine awp_region rfl ?_
    refine rwp_det rfl rfl (det_move rfl rfl) ?_
    refine rwp_det rfl rfl (det_add_nw rfl rfl rfl ⟨by omega, by omega⟩) ?_
    refine rwp_det rfl rfl (det_assign rfl rfl) ?_
    refine rwp_nil ?_
    refine ⟨⟨k + 1, _⟩, (by omega), (by show l.L.length - (k + 1) < l.L.length - k; omega), Weak.mk [true, true, true, true, true] ⟨VLe.refl _, VLe.of_eq (by rw [lastBy_next hx]; first | (rw [if_pos c3]; rfl) | (rw [if_neg c3]; rfl)), VLe.refl _, VLe.refl _, VLe.refl _, VLe.refl _, VLe.refl _, trivial⟩ (by exact mem2c_eq (by rw [rest_next hx]; first | (rw [if_pos c3, List.append_nil]) | (rw [if_neg c3, List.map_append]; rfl)))⟩
  ·try simp only [sx, List.length_map] at c2
   rw [take_all (l := l.L) (k := k) (by omega)]
   refine awp_exit ?_
   refine awp_seq ?_
   refine awp_seq ?_
   refine awp_region rfl ?_
   refine rwp_det rfl rfl (det_move rfl rfl) ?_
   refine rwp_det rfl rfl (det_eql rfl rfl rfl) ?_
   refine rwp_nil ?_
   refine awp_cond rfl (fun c4 => ?_) (fun c4 => ?_)
   ·try simp only [sx, List.length_map] at c4
    refine awp_seq ?_
    refine awp_region rfl ?_
    refine rwp_det rfl rfl (det_load_agg rfl agg29 rfl (ptr_row 4 rfl) rfl) ?_
    refine rwp_det0 rfl rfl (det_store rfl sz29 rfl rfl rfl (st_row 2 rfl rfl)) ?_
    refine rwp_det rfl rfl (det_assign rfl rfl) ?_
    refine rwp_nil ?_
    refine awp_ret ?_
    repeat (first | refine thenQ_ret ?_ | refine blockQ_ret ?_)
    refine fin2 (rs_cell_agg agg29 rfl (ptr_row 2 rfl) rfl) (rs_c rfl) ?_
    rw [substR_same ⟨hl1, hl2, hl3⟩ c4]; rfl
   ·try simp only [sx, List.length_map] at c4
    refine awp_skip ?_
    refine awp_seq ?_
    refine awp_seq ?_
    refine awp_region rfl ?_
    refine rwp_det rfl rfl (det_load_agg rfl agg29 rfl (ptr_row 3 rfl) rfl) ?_
    refine rwp_det rfl rfl (det_move rfl rfl) ?_
    refine rwp_det rfl rfl (det_call rfl ok155 (ref14_scales u (lastBy l.L s) ht hrt (last_rng hrl s)) ⟨VLe.refl _, rfl, VLe.refl _, rfl, trivial⟩) ?_
    refine rwp_det rfl rfl (det_not rfl rfl) ?_
    refine rwp_nil ?_
    refine awp_cond rfl (fun c5 => ?_) (fun c5 => ?_)
    ·try simp only [sx, List.length_map] at c5
     refine awp_seq ?_
     refine awp_region rfl ?_
     refine rwp_det rfl rfl (det_buildN [none, some 2] rfl zr29 pl29 rfl rfl) ?_
     refine rwp_det0 rfl rfl (det_store rfl sz29 rfl rfl rfl (st_row 2 rfl rfl)) ?_
     refine rwp_det rfl rfl (det_assign rfl rfl) ?_
     refine rwp_nil ?_
     refine awp_ret ?_
     repeat (first | refine thenQ_ret ?_ | refine blockQ_ret ?_)
     refine fin2 (rs_cell_agg agg29 rfl (ptr_row 2 rfl) rfl) (rs_c rfl) ?_
     rw [substR_no ⟨hl1, hl2, hl3⟩ c4 c5]; rfl
    ·try simp only [sx, List.length_map] at c5
     refine awp_weak _ (weak_freezeM 0 rfl (regs' := []) (μ' := [_, _, _, _]) trivial ⟨EFle.row (ds := [_, _]) ⟨.inl rfl, .inr ⟨rfl, rfl⟩, trivial⟩, EFle.refl _, EFle.refl _, EFle.refl _, trivial⟩) ?_
     refine awp_skip ?_
     refine awp_seq ?_
     refine awp_region rfl ?_
     refine rwp_det rfl rfl (det_load_agg rfl agg29 rfl (ptr_row 0 rfl) rfl) ?_
     refine rwp_det rfl rfl (det_load_agg rfl agg29 rfl (ptr_row 2 rfl) rfl) ?_
     refine rwp_det rfl rfl (det_move rfl rfl) ?_
     refine rwp_det rfl rfl (det_call rfl ok156 (ref14_sum (restL l s) u (lastBy l.L s) (by omega) ht hr1 hrt (last_rng hrl s) (fun m hm => (monos_name hl1 m (List.mem_filter.1 hm).1).1)) ⟨VLe.refl _, rfl, VLe.refl _, rfl, VLe.refl _, rfl, trivial⟩) ?_
     refine rwp_det rfl rfl (det_ex_agg rfl rfl rfl) ?_
     refine rwp_det rfl rfl (det_ex_c rfl rfl rfl) ?_
     refine rwp_det0 rfl rfl (det_store rfl sz29 rfl rfl rfl (st_row 1 rfl rfl)) ?_
     refine rwp_det rfl rfl (det_assign rfl rfl) ?_
     refine rwp_nil ?_
     refine awp_ret ?_
     repeat (first | refine thenQ_ret ?_ | refine blockQ_ret ?_)
     refine fin2 (rs_cell_agg agg29 rfl (ptr_row 1 rfl) rfl) (rs_c rfl) ?_
     rw [substR_yes ⟨hl1, hl2, hl3⟩ c4 c5]; rfl

theorem ref14_indexSubstitute (x : Ix) (s : ByteArray) (u : Lf) (ht : u.L.length ≤ 4294967296) (hrt : u.rng) (hx : x.wt ≤ 4294967296) (hr1 : x.Lin.rng) (hr2 : ∀ l, l ∈ x.At → l.rng) :
    Pur cfg 85 [vIndex x, vS s, vLin u] (.tup [vIndex (outI (mIx (fun l => substR l s u) x)), vI (errE (mIx (fun l => substR l s u) x))]) := by
 refine con_intro Tryz.func85 rfl Tryz.ntmps85 Tryz.results85 rfl ?_
 intro z hz
 have hxw := hx
 unfold Ix.wt at hxw
 refine awp_seq ?_
 refine awp_region rfl ?_
 refine rwp_op rfl rfl (ope_box rfl rfl) ?_
 rintro _ _ ⟨b1, rfl, rfl⟩
 refine rwp_op rfl rfl (ope_box rfl rfl) ?_
 rintro _ _ ⟨b2, rfl, rfl⟩
 refine rwp_op rfl rfl (ope_allocN [none, some 2, none, some 2] rfl zr117 rfl) ?_
 rintro _ _ ⟨b3, rfl, rfl⟩
 refine rwp_det rfl rfl (det_assign rfl rfl) ?_
 refine rwp_nil ?_
 refine awp_seq ?_
 refine awp_region rfl ?_
 refine rwp_det rfl rfl (det_field_lit rfl fd117_0 rfl) ?_
 refine rwp_det rfl rfl (det_load_agg rfl agg29 rfl (ptr_row 2 rfl) rfl) ?_
 refine rwp_det rfl rfl (det_move rfl rfl) ?_
 refine rwp_det rfl rfl (det_load_agg rfl agg29 rfl (ptr_row 1 rfl) rfl) ?_
 refine rwp_det rfl rfl (det_call rfl ok84 (ref14_LinSubstitute x.Lin s u (by omega) ht hr1 hrt) ⟨VLe.refl _, rfl, VLe.refl _, rfl, VLe.refl _, rfl, trivial⟩) ?_
 refine rwp_det rfl rfl (det_move_tup rfl rfl) ?_
 refine rwp_det rfl rfl (det_ex_agg rfl rfl rfl) ?_
 refine rwp_det rfl rfl (det_ex_c rfl rfl rfl) ?_
 refine rwp_op rfl rfl (ope_allocN [none, some 2] rfl zr29 rfl) ?_
 rintro _ _ ⟨b4, rfl, rfl⟩
 refine rwp_det0 rfl rfl (det_store rfl sz29 rfl rfl rfl (st_row 0 rfl rfl)) ?_
 refine rwp_det rfl rfl (det_assign rfl rfl) ?_
 refine rwp_nil ?_
 refine awp_seq ?_
 refine awp_seq ?_
 refine awp_region rfl ?_
 refine rwp_det rfl rfl (det_move rfl rfl) ?_
 refine rwp_det rfl rfl (det_neq rfl rfl rfl) ?_
 refine rwp_nil ?_
 refine awp_cond rfl (fun c1 => ?_) (fun c1 => ?_)
 ·try simp only [sx, List.length_map] at c1
  refine awp_seq ?_
  refine awp_region rfl ?_
  refine rwp_det rfl rfl (det_buildN [none, some 2, none, some 2] rfl zr117 pl117 rfl rfl) ?_
  refine rwp_det rfl rfl (det_move rfl rfl) ?_
  refine rwp_det0 rfl rfl (det_store rfl sz117 rfl rfl rfl (st_row 1 rfl rfl)) ?_
  refine rwp_det rfl rfl (det_assign rfl rfl) ?_
  refine rwp_nil ?_
  refine awp_ret ?_
  repeat (first | refine thenQ_ret ?_ | refine blockQ_ret ?_)
  refine fin2 (rs_cell_agg agg117 rfl (ptr_row 1 rfl) rfl) (rs_c rfl) ?_
  rw [mIx_e1 c1]; rfl
 ·try simp only [sx, List.length_map] at c1
  refine awp_skip ?_
  refine awp_seq ?_
  refine awp_region rfl ?_
  refine rwp_det rfl rfl (det_load_agg rfl agg29 rfl (ptr_row 0 rfl) rfl) ?_
  refine rwp_det rfl rfl (det_field_lit rfl fd117_1 rfl) ?_
  refine rwp_det rfl rfl (det_load_one rfl one9 rfl (ptr_row 3 rfl) rfl) ?_
  refine rwp_det rfl rfl (det_build rfl zr117 pl117 rfl) ?_
  refine rwp_op rfl rfl (ope_alloc rfl zr117) ?_
  rintro _ _ ⟨b5, rfl, rfl⟩
  refine rwp_weak _ (weak_own 75 2) ?_
  refine rwp_weak _ (weak_own 29 2) ?_
  refine rwp_det0 rfl rfl (det_store rfl sz117 rfl rfl rfl (st_row 2 rfl rfl)) ?_
  refine rwp_nil ?_
  refine awp_seq ?_
  refine awp_seq ?_
  refine awp_region rfl ?_
  refine rwp_det rfl rfl (det_assign rfl rfl) ?_
  refine rwp_nil ?_
  refine awp_block ?_
  refine awp_weak ⟨[(11, .c _), (1, .c _), (3, .c _), (5, .c _), (6, .c _), (10, .c _)], [_, _, _, _, _]⟩ (Weak.mk [true, false, true, false, true, true, true] ⟨VLe.of_eq rfl, VLe.of_eq rfl, VLe.of_eq rfl, VLe.of_eq rfl, VLe.of_eq rfl, VLe.of_eq rfl, trivial⟩ rfl) ?_
  refine awp_loop_k 1 2 rfl rfl (Nat × List Lf × Value) (fun ⟨k, outs, sv⟩ => [(11, vI k)]) (fun ⟨k, outs, sv⟩ => [E.vec sv 29 2 (outs.map Lf.cells), E.row b5 117 [cI (substR x.Lin s u).1.K, .sl 2 ((substR x.Lin s u).1.L.map Mono.cells), cS x.From, .lit sv]]) (fun ⟨k, outs, sv⟩ => k ≤ x.At.length ∧ (outs.length = k) ∧ (mLins (fun l => substR l s u) x.At = mapRest outs (mLins (fun l => substR l s u) (x.At.drop k)))) (fun ⟨k, outs, sv⟩ => x.At.length - k) ⟨⟨0, [], .slice none 0 0⟩, ⟨by omega, rfl, (mapRest_nil _).symm⟩, Weak.mk [true, true, true, true, true] ⟨VLe.refl _, VLe.refl _, VLe.refl _, VLe.refl _, VLe.refl _, VLe.refl _, trivial⟩ rfl⟩ ?_
  rintro ⟨k, outs, sv⟩ ⟨hk, ho, hp⟩
  show AWP _ _ _ _ _ ⟨[(11, vI k)] ++ _, [E.vec sv 29 2 (outs.map Lf.cells), E.row b5 117 [cI (substR x.Lin s u).1.K, .sl 2 ((substR x.Lin s u).1.L.map Mono.cells), cS x.From, .lit sv]] ++ _⟩
  refine awp_seq ?_
  refine awp_seq ?_
  refine awp_region rfl ?_
  refine rwp_det rfl rfl (det_move rfl rfl) ?_
  refine rwp_det rfl rfl (det_field_lit rfl fd117_2 rfl) ?_
  refine rwp_det rfl rfl (det_load_one rfl one104 rfl (ptr_row 4 rfl) rfl) ?_
  refine rwp_det rfl rfl (det_len_slm rfl el104 rfl) ?_
  refine rwp_det rfl rfl (det_lss rfl rfl rfl) ?_
  refine rwp_nil ?_
  refine awp_cond rfl (fun c2 => ?_) (fun c2 => ?_)
  ·try simp only [sx, List.length_map] at c2
   obtain ⟨l, hl⟩ := ex_get x.At k (by omega)
   refine awp_skip ?_
   refine awp_seq ?_
   refine awp_block ?_
   refine awp_seq ?_
   refine awp_draw_c 13 1 [⟨0, .q []⟩, ⟨1, .q [5]⟩, ⟨2, .q []⟩, ⟨3, .q []⟩, ⟨4, .q []⟩, ⟨5, .q []⟩, ⟨6, .q [4]⟩, ⟨7, .q []⟩, ⟨8, .q []⟩, ⟨9, .q []⟩, ⟨10, .q []⟩, ⟨11, .e 0 []⟩, ⟨12, .e 0 []⟩] mixed (by kernel_rfl) (by kernel_rfl) rfl rfl rfl ?_
   refine fx_skip rfl ?_
   refine fx_skip rfl ?_
   refine fx_skip rfl ?_
   refine fx_skip rfl ?_
   refine fx_skip rfl ?_
   refine fx_skip rfl ?_
   refine fx_skip rfl ?_
   refine fx_skip rfl ?_
   refine fx_skip rfl ?_
   refine fx_skip rfl ?_
   refine fx_skip rfl ?_
   refine fx_skip rfl ?_
   refine fx_skip rfl ?_
   refine fx_nil ?_
   refine sq_det rfl (by decide) rfl rfl (det_field_lit rfl fd117_2 rfl) ?_
   refine sq_det rfl (by decide) rfl rfl (det_load_one rfl one104 rfl (ptr_row 0 rfl) rfl) ?_
   refine sq_det rfl (by decide) rfl rfl (det_move rfl rfl) ?_
   refine sq_det rfl (by decide) rfl rfl (det_index_sl rfl el104 rfl rfl (by omega) (getm (by assumption))) ?_
   refine sq_det rfl (by decide) rfl rfl (det_load_agg rfl agg29 rfl ptr_imm rfl) ?_
   refine sq_det rfl (by decide) rfl rfl (det_move rfl rfl) ?_
   refine sq_det rfl (by decide) rfl rfl (det_load_agg rfl agg29 rfl (ptr_row 0 rfl) rfl) ?_
   refine sq_det rfl (by decide) rfl rfl (det_call rfl ok84 (ref14_LinSubstitute l s u (by have := linsWt_mem (mem_of_get hl); omega) ht (hr2 l (mem_of_get hl)) hrt) ⟨VLe.refl _, rfl, VLe.refl _, rfl, VLe.refl _, rfl, trivial⟩) ?_
   refine sq_det rfl (by decide) rfl rfl (det_move_tup rfl rfl) ?_
   refine sq_det rfl (by decide) rfl rfl (det_ex_agg rfl rfl rfl) ?_
   refine sq_det rfl (by decide) rfl rfl (det_ex_c rfl rfl rfl) ?_
   refine sq_op rfl rfl (by decide) rfl rfl (ope_allocN [none, some 2] rfl zr29 rfl) ?_
   rintro _ _ ⟨b8, rfl, rfl⟩
   refine ⟨_, rfl, ?_⟩
   refine sq_op0 rfl rfl (by decide) rfl rfl (det_store rfl sz29 rfl rfl rfl (st_row 0 rfl rfl)) ?_
   rintro _ _ ⟨rfl, rfl⟩
   refine ⟨_, rfl, ?_⟩
   refine sq_nil rfl ?_
   refine rwp_det rfl rfl (det_assign rfl rfl) ?_
   refine rwp_nil ?_
   refine awp_seq ?_
   refine awp_seq ?_
   refine awp_region rfl ?_
   refine rwp_det rfl rfl (det_move rfl rfl) ?_
   refine rwp_det rfl rfl (det_neq rfl rfl rfl) ?_
   refine rwp_nil ?_
   refine awp_cond rfl (fun c3 => ?_) (fun c3 => ?_)
   ·try simp only [sx, List.length_map] at c3
    refine awp_seq ?_
    refine awp_region rfl ?_
    refine rwp_det rfl rfl (det_buildN [none, some 2, none, some 2] rfl zr117 pl117 rfl rfl) ?_
    refine rwp_det rfl rfl (det_move rfl rfl) ?_
    refine rwp_det0 rfl rfl (det_store rfl sz117 rfl rfl rfl (st_row 3 rfl rfl)) ?_
    refine rwp_det rfl rfl (det_assign rfl rfl) ?_
    refine rwp_nil ?_
    refine awp_ret ?_
    repeat (first | refine thenQ_ret ?_ | refine blockQ_ret ?_)
    refine fin2 (rs_cell_agg agg117 rfl (ptr_row 3 rfl) rfl) (rs_c rfl) ?_
    rw [mIx_e2 c1 (mLins_no hl hp c3)]; rfl
   ·try simp only [sx, List.length_map] at c3
    refine awp_skip ?_
    refine awp_region rfl ?_
    refine rwp_det rfl rfl (det_field_lit rfl fd117_2 rfl) ?_
    refine rwp_det rfl rfl (det_load_one rfl one104 rfl (ptr_row 2 rfl) rfl) ?_
    refine rwp_det rfl rfl (det_load_agg rfl agg29 rfl (ptr_row 0 rfl) rfl) ?_
    refine rwp_det rfl rfl (det_bslice rfl el104 zr29 rfl rfl rfl rfl) ?_
    refine rwp_op rfl rfl (ope_append 1 rfl el104 rfl rfl rfl (by simp only [List.length_map, List.length_append, List.length_cons, List.length_nil]; omega) (by simp only [List.length_map, List.length_append, List.length_cons, List.length_nil]; omega)) ?_
    rintro _ _ ⟨sv9, rfl, rfl⟩
    refine rwp_det rfl rfl (det_field_lit rfl fd117_2 rfl) ?_
    refine rwp_det0 rfl rfl (det_store rfl sz104 rfl rfl rfl (st_row 2 rfl rfl)) ?_
    refine rwp_nil ?_
    refine awp_region rfl ?_
    refine rwp_det rfl rfl (det_move rfl rfl) ?_
    refine rwp_det rfl rfl (det_add_nw rfl rfl rfl ⟨by omega, by omega⟩) ?_
    refine rwp_det rfl rfl (det_assign rfl rfl) ?_
    refine rwp_nil ?_
    refine ⟨⟨k + 1, outs ++ [(substR l s u).1], sv9⟩, ⟨by omega, by simp; omega, mLins_next hl hp c3⟩, (by show x.At.length - (k + 1) < x.At.length - k; omega), Weak.mk [false, true, true, true, true, true] ⟨VLe.refl _, VLe.refl _, VLe.refl _, VLe.refl _, VLe.refl _, VLe.refl _, trivial⟩ (by exact mem2_eq' (by rw [List.map_append]; rfl))⟩
  ·try simp only [sx, List.length_map] at c2
   have hml := mLins_end hp (by omega)
   refine awp_weak _ (weak_freezeM 0 rfl (regs' := []) (μ' := [_, _, _, _]) trivial ⟨EFle.row (ds := [_, _, _, _]) ⟨.inl rfl, .inl rfl, .inl rfl, .inr ⟨rfl, rfl⟩, trivial⟩, EFle.refl _, EFle.refl _, EFle.refl _, trivial⟩) ?_
   refine awp_exit ?_
   refine awp_seq ?_
   refine awp_region rfl ?_
   refine rwp_det rfl rfl (det_load_agg rfl agg117 rfl (ptr_row 0 rfl) rfl) ?_
   refine rwp_det0 rfl rfl (det_store rfl sz117 rfl rfl rfl (st_row 1 rfl rfl)) ?_
   refine rwp_det rfl rfl (det_assign rfl rfl) ?_
   refine rwp_nil ?_
   refine awp_ret ?_
   repeat (first | refine thenQ_ret ?_ | refine blockQ_ret ?_)
   refine fin2 (rs_cell_agg agg117 rfl (ptr_row 1 rfl) rfl) (rs_c rfl) ?_
   rw [mIx_ok c1 hml]; rfl

theorem ref14_Substitute_step (e : Ex) (s : ByteArray) (u : Lf) (ht : u.L.length ≤ 4294967296) (hrt : u.rng) (ih : ∀ a, a ∈ e.Args → a.allF Lf.rng → a.wt ≤ 4294967296 → Pur cfg 25 [vE a, vS s, vLin u] (.tup [vE (outE (mEx (fun l => substR l s u) a)), vI (errE (mEx (fun l => substR l s u) a))])) (hP : e.allF Lf.rng) (he : e.wt ≤ 4294967296) :
    Pur cfg 25 [vE e, vS s, vLin u] (.tup [vE (outE (mEx (fun l => substR l s u) e)), vI (errE (mEx (fun l => substR l s u) e))]) := by
 refine con_intro Tryz.func25 rfl Tryz.ntmps25 Tryz.results25 rfl ?_
 intro z hz
 obtain ⟨hL, hI, hA⟩ := e.parts he
 have hew := Ex.wt_eq e
 refine awp_seq ?_
 refine awp_region rfl ?_
 refine rwp_op rfl rfl (ope_box rfl rfl) ?_
 rintro _ _ ⟨b1, rfl, rfl⟩
 refine rwp_op rfl rfl (ope_box rfl rfl) ?_
 rintro _ _ ⟨b2, rfl, rfl⟩
 refine rwp_op rfl rfl (ope_allocN [none, none, none, none, none, none, none, none, none, none, some 2, some 4, some 13] rfl zr33 rfl) ?_
 rintro _ _ ⟨b3, rfl, rfl⟩
 refine rwp_det rfl rfl (det_assign rfl rfl) ?_
 refine rwp_nil ?_
 refine awp_seq ?_
 refine awp_region rfl ?_
 refine rwp_det rfl rfl (det_field_lit rfl fd33_0 rfl) ?_
 refine rwp_det rfl rfl (det_load_one rfl one3 rfl (ptr_row 2 rfl) rfl) ?_
 refine rwp_det rfl rfl (det_field_lit rfl fd33_1 rfl) ?_
 refine rwp_det rfl rfl (det_load_one rfl one9 rfl (ptr_row 2 rfl) rfl) ?_
 refine rwp_det rfl rfl (det_field_lit rfl fd33_2 rfl) ?_
 refine rwp_det rfl rfl (det_load_agg rfl agg26 rfl (ptr_row 2 rfl) rfl) ?_
 refine rwp_det rfl rfl (det_field_lit rfl fd33_3 rfl) ?_
 refine rwp_det rfl rfl (det_load_agg rfl agg23 rfl (ptr_row 2 rfl) rfl) ?_
 refine rwp_det rfl rfl (det_build rfl zr33 pl33 rfl) ?_
 refine rwp_op rfl rfl (ope_alloc rfl zr33) ?_
 rintro _ _ ⟨b4, rfl, rfl⟩
 refine rwp_weak _ (weak_own 75 2) ?_
 refine rwp_weak _ (weak_own 117 4) ?_
 refine rwp_weak _ (weak_own 33 13) ?_
 refine rwp_det0 rfl rfl (det_store rfl sz33 rfl rfl rfl (st_row 3 rfl rfl)) ?_
 refine rwp_nil ?_
 refine awp_seq ?_
 refine awp_region rfl ?_
 refine rwp_det rfl rfl (det_field_lit rfl fd33_4 rfl) ?_
 refine rwp_det rfl rfl (det_load_agg rfl agg29 rfl (ptr_row 6 rfl) rfl) ?_
 refine rwp_det rfl rfl (det_move rfl rfl) ?_
 refine rwp_det rfl rfl (det_load_agg rfl agg29 rfl (ptr_row 5 rfl) rfl) ?_
 refine rwp_det rfl rfl (det_call rfl ok84 (ref14_LinSubstitute e.Lin s u hL ht (Ex.allF_lin hP) hrt) ⟨VLe.refl _, rfl, VLe.refl _, rfl, VLe.refl _, rfl, trivial⟩) ?_
 refine rwp_det rfl rfl (det_move_tup rfl rfl) ?_
 refine rwp_det rfl rfl (det_ex_agg rfl rfl rfl) ?_
 refine rwp_det rfl rfl (det_ex_c rfl rfl rfl) ?_
 refine rwp_op rfl rfl (ope_allocN [none, some 2] rfl zr29 rfl) ?_
 rintro _ _ ⟨b8, rfl, rfl⟩
 refine rwp_det0 rfl rfl (det_store rfl sz29 rfl rfl rfl (st_row 0 rfl rfl)) ?_
 refine rwp_det rfl rfl (det_assign rfl rfl) ?_
 refine rwp_nil ?_
 refine awp_seq ?_
 refine awp_seq ?_
 refine awp_region rfl ?_
 refine rwp_det rfl rfl (det_move rfl rfl) ?_
 refine rwp_det rfl rfl (det_neq rfl rfl rfl) ?_
 refine rwp_nil ?_
 refine awp_cond rfl (fun c1 => ?_) (fun c1 => ?_)
 ·try simp only [sx, List.length_map] at c1
  refine awp_seq ?_
  refine awp_region rfl ?_
  refine rwp_det rfl rfl (det_buildN [none, none, none, none, none, none, none, none, none, none, some 2, some 4, some 13] rfl zr33 pl33 rfl rfl) ?_
  refine rwp_det rfl rfl (det_move rfl rfl) ?_
  refine rwp_det0 rfl rfl (det_store rfl sz33 rfl rfl rfl (st_row 5 rfl rfl)) ?_
  refine rwp_det rfl rfl (det_assign rfl rfl) ?_
  refine rwp_nil ?_
  refine awp_ret ?_
  repeat (first | refine thenQ_ret ?_ | refine blockQ_ret ?_)
  refine fin2 (rs_cell_agg agg33 rfl (ptr_row 5 rfl) rfl) (rs_c rfl) ?_
  rw [mEx_e1 c1]; rfl
 ·try simp only [sx, List.length_map] at c1
  refine awp_skip ?_
  refine awp_seq ?_
  refine awp_region rfl ?_
  refine rwp_det rfl rfl (det_load_agg rfl agg29 rfl (ptr_row 0 rfl) rfl) ?_
  refine rwp_det rfl rfl (det_field_lit rfl fd33_4 rfl) ?_
  refine rwp_det0 rfl rfl (det_store rfl sz29 rfl rfl rfl (st_row 4 rfl rfl)) ?_
  refine rwp_nil ?_
  refine awp_seq ?_
  refine awp_seq ?_
  refine awp_region rfl ?_
  refine rwp_det rfl rfl (det_assign rfl rfl) ?_
  refine rwp_nil ?_
  refine awp_block ?_
  refine awp_weak ⟨[(11, .c _), (1, .c _), (3, .c _), (5, .c _), (6, .c _), (8, .c _)], [_, _, _, _, _, _]⟩ (Weak.mk [false, true, true, false, true, true, true, true] ⟨VLe.of_eq rfl, VLe.of_eq rfl, VLe.of_eq rfl, VLe.of_eq rfl, VLe.of_eq rfl, VLe.of_eq rfl, trivial⟩ rfl) ?_
  refine awp_loop_k 1 3 rfl rfl (Nat × List Ix × Value) (fun ⟨k, outs, sv⟩ => [(11, vI k)]) (fun ⟨k, outs, sv⟩ => [E.vec (.slice none 0 0) 33 13 [], E.vec sv 117 4 (outs.map Ix.cells), E.row b4 33 [cI e.Op, cS e.Name, cI e.Val.N, cI e.Val.D, cI e.Ty.Kind, cI e.Ty.Bits, cI e.Ty.Frac, cI e.Ty.Round, cI e.Ty.Over, cI (substR e.Lin s u).1.K, .sl 2 ((substR e.Lin s u).1.L.map Mono.cells), .lit sv, .lit (.slice none 0 0)]]) (fun ⟨k, outs, sv⟩ => k ≤ e.Idx.length ∧ (outs.length = k) ∧ (mIxs (fun l => substR l s u) e.Idx = mapRest outs (mIxs (fun l => substR l s u) (e.Idx.drop k)))) (fun ⟨k, outs, sv⟩ => e.Idx.length - k) ⟨⟨0, [], .slice none 0 0⟩, ⟨by omega, rfl, (mapRest_nil _).symm⟩, Weak.mk [true, true, true, true, true, true] ⟨VLe.refl _, VLe.refl _, VLe.refl _, VLe.refl _, VLe.refl _, VLe.refl _, trivial⟩ rfl⟩ ?_
  rintro ⟨k, outs, sv⟩ ⟨hk, ho, hp⟩
  show AWP _ _ _ _ _ ⟨[(11, vI k)] ++ _, [E.vec (.slice none 0 0) 33 13 [], E.vec sv 117 4 (outs.map Ix.cells), E.row b4 33 [cI e.Op, cS e.Name, cI e.Val.N, cI e.Val.D, cI e.Ty.Kind, cI e.Ty.Bits, cI e.Ty.Frac, cI e.Ty.Round, cI e.Ty.Over, cI (substR e.Lin s u).1.K, .sl 2 ((substR e.Lin s u).1.L.map Mono.cells), .lit sv, .lit (.slice none 0 0)]] ++ _⟩
  refine awp_seq ?_
  refine awp_seq ?_
  refine awp_region rfl ?_
  refine rwp_det rfl rfl (det_move rfl rfl) ?_
  refine rwp_det rfl rfl (det_field_lit rfl fd33_5 rfl) ?_
  refine rwp_det rfl rfl (det_load_one rfl one30 rfl (ptr_row 5 rfl) rfl) ?_
  refine rwp_det rfl rfl (det_len_slm rfl el30 rfl) ?_
  refine rwp_det rfl rfl (det_lss rfl rfl rfl) ?_
  refine rwp_nil ?_
  refine awp_cond rfl (fun c2 => ?_) (fun c2 => ?_)
  ·try simp only [sx, List.length_map] at c2
   obtain ⟨x, hx⟩ := ex_get e.Idx k (by omega)
   refine awp_skip ?_
   refine awp_seq ?_
   refine awp_block ?_
   refine awp_seq ?_
   refine awp_draw_c 13 1 [⟨0, .q []⟩, ⟨1, .q [6]⟩, ⟨2, .q []⟩, ⟨3, .q []⟩, ⟨4, .q []⟩, ⟨5, .q []⟩, ⟨6, .q [5]⟩, ⟨7, .q []⟩, ⟨8, .q []⟩, ⟨9, .q []⟩, ⟨10, .q []⟩, ⟨11, .e 0 []⟩, ⟨12, .e 0 []⟩] mixed (by kernel_rfl) (by kernel_rfl) rfl rfl rfl ?_
   refine fx_skip rfl ?_
   refine fx_skip rfl ?_
   refine fx_skip rfl ?_
   refine fx_skip rfl ?_
   refine fx_skip rfl ?_
   refine fx_skip rfl ?_
   refine fx_skip rfl ?_
   refine fx_skip rfl ?_
   refine fx_skip rfl ?_
   refine fx_skip rfl ?_
   refine fx_skip rfl ?_
   refine fx_skip rfl ?_
   refine fx_skip rfl ?_
   refine fx_nil ?_
   refine sq_det rfl (by decide) rfl rfl (det_field_lit rfl fd33_5 rfl) ?_
   refine sq_det rfl (by decide) rfl rfl (det_load_one rfl one30 rfl (ptr_row 0 rfl) rfl) ?_
   refine sq_det rfl (by decide) rfl rfl (det_move rfl rfl) ?_
   refine sq_det rfl (by decide) rfl rfl (det_index_sl rfl el30 rfl rfl (by omega) (getm (by assumption))) ?_
   refine sq_det rfl (by decide) rfl rfl (det_load_agg rfl agg117 rfl ptr_imm rfl) ?_
   refine sq_det rfl (by decide) rfl rfl (det_move rfl rfl) ?_
   refine sq_det rfl (by decide) rfl rfl (det_load_agg rfl agg29 rfl (ptr_row 0 rfl) rfl) ?_
   refine sq_det rfl (by decide) rfl rfl (det_call rfl ok85 (ref14_indexSubstitute x s u ht hrt (by have := idxWt_mem (mem_of_get hx); omega) (Ex.allF_ix hP (mem_of_get hx)) (fun l hl => Ex.allF_at hP (mem_of_get hx) hl)) ⟨VLe.refl _, rfl, VLe.refl _, rfl, VLe.refl _, rfl, trivial⟩) ?_
   refine sq_det rfl (by decide) rfl rfl (det_move_tup rfl rfl) ?_
   refine sq_det rfl (by decide) rfl rfl (det_ex_agg rfl rfl rfl) ?_
   refine sq_det rfl (by decide) rfl rfl (det_ex_c rfl rfl rfl) ?_
   refine sq_op rfl rfl (by decide) rfl rfl (ope_allocN [none, some 2, none, some 2] rfl zr117 rfl) ?_
   rintro _ _ ⟨b9, rfl, rfl⟩
   refine ⟨_, rfl, ?_⟩
   refine sq_op0 rfl rfl (by decide) rfl rfl (det_store rfl sz117 rfl rfl rfl (st_row 0 rfl rfl)) ?_
   rintro _ _ ⟨rfl, rfl⟩
   refine ⟨_, rfl, ?_⟩
   refine sq_nil rfl ?_
   refine rwp_det rfl rfl (det_assign rfl rfl) ?_
   refine rwp_nil ?_
   refine awp_seq ?_
   refine awp_seq ?_
   refine awp_region rfl ?_
   refine rwp_det rfl rfl (det_move rfl rfl) ?_
   refine rwp_det rfl rfl (det_neq rfl rfl rfl) ?_
   refine rwp_nil ?_
   refine awp_cond rfl (fun c3 => ?_) (fun c3 => ?_)
   ·try simp only [sx, List.length_map] at c3
    refine awp_seq ?_
    refine awp_region rfl ?_
    refine rwp_det rfl rfl (det_buildN [none, none, none, none, none, none, none, none, none, none, some 2, some 4, some 13] rfl zr33 pl33 rfl rfl) ?_
    refine rwp_det rfl rfl (det_move rfl rfl) ?_
    refine rwp_det0 rfl rfl (det_store rfl sz33 rfl rfl rfl (st_row 4 rfl rfl)) ?_
    refine rwp_det rfl rfl (det_assign rfl rfl) ?_
    refine rwp_nil ?_
    refine awp_ret ?_
    repeat (first | refine thenQ_ret ?_ | refine blockQ_ret ?_)
    refine fin2 (rs_cell_agg agg33 rfl (ptr_row 4 rfl) rfl) (rs_c rfl) ?_
    rw [mEx_e2 c1 (mIxs_no' hx hp c3)]; rfl
   ·try simp only [sx, List.length_map] at c3
    refine awp_skip ?_
    refine awp_region rfl ?_
    refine rwp_det rfl rfl (det_field_lit rfl fd33_5 rfl) ?_
    refine rwp_det rfl rfl (det_load_one rfl one30 rfl (ptr_row 3 rfl) rfl) ?_
    refine rwp_det rfl rfl (det_load_agg rfl agg117 rfl (ptr_row 0 rfl) rfl) ?_
    refine rwp_det rfl rfl (det_bslice rfl el30 zr117 rfl rfl rfl rfl) ?_
    refine rwp_op rfl rfl (ope_append 2 rfl el30 rfl rfl rfl (by simp only [List.length_map, List.length_append, List.length_cons, List.length_nil]; omega) (by simp only [List.length_map, List.length_append, List.length_cons, List.length_nil]; omega)) ?_
    rintro _ _ ⟨sv10, rfl, rfl⟩
    refine rwp_det rfl rfl (det_field_lit rfl fd33_5 rfl) ?_
    refine rwp_det0 rfl rfl (det_store rfl sz30 rfl rfl rfl (st_row 3 rfl rfl)) ?_
    refine rwp_nil ?_
    refine awp_region rfl ?_
    refine rwp_det rfl rfl (det_move rfl rfl) ?_
    refine rwp_det rfl rfl (det_add_nw rfl rfl rfl ⟨by omega, by omega⟩) ?_
    refine rwp_det rfl rfl (det_assign rfl rfl) ?_
    refine rwp_nil ?_
    refine ⟨⟨k + 1, outs ++ [outI (mIx (fun l => substR l s u) x)], sv10⟩, ⟨by omega, by simp; omega, mIxs_next' hx hp c3⟩, (by show e.Idx.length - (k + 1) < e.Idx.length - k; omega), Weak.mk [false, true, true, true, true, true, true] ⟨VLe.refl _, VLe.refl _, VLe.refl _, VLe.refl _, VLe.refl _, VLe.refl _, trivial⟩ (by exact mem3_eq (by rw [List.map_append]; rfl))⟩
  ·try simp only [sx, List.length_map] at c2
   have hmi := mIxs_end hp (by omega)
   refine awp_weak _ (weak_freezeM 1 rfl (regs' := []) (μ' := [_, _, _, _, _]) trivial ⟨EFle.refl _, EFle.row (ds := [_, _, _, _, _, _, _, _, _, _, _, _, _]) ⟨.inl rfl, .inl rfl, .inl rfl, .inl rfl, .inl rfl, .inl rfl, .inl rfl, .inl rfl, .inl rfl, .inl rfl, .inl rfl, .inr ⟨rfl, rfl⟩, .inl rfl, trivial⟩, EFle.refl _, EFle.refl _, EFle.refl _, trivial⟩) ?_
   refine awp_exit ?_
   refine awp_seq ?_
   refine awp_seq ?_
   refine awp_region rfl ?_
   refine rwp_det rfl rfl (det_assign rfl rfl) ?_
   refine rwp_nil ?_
   refine awp_block ?_
   refine awp_weak ⟨[(14, .c _), (1, .c _), (3, .c _), (5, .c _), (6, .c _), (8, .c _)], [_, _, _, _, _]⟩ (Weak.mk [true, true, true, true, true] ⟨VLe.of_eq rfl, VLe.of_eq rfl, VLe.of_eq rfl, VLe.of_eq rfl, VLe.of_eq rfl, VLe.of_eq rfl, trivial⟩ rfl) ?_
   refine awp_loop_k 1 2 rfl rfl (Nat × List Ex × Value) (fun ⟨n, exs, sw⟩ => [(14, vI n)]) (fun ⟨n, exs, sw⟩ => [E.vec sw 33 13 (exs.map Ex.cells), E.row b4 33 [cI e.Op, cS e.Name, cI e.Val.N, cI e.Val.D, cI e.Ty.Kind, cI e.Ty.Bits, cI e.Ty.Frac, cI e.Ty.Round, cI e.Ty.Over, cI (substR e.Lin s u).1.K, .sl 2 ((substR e.Lin s u).1.L.map Mono.cells), .sl 4 (outs.map Ix.cells), .lit sw]]) (fun ⟨n, exs, sw⟩ => n ≤ e.Args.length ∧ (exs.length = n) ∧ (mExs (fun l => substR l s u) e.Args = mapRest exs (mExs (fun l => substR l s u) (e.Args.drop n)))) (fun ⟨n, exs, sw⟩ => e.Args.length - n) ⟨⟨0, [], .slice none 0 0⟩, ⟨by omega, rfl, (mapRest_nil _).symm⟩, Weak.mk [true, true, true, true, true] ⟨VLe.refl _, VLe.refl _, VLe.refl _, VLe.refl _, VLe.refl _, VLe.refl _, trivial⟩ rfl⟩ ?_
   rintro ⟨n, exs, sw⟩ ⟨hn, hno, hr⟩
   show AWP _ _ _ _ _ ⟨[(14, vI n)] ++ _, [E.vec sw 33 13 (exs.map Ex.cells), E.row b4 33 [cI e.Op, cS e.Name, cI e.Val.N, cI e.Val.D, cI e.Ty.Kind, cI e.Ty.Bits, cI e.Ty.Frac, cI e.Ty.Round, cI e.Ty.Over, cI (substR e.Lin s u).1.K, .sl 2 ((substR e.Lin s u).1.L.map Mono.cells), .sl 4 (outs.map Ix.cells), .lit sw]] ++ _⟩
   refine awp_seq ?_
   refine awp_seq ?_
   refine awp_region rfl ?_
   refine rwp_det rfl rfl (det_move rfl rfl) ?_
   refine rwp_det rfl rfl (det_field_lit rfl fd33_6 rfl) ?_
   refine rwp_det rfl rfl (det_load_one rfl one31 rfl (ptr_row 4 rfl) rfl) ?_
   refine rwp_det rfl rfl (det_len_slm rfl el31 rfl) ?_
   refine rwp_det rfl rfl (det_lss rfl rfl rfl) ?_
   refine rwp_nil ?_
   refine awp_cond rfl (fun c4 => ?_) (fun c4 => ?_)
   ·try simp only [sx, List.length_map] at c4
    obtain ⟨a, ha⟩ := ex_get e.Args n (by omega)
    refine awp_skip ?_
    refine awp_seq ?_
    refine awp_block ?_
    refine awp_seq ?_
    refine awp_draw_c 13 1 [⟨0, .q []⟩, ⟨1, .q [5]⟩, ⟨2, .q []⟩, ⟨3, .q []⟩, ⟨4, .q []⟩, ⟨5, .q []⟩, ⟨6, .q [4]⟩, ⟨7, .q []⟩, ⟨8, .q []⟩, ⟨9, .q []⟩, ⟨10, .q []⟩, ⟨11, .e 0 []⟩, ⟨12, .e 0 []⟩] mixed (by kernel_rfl) (by kernel_rfl) rfl rfl rfl ?_
    refine fx_skip rfl ?_
    refine fx_skip rfl ?_
    refine fx_skip rfl ?_
    refine fx_skip rfl ?_
    refine fx_skip rfl ?_
    refine fx_skip rfl ?_
    refine fx_skip rfl ?_
    refine fx_skip rfl ?_
    refine fx_skip rfl ?_
    refine fx_skip rfl ?_
    refine fx_skip rfl ?_
    refine fx_skip rfl ?_
    refine fx_skip rfl ?_
    refine fx_nil ?_
    refine sq_det rfl (by decide) rfl rfl (det_field_lit rfl fd33_6 rfl) ?_
    refine sq_det rfl (by decide) rfl rfl (det_load_one rfl one31 rfl (ptr_row 0 rfl) rfl) ?_
    refine sq_det rfl (by decide) rfl rfl (det_move rfl rfl) ?_
    refine sq_det rfl (by decide) rfl rfl (det_index_sl rfl el31 rfl rfl (by omega) (getmE (by assumption))) ?_
    refine sq_det rfl (by decide) rfl rfl (det_load_agg rfl agg33 rfl ptr_imm rfl) ?_
    refine sq_det rfl (by decide) rfl rfl (det_move rfl rfl) ?_
    refine sq_det rfl (by decide) rfl rfl (det_load_agg rfl agg29 rfl (ptr_row 0 rfl) rfl) ?_
    refine sq_det rfl (by decide) rfl rfl (det_call rfl ok25 (ih a (mem_of_get ha) (Ex.allF_arg hP (mem_of_get ha)) (by have := Ex.arg_wt (mem_of_get ha); omega)) ⟨VLe.refl _, rfl, VLe.refl _, rfl, VLe.refl _, rfl, trivial⟩) ?_
    refine sq_det rfl (by decide) rfl rfl (det_move_tup rfl rfl) ?_
    refine sq_det rfl (by decide) rfl rfl (det_ex_agg rfl rfl rfl) ?_
    refine sq_det rfl (by decide) rfl rfl (det_ex_c rfl rfl rfl) ?_
    refine sq_op rfl rfl (by decide) rfl rfl (ope_allocN [none, none, none, none, none, none, none, none, none, none, some 2, some 4, some 13] rfl zr33 rfl) ?_
    rintro _ _ ⟨b11, rfl, rfl⟩
    refine ⟨_, rfl, ?_⟩
    refine sq_op0 rfl rfl (by decide) rfl rfl (det_store rfl sz33 rfl rfl rfl (st_row 0 rfl rfl)) ?_
    rintro _ _ ⟨rfl, rfl⟩
    refine ⟨_, rfl, ?_⟩
    refine sq_nil rfl ?_
    refine rwp_det rfl rfl (det_assign rfl rfl) ?_
    refine rwp_nil ?_
    refine awp_seq ?_
    refine awp_seq ?_
    refine awp_region rfl ?_
    refine rwp_det rfl rfl (det_move rfl rfl) ?_
    refine rwp_det rfl rfl (det_neq rfl rfl rfl) ?_
    refine rwp_nil ?_
    refine awp_cond rfl (fun c5 => ?_) (fun c5 => ?_)
    ·try simp only [sx, List.length_map] at c5
     refine awp_seq ?_
     refine awp_region rfl ?_
     refine rwp_det rfl rfl (det_buildN [none, none, none, none, none, none, none, none, none, none, some 2, some 4, some 13] rfl zr33 pl33 rfl rfl) ?_
     refine rwp_det rfl rfl (det_move rfl rfl) ?_
     refine rwp_det0 rfl rfl (det_store rfl sz33 rfl rfl rfl (st_row 3 rfl rfl)) ?_
     refine rwp_det rfl rfl (det_assign rfl rfl) ?_
     refine rwp_nil ?_
     refine awp_ret ?_
     repeat (first | refine thenQ_ret ?_ | refine blockQ_ret ?_)
     refine fin2 (rs_cell_agg agg33 rfl (ptr_row 3 rfl) rfl) (rs_c rfl) ?_
     rw [mEx_e3 c1 hmi (mExs_no ha hr c5)]; rfl
    ·try simp only [sx, List.length_map] at c5
     refine awp_skip ?_
     refine awp_region rfl ?_
     refine rwp_det rfl rfl (det_field_lit rfl fd33_6 rfl) ?_
     refine rwp_det rfl rfl (det_load_one rfl one31 rfl (ptr_row 2 rfl) rfl) ?_
     refine rwp_det rfl rfl (det_load_agg rfl agg33 rfl (ptr_row 0 rfl) rfl) ?_
     refine rwp_det rfl rfl (det_bslice rfl el31 zr33 rfl rfl rfl rfl) ?_
     refine rwp_op rfl rfl (ope_append 1 rfl el31 rfl rfl rfl (by simp only [List.length_map, List.length_append, List.length_cons, List.length_nil]; omega) (by simp only [List.length_map, List.length_append, List.length_cons, List.length_nil]; omega)) ?_
     rintro _ _ ⟨sv12, rfl, rfl⟩
     refine rwp_det rfl rfl (det_field_lit rfl fd33_6 rfl) ?_
     refine rwp_det0 rfl rfl (det_store rfl sz31 rfl rfl rfl (st_row 2 rfl rfl)) ?_
     refine rwp_nil ?_
     refine awp_region rfl ?_
     refine rwp_det rfl rfl (det_move rfl rfl) ?_
     refine rwp_det rfl rfl (det_add_nw rfl rfl rfl ⟨by omega, by omega⟩) ?_
     refine rwp_det rfl rfl (det_assign rfl rfl) ?_
     refine rwp_nil ?_
     refine ⟨⟨n + 1, exs ++ [outE (mEx (fun l => substR l s u) a)], sv12⟩, ⟨by omega, by simp; omega, mExs_next ha hr c5⟩, (by show e.Args.length - (n + 1) < e.Args.length - n; omega), Weak.mk [false, true, true, true, true, true] ⟨VLe.refl _, VLe.refl _, VLe.refl _, VLe.refl _, VLe.refl _, VLe.refl _, trivial⟩ (by exact mem2_eq' (by rw [List.map_append]; simp only [List.map_cons, List.map_nil, Ex.cells_eq]; rfl))⟩
   ·try simp only [sx, List.length_map] at c4
    have hme := mExs_end hr (by omega)
    refine awp_weak _ (weak_freezeM 0 rfl (regs' := []) (μ' := [_, _, _, _]) trivial ⟨EFle.row (ds := [_, _, _, _, _, _, _, _, _, _, _, _, _]) ⟨.inl rfl, .inl rfl, .inl rfl, .inl rfl, .inl rfl, .inl rfl, .inl rfl, .inl rfl, .inl rfl, .inl rfl, .inl rfl, .inl rfl, .inr ⟨rfl, rfl⟩, trivial⟩, EFle.refl _, EFle.refl _, EFle.refl _, trivial⟩) ?_
    refine awp_exit ?_
    refine awp_seq ?_
    refine awp_region rfl ?_
    refine rwp_det rfl rfl (det_load_agg rfl agg33 rfl (ptr_row 0 rfl) rfl) ?_
    refine rwp_det0 rfl rfl (det_store rfl sz33 rfl rfl rfl (st_row 1 rfl rfl)) ?_
    refine rwp_det rfl rfl (det_assign rfl rfl) ?_
    refine rwp_nil ?_
    refine awp_ret ?_
    repeat (first | refine thenQ_ret ?_ | refine blockQ_ret ?_)
    refine fin2 (rs_cell_agg agg33 rfl (ptr_row 1 rfl) rfl) (rs_c rfl) ?_
    rw [mEx_ok c1 hmi hme]; rfl

theorem ref14_Substitute (e : Ex) (s : ByteArray) (u : Lf) (ht : u.L.length ≤ 4294967296) (hrt : u.rng) (hP : e.allF Lf.rng) (he : e.wt ≤ 4294967296) : Pur cfg 25 [vE e, vS s, vLin u] (.tup [vE (outE (mEx (fun l => substR l s u) e)), vI (errE (mEx (fun l => substR l s u) e))]) := by
  induction e using Ex.ind with
  | _ e ih => exact ref14_Substitute_step e s u ht hrt ih hP he

end Go.W
