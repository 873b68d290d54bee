/-
  Walks: what functions of the program compute. Printed by wip/gen/mk2.py.
  Conditions: none.
-/
import Derived.Test.YtnnkemdiknefaaaGreatDoorWX
import Derived.Test.YtnnkemdiknefaaaGreatDoorWU
set_option linter.unusedSimpArgs false
set_option linter.unusedVariables false
namespace Go.W
open Go Go.Eng Go.Proofs Go.L41 Go.Br
attribute [local irreducible] AWP RWP TD
theorem ok153 : callOk Tryz.prog 153 = true := by kernel_rfl
theorem ok154 : callOk Tryz.prog 154 = true := by kernel_rfl
theorem ok205 : callOk Tryz.prog 205 = true := by kernel_rfl
theorem ok206 : callOk Tryz.prog 206 = true := by kernel_rfl
theorem ok207 : callOk Tryz.prog 207 = true := by kernel_rfl
theorem sz2 : (Tryz.prog.info? 2).map (·.size) = some 1 := by kernel_rfl
theorem sz4 : (Tryz.prog.info? 4).map (·.size) = some 1 := by kernel_rfl
theorem zr4 : zeroT Tryz.prog 4 = some [(Value.bool false)] := by kernel_rfl
theorem merge_con (a0 b0 : List Mono) (ha0 : a0.length ≤ 4294967296) (hb0 : b0.length ≤ 4294967296) :
    ∀ (y : C) (J : List Tr → List E → Prop) (μ : List E), (∀ d t s m, mergeL a0 b0 = d ++ t :: s → J d m → FnCon cfg y [vS t.1, vI t.2.1, vI t.2.2] m fun r m' => r = .tup [] ∧ J (d ++ [t]) m') → J [] μ → Con cfg 206 [.c (.sl 2 (a0.map Mono.cells)), .c (.sl 2 (b0.map Mono.cells)), .c y] μ fun r μ' => r = .tup [] ∧ J (mergeL a0 b0) μ' := by
 intro y J μ hy h0
 refine con_intro Tryz.func206 rfl Tryz.ntmps206 Tryz.results206 rfl ?_
 intro z hz
 refine awp_block ?_
 refine awp_weak ⟨[(0, .c _), (1, .c _), (2, .c _)], _⟩ (Weak.regs ⟨VLe.of_eq rfl, VLe.of_eq rfl, VLe.of_eq rfl, trivial⟩) ?_
 refine awp_loop_m 2 rfl (List Mono × List Mono × List Tr × List E) (fun ⟨a, b, d, m⟩ => [(0, .c (.sl 2 (a.map Mono.cells))), (1, .c (.sl 2 (b.map Mono.cells)))]) (fun ⟨a, b, d, m⟩ => m) (fun ⟨a, b, d, m⟩ => a.length ≤ 4294967296 ∧ b.length ≤ 4294967296 ∧ mergeL a0 b0 = d ++ mergeL a b ∧ J d m) (fun ⟨a, b, d, m⟩ => a.length + b.length) ⟨⟨a0, b0, [], μ⟩, ⟨ha0, hb0, rfl, h0⟩, Weak.regs ⟨VLe.refl _, VLe.refl _, VLe.refl _, trivial⟩⟩ ?_
 rintro ⟨a, b, d, m⟩ ⟨hal, hbl, hm, hJ⟩
 refine awp_seq ?_
 refine awp_seq ?_
 refine awp_region rfl ?_
 refine rwp_det rfl rfl (det_move rfl rfl) ?_
 refine rwp_det rfl rfl (det_len_slm rfl el27 rfl) ?_
 refine rwp_det rfl rfl (det_gtr rfl rfl rfl) ?_
 refine rwp_det rfl rfl (det_move rfl rfl) ?_
 refine rwp_lazy [] rfl rfl rfl rfl gv1 trivial (fun g0_3 => det_move rfl rfl) rfl ?_
 refine rwp_lazy [(10, _)] rfl rfl rfl rfl gv1 ⟨rfl, rfl, trivial⟩ (fun g0_3 => det_len_slm rfl el27 rfl) rfl ?_
 refine rwp_lazy [(11, _)] rfl rfl rfl rfl gv1 ⟨rfl, rfl, trivial⟩ (fun g0_3 => det_gtr rfl rfl rfl) rfl ?_
 refine rwp_det rfl rfl (det_or rfl rfl rfl rfl (fun h => (lzf h))) ?_
 refine rwp_nil ?_
 refine awp_cond rfl (fun c1 => ?_) (fun c1 => ?_)
 ·try simp only [sx, List.length_map] at c1
  refine awp_skip ?_
  refine awp_block ?_
  refine awp_block ?_
  refine awp_seq ?_
  refine awp_draw 20 mixed (by kernel_rfl) rfl rfl ?_
  refine td_det rfl rfl (det_move rfl rfl) ?_
  refine td_det rfl rfl (det_len_slm rfl el27 rfl) ?_
  refine td_det rfl rfl (det_eql rfl rfl rfl) ?_
  refine td_det rfl rfl (det_move rfl rfl) ?_
  refine td_lazy [] rfl rfl rfl rfl gv1 trivial (fun g3_3 => det_move rfl rfl) rfl ?_
  refine td_lazy [(37, _)] rfl rfl rfl rfl gv1 ⟨rfl, rfl, trivial⟩ (fun g3_3 => det_len_slm rfl el27 rfl) rfl ?_
  refine td_lazy [(38, _)] rfl rfl rfl rfl gv1 ⟨rfl, rfl, trivial⟩ (fun g3_3 => det_gtr rfl rfl rfl) rfl ?_
  refine td_lazy [(39, _)] rfl rfl rfl rfl gv1 ⟨rfl, rfl, trivial⟩ (fun g3_3 => det_move rfl rfl) rfl ?_
  refine td_lazy [] rfl rfl rfl rfl gv2 trivial (fun g3_7 => det_move rfl rfl) rfl ?_
  refine td_lazy [(41, _)] rfl rfl rfl rfl gv2 ⟨rfl, rfl, trivial⟩ (fun g3_7 => det_index_sl rfl el27 rfl rfl (by simp only [Lz, cond_true, cond_false, Bool.and_eq_true, Bool.or_eq_true, Bool.not_eq_true', Bool.not_eq_false', Bool.or_eq_false_iff, Bool.and_eq_false_iff, decide_eq_true_eq, decide_eq_false_iff_not, Bool.not_eq_true, Bool.not_eq_false] at g3_7; omega) (getm (hd_get (by simp only [Lz, cond_true, cond_false, Bool.and_eq_true, Bool.or_eq_true, Bool.not_eq_true', Bool.not_eq_false', Bool.or_eq_false_iff, Bool.and_eq_false_iff, decide_eq_true_eq, decide_eq_false_iff_not, Bool.not_eq_true, Bool.not_eq_false] at g3_7; omega)))) rfl ?_
  refine td_lazy [(42, _)] rfl rfl rfl rfl gv2 ⟨rfl, rfl, trivial⟩ (fun g3_7 => det_field_imm rfl fd75_0 rfl) rfl ?_
  refine td_lazy [(43, _)] rfl rfl rfl rfl gv2 ⟨rfl, rfl, trivial⟩ (fun g3_7 => det_load_one rfl one9 rfl ptr_imm rfl) rfl ?_
  refine td_lazy [] rfl rfl rfl rfl gv2 trivial (fun g3_7 => det_move rfl rfl) rfl ?_
  refine td_lazy [(45, _)] rfl rfl rfl rfl gv2 ⟨rfl, rfl, trivial⟩ (fun g3_7 => det_index_sl rfl el27 rfl rfl (by simp only [Lz, cond_true, cond_false, Bool.and_eq_true, Bool.or_eq_true, Bool.not_eq_true', Bool.not_eq_false', Bool.or_eq_false_iff, Bool.and_eq_false_iff, decide_eq_true_eq, decide_eq_false_iff_not, Bool.not_eq_true, Bool.not_eq_false] at g3_7; omega) (getm (hd_get (by simp only [Lz, cond_true, cond_false, Bool.and_eq_true, Bool.or_eq_true, Bool.not_eq_true', Bool.not_eq_false', Bool.or_eq_false_iff, Bool.and_eq_false_iff, decide_eq_true_eq, decide_eq_false_iff_not, Bool.not_eq_true, Bool.not_eq_false] at g3_7; omega)))) rfl ?_
  refine td_lazy [(46, _)] rfl rfl rfl rfl gv2 ⟨rfl, rfl, trivial⟩ (fun g3_7 => det_field_imm rfl fd75_0 rfl) rfl ?_
  refine td_lazy [(47, _)] rfl rfl rfl rfl gv2 ⟨rfl, rfl, trivial⟩ (fun g3_7 => det_load_one rfl one9 rfl ptr_imm rfl) rfl ?_
  refine td_lazy [(44, _), (48, _)] rfl rfl rfl rfl gv2 ⟨rfl, rfl, rfl, rfl, trivial⟩ (fun g3_7 => det_slss rfl rfl rfl) rfl ?_
  refine td_lazy [(40, _)] rfl rfl rfl rfl gv1 ⟨rfl, rfl, trivial⟩ (fun g3_3 => det_and rfl rfl rfl (fun h => and_mk (by assumption) h) rfl) rfl ?_
  refine td_det rfl rfl (det_or rfl rfl rfl rfl (fun h => (lzf h))) ?_
  refine td_det rfl rfl (det_assign rfl rfl) ?_
  refine td_nil ?_
  refine rwp_nil ?_
  refine awp_cond rfl (fun c2 => ?_) (fun c2 => ?_)
  ·have hL := merge_left (by omega) c2
   have hdec : (a.drop 1).length + (b).length < a.length + b.length := by simp only [List.length_drop]; omega
   have hm1 : mergeL a0 b0 = (d ++ [((hdM a).Name, (hdM a).By, 0)]) ++ mergeL (a.drop 1) (b) := by rw [hm, hL.2]; simp
   refine awp_seq ?_
   refine awp_draw 9 mixed (by kernel_rfl) rfl rfl ?_
   refine td_det rfl rfl (det_move rfl rfl) ?_
   refine td_det rfl rfl (det_move rfl rfl) ?_
   refine td_det rfl rfl (det_index_sl rfl el27 rfl rfl (by omega) (getm (hd_get (by omega)))) ?_
   refine td_det rfl rfl (det_field_imm rfl fd75_0 rfl) ?_
   refine td_det rfl rfl (det_load_one rfl one9 rfl ptr_imm rfl) ?_
   refine td_det rfl rfl (det_move rfl rfl) ?_
   refine td_det rfl rfl (det_index_sl rfl el27 rfl rfl (by omega) (getm (hd_get (by omega)))) ?_
   refine td_det rfl rfl (det_field_imm rfl fd75_1 rfl) ?_
   refine td_det rfl rfl (det_load_one rfl one2 rfl ptr_imm rfl) ?_
   refine td_nil ?_
   refine rwp_op rfl rfl (ope_call_val rfl rfl (hy d ((hdM a).Name, (hdM a).By, 0) _ m (by rw [hm1, List.append_assoc]; rfl) hJ) ⟨VLe.refl _, rfl, VLe.refl _, rfl, VLe.refl _, rfl, trivial⟩) ?_
   rintro _ m1 ⟨rfl, hJ1⟩
   refine rwp_nil ?_
   refine awp_region rfl ?_
   refine rwp_det rfl rfl (det_move rfl rfl) ?_
   refine rwp_det rfl rfl (det_cut_drop (k := 1) rfl el27 rfl rfl (by omega)) ?_
   refine rwp_det rfl rfl (det_assign rfl rfl) ?_
   refine rwp_nil ?_
   refine ⟨⟨_, _, _, _⟩, ⟨by first | omega | (simp only [List.length_drop]; omega), by first | omega | (simp only [List.length_drop]; omega), hm1, hJ1⟩, hdec, Weak.regs ⟨VLe.refl _, VLe.refl _, VLe.refl _, trivial⟩⟩
  ·have hb1 := mC2_b c2
   refine awp_seq ?_
   refine awp_draw 15 mixed (by kernel_rfl) rfl rfl ?_
   refine td_det rfl rfl (det_move rfl rfl) ?_
   refine td_det rfl rfl (det_len_slm rfl el27 rfl) ?_
   refine td_det rfl rfl (det_eql rfl rfl rfl) ?_
   refine td_det rfl rfl (det_move rfl rfl) ?_
   refine td_lazy [] rfl rfl rfl rfl gv1 trivial (fun g6_3 => det_move rfl rfl) rfl ?_
   refine td_lazy [(69, _)] rfl rfl rfl rfl gv1 ⟨rfl, rfl, trivial⟩ (fun g6_3 => det_index_sl rfl el27 rfl rfl (by simp only [Lz, cond_true, cond_false, Bool.and_eq_true, Bool.or_eq_true, Bool.not_eq_true', Bool.not_eq_false', Bool.or_eq_false_iff, Bool.and_eq_false_iff, decide_eq_true_eq, decide_eq_false_iff_not, Bool.not_eq_true, Bool.not_eq_false] at g6_3; omega) (getm (hd_get (by simp only [Lz, cond_true, cond_false, Bool.and_eq_true, Bool.or_eq_true, Bool.not_eq_true', Bool.not_eq_false', Bool.or_eq_false_iff, Bool.and_eq_false_iff, decide_eq_true_eq, decide_eq_false_iff_not, Bool.not_eq_true, Bool.not_eq_false] at g6_3; omega)))) rfl ?_
   refine td_lazy [(70, _)] rfl rfl rfl rfl gv1 ⟨rfl, rfl, trivial⟩ (fun g6_3 => det_field_imm rfl fd75_0 rfl) rfl ?_
   refine td_lazy [(71, _)] rfl rfl rfl rfl gv1 ⟨rfl, rfl, trivial⟩ (fun g6_3 => det_load_one rfl one9 rfl ptr_imm rfl) rfl ?_
   refine td_lazy [] rfl rfl rfl rfl gv1 trivial (fun g6_3 => det_move rfl rfl) rfl ?_
   refine td_lazy [(73, _)] rfl rfl rfl rfl gv1 ⟨rfl, rfl, trivial⟩ (fun g6_3 => det_index_sl rfl el27 rfl rfl (by simp only [Lz, cond_true, cond_false, Bool.and_eq_true, Bool.or_eq_true, Bool.not_eq_true', Bool.not_eq_false', Bool.or_eq_false_iff, Bool.and_eq_false_iff, decide_eq_true_eq, decide_eq_false_iff_not, Bool.not_eq_true, Bool.not_eq_false] at g6_3; omega) (getm (hd_get (by simp only [Lz, cond_true, cond_false, Bool.and_eq_true, Bool.or_eq_true, Bool.not_eq_true', Bool.not_eq_false', Bool.or_eq_false_iff, Bool.and_eq_false_iff, decide_eq_true_eq, decide_eq_false_iff_not, Bool.not_eq_true, Bool.not_eq_false] at g6_3; omega)))) rfl ?_
   refine td_lazy [(74, _)] rfl rfl rfl rfl gv1 ⟨rfl, rfl, trivial⟩ (fun g6_3 => det_field_imm rfl fd75_0 rfl) rfl ?_
   refine td_lazy [(75, _)] rfl rfl rfl rfl gv1 ⟨rfl, rfl, trivial⟩ (fun g6_3 => det_load_one rfl one9 rfl ptr_imm rfl) rfl ?_
   refine td_lazy [(72, _), (76, _)] rfl rfl rfl rfl gv1 ⟨rfl, rfl, rfl, rfl, trivial⟩ (fun g6_3 => det_slss rfl rfl rfl) rfl ?_
   refine td_det rfl rfl (det_or rfl rfl rfl rfl (fun h => (lzf h))) ?_
   refine td_det rfl rfl (det_assign rfl rfl) ?_
   refine td_nil ?_
   refine rwp_nil ?_
   refine awp_cond rfl (fun c3 => ?_) (fun c3 => ?_)
   ·have hL := merge_right (by omega) c2 c3
    have hdec : (a).length + (b.drop 1).length < a.length + b.length := by simp only [List.length_drop]; omega
    have hm1 : mergeL a0 b0 = (d ++ [((hdM b).Name, 0, (hdM b).By)]) ++ mergeL (a) (b.drop 1) := by rw [hm, hL.2]; simp
    refine awp_seq ?_
    refine awp_draw 9 mixed (by kernel_rfl) rfl rfl ?_
    refine td_det rfl rfl (det_move rfl rfl) ?_
    refine td_det rfl rfl (det_move rfl rfl) ?_
    refine td_det rfl rfl (det_index_sl rfl el27 rfl rfl (by omega) (getm (hd_get (by omega)))) ?_
    refine td_det rfl rfl (det_field_imm rfl fd75_0 rfl) ?_
    refine td_det rfl rfl (det_load_one rfl one9 rfl ptr_imm rfl) ?_
    refine td_det rfl rfl (det_move rfl rfl) ?_
    refine td_det rfl rfl (det_index_sl rfl el27 rfl rfl (by omega) (getm (hd_get (by omega)))) ?_
    refine td_det rfl rfl (det_field_imm rfl fd75_1 rfl) ?_
    refine td_det rfl rfl (det_load_one rfl one2 rfl ptr_imm rfl) ?_
    refine td_nil ?_
    refine rwp_op rfl rfl (ope_call_val rfl rfl (hy d ((hdM b).Name, 0, (hdM b).By) _ m (by rw [hm1, List.append_assoc]; rfl) hJ) ⟨VLe.refl _, rfl, VLe.refl _, rfl, VLe.refl _, rfl, trivial⟩) ?_
    rintro _ m1 ⟨rfl, hJ1⟩
    refine rwp_nil ?_
    refine awp_region rfl ?_
    refine rwp_det rfl rfl (det_move rfl rfl) ?_
    refine rwp_det rfl rfl (det_cut_drop (k := 1) rfl el27 rfl rfl (by omega)) ?_
    refine rwp_det rfl rfl (det_assign rfl rfl) ?_
    refine rwp_nil ?_
    refine ⟨⟨_, _, _, _⟩, ⟨by first | omega | (simp only [List.length_drop]; omega), by first | omega | (simp only [List.length_drop]; omega), hm1, hJ1⟩, hdec, Weak.regs ⟨VLe.refl _, VLe.refl _, VLe.refl _, trivial⟩⟩
   ·have hL := merge_both c2 c3
    have hdec : (a.drop 1).length + (b.drop 1).length < a.length + b.length := by simp only [List.length_drop]; omega
    have hm1 : mergeL a0 b0 = (d ++ [((hdM a).Name, (hdM a).By, (hdM b).By)]) ++ mergeL (a.drop 1) (b.drop 1) := by rw [hm, hL.2.2]; simp
    refine awp_seq ?_
    refine awp_draw 13 mixed (by kernel_rfl) rfl rfl ?_
    refine td_det rfl rfl (det_move rfl rfl) ?_
    refine td_det rfl rfl (det_move rfl rfl) ?_
    refine td_det rfl rfl (det_index_sl rfl el27 rfl rfl (by omega) (getm (hd_get (by omega)))) ?_
    refine td_det rfl rfl (det_field_imm rfl fd75_0 rfl) ?_
    refine td_det rfl rfl (det_load_one rfl one9 rfl ptr_imm rfl) ?_
    refine td_det rfl rfl (det_move rfl rfl) ?_
    refine td_det rfl rfl (det_index_sl rfl el27 rfl rfl (by omega) (getm (hd_get (by omega)))) ?_
    refine td_det rfl rfl (det_field_imm rfl fd75_1 rfl) ?_
    refine td_det rfl rfl (det_load_one rfl one2 rfl ptr_imm rfl) ?_
    refine td_det rfl rfl (det_move rfl rfl) ?_
    refine td_det rfl rfl (det_index_sl rfl el27 rfl rfl (by omega) (getm (hd_get (by omega)))) ?_
    refine td_det rfl rfl (det_field_imm rfl fd75_1 rfl) ?_
    refine td_det rfl rfl (det_load_one rfl one2 rfl ptr_imm rfl) ?_
    refine td_nil ?_
    refine rwp_op rfl rfl (ope_call_val rfl rfl (hy d ((hdM a).Name, (hdM a).By, (hdM b).By) _ m (by rw [hm1, List.append_assoc]; rfl) hJ) ⟨VLe.refl _, rfl, VLe.refl _, rfl, VLe.refl _, rfl, trivial⟩) ?_
    rintro _ m1 ⟨rfl, hJ1⟩
    refine rwp_nil ?_
    refine awp_draw 6 mixed (by kernel_rfl) rfl rfl ?_
    refine td_det rfl rfl (det_move rfl rfl) ?_
    refine td_det rfl rfl (det_cut_drop (k := 1) rfl el27 rfl rfl (by omega)) ?_
    refine td_det rfl rfl (det_move rfl rfl) ?_
    refine td_det rfl rfl (det_cut_drop (k := 1) rfl el27 rfl rfl (by omega)) ?_
    refine td_det rfl rfl (det_assign rfl rfl) ?_
    refine td_det rfl rfl (det_assign rfl rfl) ?_
    refine td_nil ?_
    refine rwp_nil ?_
    refine ⟨⟨_, _, _, _⟩, ⟨by first | omega | (simp only [List.length_drop]; omega), by first | omega | (simp only [List.length_drop]; omega), hm1, hJ1⟩, hdec, Weak.regs ⟨VLe.refl _, VLe.refl _, VLe.refl _, trivial⟩⟩
 ·try simp only [sx, List.length_map] at c1
  refine awp_exit ?_
  repeat (first | refine then_exit ?_ | refine block_exit ?_)
  refine fin_end <| fin0 ?_
  exact ⟨rfl, by rw [hm, show a = [] from List.eq_nil_of_length_eq_zero (by omega), show b = [] from List.eq_nil_of_length_eq_zero (by omega), mergeL_nil, List.append_nil]; exact hJ⟩

theorem lin_Add_1 (bo bl : Nat) (ok : Bool) (K : Int) (sv : Value) (d : List Tr) (t : Tr) (h1 : r64 t.2.1) (h2 : r64 t.2.2) (hd : d.length ≤ 8589934592) :
    Con cfg 207 [vS t.1, vI t.2.1, vI t.2.2, .c (.lit (.pointer (some ⟨bo, 0, none⟩))), .c (.lit (.pointer (some ⟨bl, 0, none⟩)))] [E.row bo 4 [cB (okF ok (d))], E.vec sv 75 2 ((sumW (d)).map Mono.cells), E.row bl 29 [cI K, .lit sv]] fun r μ' => r = .tup [] ∧ ∃ sv', μ' = [E.row bo 4 [cB (okF ok (d ++ [t]))], E.vec sv' 75 2 ((sumW (d ++ [t])).map Mono.cells), E.row bl 29 [cI K, .lit sv']] := by
 refine con_intro Tryz.func207 rfl Tryz.ntmps207 Tryz.results207 rfl ?_
 intro z hz
 refine awp_seq ?_
 refine awp_region rfl ?_
 refine rwp_det rfl rfl (det_move rfl rfl) ?_
 refine rwp_det rfl rfl (det_move rfl rfl) ?_
 refine rwp_det rfl rfl (det_call rfl ok205 (lin_plus t.2.1 t.2.2 h1 h2) ⟨VLe.refl _, rfl, VLe.refl _, rfl, trivial⟩) ?_
 refine rwp_det rfl rfl (det_move_tup rfl rfl) ?_
 refine rwp_det rfl rfl (det_ex_c rfl rfl rfl) ?_
 refine rwp_det rfl rfl (det_ex_c rfl rfl rfl) ?_
 refine rwp_det rfl rfl (det_assign rfl rfl) ?_
 refine rwp_det rfl rfl (det_assign rfl rfl) ?_
 refine rwp_nil ?_
 refine awp_seq ?_
 refine awp_region rfl ?_
 refine rwp_det rfl rfl (det_load_one rfl one4 rfl (ptr_row 0 rfl) rfl) ?_
 refine rwp_det rfl rfl (det_move rfl rfl) ?_
 refine rwp_lazy [] rfl rfl rfl rfl gv1 trivial (fun g1_1 => det_move rfl rfl) rfl ?_
 refine rwp_det rfl rfl (det_and rfl rfl rfl (fun h => h) rfl) ?_
 refine rwp_det0 rfl rfl (det_store rfl sz4 rfl rfl rfl (st_row 0 rfl rfl)) ?_
 refine rwp_nil ?_
 refine awp_seq ?_
 refine awp_region rfl ?_
 refine rwp_det rfl rfl (det_move rfl rfl) ?_
 refine rwp_det rfl rfl (det_neq rfl rfl rfl) ?_
 refine rwp_nil ?_
 refine awp_cond rfl (fun c1 => ?_) (fun c1 => ?_)
 ·try simp only [sx, List.length_map] at c1
  refine awp_region rfl ?_
  refine rwp_det rfl rfl (det_field_lit rfl fd29_1 rfl) ?_
  refine rwp_det rfl rfl (det_load_one rfl one27 rfl (ptr_row 2 rfl) rfl) ?_
  refine rwp_det rfl rfl (det_move rfl rfl) ?_
  refine rwp_det rfl rfl (det_move rfl rfl) ?_
  refine rwp_det rfl rfl (det_build rfl zr75 pl75 rfl) ?_
  refine rwp_det rfl rfl (det_bslice rfl el27 zr75 rfl rfl rfl rfl) ?_
  refine rwp_op rfl rfl (ope_append 1 rfl el27 rfl rfl rfl (by have := sumW_len d; simp only [List.length_map, List.length_append, List.length_cons, List.length_nil]; omega) (by have := sumW_len d; simp only [List.length_map, List.length_append, List.length_cons, List.length_nil]; omega)) ?_
  rintro _ _ ⟨sv1, rfl, rfl⟩
  refine rwp_det rfl rfl (det_field_lit rfl fd29_1 rfl) ?_
  refine rwp_det0 rfl rfl (det_store rfl sz27 rfl rfl rfl (st_row 2 rfl rfl)) ?_
  refine rwp_nil ?_
  repeat (first | refine then_exit ?_ | refine block_exit ?_)
  refine fin_end <| fin0 ?_
  exact ⟨rfl, _, by rw [okF_next, sumW_next, if_neg (show ¬ w64 (trV t) = 0 from c1), List.map_append]; rfl⟩
 ·try simp only [sx, List.length_map] at c1
  refine awp_skip ?_
  repeat (first | refine then_exit ?_ | refine block_exit ?_)
  refine fin_end <| fin0 ?_
  exact ⟨rfl, _, by rw [okF_next, sumW_next, if_pos (show w64 (trV t) = 0 from c1), List.append_nil]; rfl⟩

theorem lin_Add (a b : Lf) (ha : a.L.length ≤ 4294967296) (hb : b.L.length ≤ 4294967296) (hra : a.rng) (hrb : b.rng) :
    Pur cfg 154 [vLin a, vLin b] (.tup [vLin (addL a b).1, vI (addL a b).2]) := by
 refine con_intro Tryz.func154 rfl Tryz.ntmps154 Tryz.results154 rfl ?_
 intro z hz
 refine awp_seq ?_
 refine awp_region rfl ?_
 refine rwp_op rfl rfl (ope_box rfl rfl) ?_
 rintro _ _ ⟨b1, rfl, rfl⟩
 refine rwp_op rfl rfl (ope_box rfl rfl) ?_
 rintro _ _ ⟨b2, rfl, rfl⟩
 refine rwp_op rfl rfl (ope_allocN [none, some 2] rfl zr29 rfl) ?_
 rintro _ _ ⟨b3, rfl, rfl⟩
 refine rwp_det rfl rfl (det_assign rfl rfl) ?_
 refine rwp_nil ?_
 refine awp_seq ?_
 refine awp_seq ?_
 refine awp_region rfl ?_
 refine rwp_det rfl rfl (det_load_agg rfl agg29 rfl (ptr_row 2 rfl) rfl) ?_
 refine rwp_det rfl rfl (det_call rfl ok151 (lin_Validate a (by omega)) ⟨VLe.refl _, rfl, trivial⟩) ?_
 refine rwp_det rfl rfl (det_neq rfl rfl rfl) ?_
 refine rwp_det rfl rfl (det_move rfl rfl) ?_
 refine rwp_lazy [] rfl rfl rfl rfl gv1 trivial (fun g1_3 => det_load_agg rfl agg29 rfl (ptr_row 1 rfl) rfl) rfl ?_
 refine rwp_lazy [(12, _)] rfl rfl rfl rfl gv1 ⟨rfl, rfl, trivial⟩ (fun g1_3 => det_call rfl ok151 (lin_Validate b (by omega)) ⟨VLe.refl _, rfl, trivial⟩) rfl ?_
 refine rwp_lazy [(13, _)] rfl rfl rfl rfl gv1 ⟨rfl, rfl, trivial⟩ (fun g1_3 => det_neq rfl rfl rfl) rfl ?_
 refine rwp_det rfl rfl (det_or rfl rfl rfl rfl (fun h => (lzf h))) ?_
 refine rwp_nil ?_
 refine awp_cond rfl (fun c1 => ?_) (fun c1 => ?_)
 ·try simp only [sx, List.length_map] at c1
  refine awp_seq ?_
  refine awp_region rfl ?_
  refine rwp_det rfl rfl (det_buildN [none, some 2] rfl zr29 pl29 rfl rfl) ?_
  refine rwp_det0 rfl rfl (det_store rfl sz29 rfl rfl rfl (st_row 0 rfl rfl)) ?_
  refine rwp_det rfl rfl (det_assign rfl rfl) ?_
  refine rwp_nil ?_
  refine awp_ret ?_
  repeat (first | refine thenQ_ret ?_ | refine blockQ_ret ?_)
  refine fin2 (rs_cell_agg agg29 rfl (ptr_row 0 rfl) rfl) (rs_c rfl) ?_
  rw [add_c1 c1]; rfl
 ·try simp only [sx, List.length_map] at c1
  have hla := linErr_yes c1.1
  have hlb := linErr_yes c1.2
  refine awp_skip ?_
  refine awp_seq ?_
  refine awp_region rfl ?_
  refine rwp_op rfl rfl (ope_alloc rfl zr29) ?_
  rintro _ _ ⟨b4, rfl, rfl⟩
  refine rwp_weak _ (weak_own 75 2) ?_
  refine rwp_nil ?_
  refine awp_seq ?_
  refine awp_region rfl ?_
  refine rwp_op rfl rfl (ope_alloc rfl zr4) ?_
  rintro _ _ ⟨b6, rfl, rfl⟩
  refine rwp_nil ?_
  refine awp_seq ?_
  refine awp_region rfl ?_
  refine rwp_det rfl rfl (det_field_lit rfl fd29_0 rfl) ?_
  refine rwp_det rfl rfl (det_load_one rfl one2 rfl (ptr_row 5 rfl) rfl) ?_
  refine rwp_det rfl rfl (det_field_lit rfl fd29_0 rfl) ?_
  refine rwp_det rfl rfl (det_load_one rfl one2 rfl (ptr_row 4 rfl) rfl) ?_
  refine rwp_det rfl rfl (det_call rfl ok205 (lin_plus a.K b.K hra.1 hrb.1) ⟨VLe.refl _, rfl, VLe.refl _, rfl, trivial⟩) ?_
  refine rwp_det rfl rfl (det_move_tup rfl rfl) ?_
  refine rwp_det rfl rfl (det_ex_c rfl rfl rfl) ?_
  refine rwp_det rfl rfl (det_ex_c rfl rfl rfl) ?_
  refine rwp_det rfl rfl (det_field_lit rfl fd29_0 rfl) ?_
  refine rwp_det0 rfl rfl (det_store rfl sz2 rfl rfl rfl (st_row 2 rfl rfl)) ?_
  refine rwp_det0 rfl rfl (det_store rfl sz4 rfl rfl rfl (st_row 0 rfl rfl)) ?_
  refine rwp_nil ?_
  refine awp_seq ?_
  refine awp_region rfl ?_
  refine rwp_det rfl rfl (det_field_lit rfl fd29_1 rfl) ?_
  refine rwp_det rfl rfl (det_load_one rfl one27 rfl (ptr_row 5 rfl) rfl) ?_
  refine rwp_det rfl rfl (det_field_lit rfl fd29_1 rfl) ?_
  refine rwp_det rfl rfl (det_load_one rfl one27 rfl (ptr_row 4 rfl) rfl) ?_
  refine rwp_det rfl rfl (det_func rfl rfl rfl rfl rfl) ?_
  refine rwp_op rfl rfl (ope_call rfl ok206 (Con.frame (merge_con a.L b.L ha hb _ (fun d m => ∃ sv, m = [E.row b6 4 [cB (okF (decide (r64 (a.K + b.K))) (d))], E.vec sv 75 2 ((sumW (d)).map Mono.cells), E.row b4 29 [cI (w64 (a.K + b.K)), .lit sv]]) _ (fun d t s m he hj => by obtain ⟨sv, rfl⟩ := hj; obtain ⟨k1, k2, k3⟩ := merge_rng hra.2 hrb.2 he; exact FnCon.of_con (first := []) (cap := [.lit (.pointer (some ⟨b6, 0, none⟩)), .lit (.pointer (some ⟨b4, 0, none⟩))]) ok207 (lin_Add_1 b6 b4 (decide (r64 (a.K + b.K))) (w64 (a.K + b.K)) sv d t k1 k2 (by omega))) ⟨_, rfl⟩) _) ⟨VLe.refl _, rfl, VLe.refl _, rfl, VLe.refl _, rfl, trivial⟩) ?_
  rintro _ _ ⟨_, ⟨rfl, sv7, rfl⟩, rfl⟩
  refine rwp_nil ?_
  refine awp_seq ?_
  refine awp_seq ?_
  refine awp_region rfl ?_
  refine rwp_det rfl rfl (det_load_one rfl one4 rfl (ptr_row 0 rfl) rfl) ?_
  refine rwp_det rfl rfl (det_not rfl rfl) ?_
  refine rwp_nil ?_
  refine awp_cond rfl (fun c2 => ?_) (fun c2 => ?_)
  ·try simp only [sx, List.length_map] at c2
   refine awp_seq ?_
   refine awp_region rfl ?_
   refine rwp_det rfl rfl (det_buildN [none, some 2] rfl zr29 pl29 rfl rfl) ?_
   refine rwp_det0 rfl rfl (det_store rfl sz29 rfl rfl rfl (st_row 3 rfl rfl)) ?_
   refine rwp_det rfl rfl (det_assign rfl rfl) ?_
   refine rwp_nil ?_
   refine awp_ret ?_
   repeat (first | refine thenQ_ret ?_ | refine blockQ_ret ?_)
   refine fin2 (rs_cell_agg agg29 rfl (ptr_row 3 rfl) rfl) (rs_c rfl) ?_
   rw [add_no hla hlb c2]; rfl
  ·try simp only [sx, List.length_map] at c2
   refine awp_skip ?_
   refine awp_seq ?_
   refine awp_region rfl ?_
   refine rwp_det rfl rfl (det_load_agg rfl agg29 rfl (ptr_row 2 rfl) rfl) ?_
   refine rwp_det0 rfl rfl (det_store rfl sz29 rfl rfl rfl (st_row 3 rfl rfl)) ?_
   refine rwp_det rfl rfl (det_assign rfl rfl) ?_
   refine rwp_nil ?_
   refine awp_weak _ (weak_freezeM 1 rfl (regs' := [(35, .agg [_, _])]) (μ' := [_, _, _, _, _]) ⟨FLe.agg ⟨.inl rfl, .inr ⟨rfl, rfl⟩, trivial⟩, trivial⟩ ⟨EFle.refl _, EFle.row (ds := [_, _]) ⟨.inl rfl, .inr ⟨rfl, rfl⟩, trivial⟩, EFle.row (ds := [_, _]) ⟨.inl rfl, .inr ⟨rfl, rfl⟩, trivial⟩, EFle.refl _, EFle.refl _, trivial⟩) ?_
   refine awp_ret ?_
   repeat (first | refine thenQ_ret ?_ | refine blockQ_ret ?_)
   refine fin2 (rs_cell_agg agg29 rfl (ptr_row 2 rfl) rfl) (rs_c rfl) ?_
   rw [add_ok hla hlb c2]; rfl

theorem lin_Substitute (l : Lf) (s : ByteArray) (u : Lf) (hl : l.L.length ≤ 4294967296) (ht : u.L.length ≤ 4294967296) (hrl : l.rng) (hrt : u.rng) :
    Pur cfg 83 [vLin l, vS s, vLin u] (.tup [vLin (substP l s u).1, vI (substP l s u).2]) := by
 refine con_intro Tryz.func83 rfl Tryz.ntmps83 Tryz.results83 rfl ?_
 intro z hz
 obtain ⟨hs1, hs2⟩ := scale_rng u (lastBy l.L s)
 obtain ⟨hr1, hr2⟩ := rest_rng hrl s
 refine awp_seq ?_
 refine awp_region rfl ?_
 refine rwp_op rfl rfl (ope_box rfl rfl) ?_
 rintro _ _ ⟨b1, rfl, rfl⟩
 refine rwp_op rfl rfl (ope_box rfl rfl) ?_
 rintro _ _ ⟨b2, rfl, rfl⟩
 refine rwp_op rfl rfl (ope_allocN [none, some 2] rfl zr29 rfl) ?_
 rintro _ _ ⟨b3, rfl, rfl⟩
 refine rwp_det rfl rfl (det_assign rfl rfl) ?_
 refine rwp_nil ?_
 refine awp_seq ?_
 refine awp_seq ?_
 refine awp_region rfl ?_
 refine rwp_det rfl rfl (det_load_agg rfl agg29 rfl (ptr_row 2 rfl) rfl) ?_
 refine rwp_det rfl rfl (det_call rfl ok151 (lin_Validate l (by omega)) ⟨VLe.refl _, rfl, trivial⟩) ?_
 refine rwp_det rfl rfl (det_neq rfl rfl rfl) ?_
 refine rwp_det rfl rfl (det_move rfl rfl) ?_
 refine rwp_lazy [] rfl rfl rfl rfl gv1 trivial (fun g1_3 => det_move rfl rfl) rfl ?_
 refine rwp_lazy [(18, _)] rfl rfl rfl rfl gv1 ⟨rfl, rfl, trivial⟩ (fun g1_3 => det_call rfl ok152 (lin_identifier s) ⟨VLe.refl _, rfl, trivial⟩) rfl ?_
 refine rwp_lazy [(19, _)] rfl rfl rfl rfl gv1 ⟨rfl, rfl, trivial⟩ (fun g1_3 => det_not rfl rfl) rfl ?_
 refine rwp_det rfl rfl (det_or rfl rfl rfl rfl (fun h => (lzf h))) ?_
 refine rwp_det rfl rfl (det_move rfl rfl) ?_
 refine rwp_lazy [] rfl rfl rfl rfl gv1 trivial (fun g1_8 => det_load_agg rfl agg29 rfl (ptr_row 1 rfl) rfl) rfl ?_
 refine rwp_lazy [(23, _)] rfl rfl rfl rfl gv1 ⟨rfl, rfl, trivial⟩ (fun g1_8 => det_call rfl ok151 (lin_Validate u (by omega)) ⟨VLe.refl _, rfl, trivial⟩) rfl ?_
 refine rwp_lazy [(24, _)] rfl rfl rfl rfl gv1 ⟨rfl, rfl, trivial⟩ (fun g1_8 => det_neq rfl rfl rfl) rfl ?_
 refine rwp_det rfl rfl (det_or rfl rfl rfl rfl (fun h => (lzf h))) ?_
 refine rwp_nil ?_
 refine awp_cond rfl (fun c1 => ?_) (fun c1 => ?_)
 ·try simp only [sx, List.length_map] at c1
  refine awp_seq ?_
  refine awp_region rfl ?_
  refine rwp_det rfl rfl (det_buildN [none, some 2] rfl zr29 pl29 rfl rfl) ?_
  refine rwp_det0 rfl rfl (det_store rfl sz29 rfl rfl rfl (st_row 0 rfl rfl)) ?_
  refine rwp_det rfl rfl (det_assign rfl rfl) ?_
  refine rwp_nil ?_
  refine awp_ret ?_
  repeat (first | refine thenQ_ret ?_ | refine blockQ_ret ?_)
  refine fin2 (rs_cell_agg agg29 rfl (ptr_row 0 rfl) rfl) (rs_c rfl) ?_
  rw [subst_c1 c1]; rfl
 ·try simp only [sx, List.length_map] at c1
  refine awp_skip ?_
  refine awp_seq ?_
  refine awp_region rfl ?_
  refine rwp_det rfl rfl (det_field_lit rfl fd29_0 rfl) ?_
  refine rwp_det rfl rfl (det_load_one rfl one2 rfl (ptr_row 2 rfl) rfl) ?_
  refine rwp_det rfl rfl (det_build rfl zr29 pl29 rfl) ?_
  refine rwp_op rfl rfl (ope_alloc rfl zr29) ?_
  rintro _ _ ⟨b4, rfl, rfl⟩
  refine rwp_weak _ (weak_own 75 2) ?_
  refine rwp_det0 rfl rfl (det_store rfl sz29 rfl rfl rfl (st_row 1 rfl rfl)) ?_
  refine rwp_nil ?_
  refine awp_seq ?_
  refine awp_region rfl ?_
  refine rwp_det rfl rfl (det_assign rfl rfl) ?_
  refine rwp_nil ?_
  refine awp_seq ?_
  refine awp_seq ?_
  refine awp_region rfl ?_
  refine rwp_det rfl rfl (det_field_lit rfl fd29_1 rfl) ?_
  refine rwp_det rfl rfl (det_load_one rfl one27 rfl (ptr_row 4 rfl) rfl) ?_
  refine rwp_det rfl rfl (det_len_slm rfl el27 rfl) ?_
  refine rwp_det rfl rfl (det_move rfl rfl) ?_
  refine rwp_nil ?_
  refine awp_block ?_
  refine awp_weak ⟨[(34, .c _), (9, .c _), (1, .c _), (5, .c _), (6, .c _), (8, .c _), (32, .c _), (33, .c _)], [_, _, _, _]⟩ (Weak.mk [true, true, true, true, false] ⟨VLe.of_eq rfl, VLe.of_eq rfl, VLe.of_eq rfl, VLe.of_eq rfl, VLe.of_eq rfl, VLe.of_eq rfl, VLe.of_eq rfl, VLe.of_eq rfl, trivial⟩ rfl) ?_
  refine awp_loop_k 2 2 rfl rfl (Nat × Value) (fun ⟨k, sv⟩ => [(34, vI k), (9, vI (lastBy (l.L.take k) s))]) (fun ⟨k, sv⟩ => [E.vec sv 75 2 (((l.L.take k).filter (fun m => !decide (m.Name = s))).map Mono.cells), E.row b4 29 [cI l.K, .lit sv]]) (fun ⟨k, sv⟩ => k ≤ l.L.length) (fun ⟨k, sv⟩ => l.L.length - k) ⟨⟨0, _⟩, (by omega), Weak.mk [true, true, true, true] ⟨VLe.refl _, VLe.of_eq (rfl), VLe.refl _, VLe.refl _, VLe.refl _, VLe.refl _, VLe.refl _, VLe.refl _, trivial⟩ rfl⟩ ?_
  rintro ⟨k, sv⟩ hk
  show AWP _ _ _ _ _ ⟨[(34, vI k), (9, vI (lastBy (l.L.take k) s))] ++ _, [E.vec sv 75 2 (((l.L.take k).filter (fun m => !decide (m.Name = s))).map Mono.cells), E.row b4 29 [cI l.K, .lit sv]] ++ _⟩
  refine awp_seq ?_
  refine awp_region rfl ?_
  refine rwp_det rfl rfl (det_lss rfl rfl rfl) ?_
  refine rwp_nil ?_
  refine awp_seq ?_
  refine awp_cond rfl (fun c2 => ?_) (fun c2 => ?_)
  ·try simp only [sx, List.length_map] at c2
   obtain ⟨x, hx⟩ := ex_get l.L k (by omega)
   refine awp_skip ?_
   refine awp_seq ?_
   refine awp_block ?_
   refine awp_seq ?_
   refine awp_region rfl ?_
   refine rwp_det rfl rfl (det_index_sl rfl el27 rfl rfl (by omega) (getm (by assumption))) ?_
   refine rwp_det rfl rfl (det_load_agg rfl agg75 rfl ptr_imm rfl) ?_
   refine rwp_op rfl rfl (ope_alloc rfl zr75) ?_
   rintro _ _ ⟨b6, rfl, rfl⟩
   refine rwp_det0 rfl rfl (det_store rfl sz75 rfl rfl rfl (st_row 0 rfl rfl)) ?_
   refine rwp_nil ?_
   refine awp_seq ?_
   refine awp_seq ?_
   refine awp_region rfl ?_
   refine rwp_det rfl rfl (det_field_lit rfl fd75_0 rfl) ?_
   refine rwp_det rfl rfl (det_load_one rfl one9 rfl (ptr_row 0 rfl) rfl) ?_
   refine rwp_det rfl rfl (det_move rfl rfl) ?_
   refine rwp_det rfl rfl (det_seql rfl rfl rfl) ?_
   refine rwp_nil ?_
   refine awp_cond rfl (fun c3 => ?_) (fun c3 => ?_)
   ·try simp only [sx, List.length_map] at c3
    refine awp_seq ?_
    refine awp_region rfl ?_
    refine rwp_det rfl rfl (det_field_lit rfl fd75_1 rfl) ?_
    refine rwp_det rfl rfl (det_load_one rfl one2 rfl (ptr_row 0 rfl) rfl) ?_
    refine rwp_det rfl rfl (det_assign rfl rfl) ?_
    refine rwp_nil ?_
    refine awp_exit ?_
    refine awp_region rfl ?_
    refine rwp_det rfl rfl (det_add_nw rfl rfl rfl ⟨by omega, by omega⟩) ?_
    refine rwp_det rfl rfl (det_move rfl rfl) ?_
    refine rwp_nil ?_
    refine ⟨⟨k + 1, _⟩, (by omega), (by show l.L.length - (k + 1) < l.L.length - k; omega), Weak.mk [false, true, true, true, true] ⟨VLe.refl _, VLe.of_eq (by rw [lastBy_next hx]; first | (rw [if_pos c3]; rfl) | (rw [if_neg c3]; rfl)), VLe.refl _, VLe.refl _, VLe.refl _, VLe.refl _, VLe.refl _, VLe.refl _, trivial⟩ (by exact mem2c_eq (by rw [rest_next hx]; first | (rw [if_pos c3, List.append_nil]) | (rw [if_neg c3, List.map_append]; rfl)))⟩
   ·try simp only [sx, List.length_map] at c3
    refine awp_skip ?_
    refine awp_region rfl ?_
    refine rwp_det rfl rfl (det_field_lit rfl fd29_1 rfl) ?_
    refine rwp_det rfl rfl (det_load_one rfl one27 rfl (ptr_row 2 rfl) rfl) ?_
    refine rwp_det rfl rfl (det_load_agg rfl agg75 rfl (ptr_row 0 rfl) rfl) ?_
    refine rwp_det rfl rfl (det_bslice rfl el27 zr75 rfl rfl rfl rfl) ?_
    refine rwp_op rfl rfl (ope_append 1 rfl el27 rfl rfl rfl (by have := List.length_filter_le (fun m : Mono => !decide (m.Name = s)) (l.L.take k); simp only [List.length_map, List.length_append, List.length_cons, List.length_nil, List.length_take] at *; omega) (by have := List.length_filter_le (fun m : Mono => !decide (m.Name = s)) (l.L.take k); simp only [List.length_map, List.length_append, List.length_cons, List.length_nil, List.length_take] at *; omega)) ?_
    rintro _ _ ⟨sv7, rfl, rfl⟩
    refine rwp_det rfl rfl (det_field_lit rfl fd29_1 rfl) ?_
    refine rwp_det0 rfl rfl (det_store rfl sz27 rfl rfl rfl (st_row 2 rfl rfl)) ?_
    refine rwp_nil ?_
    refine awp_region rfl ?_
    refine rwp_det rfl rfl (det_add_nw rfl rfl rfl ⟨by omega, by omega⟩) ?_
    refine rwp_det rfl rfl (det_move rfl rfl) ?_
    refine rwp_nil ?_
    refine ⟨⟨k + 1, _⟩, (by omega), (by show l.L.length - (k + 1) < l.L.length - k; omega), Weak.mk [false, true, true, true, true] ⟨VLe.refl _, VLe.of_eq (by rw [lastBy_next hx]; first | (rw [if_pos c3]; rfl) | (rw [if_neg c3]; rfl)), VLe.refl _, VLe.refl _, VLe.refl _, VLe.refl _, VLe.refl _, VLe.refl _, trivial⟩ (by exact mem2c_eq (by rw [rest_next hx]; first | (rw [if_pos c3, List.append_nil]) | (rw [if_neg c3, List.map_append]; rfl)))⟩
  ·try simp only [sx, List.length_map] at c2
   rw [take_all (l := l.L) (k := k) (by omega)]
   refine awp_exit ?_
   refine awp_seq ?_
   refine awp_region rfl ?_
   refine rwp_det rfl rfl (det_load_agg rfl agg29 rfl (ptr_row 3 rfl) rfl) ?_
   refine rwp_det rfl rfl (det_move rfl rfl) ?_
   refine rwp_det rfl rfl (det_call rfl ok153 (lin_Scale u (lastBy l.L s) ht hrt (last_rng hrl s)) ⟨VLe.refl _, rfl, VLe.refl _, rfl, trivial⟩) ?_
   refine rwp_det rfl rfl (det_move_tup rfl rfl) ?_
   refine rwp_det rfl rfl (det_ex_agg rfl rfl rfl) ?_
   refine rwp_det rfl rfl (det_ex_c rfl rfl rfl) ?_
   refine rwp_op rfl rfl (ope_allocN [none, some 2] rfl zr29 rfl) ?_
   rintro _ _ ⟨b8, rfl, rfl⟩
   refine rwp_det0 rfl rfl (det_store rfl sz29 rfl rfl rfl (st_row 0 rfl rfl)) ?_
   refine rwp_det rfl rfl (det_assign rfl rfl) ?_
   refine rwp_nil ?_
   refine awp_seq ?_
   refine awp_seq ?_
   refine awp_region rfl ?_
   refine rwp_det rfl rfl (det_move rfl rfl) ?_
   refine rwp_det rfl rfl (det_neq rfl rfl rfl) ?_
   refine rwp_nil ?_
   refine awp_cond rfl (fun c4 => ?_) (fun c4 => ?_)
   ·try simp only [sx, List.length_map] at c4
    refine awp_seq ?_
    refine awp_region rfl ?_
    refine rwp_det rfl rfl (det_buildN [none, some 2] rfl zr29 pl29 rfl rfl) ?_
    refine rwp_det rfl rfl (det_move rfl rfl) ?_
    refine rwp_det0 rfl rfl (det_store rfl sz29 rfl rfl rfl (st_row 3 rfl rfl)) ?_
    refine rwp_det rfl rfl (det_assign rfl rfl) ?_
    refine rwp_nil ?_
    refine awp_ret ?_
    repeat (first | refine thenQ_ret ?_ | refine blockQ_ret ?_)
    refine fin2 (rs_cell_agg agg29 rfl (ptr_row 3 rfl) rfl) (rs_c rfl) ?_
    rw [subst_c4 c1 c4]; rfl
   ·try simp only [sx, List.length_map] at c4
    refine awp_weak _ (weak_freezeM 1 rfl (regs' := []) (μ' := [_, _, _, _]) trivial ⟨EFle.refl _, EFle.row (ds := [_, _]) ⟨.inl rfl, .inr ⟨rfl, rfl⟩, trivial⟩, EFle.refl _, EFle.refl _, trivial⟩) ?_
    refine awp_skip ?_
    refine awp_seq ?_
    refine awp_region rfl ?_
    refine rwp_det rfl rfl (det_load_agg rfl agg29 rfl (ptr_row 1 rfl) rfl) ?_
    refine rwp_det rfl rfl (det_load_agg rfl agg29 rfl (ptr_row 0 rfl) rfl) ?_
    refine rwp_det rfl rfl (det_call rfl ok154 (lin_Add (restL l s) (scaleL u (lastBy l.L s)).1 (by omega) (by omega) hr1 hs1) ⟨VLe.refl _, rfl, VLe.refl _, rfl, trivial⟩) ?_
    refine rwp_det rfl rfl (det_ex_agg rfl rfl rfl) ?_
    refine rwp_det rfl rfl (det_ex_c rfl rfl rfl) ?_
    refine rwp_det0 rfl rfl (det_store rfl sz29 rfl rfl rfl (st_row 2 rfl rfl)) ?_
    refine rwp_det rfl rfl (det_assign rfl rfl) ?_
    refine rwp_nil ?_
    refine awp_ret ?_
    repeat (first | refine thenQ_ret ?_ | refine blockQ_ret ?_)
    refine fin2 (rs_cell_agg agg29 rfl (ptr_row 2 rfl) rfl) (rs_c rfl) ?_
    rw [subst_ok c1 c4]; rfl

end Go.W
