/-
  Walks: what functions of the program compute. Printed by wip/gen/mk2.py.
  Conditions: none.
-/
import Derived.Test.YtgoggemkajhloaaGreatDoorWD
import Derived.Test.YtgoggemkajhloaaGreatDoorMap
set_option linter.unusedSimpArgs false
set_option linter.unusedVariables false
namespace Go.W
open Go Go.Eng Go.Proofs Go.L41 Go.Br
attribute [local irreducible] AWP RWP TD
theorem ok11 : callOk Tryz.prog 11 = true := by kernel_rfl
theorem ok15 : callOk Tryz.prog 15 = true := by kernel_rfl
theorem ok18 : callOk Tryz.prog 18 = true := by kernel_rfl
theorem ok19 : callOk Tryz.prog 19 = true := by kernel_rfl
theorem ok52 : callOk Tryz.prog 52 = true := by kernel_rfl
theorem ok66 : callOk Tryz.prog 66 = true := by kernel_rfl
theorem ok92 : callOk Tryz.prog 92 = true := by kernel_rfl
theorem ok130 : callOk Tryz.prog 130 = true := by kernel_rfl
theorem base_Lins (a b : List Lf) (ha : a.length ≤ 4294967296) (hw : linsWt a ≤ 4294967296) :
    Pur cfg 130 [vLins a, vLins b] (vB (decide (a = b))) := by
  refine con_intro Tryz.func130 rfl Tryz.ntmps130 Tryz.results130 rfl ?_
  intro z hz
  refine awp_seq ?_
  refine awp_region rfl ?_
  refine rwp_det rfl rfl (det_assign rfl rfl) ?_
  refine rwp_nil ?_
  refine awp_seq ?_
  refine awp_seq ?_
  refine awp_region rfl ?_
  refine rwp_det rfl rfl (det_move rfl rfl) ?_
  refine rwp_det rfl rfl (det_len_slm rfl el68 rfl) ?_
  refine rwp_det rfl rfl (det_move rfl rfl) ?_
  refine rwp_det rfl rfl (det_len_slm rfl el68 rfl) ?_
  refine rwp_det rfl rfl (det_neq rfl rfl rfl) ?_
  refine rwp_nil ?_
  refine awp_cond rfl (fun c1 => ?_) (fun c1 => ?_)
  · try simp only [decide_eq_true_eq, decide_eq_false_iff_not, Bool.not_eq_true', Bool.not_eq_false', Bool.and_eq_true, Bool.or_eq_true, Bool.and_eq_false_iff, Bool.or_eq_false_iff, Int.not_lt, Int.not_le, List.length_map] at c1
    refine awp_seq ?_
    refine awp_region rfl ?_
    refine rwp_det rfl rfl (det_assign rfl rfl) ?_
    refine rwp_nil ?_
    refine awp_ret ?_
    repeat (first | refine thenQ_ret ?_ | refine blockQ_ret ?_)
    refine fin1 (rs_c rfl) ?_
    rw [dec_false (fun h => c1 (by rw [h]))]
  · try simp only [decide_eq_true_eq, decide_eq_false_iff_not, Bool.not_eq_true', Bool.not_eq_false', Bool.and_eq_true, Bool.or_eq_true, Bool.and_eq_false_iff, Bool.or_eq_false_iff, Int.not_lt, Int.not_le, List.length_map] at c1
    refine awp_skip ?_
    refine awp_seq ?_
    refine awp_seq ?_
    refine awp_region rfl ?_
    refine rwp_det rfl rfl (det_assign rfl rfl) ?_
    refine rwp_nil ?_
    refine awp_block ?_
    refine awp_weak ⟨[(5, .c _), (0, .c _), (1, .c _)], []⟩ (Weak.mk [] ⟨VLe.of_eq rfl, VLe.of_eq rfl, VLe.of_eq rfl, trivial⟩ rfl) ?_
    refine awp_loop_k 1 0 rfl rfl (Nat) (fun k => [(5, vI k)]) (fun k => []) (fun k => k ≤ a.length ∧ (a.take k = b.take k)) (fun k => a.length - k) ⟨0, ⟨by omega, rfl⟩, Weak.mk [] ⟨VLe.refl _, VLe.refl _, VLe.refl _, trivial⟩ rfl⟩ ?_
    rintro k ⟨hk, hp⟩
    refine awp_seq ?_
    refine awp_seq ?_
    refine awp_region rfl ?_
    refine rwp_det rfl rfl (det_move rfl rfl) ?_
    refine rwp_det rfl rfl (det_move rfl rfl) ?_
    refine rwp_det rfl rfl (det_len_slm rfl el68 rfl) ?_
    refine rwp_det rfl rfl (det_lss rfl rfl rfl) ?_
    refine rwp_nil ?_
    refine awp_cond rfl (fun c2 => ?_) (fun c2 => ?_)
    · try simp only [decide_eq_true_eq, decide_eq_false_iff_not, Bool.not_eq_true', Bool.not_eq_false', Bool.and_eq_true, Bool.or_eq_true, Bool.and_eq_false_iff, Bool.or_eq_false_iff, Int.not_lt, Int.not_le, List.length_map] at c2
      obtain ⟨x, hx⟩ := ex_get a k (by omega)
      obtain ⟨y, hy⟩ := ex_get b k (by omega)
      have hxw := linsWt_mem (mem_of_get hx)
      refine awp_skip ?_
      refine awp_seq ?_
      refine awp_block ?_
      refine awp_seq ?_
      refine awp_draw 10 mixed (by kernel_rfl) rfl rfl ?_
      refine td_det rfl rfl (det_move rfl rfl) ?_
      refine td_det rfl rfl (det_move rfl rfl) ?_
      refine td_det rfl rfl (det_index_sl rfl el68 rfl rfl (by omega) (getm (by assumption))) ?_
      refine td_det rfl rfl (det_load_agg rfl agg28 rfl ptr_imm rfl) ?_
      refine td_det rfl rfl (det_move rfl rfl) ?_
      refine td_det rfl rfl (det_move rfl rfl) ?_
      refine td_det rfl rfl (det_index_sl rfl el68 rfl rfl (by omega) (getm (by assumption))) ?_
      refine td_det rfl rfl (det_load_agg rfl agg28 rfl ptr_imm rfl) ?_
      refine td_det rfl rfl (det_call rfl ok15 (base_Lin x y (by omega)) ⟨VLe.refl _, rfl, VLe.refl _, rfl, trivial⟩) ?_
      refine td_det rfl rfl (det_not rfl rfl) ?_
      refine td_nil ?_
      refine rwp_nil ?_
      refine awp_cond rfl (fun c3 => ?_) (fun c3 => ?_)
      · try simp only [decide_eq_true_eq, decide_eq_false_iff_not, Bool.not_eq_true', Bool.not_eq_false', Bool.and_eq_true, Bool.or_eq_true, Bool.and_eq_false_iff, Bool.or_eq_false_iff, Int.not_lt, Int.not_le, List.length_map] at c3
        refine awp_seq ?_
        refine awp_region rfl ?_
        refine rwp_det rfl rfl (det_assign rfl rfl) ?_
        refine rwp_nil ?_
        refine awp_ret ?_
        repeat (first | refine thenQ_ret ?_ | refine blockQ_ret ?_)
        refine fin1 (rs_c rfl) ?_
        rw [dec_false (ne_of_get hx hy c3)]
      · try simp only [decide_eq_true_eq, decide_eq_false_iff_not, Bool.not_eq_true', Bool.not_eq_false', Bool.and_eq_true, Bool.or_eq_true, Bool.and_eq_false_iff, Bool.or_eq_false_iff, Int.not_lt, Int.not_le, List.length_map] at c3
        refine awp_skip ?_
        refine awp_region rfl ?_
        refine rwp_det rfl rfl (det_move rfl rfl) ?_
        refine rwp_det rfl rfl (det_add_nw rfl rfl rfl ⟨by omega, by omega⟩) ?_
        refine rwp_det rfl rfl (det_assign rfl rfl) ?_
        refine rwp_nil ?_
        refine ⟨k + 1, ⟨by omega, take_eq_next hx hy hp c3⟩, (by omega), Weak.mk [] ⟨VLe.refl _, VLe.refl _, VLe.refl _, trivial⟩ rfl⟩
    · try simp only [decide_eq_true_eq, decide_eq_false_iff_not, Bool.not_eq_true', Bool.not_eq_false', Bool.and_eq_true, Bool.or_eq_true, Bool.and_eq_false_iff, Bool.or_eq_false_iff, Int.not_lt, Int.not_le, List.length_map] at c2
      refine awp_exit ?_
      refine awp_seq ?_
      refine awp_region rfl ?_
      refine rwp_det rfl rfl (det_assign rfl rfl) ?_
      refine rwp_nil ?_
      refine awp_ret ?_
      repeat (first | refine thenQ_ret ?_ | refine blockQ_ret ?_)
      refine fin1 (rs_c rfl) ?_
      rw [dec_true (eq_of_take hp (by omega) (by omega))]

theorem base_Index (a b : Ix) (ha : a.wt ≤ 4294967296) :
    Pur cfg 92 [vIndex a, vIndex b] (vB (decide (a = b))) := by
  refine con_intro Tryz.func92 rfl Tryz.ntmps92 Tryz.results92 rfl ?_
  intro z hz
  have hw := ha
  unfold Ix.wt at hw
  refine awp_seq ?_
  refine awp_region rfl ?_
  refine rwp_op rfl rfl (ope_box rfl rfl) ?_
  rintro _ _ ⟨b1, rfl, rfl⟩
  refine rwp_op rfl rfl (ope_box rfl rfl) ?_
  rintro _ _ ⟨b2, rfl, rfl⟩
  refine rwp_det rfl rfl (det_assign rfl rfl) ?_
  refine rwp_nil ?_
  refine awp_seq ?_
  refine awp_region rfl ?_
  refine rwp_det rfl rfl (det_field_lit rfl fd70_1 rfl) ?_
  refine rwp_det rfl rfl (det_load_one rfl one9 rfl (ptr_row 1 rfl) rfl) ?_
  refine rwp_det rfl rfl (det_field_lit rfl fd70_1 rfl) ?_
  refine rwp_det rfl rfl (det_load_one rfl one9 rfl (ptr_row 0 rfl) rfl) ?_
  refine rwp_det rfl rfl (det_seql rfl rfl rfl) ?_
  refine rwp_det rfl rfl (det_move rfl rfl) ?_
  refine rwp_lazy [] rfl rfl rfl rfl gv1 trivial (fun g1_5 => det_field_lit rfl fd70_0 rfl) rfl ?_
  refine rwp_lazy [(11, _)] rfl rfl rfl rfl gv1 ⟨rfl, rfl, trivial⟩ (fun g1_5 => det_load_agg rfl agg28 rfl (ptr_row 1 rfl) rfl) rfl ?_
  refine rwp_lazy [] rfl rfl rfl rfl gv1 trivial (fun g1_5 => det_field_lit rfl fd70_0 rfl) rfl ?_
  refine rwp_lazy [(13, _)] rfl rfl rfl rfl gv1 ⟨rfl, rfl, trivial⟩ (fun g1_5 => det_load_agg rfl agg28 rfl (ptr_row 0 rfl) rfl) rfl ?_
  refine rwp_lazy [(12, _), (14, _)] rfl rfl rfl rfl gv1 ⟨rfl, rfl, rfl, rfl, trivial⟩ (fun g1_5 => det_call rfl ok15 (base_Lin a.Lin b.Lin (by omega)) ⟨VLe.refl _, rfl, VLe.refl _, rfl, trivial⟩) rfl ?_
  refine rwp_det rfl rfl (det_and rfl rfl rfl (fun h => h) rfl) ?_
  refine rwp_det rfl rfl (det_move rfl rfl) ?_
  refine rwp_lazy [] rfl rfl rfl rfl gv1 trivial (fun g1_12 => det_field_lit rfl fd70_2 rfl) rfl ?_
  refine rwp_lazy [(18, _)] rfl rfl rfl rfl gv1 ⟨rfl, rfl, trivial⟩ (fun g1_12 => det_load_one rfl one68 rfl (ptr_row 1 rfl) rfl) rfl ?_
  refine rwp_lazy [] rfl rfl rfl rfl gv1 trivial (fun g1_12 => det_field_lit rfl fd70_2 rfl) rfl ?_
  refine rwp_lazy [(20, _)] rfl rfl rfl rfl gv1 ⟨rfl, rfl, trivial⟩ (fun g1_12 => det_load_one rfl one68 rfl (ptr_row 0 rfl) rfl) rfl ?_
  refine rwp_lazy [(19, _), (21, _)] rfl rfl rfl rfl gv1 ⟨rfl, rfl, rfl, rfl, trivial⟩ (fun g1_12 => det_call rfl ok130 (base_Lins a.At b.At (by omega) (by omega)) ⟨VLe.refl _, rfl, VLe.refl _, rfl, trivial⟩) rfl ?_
  refine rwp_det rfl rfl (det_and rfl rfl rfl (fun h => h) rfl) ?_
  refine rwp_det rfl rfl (det_assign rfl rfl) ?_
  refine rwp_nil ?_
  refine awp_ret ?_
  repeat (first | refine thenQ_ret ?_ | refine blockQ_ret ?_)
  refine fin1 (rs_c rfl) ?_
  exact congrArg vB (ix_eq a b)

theorem base_Indices (a b : List Ix) (ha : a.length ≤ 4294967296) (hw : idxWt a ≤ 4294967296) :
    Pur cfg 52 [vIndices a, vIndices b] (vB (decide (a = b))) := by
  refine con_intro Tryz.func52 rfl Tryz.ntmps52 Tryz.results52 rfl ?_
  intro z hz
  refine awp_seq ?_
  refine awp_region rfl ?_
  refine rwp_det rfl rfl (det_assign rfl rfl) ?_
  refine rwp_nil ?_
  refine awp_seq ?_
  refine awp_seq ?_
  refine awp_region rfl ?_
  refine rwp_det rfl rfl (det_move rfl rfl) ?_
  refine rwp_det rfl rfl (det_len_slm rfl el29 rfl) ?_
  refine rwp_det rfl rfl (det_move rfl rfl) ?_
  refine rwp_det rfl rfl (det_len_slm rfl el29 rfl) ?_
  refine rwp_det rfl rfl (det_neq rfl rfl rfl) ?_
  refine rwp_nil ?_
  refine awp_cond rfl (fun c1 => ?_) (fun c1 => ?_)
  · try simp only [decide_eq_true_eq, decide_eq_false_iff_not, Bool.not_eq_true', Bool.not_eq_false', Bool.and_eq_true, Bool.or_eq_true, Bool.and_eq_false_iff, Bool.or_eq_false_iff, Int.not_lt, Int.not_le, List.length_map] at c1
    refine awp_seq ?_
    refine awp_region rfl ?_
    refine rwp_det rfl rfl (det_assign rfl rfl) ?_
    refine rwp_nil ?_
    refine awp_ret ?_
    repeat (first | refine thenQ_ret ?_ | refine blockQ_ret ?_)
    refine fin1 (rs_c rfl) ?_
    rw [dec_false (fun h => c1 (by rw [h]))]
  · try simp only [decide_eq_true_eq, decide_eq_false_iff_not, Bool.not_eq_true', Bool.not_eq_false', Bool.and_eq_true, Bool.or_eq_true, Bool.and_eq_false_iff, Bool.or_eq_false_iff, Int.not_lt, Int.not_le, List.length_map] at c1
    refine awp_skip ?_
    refine awp_seq ?_
    refine awp_seq ?_
    refine awp_region rfl ?_
    refine rwp_det rfl rfl (det_assign rfl rfl) ?_
    refine rwp_nil ?_
    refine awp_block ?_
    refine awp_weak ⟨[(5, .c _), (0, .c _), (1, .c _)], []⟩ (Weak.mk [] ⟨VLe.of_eq rfl, VLe.of_eq rfl, VLe.of_eq rfl, trivial⟩ rfl) ?_
    refine awp_loop_k 1 0 rfl rfl (Nat) (fun k => [(5, vI k)]) (fun k => []) (fun k => k ≤ a.length ∧ (a.take k = b.take k)) (fun k => a.length - k) ⟨0, ⟨by omega, rfl⟩, Weak.mk [] ⟨VLe.refl _, VLe.refl _, VLe.refl _, trivial⟩ rfl⟩ ?_
    rintro k ⟨hk, hp⟩
    refine awp_seq ?_
    refine awp_seq ?_
    refine awp_region rfl ?_
    refine rwp_det rfl rfl (det_move rfl rfl) ?_
    refine rwp_det rfl rfl (det_move rfl rfl) ?_
    refine rwp_det rfl rfl (det_len_slm rfl el29 rfl) ?_
    refine rwp_det rfl rfl (det_lss rfl rfl rfl) ?_
    refine rwp_nil ?_
    refine awp_cond rfl (fun c2 => ?_) (fun c2 => ?_)
    · try simp only [decide_eq_true_eq, decide_eq_false_iff_not, Bool.not_eq_true', Bool.not_eq_false', Bool.and_eq_true, Bool.or_eq_true, Bool.and_eq_false_iff, Bool.or_eq_false_iff, Int.not_lt, Int.not_le, List.length_map] at c2
      obtain ⟨x, hx⟩ := ex_get a k (by omega)
      obtain ⟨y, hy⟩ := ex_get b k (by omega)
      have hxw := idxWt_mem (mem_of_get hx)
      refine awp_skip ?_
      refine awp_seq ?_
      refine awp_block ?_
      refine awp_seq ?_
      refine awp_draw 10 mixed (by kernel_rfl) rfl rfl ?_
      refine td_det rfl rfl (det_move rfl rfl) ?_
      refine td_det rfl rfl (det_move rfl rfl) ?_
      refine td_det rfl rfl (det_index_sl rfl el29 rfl rfl (by omega) (getm (by assumption))) ?_
      refine td_det rfl rfl (det_load_agg rfl agg70 rfl ptr_imm rfl) ?_
      refine td_det rfl rfl (det_move rfl rfl) ?_
      refine td_det rfl rfl (det_move rfl rfl) ?_
      refine td_det rfl rfl (det_index_sl rfl el29 rfl rfl (by omega) (getm (by assumption))) ?_
      refine td_det rfl rfl (det_load_agg rfl agg70 rfl ptr_imm rfl) ?_
      refine td_det rfl rfl (det_call rfl ok92 (base_Index x y (by omega)) ⟨VLe.refl _, rfl, VLe.refl _, rfl, trivial⟩) ?_
      refine td_det rfl rfl (det_not rfl rfl) ?_
      refine td_nil ?_
      refine rwp_nil ?_
      refine awp_cond rfl (fun c3 => ?_) (fun c3 => ?_)
      · try simp only [decide_eq_true_eq, decide_eq_false_iff_not, Bool.not_eq_true', Bool.not_eq_false', Bool.and_eq_true, Bool.or_eq_true, Bool.and_eq_false_iff, Bool.or_eq_false_iff, Int.not_lt, Int.not_le, List.length_map] at c3
        refine awp_seq ?_
        refine awp_region rfl ?_
        refine rwp_det rfl rfl (det_assign rfl rfl) ?_
        refine rwp_nil ?_
        refine awp_ret ?_
        repeat (first | refine thenQ_ret ?_ | refine blockQ_ret ?_)
        refine fin1 (rs_c rfl) ?_
        rw [dec_false (ne_of_get hx hy c3)]
      · try simp only [decide_eq_true_eq, decide_eq_false_iff_not, Bool.not_eq_true', Bool.not_eq_false', Bool.and_eq_true, Bool.or_eq_true, Bool.and_eq_false_iff, Bool.or_eq_false_iff, Int.not_lt, Int.not_le, List.length_map] at c3
        refine awp_skip ?_
        refine awp_region rfl ?_
        refine rwp_det rfl rfl (det_move rfl rfl) ?_
        refine rwp_det rfl rfl (det_add_nw rfl rfl rfl ⟨by omega, by omega⟩) ?_
        refine rwp_det rfl rfl (det_assign rfl rfl) ?_
        refine rwp_nil ?_
        refine ⟨k + 1, ⟨by omega, take_eq_next hx hy hp c3⟩, (by omega), Weak.mk [] ⟨VLe.refl _, VLe.refl _, VLe.refl _, trivial⟩ rfl⟩
    · try simp only [decide_eq_true_eq, decide_eq_false_iff_not, Bool.not_eq_true', Bool.not_eq_false', Bool.and_eq_true, Bool.or_eq_true, Bool.and_eq_false_iff, Bool.or_eq_false_iff, Int.not_lt, Int.not_le, List.length_map] at c2
      refine awp_exit ?_
      refine awp_seq ?_
      refine awp_region rfl ?_
      refine rwp_det rfl rfl (det_assign rfl rfl) ?_
      refine rwp_nil ?_
      refine awp_ret ?_
      repeat (first | refine thenQ_ret ?_ | refine blockQ_ret ?_)
      refine fin1 (rs_c rfl) ?_
      rw [dec_true (eq_of_take hp (by omega) (by omega))]

theorem base_Exprs_of (a b : List Ex) (hE : ∀ x, x ∈ a → ∀ y, Pur cfg 19 [vE x, vE y] (vB (decide (x = y)))) (ha : a.length ≤ 4294967296) :
    Pur cfg 18 [vEs a, vEs b] (vB (decide (a = b))) := by
  refine con_intro Tryz.func18 rfl Tryz.ntmps18 Tryz.results18 rfl ?_
  intro z hz
  refine awp_seq ?_
  refine awp_region rfl ?_
  refine rwp_det rfl rfl (det_assign rfl rfl) ?_
  refine rwp_nil ?_
  refine awp_seq ?_
  refine awp_seq ?_
  refine awp_region rfl ?_
  refine rwp_det rfl rfl (det_move rfl rfl) ?_
  refine rwp_det rfl rfl (det_len_slm rfl el30 rfl) ?_
  refine rwp_det rfl rfl (det_move rfl rfl) ?_
  refine rwp_det rfl rfl (det_len_slm rfl el30 rfl) ?_
  refine rwp_det rfl rfl (det_neq rfl rfl rfl) ?_
  refine rwp_nil ?_
  refine awp_cond rfl (fun c1 => ?_) (fun c1 => ?_)
  · try simp only [decide_eq_true_eq, decide_eq_false_iff_not, Bool.not_eq_true', Bool.not_eq_false', Bool.and_eq_true, Bool.or_eq_true, Bool.and_eq_false_iff, Bool.or_eq_false_iff, Int.not_lt, Int.not_le, List.length_map] at c1
    refine awp_seq ?_
    refine awp_region rfl ?_
    refine rwp_det rfl rfl (det_assign rfl rfl) ?_
    refine rwp_nil ?_
    refine awp_ret ?_
    repeat (first | refine thenQ_ret ?_ | refine blockQ_ret ?_)
    refine fin1 (rs_c rfl) ?_
    rw [dec_false (fun h => c1 (by rw [h]))]
  · try simp only [decide_eq_true_eq, decide_eq_false_iff_not, Bool.not_eq_true', Bool.not_eq_false', Bool.and_eq_true, Bool.or_eq_true, Bool.and_eq_false_iff, Bool.or_eq_false_iff, Int.not_lt, Int.not_le, List.length_map] at c1
    refine awp_skip ?_
    refine awp_seq ?_
    refine awp_seq ?_
    refine awp_region rfl ?_
    refine rwp_det rfl rfl (det_assign rfl rfl) ?_
    refine rwp_nil ?_
    refine awp_block ?_
    refine awp_weak ⟨[(5, .c _), (0, .c _), (1, .c _)], []⟩ (Weak.mk [] ⟨VLe.of_eq rfl, VLe.of_eq rfl, VLe.of_eq rfl, trivial⟩ rfl) ?_
    refine awp_loop_k 1 0 rfl rfl (Nat) (fun k => [(5, vI k)]) (fun k => []) (fun k => k ≤ a.length ∧ (a.take k = b.take k)) (fun k => a.length - k) ⟨0, ⟨by omega, rfl⟩, Weak.mk [] ⟨VLe.refl _, VLe.refl _, VLe.refl _, trivial⟩ rfl⟩ ?_
    rintro k ⟨hk, hp⟩
    refine awp_seq ?_
    refine awp_seq ?_
    refine awp_region rfl ?_
    refine rwp_det rfl rfl (det_move rfl rfl) ?_
    refine rwp_det rfl rfl (det_move rfl rfl) ?_
    refine rwp_det rfl rfl (det_len_slm rfl el30 rfl) ?_
    refine rwp_det rfl rfl (det_lss rfl rfl rfl) ?_
    refine rwp_nil ?_
    refine awp_cond rfl (fun c2 => ?_) (fun c2 => ?_)
    · try simp only [decide_eq_true_eq, decide_eq_false_iff_not, Bool.not_eq_true', Bool.not_eq_false', Bool.and_eq_true, Bool.or_eq_true, Bool.and_eq_false_iff, Bool.or_eq_false_iff, Int.not_lt, Int.not_le, List.length_map] at c2
      obtain ⟨x, hx⟩ := ex_get a k (by omega)
      obtain ⟨y, hy⟩ := ex_get b k (by omega)
      refine awp_skip ?_
      refine awp_seq ?_
      refine awp_block ?_
      refine awp_seq ?_
      refine awp_draw 10 mixed (by kernel_rfl) rfl rfl ?_
      refine td_det rfl rfl (det_move rfl rfl) ?_
      refine td_det rfl rfl (det_move rfl rfl) ?_
      refine td_det rfl rfl (det_index_sl rfl el30 rfl rfl (by omega) (getmE (by assumption))) ?_
      refine td_det rfl rfl (det_load_agg rfl agg32 rfl ptr_imm rfl) ?_
      refine td_det rfl rfl (det_move rfl rfl) ?_
      refine td_det rfl rfl (det_move rfl rfl) ?_
      refine td_det rfl rfl (det_index_sl rfl el30 rfl rfl (by omega) (getmE (by assumption))) ?_
      refine td_det rfl rfl (det_load_agg rfl agg32 rfl ptr_imm rfl) ?_
      refine td_det rfl rfl (det_call rfl ok19 (hE x (mem_of_get hx) y) ⟨VLe.refl _, rfl, VLe.refl _, rfl, trivial⟩) ?_
      refine td_det rfl rfl (det_not rfl rfl) ?_
      refine td_nil ?_
      refine rwp_nil ?_
      refine awp_cond rfl (fun c3 => ?_) (fun c3 => ?_)
      · try simp only [decide_eq_true_eq, decide_eq_false_iff_not, Bool.not_eq_true', Bool.not_eq_false', Bool.and_eq_true, Bool.or_eq_true, Bool.and_eq_false_iff, Bool.or_eq_false_iff, Int.not_lt, Int.not_le, List.length_map] at c3
        refine awp_seq ?_
        refine awp_region rfl ?_
        refine rwp_det rfl rfl (det_assign rfl rfl) ?_
        refine rwp_nil ?_
        refine awp_ret ?_
        repeat (first | refine thenQ_ret ?_ | refine blockQ_ret ?_)
        refine fin1 (rs_c rfl) ?_
        rw [dec_false (ne_of_get hx hy c3)]
      · try simp only [decide_eq_true_eq, decide_eq_false_iff_not, Bool.not_eq_true', Bool.not_eq_false', Bool.and_eq_true, Bool.or_eq_true, Bool.and_eq_false_iff, Bool.or_eq_false_iff, Int.not_lt, Int.not_le, List.length_map] at c3
        refine awp_skip ?_
        refine awp_region rfl ?_
        refine rwp_det rfl rfl (det_move rfl rfl) ?_
        refine rwp_det rfl rfl (det_add_nw rfl rfl rfl ⟨by omega, by omega⟩) ?_
        refine rwp_det rfl rfl (det_assign rfl rfl) ?_
        refine rwp_nil ?_
        refine ⟨k + 1, ⟨by omega, take_eq_next hx hy hp c3⟩, (by omega), Weak.mk [] ⟨VLe.refl _, VLe.refl _, VLe.refl _, trivial⟩ rfl⟩
    · try simp only [decide_eq_true_eq, decide_eq_false_iff_not, Bool.not_eq_true', Bool.not_eq_false', Bool.and_eq_true, Bool.or_eq_true, Bool.and_eq_false_iff, Bool.or_eq_false_iff, Int.not_lt, Int.not_le, List.length_map] at c2
      refine awp_exit ?_
      refine awp_seq ?_
      refine awp_region rfl ?_
      refine rwp_det rfl rfl (det_assign rfl rfl) ?_
      refine rwp_nil ?_
      refine awp_ret ?_
      repeat (first | refine thenQ_ret ?_ | refine blockQ_ret ?_)
      refine fin1 (rs_c rfl) ?_
      rw [dec_true (eq_of_take hp (by omega) (by omega))]

theorem base_Expr_step (a : Ex) (ih : ∀ x, x ∈ a.Args → x.wt ≤ 4294967296 → ∀ y, Pur cfg 19 [vE x, vE y] (vB (decide (x = y)))) (ha : a.wt ≤ 4294967296) (b : Ex) :
    Pur cfg 19 [vE a, vE b] (vB (decide (a = b))) := by
  refine con_intro Tryz.func19 rfl Tryz.ntmps19 Tryz.results19 rfl ?_
  intro z hz
  obtain ⟨hL, hI, hA⟩ := a.parts ha
  have hw := Ex.wt_eq a
  refine awp_seq ?_
  refine awp_region rfl ?_
  refine rwp_op rfl rfl (ope_box rfl rfl) ?_
  rintro _ _ ⟨b1, rfl, rfl⟩
  refine rwp_op rfl rfl (ope_box rfl rfl) ?_
  rintro _ _ ⟨b2, rfl, rfl⟩
  refine rwp_det rfl rfl (det_assign rfl rfl) ?_
  refine rwp_nil ?_
  refine awp_seq ?_
  refine awp_region rfl ?_
  refine rwp_det rfl rfl (det_field_lit rfl fd32_0 rfl) ?_
  refine rwp_det rfl rfl (det_load_one rfl one3 rfl (ptr_row 1 rfl) rfl) ?_
  refine rwp_det rfl rfl (det_field_lit rfl fd32_0 rfl) ?_
  refine rwp_det rfl rfl (det_load_one rfl one3 rfl (ptr_row 0 rfl) rfl) ?_
  refine rwp_det rfl rfl (det_eql rfl rfl rfl) ?_
  refine rwp_det rfl rfl (det_move rfl rfl) ?_
  refine rwp_lazy [] rfl rfl rfl rfl gv1 trivial (fun g1_5 => det_field_lit rfl fd32_1 rfl) rfl ?_
  refine rwp_lazy [(11, _)] rfl rfl rfl rfl gv1 ⟨rfl, rfl, trivial⟩ (fun g1_5 => det_load_one rfl one9 rfl (ptr_row 1 rfl) rfl) rfl ?_
  refine rwp_lazy [] rfl rfl rfl rfl gv1 trivial (fun g1_5 => det_field_lit rfl fd32_1 rfl) rfl ?_
  refine rwp_lazy [(13, _)] rfl rfl rfl rfl gv1 ⟨rfl, rfl, trivial⟩ (fun g1_5 => det_load_one rfl one9 rfl (ptr_row 0 rfl) rfl) rfl ?_
  refine rwp_lazy [(12, _), (14, _)] rfl rfl rfl rfl gv1 ⟨rfl, rfl, rfl, rfl, trivial⟩ (fun g1_5 => det_seql rfl rfl rfl) rfl ?_
  refine rwp_det rfl rfl (det_and rfl rfl rfl (fun h => h) rfl) ?_
  refine rwp_det rfl rfl (det_move rfl rfl) ?_
  refine rwp_lazy [] rfl rfl rfl rfl gv1 trivial (fun g1_12 => det_field_lit rfl fd32_2 rfl) rfl ?_
  refine rwp_lazy [(18, _)] rfl rfl rfl rfl gv1 ⟨rfl, rfl, trivial⟩ (fun g1_12 => det_load_agg rfl agg23 rfl (ptr_row 1 rfl) rfl) rfl ?_
  refine rwp_lazy [] rfl rfl rfl rfl gv1 trivial (fun g1_12 => det_field_lit rfl fd32_2 rfl) rfl ?_
  refine rwp_lazy [(20, _)] rfl rfl rfl rfl gv1 ⟨rfl, rfl, trivial⟩ (fun g1_12 => det_load_agg rfl agg23 rfl (ptr_row 0 rfl) rfl) rfl ?_
  refine rwp_lazy [(19, _), (21, _)] rfl rfl rfl rfl gv1 ⟨rfl, rfl, rfl, rfl, trivial⟩ (fun g1_12 => det_aeql rfl fl23 rfl rfl rfl) rfl ?_
  refine rwp_det rfl rfl (det_and rfl rfl rfl (fun h => h) rfl) ?_
  refine rwp_det rfl rfl (det_move rfl rfl) ?_
  refine rwp_lazy [] rfl rfl rfl rfl gv1 trivial (fun g1_19 => det_field_lit rfl fd32_3 rfl) rfl ?_
  refine rwp_lazy [(25, _)] rfl rfl rfl rfl gv1 ⟨rfl, rfl, trivial⟩ (fun g1_19 => det_load_agg rfl agg25 rfl (ptr_row 1 rfl) rfl) rfl ?_
  refine rwp_lazy [] rfl rfl rfl rfl gv1 trivial (fun g1_19 => det_field_lit rfl fd32_3 rfl) rfl ?_
  refine rwp_lazy [(27, _)] rfl rfl rfl rfl gv1 ⟨rfl, rfl, trivial⟩ (fun g1_19 => det_load_agg rfl agg25 rfl (ptr_row 0 rfl) rfl) rfl ?_
  refine rwp_lazy [(26, _), (28, _)] rfl rfl rfl rfl gv1 ⟨rfl, rfl, rfl, rfl, trivial⟩ (fun g1_19 => det_aeql rfl fl25 rfl rfl rfl) rfl ?_
  refine rwp_det rfl rfl (det_and rfl rfl rfl (fun h => h) rfl) ?_
  refine rwp_det rfl rfl (det_move rfl rfl) ?_
  refine rwp_lazy [] rfl rfl rfl rfl gv1 trivial (fun g1_26 => det_field_lit rfl fd32_4 rfl) rfl ?_
  refine rwp_lazy [(32, _)] rfl rfl rfl rfl gv1 ⟨rfl, rfl, trivial⟩ (fun g1_26 => det_load_agg rfl agg28 rfl (ptr_row 1 rfl) rfl) rfl ?_
  refine rwp_lazy [] rfl rfl rfl rfl gv1 trivial (fun g1_26 => det_field_lit rfl fd32_4 rfl) rfl ?_
  refine rwp_lazy [(34, _)] rfl rfl rfl rfl gv1 ⟨rfl, rfl, trivial⟩ (fun g1_26 => det_load_agg rfl agg28 rfl (ptr_row 0 rfl) rfl) rfl ?_
  refine rwp_lazy [(33, _), (35, _)] rfl rfl rfl rfl gv1 ⟨rfl, rfl, rfl, rfl, trivial⟩ (fun g1_26 => det_call rfl ok15 (base_Lin a.Lin b.Lin hL) ⟨VLe.refl _, rfl, VLe.refl _, rfl, trivial⟩) rfl ?_
  refine rwp_det rfl rfl (det_and rfl rfl rfl (fun h => h) rfl) ?_
  refine rwp_det rfl rfl (det_move rfl rfl) ?_
  refine rwp_lazy [] rfl rfl rfl rfl gv1 trivial (fun g1_33 => det_field_lit rfl fd32_5 rfl) rfl ?_
  refine rwp_lazy [(39, _)] rfl rfl rfl rfl gv1 ⟨rfl, rfl, trivial⟩ (fun g1_33 => det_load_one rfl one29 rfl (ptr_row 1 rfl) rfl) rfl ?_
  refine rwp_lazy [] rfl rfl rfl rfl gv1 trivial (fun g1_33 => det_field_lit rfl fd32_5 rfl) rfl ?_
  refine rwp_lazy [(41, _)] rfl rfl rfl rfl gv1 ⟨rfl, rfl, trivial⟩ (fun g1_33 => det_load_one rfl one29 rfl (ptr_row 0 rfl) rfl) rfl ?_
  refine rwp_lazy [(40, _), (42, _)] rfl rfl rfl rfl gv1 ⟨rfl, rfl, rfl, rfl, trivial⟩ (fun g1_33 => det_call rfl ok52 (base_Indices a.Idx b.Idx hI (by omega)) ⟨VLe.refl _, rfl, VLe.refl _, rfl, trivial⟩) rfl ?_
  refine rwp_det rfl rfl (det_and rfl rfl rfl (fun h => h) rfl) ?_
  refine rwp_det rfl rfl (det_move rfl rfl) ?_
  refine rwp_lazy [] rfl rfl rfl rfl gv1 trivial (fun g1_40 => det_field_lit rfl fd32_6 rfl) rfl ?_
  refine rwp_lazy [(46, _)] rfl rfl rfl rfl gv1 ⟨rfl, rfl, trivial⟩ (fun g1_40 => det_load_one rfl one30 rfl (ptr_row 1 rfl) rfl) rfl ?_
  refine rwp_lazy [] rfl rfl rfl rfl gv1 trivial (fun g1_40 => det_field_lit rfl fd32_6 rfl) rfl ?_
  refine rwp_lazy [(48, _)] rfl rfl rfl rfl gv1 ⟨rfl, rfl, trivial⟩ (fun g1_40 => det_load_one rfl one30 rfl (ptr_row 0 rfl) rfl) rfl ?_
  refine rwp_lazy [(47, _), (49, _)] rfl rfl rfl rfl gv1 ⟨rfl, rfl, rfl, rfl, trivial⟩ (fun g1_40 => det_call rfl ok18 (base_Exprs_of a.Args b.Args (fun x hx y => ih x hx (by have := Ex.arg_wt hx; omega) y) hA) ⟨VLe.refl _, rfl, VLe.refl _, rfl, trivial⟩) rfl ?_
  refine rwp_det rfl rfl (det_and rfl rfl rfl (fun h => h) rfl) ?_
  refine rwp_det rfl rfl (det_assign rfl rfl) ?_
  refine rwp_nil ?_
  refine awp_ret ?_
  repeat (first | refine thenQ_ret ?_ | refine blockQ_ret ?_)
  refine fin1 (rs_c rfl) ?_
  exact congrArg vB (ex_eq a b)

theorem base_Expr (a b : Ex) (ha : a.wt ≤ 4294967296) : Pur cfg 19 [vE a, vE b] (vB (decide (a = b))) := by
  induction a using Ex.ind generalizing b with
  | _ a ih => exact base_Expr_step a (fun x hx h y => ih x hx y h) ha b

theorem base_Exprs (a b : List Ex) (ha : argsWt a ≤ 4294967296) : Pur cfg 18 [vEs a, vEs b] (vB (decide (a = b))) :=
  base_Exprs_of a b (fun x hx y => base_Expr x y (by have := argsWt_mem hx; omega)) (by have := argsWt_len a; omega)

theorem base_Strings (a b : List ByteArray) (ha : a.length ≤ 4294967296) :
    Pur cfg 37 [vSs a, vSs b] (vB (decide (a = b))) := by
  refine con_intro Tryz.func37 rfl Tryz.ntmps37 Tryz.results37 rfl ?_
  intro z hz
  refine awp_seq ?_
  refine awp_region rfl ?_
  refine rwp_det rfl rfl (det_assign rfl rfl) ?_
  refine rwp_nil ?_
  refine awp_seq ?_
  refine awp_seq ?_
  refine awp_region rfl ?_
  refine rwp_det rfl rfl (det_move rfl rfl) ?_
  refine rwp_det rfl rfl (det_len_slm rfl el64 rfl) ?_
  refine rwp_det rfl rfl (det_move rfl rfl) ?_
  refine rwp_det rfl rfl (det_len_slm rfl el64 rfl) ?_
  refine rwp_det rfl rfl (det_neq rfl rfl rfl) ?_
  refine rwp_nil ?_
  refine awp_cond rfl (fun c1 => ?_) (fun c1 => ?_)
  · try simp only [decide_eq_true_eq, decide_eq_false_iff_not, Bool.not_eq_true', Bool.not_eq_false', Bool.and_eq_true, Bool.or_eq_true, Bool.and_eq_false_iff, Bool.or_eq_false_iff, Int.not_lt, Int.not_le, List.length_map] at c1
    refine awp_seq ?_
    refine awp_region rfl ?_
    refine rwp_det rfl rfl (det_assign rfl rfl) ?_
    refine rwp_nil ?_
    refine awp_ret ?_
    repeat (first | refine thenQ_ret ?_ | refine blockQ_ret ?_)
    refine fin1 (rs_c rfl) ?_
    rw [dec_false (fun h => c1 (by rw [h]))]
  · try simp only [decide_eq_true_eq, decide_eq_false_iff_not, Bool.not_eq_true', Bool.not_eq_false', Bool.and_eq_true, Bool.or_eq_true, Bool.and_eq_false_iff, Bool.or_eq_false_iff, Int.not_lt, Int.not_le, List.length_map] at c1
    refine awp_skip ?_
    refine awp_seq ?_
    refine awp_seq ?_
    refine awp_region rfl ?_
    refine rwp_det rfl rfl (det_assign rfl rfl) ?_
    refine rwp_nil ?_
    refine awp_block ?_
    refine awp_weak ⟨[(5, .c _), (0, .c _), (1, .c _)], []⟩ (Weak.mk [] ⟨VLe.of_eq rfl, VLe.of_eq rfl, VLe.of_eq rfl, trivial⟩ rfl) ?_
    refine awp_loop_k 1 0 rfl rfl (Nat) (fun k => [(5, vI k)]) (fun k => []) (fun k => k ≤ a.length ∧ (a.take k = b.take k)) (fun k => a.length - k) ⟨0, ⟨by omega, rfl⟩, Weak.mk [] ⟨VLe.refl _, VLe.refl _, VLe.refl _, trivial⟩ rfl⟩ ?_
    rintro k ⟨hk, hp⟩
    refine awp_seq ?_
    refine awp_seq ?_
    refine awp_region rfl ?_
    refine rwp_det rfl rfl (det_move rfl rfl) ?_
    refine rwp_det rfl rfl (det_move rfl rfl) ?_
    refine rwp_det rfl rfl (det_len_slm rfl el64 rfl) ?_
    refine rwp_det rfl rfl (det_lss rfl rfl rfl) ?_
    refine rwp_nil ?_
    refine awp_cond rfl (fun c2 => ?_) (fun c2 => ?_)
    · try simp only [decide_eq_true_eq, decide_eq_false_iff_not, Bool.not_eq_true', Bool.not_eq_false', Bool.and_eq_true, Bool.or_eq_true, Bool.and_eq_false_iff, Bool.or_eq_false_iff, Int.not_lt, Int.not_le, List.length_map] at c2
      obtain ⟨x, hx⟩ := ex_get a k (by omega)
      obtain ⟨y, hy⟩ := ex_get b k (by omega)
      refine awp_skip ?_
      refine awp_seq ?_
      refine awp_block ?_
      refine awp_seq ?_
      refine awp_draw 9 mixed (by kernel_rfl) rfl rfl ?_
      refine td_det rfl rfl (det_move rfl rfl) ?_
      refine td_det rfl rfl (det_move rfl rfl) ?_
      refine td_det rfl rfl (det_index_sl rfl el64 rfl rfl (by omega) (getm (by assumption))) ?_
      refine td_det rfl rfl (det_load_one rfl one9 rfl ptr_imm rfl) ?_
      refine td_det rfl rfl (det_move rfl rfl) ?_
      refine td_det rfl rfl (det_move rfl rfl) ?_
      refine td_det rfl rfl (det_index_sl rfl el64 rfl rfl (by omega) (getm (by assumption))) ?_
      refine td_det rfl rfl (det_load_one rfl one9 rfl ptr_imm rfl) ?_
      refine td_det rfl rfl (det_sneq rfl rfl rfl) ?_
      refine td_nil ?_
      refine rwp_nil ?_
      refine awp_cond rfl (fun c3 => ?_) (fun c3 => ?_)
      · try simp only [decide_eq_true_eq, decide_eq_false_iff_not, Bool.not_eq_true', Bool.not_eq_false', Bool.and_eq_true, Bool.or_eq_true, Bool.and_eq_false_iff, Bool.or_eq_false_iff, Int.not_lt, Int.not_le, List.length_map] at c3
        refine awp_seq ?_
        refine awp_region rfl ?_
        refine rwp_det rfl rfl (det_assign rfl rfl) ?_
        refine rwp_nil ?_
        refine awp_ret ?_
        repeat (first | refine thenQ_ret ?_ | refine blockQ_ret ?_)
        refine fin1 (rs_c rfl) ?_
        rw [dec_false (ne_of_get hx hy c3)]
      · try simp only [decide_eq_true_eq, decide_eq_false_iff_not, Bool.not_eq_true', Bool.not_eq_false', Bool.and_eq_true, Bool.or_eq_true, Bool.and_eq_false_iff, Bool.or_eq_false_iff, Int.not_lt, Int.not_le, List.length_map] at c3
        refine awp_skip ?_
        refine awp_region rfl ?_
        refine rwp_det rfl rfl (det_move rfl rfl) ?_
        refine rwp_det rfl rfl (det_add_nw rfl rfl rfl ⟨by omega, by omega⟩) ?_
        refine rwp_det rfl rfl (det_assign rfl rfl) ?_
        refine rwp_nil ?_
        refine ⟨k + 1, ⟨by omega, take_eq_next hx hy hp c3⟩, (by omega), Weak.mk [] ⟨VLe.refl _, VLe.refl _, VLe.refl _, trivial⟩ rfl⟩
    · try simp only [decide_eq_true_eq, decide_eq_false_iff_not, Bool.not_eq_true', Bool.not_eq_false', Bool.and_eq_true, Bool.or_eq_true, Bool.and_eq_false_iff, Bool.or_eq_false_iff, Int.not_lt, Int.not_le, List.length_map] at c2
      refine awp_exit ?_
      refine awp_seq ?_
      refine awp_region rfl ?_
      refine rwp_det rfl rfl (det_assign rfl rfl) ?_
      refine rwp_nil ?_
      refine awp_ret ?_
      repeat (first | refine thenQ_ret ?_ | refine blockQ_ret ?_)
      refine fin1 (rs_c rfl) ?_
      rw [dec_true (eq_of_take hp (by omega) (by omega))]

theorem base_Weigh_step (e : Ex) (ih : ∀ a, a ∈ e.Args → ∀ (m : Nat) (x : Int), a.fit → m ≤ 1000000 → x = m → Pur cfg 11 [vE a, vI x] (vI (weighE a m))) (m : Nat) (x : Int) (hf : e.fit) (hm : m ≤ 1000000) (hx : x = m) :
    Pur cfg 11 [vE e, vI x] (vI (weighE e m)) := by
  refine con_intro Tryz.func11 rfl Tryz.ntmps11 Tryz.results11 rfl ?_
  intro z hz
  obtain ⟨f1, f2, f3, f4, f5⟩ := Ex.fit_eq hf
  have hW := weighE_eq e m
  refine awp_seq ?_
  refine awp_region rfl ?_
  refine rwp_op rfl rfl (ope_box rfl rfl) ?_
  rintro _ _ ⟨b1, rfl, rfl⟩
  refine rwp_det rfl rfl (det_assign rfl rfl) ?_
  refine rwp_nil ?_
  refine awp_seq ?_
  refine awp_region rfl ?_
  refine rwp_det rfl rfl (det_field_lit rfl fd32_4 rfl) ?_
  refine rwp_det rfl rfl (det_field_lit rfl fd28_1 rfl) ?_
  refine rwp_det rfl rfl (det_load_one rfl one26 rfl (ptr_row 0 rfl) rfl) ?_
  refine rwp_det rfl rfl (det_len_slm rfl el26 rfl) ?_
  refine rwp_det rfl rfl (det_add_nw rfl rfl rfl ⟨by omega, by omega⟩) ?_
  refine rwp_det rfl rfl (det_field_lit rfl fd32_5 rfl) ?_
  refine rwp_det rfl rfl (det_load_one rfl one29 rfl (ptr_row 0 rfl) rfl) ?_
  refine rwp_det rfl rfl (det_len_slm rfl el29 rfl) ?_
  refine rwp_det rfl rfl (det_add_nw rfl rfl rfl ⟨by omega, by omega⟩) ?_
  refine rwp_det rfl rfl (det_assign rfl rfl) ?_
  refine rwp_nil ?_
  refine awp_seq ?_
  refine awp_seq ?_
  refine awp_region rfl ?_
  refine rwp_det rfl rfl (det_assign rfl rfl) ?_
  refine rwp_nil ?_
  refine awp_block ?_
  refine awp_weak ⟨[(6, .c _), (5, .c _), (1, .c _), (2, .c _)], [_]⟩ (Weak.mk [true] ⟨VLe.of_eq rfl, VLe.of_eq rfl, VLe.of_eq rfl, VLe.of_eq rfl, trivial⟩ rfl) ?_
  refine awp_loop_k 2 0 rfl rfl (Nat × Nat) (fun ⟨k, n⟩ => [(6, vI k), (5, vI n)]) (fun ⟨k, n⟩ => []) (fun ⟨k, n⟩ => k ≤ e.Idx.length ∧ (n ≤ m + 4 * 140737488355328) ∧ (weighIdx m (1 + e.Lin.L.length + e.Idx.length) e.Idx = weighIdx m n (e.Idx.drop k))) (fun ⟨k, n⟩ => e.Idx.length - k) ⟨⟨0, 1 + e.Lin.L.length + e.Idx.length⟩, ⟨by omega, by omega, rfl⟩, Weak.mk [true] ⟨VLe.refl _, VLe.of_eq (congrArg vI (by omega)), VLe.refl _, VLe.refl _, trivial⟩ rfl⟩ ?_
  rintro ⟨k, n⟩ ⟨hk, hn1, hn2⟩
  show AWP _ _ _ _ _ ⟨[(6, vI k), (5, vI n)] ++ _, [] ++ _⟩
  refine awp_seq ?_
  refine awp_seq ?_
  refine awp_region rfl ?_
  refine rwp_det rfl rfl (det_move rfl rfl) ?_
  refine rwp_det rfl rfl (det_field_lit rfl fd32_5 rfl) ?_
  refine rwp_det rfl rfl (det_load_one rfl one29 rfl (ptr_row 0 rfl) rfl) ?_
  refine rwp_det rfl rfl (det_len_slm rfl el29 rfl) ?_
  refine rwp_det rfl rfl (det_lss rfl rfl rfl) ?_
  refine rwp_det rfl rfl (det_move rfl rfl) ?_
  refine rwp_lazy [] rfl rfl rfl rfl gv1 trivial (fun g3_5 => det_move rfl rfl) rfl ?_
  refine rwp_lazy [] rfl rfl rfl rfl gv1 trivial (fun g3_5 => det_move rfl rfl) rfl ?_
  refine rwp_lazy [(24, _), (25, _)] rfl rfl rfl rfl gv1 ⟨rfl, rfl, rfl, rfl, trivial⟩ (fun g3_5 => det_leq rfl rfl rfl) rfl ?_
  refine rwp_det rfl rfl (det_and rfl rfl rfl (fun h => h) rfl) ?_
  refine rwp_nil ?_
  refine awp_cond rfl (fun c1 => ?_) (fun c1 => ?_)
  · try simp only [decide_eq_true_eq, decide_eq_false_iff_not, Bool.not_eq_true', Bool.not_eq_false', Bool.and_eq_true, Bool.or_eq_true, Bool.and_eq_false_iff, Bool.or_eq_false_iff, Int.not_lt, Int.not_le, List.length_map] at c1
    obtain ⟨y, hy⟩ := ex_get e.Idx k (by omega)
    obtain ⟨i1, i2, i3⟩ := f4 y (mem_of_get hy)
    refine awp_skip ?_
    refine awp_seq ?_
    refine awp_block ?_
    refine awp_seq ?_
    refine awp_draw 19 mixed (by kernel_rfl) rfl rfl ?_
    refine td_det rfl rfl (det_move rfl rfl) ?_
    refine td_det rfl rfl (det_field_lit rfl fd32_5 rfl) ?_
    refine td_det rfl rfl (det_load_one rfl one29 rfl (ptr_row 0 rfl) rfl) ?_
    refine td_det rfl rfl (det_move rfl rfl) ?_
    refine td_det rfl rfl (det_index_sl rfl el29 rfl rfl (by omega) (getm (by assumption))) ?_
    refine td_det rfl rfl (det_field_imm rfl fd70_0 rfl) ?_
    refine td_det rfl rfl (det_field_imm rfl fd28_1 rfl) ?_
    refine td_det rfl rfl (det_load_one rfl one26 rfl ptr_imm rfl) ?_
    refine td_det rfl rfl (det_len_slm rfl el26 rfl) ?_
    refine td_det rfl rfl (det_add_nw rfl rfl rfl ⟨by omega, by omega⟩) ?_
    refine td_det rfl rfl (det_field_lit rfl fd32_5 rfl) ?_
    refine td_det rfl rfl (det_load_one rfl one29 rfl (ptr_row 0 rfl) rfl) ?_
    refine td_det rfl rfl (det_move rfl rfl) ?_
    refine td_det rfl rfl (det_index_sl rfl el29 rfl rfl (by omega) (getm (by assumption))) ?_
    refine td_det rfl rfl (det_field_imm rfl fd70_2 rfl) ?_
    refine td_det rfl rfl (det_load_one rfl one68 rfl ptr_imm rfl) ?_
    refine td_det rfl rfl (det_len_slm rfl el68 rfl) ?_
    refine td_det rfl rfl (det_add_nw rfl rfl rfl ⟨by omega, by omega⟩) ?_
    refine td_det rfl rfl (det_assign rfl rfl) ?_
    refine td_nil ?_
    refine rwp_nil ?_
    refine awp_seq ?_
    refine awp_region rfl ?_
    refine rwp_det rfl rfl (det_assign rfl rfl) ?_
    refine rwp_nil ?_
    refine awp_block ?_
    refine awp_weak ⟨[(7, .c _), (5, .c _), (1, .c _), (2, .c _), (6, .c _)], [_]⟩ (Weak.mk [true] ⟨VLe.of_eq rfl, VLe.of_eq rfl, VLe.of_eq rfl, VLe.of_eq rfl, VLe.of_eq rfl, trivial⟩ rfl) ?_
    refine awp_loop_k 2 0 rfl rfl (Nat × Nat) (fun ⟨j, p⟩ => [(7, vI j), (5, vI p)]) (fun ⟨j, p⟩ => []) (fun ⟨j, p⟩ => j ≤ y.At.length ∧ (p ≤ m + 4 * 140737488355328) ∧ (weighAt m (n + y.Lin.L.length + y.At.length) y.At = weighAt m p (y.At.drop j))) (fun ⟨j, p⟩ => y.At.length - j) ⟨⟨0, n + y.Lin.L.length + y.At.length⟩, ⟨by omega, by omega, rfl⟩, Weak.mk [true] ⟨VLe.refl _, VLe.of_eq (congrArg vI (by omega)), VLe.refl _, VLe.refl _, VLe.refl _, trivial⟩ rfl⟩ ?_
    rintro ⟨j, p⟩ ⟨hj, hp1, hp2⟩
    show AWP _ _ _ _ _ ⟨[(7, vI j), (5, vI p)] ++ _, [] ++ _⟩
    refine awp_seq ?_
    refine awp_seq ?_
    refine awp_region rfl ?_
    refine rwp_det rfl rfl (det_move rfl rfl) ?_
    refine rwp_det rfl rfl (det_field_lit rfl fd32_5 rfl) ?_
    refine rwp_det rfl rfl (det_load_one rfl one29 rfl (ptr_row 0 rfl) rfl) ?_
    refine rwp_det rfl rfl (det_move rfl rfl) ?_
    refine rwp_det rfl rfl (det_index_sl rfl el29 rfl rfl (by omega) (getm (by assumption))) ?_
    refine rwp_det rfl rfl (det_field_imm rfl fd70_2 rfl) ?_
    refine rwp_det rfl rfl (det_load_one rfl one68 rfl ptr_imm rfl) ?_
    refine rwp_det rfl rfl (det_len_slm rfl el68 rfl) ?_
    refine rwp_det rfl rfl (det_lss rfl rfl rfl) ?_
    refine rwp_det rfl rfl (det_move rfl rfl) ?_
    refine rwp_lazy [] rfl rfl rfl rfl gv1 trivial (fun g7_9 => det_move rfl rfl) rfl ?_
    refine rwp_lazy [] rfl rfl rfl rfl gv1 trivial (fun g7_9 => det_move rfl rfl) rfl ?_
    refine rwp_lazy [(58, _), (59, _)] rfl rfl rfl rfl gv1 ⟨rfl, rfl, rfl, rfl, trivial⟩ (fun g7_9 => det_leq rfl rfl rfl) rfl ?_
    refine rwp_det rfl rfl (det_and rfl rfl rfl (fun h => h) rfl) ?_
    refine rwp_nil ?_
    refine awp_cond rfl (fun c2 => ?_) (fun c2 => ?_)
    · try simp only [decide_eq_true_eq, decide_eq_false_iff_not, Bool.not_eq_true', Bool.not_eq_false', Bool.and_eq_true, Bool.or_eq_true, Bool.and_eq_false_iff, Bool.or_eq_false_iff, Int.not_lt, Int.not_le, List.length_map] at c2
      obtain ⟨l, hl⟩ := ex_get y.At j (by omega)
      have hl2 := i3 l (mem_of_get hl)
      refine awp_skip ?_
      refine awp_seq ?_
      refine awp_block ?_
      refine awp_region rfl ?_
      refine rwp_det rfl rfl (det_move rfl rfl) ?_
      refine rwp_det rfl rfl (det_field_lit rfl fd32_5 rfl) ?_
      refine rwp_det rfl rfl (det_load_one rfl one29 rfl (ptr_row 0 rfl) rfl) ?_
      refine rwp_det rfl rfl (det_move rfl rfl) ?_
      refine rwp_det rfl rfl (det_index_sl rfl el29 rfl rfl (by omega) (getm (by assumption))) ?_
      refine rwp_det rfl rfl (det_field_imm rfl fd70_2 rfl) ?_
      refine rwp_det rfl rfl (det_load_one rfl one68 rfl ptr_imm rfl) ?_
      refine rwp_det rfl rfl (det_move rfl rfl) ?_
      refine rwp_det rfl rfl (det_index_sl rfl el68 rfl rfl (by omega) (getm (by assumption))) ?_
      refine rwp_det rfl rfl (det_field_imm rfl fd28_1 rfl) ?_
      refine rwp_det rfl rfl (det_load_one rfl one26 rfl ptr_imm rfl) ?_
      refine rwp_det rfl rfl (det_len_slm rfl el26 rfl) ?_
      refine rwp_det rfl rfl (det_add_nw rfl rfl rfl ⟨by omega, by omega⟩) ?_
      refine rwp_det rfl rfl (det_assign rfl rfl) ?_
      refine rwp_nil ?_
      refine awp_region rfl ?_
      refine rwp_det rfl rfl (det_move rfl rfl) ?_
      refine rwp_det rfl rfl (det_add_nw rfl rfl rfl ⟨by omega, by omega⟩) ?_
      refine rwp_det rfl rfl (det_assign rfl rfl) ?_
      refine rwp_nil ?_
      refine ⟨⟨j + 1, p + l.L.length⟩, ⟨by omega, by omega, by rw [hp2, drop_cons hl, weighAt, if_pos (by omega)]⟩, (by show y.At.length - (j + 1) < y.At.length - j; omega), Weak.mk [true] ⟨VLe.refl _, VLe.of_eq (congrArg vI (by omega)), VLe.refl _, VLe.refl _, VLe.refl _, trivial⟩ rfl⟩
    · try simp only [decide_eq_true_eq, decide_eq_false_iff_not, Bool.not_eq_true', Bool.not_eq_false', Bool.and_eq_true, Bool.or_eq_true, Bool.and_eq_false_iff, Bool.or_eq_false_iff, Int.not_lt, Int.not_le, List.length_map] at c2
      have hN2 := weighAt_end (l := y.At) (k := j) (n := p) hx (by omega)
      refine awp_exit ?_
      refine awp_region rfl ?_
      refine rwp_det rfl rfl (det_move rfl rfl) ?_
      refine rwp_det rfl rfl (det_add_nw rfl rfl rfl ⟨by omega, by omega⟩) ?_
      refine rwp_det rfl rfl (det_assign rfl rfl) ?_
      refine rwp_nil ?_
      refine ⟨⟨k + 1, p⟩, ⟨by omega, hp1, by rw [hn2, drop_cons hy, weighIdx, if_pos (by omega), hp2, ← hN2]⟩, (by show e.Idx.length - (k + 1) < e.Idx.length - k; omega), Weak.mk [true] ⟨VLe.refl _, VLe.refl _, VLe.refl _, VLe.refl _, trivial⟩ rfl⟩
  · try simp only [decide_eq_true_eq, decide_eq_false_iff_not, Bool.not_eq_true', Bool.not_eq_false', Bool.and_eq_true, Bool.or_eq_true, Bool.and_eq_false_iff, Bool.or_eq_false_iff, Int.not_lt, Int.not_le, List.length_map] at c1
    have hN := weighIdx_end (l := e.Idx) (k := k) (n := n) hx (by omega)
    refine awp_exit ?_
    refine awp_seq ?_
    refine awp_seq ?_
    refine awp_region rfl ?_
    refine rwp_det rfl rfl (det_assign rfl rfl) ?_
    refine rwp_nil ?_
    refine awp_block ?_
    refine awp_weak ⟨[(8, .c _), (5, .c _), (1, .c _), (2, .c _)], [_]⟩ (Weak.mk [true] ⟨VLe.of_eq rfl, VLe.of_eq rfl, VLe.of_eq rfl, VLe.of_eq rfl, trivial⟩ rfl) ?_
    refine awp_loop_k 2 0 rfl rfl (Nat × Nat) (fun ⟨k, n⟩ => [(8, vI k), (5, vI n)]) (fun ⟨k, n⟩ => []) (fun ⟨k, n⟩ => k ≤ e.Args.length ∧ (n ≤ m + 4 * 140737488355328) ∧ (weighE e m = weighL (e.Args.drop k) m n)) (fun ⟨k, n⟩ => e.Args.length - k) ⟨⟨0, n⟩, ⟨by omega, hn1, by rw [hW, hn2, ← hN]; rfl⟩, Weak.mk [true] ⟨VLe.refl _, VLe.refl _, VLe.refl _, VLe.refl _, trivial⟩ rfl⟩ ?_
    rintro ⟨k, n⟩ ⟨hk3, hn3, hn4⟩
    show AWP _ _ _ _ _ ⟨[(8, vI k), (5, vI n)] ++ _, [] ++ _⟩
    refine awp_seq ?_
    refine awp_seq ?_
    refine awp_region rfl ?_
    refine rwp_det rfl rfl (det_move rfl rfl) ?_
    refine rwp_det rfl rfl (det_field_lit rfl fd32_6 rfl) ?_
    refine rwp_det rfl rfl (det_load_one rfl one30 rfl (ptr_row 0 rfl) rfl) ?_
    refine rwp_det rfl rfl (det_len_slm rfl el30 rfl) ?_
    refine rwp_det rfl rfl (det_lss rfl rfl rfl) ?_
    refine rwp_det rfl rfl (det_move rfl rfl) ?_
    refine rwp_lazy [] rfl rfl rfl rfl gv1 trivial (fun g11_5 => det_move rfl rfl) rfl ?_
    refine rwp_lazy [] rfl rfl rfl rfl gv1 trivial (fun g11_5 => det_move rfl rfl) rfl ?_
    refine rwp_lazy [(83, _), (84, _)] rfl rfl rfl rfl gv1 ⟨rfl, rfl, rfl, rfl, trivial⟩ (fun g11_5 => det_leq rfl rfl rfl) rfl ?_
    refine rwp_det rfl rfl (det_and rfl rfl rfl (fun h => h) rfl) ?_
    refine rwp_nil ?_
    refine awp_cond rfl (fun c3 => ?_) (fun c3 => ?_)
    · try simp only [decide_eq_true_eq, decide_eq_false_iff_not, Bool.not_eq_true', Bool.not_eq_false', Bool.and_eq_true, Bool.or_eq_true, Bool.and_eq_false_iff, Bool.or_eq_false_iff, Int.not_lt, Int.not_le, List.length_map] at c3
      obtain ⟨a, ha⟩ := ex_get e.Args k (by omega)
      have hwa := weighE_le a (m - n) (f5 a (mem_of_get ha))
      refine awp_skip ?_
      refine awp_seq ?_
      refine awp_block ?_
      refine awp_region rfl ?_
      refine rwp_det rfl rfl (det_move rfl rfl) ?_
      refine rwp_det rfl rfl (det_field_lit rfl fd32_6 rfl) ?_
      refine rwp_det rfl rfl (det_load_one rfl one30 rfl (ptr_row 0 rfl) rfl) ?_
      refine rwp_det rfl rfl (det_move rfl rfl) ?_
      refine rwp_det rfl rfl (det_index_sl rfl el30 rfl rfl (by omega) (getmE (by assumption))) ?_
      refine rwp_det rfl rfl (det_load_agg rfl agg32 rfl ptr_imm rfl) ?_
      refine rwp_det rfl rfl (det_move rfl rfl) ?_
      refine rwp_det rfl rfl (det_move rfl rfl) ?_
      refine rwp_det rfl rfl (det_sub_nw rfl rfl rfl ⟨by omega, by omega⟩) ?_
      refine rwp_det rfl rfl (det_call rfl ok11 (ih a (mem_of_get ha) (m - n) _ (f5 a (mem_of_get ha)) (by omega) (by omega)) ⟨VLe.refl _, rfl, VLe.refl _, rfl, trivial⟩) ?_
      refine rwp_det rfl rfl (det_add_nw rfl rfl rfl ⟨by omega, by omega⟩) ?_
      refine rwp_det rfl rfl (det_assign rfl rfl) ?_
      refine rwp_nil ?_
      refine awp_region rfl ?_
      refine rwp_det rfl rfl (det_move rfl rfl) ?_
      refine rwp_det rfl rfl (det_add_nw rfl rfl rfl ⟨by omega, by omega⟩) ?_
      refine rwp_det rfl rfl (det_assign rfl rfl) ?_
      refine rwp_nil ?_
      refine ⟨⟨k + 1, n + weighE a (m - n)⟩, ⟨by omega, by omega, by rw [hn4, drop_cons ha, weighL, if_pos (by omega)]⟩, (by show e.Args.length - (k + 1) < e.Args.length - k; omega), Weak.mk [true] ⟨VLe.refl _, VLe.of_eq (congrArg vI (by omega)), VLe.refl _, VLe.refl _, trivial⟩ rfl⟩
    · try simp only [decide_eq_true_eq, decide_eq_false_iff_not, Bool.not_eq_true', Bool.not_eq_false', Bool.and_eq_true, Bool.or_eq_true, Bool.and_eq_false_iff, Bool.or_eq_false_iff, Int.not_lt, Int.not_le, List.length_map] at c3
      refine awp_exit ?_
      refine awp_seq ?_
      refine awp_region rfl ?_
      refine rwp_det rfl rfl (det_move rfl rfl) ?_
      refine rwp_det rfl rfl (det_assign rfl rfl) ?_
      refine rwp_nil ?_
      refine awp_ret ?_
      repeat (first | refine thenQ_ret ?_ | refine blockQ_ret ?_)
      refine fin1 (rs_c rfl) ?_
      exact congrArg vI (by rw [hn4, ← weighL_end hx (by omega)])

theorem base_Weigh (e : Ex) (m : Nat) (x : Int) (hf : e.fit) (hm : m ≤ 1000000) (hx : x = m) : Pur cfg 11 [vE e, vI x] (vI (weighE e m)) := by
  induction e using Ex.ind generalizing m x with
  | _ e ih => exact base_Weigh_step e (fun a ha m x h1 h2 h3 => ih a ha m x h1 h2 h3) m x hf hm hx

theorem slices_Clone_mono (l : List Mono) (hl : l.length ≤ 4294967296) :
    OwnR cfg 66 [vMonos l] 62 2 (l.map Mono.cells) := by
  refine con_intro Tryz.func66 rfl Tryz.ntmps66 Tryz.results66 rfl ?_
  intro z hz
  refine awp_seq ?_
  refine awp_region rfl ?_
  refine rwp_det rfl rfl (det_assignN 2 rfl rfl) ?_
  refine rwp_nil ?_
  refine awp_seq ?_
  refine awp_seq ?_
  refine awp_region rfl ?_
  refine rwp_det rfl rfl (det_move rfl rfl) ?_
  refine rwp_op rfl rfl (ope_nileq rfl el26 rfl rfl) ?_
  rintro _ _ ⟨nb1, rfl, hnil1, rfl⟩
  refine rwp_nil ?_
  refine awp_cond rfl (fun c1 => ?_) (fun c1 => ?_)
  · try simp only [decide_eq_true_eq, decide_eq_false_iff_not, Bool.not_eq_true', Bool.not_eq_false', Bool.and_eq_true, Bool.or_eq_true, Bool.and_eq_false_iff, Bool.or_eq_false_iff, Int.not_lt, Int.not_le, List.length_map] at c1
    refine awp_seq ?_
    refine awp_region rfl ?_
    refine rwp_det rfl rfl (det_assign rfl rfl) ?_
    refine rwp_weak _ (weak_own 62 2) ?_
    refine rwp_nil ?_
    refine awp_ret ?_
    repeat (first | refine thenQ_ret ?_ | refine blockQ_ret ?_)
    refine fin1 (rs_c rfl) ?_
    exact ⟨_, rfl, by rw [hnil1 c1]⟩
  · try simp only [decide_eq_true_eq, decide_eq_false_iff_not, Bool.not_eq_true', Bool.not_eq_false', Bool.and_eq_true, Bool.or_eq_true, Bool.and_eq_false_iff, Bool.or_eq_false_iff, Int.not_lt, Int.not_le, List.length_map] at c1
    refine awp_skip ?_
    refine awp_seq ?_
    refine awp_region rfl ?_
    refine rwp_op rfl rfl (ope_bslice rfl el26 zr62 rfl rfl rfl rfl) ?_
    rintro _ _ ⟨sv3, rfl, rfl⟩
    refine rwp_det rfl rfl (det_move rfl rfl) ?_
    refine rwp_op rfl rfl (ope_append 0 rfl el26 rfl rfl rfl (by simp only [List.length_map, List.length_nil, Nat.zero_add]; omega) (by simp only [List.length_map, List.length_nil, Nat.zero_add]; omega)) ?_
    rintro _ _ ⟨sv4, rfl, rfl⟩
    refine rwp_det rfl rfl (det_assign rfl rfl) ?_
    refine rwp_nil ?_
    refine awp_ret ?_
    repeat (first | refine thenQ_ret ?_ | refine blockQ_ret ?_)
    refine fin1 (rs_c rfl) ?_
    exact ⟨_, rfl, rfl⟩

theorem slices_Clone_lin (l : List Lf) (hl : l.length ≤ 4294967296) :
    OwnR cfg 95 [vLins l] 28 2 (l.map Lf.cells) := by
  refine con_intro Tryz.func95 rfl Tryz.ntmps95 Tryz.results95 rfl ?_
  intro z hz
  refine awp_seq ?_
  refine awp_region rfl ?_
  refine rwp_det rfl rfl (det_assignN 2 rfl rfl) ?_
  refine rwp_nil ?_
  refine awp_seq ?_
  refine awp_seq ?_
  refine awp_region rfl ?_
  refine rwp_det rfl rfl (det_move rfl rfl) ?_
  refine rwp_op rfl rfl (ope_nileq rfl el68 rfl rfl) ?_
  rintro _ _ ⟨nb1, rfl, hnil1, rfl⟩
  refine rwp_nil ?_
  refine awp_cond rfl (fun c1 => ?_) (fun c1 => ?_)
  · try simp only [decide_eq_true_eq, decide_eq_false_iff_not, Bool.not_eq_true', Bool.not_eq_false', Bool.and_eq_true, Bool.or_eq_true, Bool.and_eq_false_iff, Bool.or_eq_false_iff, Int.not_lt, Int.not_le, List.length_map] at c1
    refine awp_seq ?_
    refine awp_region rfl ?_
    refine rwp_det rfl rfl (det_assign rfl rfl) ?_
    refine rwp_weak _ (weak_own 28 2) ?_
    refine rwp_nil ?_
    refine awp_ret ?_
    repeat (first | refine thenQ_ret ?_ | refine blockQ_ret ?_)
    refine fin1 (rs_c rfl) ?_
    exact ⟨_, rfl, by rw [hnil1 c1]⟩
  · try simp only [decide_eq_true_eq, decide_eq_false_iff_not, Bool.not_eq_true', Bool.not_eq_false', Bool.and_eq_true, Bool.or_eq_true, Bool.and_eq_false_iff, Bool.or_eq_false_iff, Int.not_lt, Int.not_le, List.length_map] at c1
    refine awp_skip ?_
    refine awp_seq ?_
    refine awp_region rfl ?_
    refine rwp_op rfl rfl (ope_bslice rfl el68 zr28 rfl rfl rfl rfl) ?_
    rintro _ _ ⟨sv3, rfl, rfl⟩
    refine rwp_det rfl rfl (det_move rfl rfl) ?_
    refine rwp_op rfl rfl (ope_append 0 rfl el68 rfl rfl rfl (by simp only [List.length_map, List.length_nil, Nat.zero_add]; omega) (by simp only [List.length_map, List.length_nil, Nat.zero_add]; omega)) ?_
    rintro _ _ ⟨sv4, rfl, rfl⟩
    refine rwp_det rfl rfl (det_assign rfl rfl) ?_
    refine rwp_nil ?_
    refine awp_ret ?_
    repeat (first | refine thenQ_ret ?_ | refine blockQ_ret ?_)
    refine fin1 (rs_c rfl) ?_
    exact ⟨_, rfl, rfl⟩

theorem slices_Clone_ix (l : List Ix) (hl : l.length ≤ 4294967296) :
    OwnR cfg 94 [vIndices l] 70 4 (l.map Ix.cells) := by
  refine con_intro Tryz.func94 rfl Tryz.ntmps94 Tryz.results94 rfl ?_
  intro z hz
  refine awp_seq ?_
  refine awp_region rfl ?_
  refine rwp_det rfl rfl (det_assignN 4 rfl rfl) ?_
  refine rwp_nil ?_
  refine awp_seq ?_
  refine awp_seq ?_
  refine awp_region rfl ?_
  refine rwp_det rfl rfl (det_move rfl rfl) ?_
  refine rwp_op rfl rfl (ope_nileq rfl el29 rfl rfl) ?_
  rintro _ _ ⟨nb1, rfl, hnil1, rfl⟩
  refine rwp_nil ?_
  refine awp_cond rfl (fun c1 => ?_) (fun c1 => ?_)
  · try simp only [decide_eq_true_eq, decide_eq_false_iff_not, Bool.not_eq_true', Bool.not_eq_false', Bool.and_eq_true, Bool.or_eq_true, Bool.and_eq_false_iff, Bool.or_eq_false_iff, Int.not_lt, Int.not_le, List.length_map] at c1
    refine awp_seq ?_
    refine awp_region rfl ?_
    refine rwp_det rfl rfl (det_assign rfl rfl) ?_
    refine rwp_weak _ (weak_own 70 4) ?_
    refine rwp_nil ?_
    refine awp_ret ?_
    repeat (first | refine thenQ_ret ?_ | refine blockQ_ret ?_)
    refine fin1 (rs_c rfl) ?_
    exact ⟨_, rfl, by rw [hnil1 c1]⟩
  · try simp only [decide_eq_true_eq, decide_eq_false_iff_not, Bool.not_eq_true', Bool.not_eq_false', Bool.and_eq_true, Bool.or_eq_true, Bool.and_eq_false_iff, Bool.or_eq_false_iff, Int.not_lt, Int.not_le, List.length_map] at c1
    refine awp_skip ?_
    refine awp_seq ?_
    refine awp_region rfl ?_
    refine rwp_op rfl rfl (ope_bslice rfl el29 zr70 rfl rfl rfl rfl) ?_
    rintro _ _ ⟨sv3, rfl, rfl⟩
    refine rwp_det rfl rfl (det_move rfl rfl) ?_
    refine rwp_op rfl rfl (ope_append 0 rfl el29 rfl rfl rfl (by simp only [List.length_map, List.length_nil, Nat.zero_add]; omega) (by simp only [List.length_map, List.length_nil, Nat.zero_add]; omega)) ?_
    rintro _ _ ⟨sv4, rfl, rfl⟩
    refine rwp_det rfl rfl (det_assign rfl rfl) ?_
    refine rwp_nil ?_
    refine awp_ret ?_
    repeat (first | refine thenQ_ret ?_ | refine blockQ_ret ?_)
    refine fin1 (rs_c rfl) ?_
    exact ⟨_, rfl, rfl⟩

theorem slices_Clone_ex (l : List Ex) (hl : l.length ≤ 4294967296) :
    OwnR cfg 96 [vEs l] 32 13 (l.map Ex.cells) := by
  refine con_intro Tryz.func96 rfl Tryz.ntmps96 Tryz.results96 rfl ?_
  intro z hz
  refine awp_seq ?_
  refine awp_region rfl ?_
  refine rwp_det rfl rfl (det_assignN 13 rfl rfl) ?_
  refine rwp_nil ?_
  refine awp_seq ?_
  refine awp_seq ?_
  refine awp_region rfl ?_
  refine rwp_det rfl rfl (det_move rfl rfl) ?_
  refine rwp_op rfl rfl (ope_nileq rfl el30 rfl rfl) ?_
  rintro _ _ ⟨nb1, rfl, hnil1, rfl⟩
  refine rwp_nil ?_
  refine awp_cond rfl (fun c1 => ?_) (fun c1 => ?_)
  · try simp only [decide_eq_true_eq, decide_eq_false_iff_not, Bool.not_eq_true', Bool.not_eq_false', Bool.and_eq_true, Bool.or_eq_true, Bool.and_eq_false_iff, Bool.or_eq_false_iff, Int.not_lt, Int.not_le, List.length_map] at c1
    refine awp_seq ?_
    refine awp_region rfl ?_
    refine rwp_det rfl rfl (det_assign rfl rfl) ?_
    refine rwp_weak _ (weak_own 32 13) ?_
    refine rwp_nil ?_
    refine awp_ret ?_
    repeat (first | refine thenQ_ret ?_ | refine blockQ_ret ?_)
    refine fin1 (rs_c rfl) ?_
    exact ⟨_, rfl, by rw [hnil1 c1]⟩
  · try simp only [decide_eq_true_eq, decide_eq_false_iff_not, Bool.not_eq_true', Bool.not_eq_false', Bool.and_eq_true, Bool.or_eq_true, Bool.and_eq_false_iff, Bool.or_eq_false_iff, Int.not_lt, Int.not_le, List.length_map] at c1
    refine awp_skip ?_
    refine awp_seq ?_
    refine awp_region rfl ?_
    refine rwp_op rfl rfl (ope_bslice rfl el30 zr32 rfl rfl rfl rfl) ?_
    rintro _ _ ⟨sv3, rfl, rfl⟩
    refine rwp_det rfl rfl (det_move rfl rfl) ?_
    refine rwp_op rfl rfl (ope_append 0 rfl el30 rfl rfl rfl (by simp only [List.length_map, List.length_nil, Nat.zero_add]; omega) (by simp only [List.length_map, List.length_nil, Nat.zero_add]; omega)) ?_
    rintro _ _ ⟨sv4, rfl, rfl⟩
    refine rwp_det rfl rfl (det_assign rfl rfl) ?_
    refine rwp_nil ?_
    refine awp_ret ?_
    repeat (first | refine thenQ_ret ?_ | refine blockQ_ret ?_)
    refine fin1 (rs_c rfl) ?_
    exact ⟨_, rfl, rfl⟩

theorem expr_Copy_1 (l : Lf) (hl : l.L.length ≤ 4294967296) :
    Pur cfg 65 [vLin l] (.tup [vLin (idF l).1, vI (idF l).2]) := by
  refine con_intro Tryz.func65 rfl Tryz.ntmps65 Tryz.results65 rfl ?_
  intro z hz
  refine awp_seq ?_
  refine awp_region rfl ?_
  refine rwp_op rfl rfl (ope_box rfl rfl) ?_
  rintro _ _ ⟨b1, rfl, rfl⟩
  refine rwp_op rfl rfl (ope_allocN [none, some 2] rfl zr28 rfl) ?_
  rintro _ _ ⟨b2, rfl, rfl⟩
  refine rwp_det rfl rfl (det_assign rfl rfl) ?_
  refine rwp_nil ?_
  refine awp_seq ?_
  refine awp_draw 6 mixed (by kernel_rfl) rfl rfl ?_
  refine td_det rfl rfl (det_field_lit rfl fd28_0 rfl) ?_
  refine td_det rfl rfl (det_load_one rfl one2 rfl (ptr_row 1 rfl) rfl) ?_
  refine td_det rfl rfl (det_field_lit rfl fd28_1 rfl) ?_
  refine td_det rfl rfl (det_load_one rfl one26 rfl (ptr_row 1 rfl) rfl) ?_
  refine td_det rfl rfl (det_call rfl ok66 (OwnR.pur (slices_Clone_mono l.L hl)) ⟨VLe.refl _, rfl, trivial⟩) ?_
  refine td_det rfl rfl (det_build rfl zr28 pl28 rfl) ?_
  refine td_nil ?_
  refine rwp_det0 rfl rfl (det_store rfl sz28 rfl rfl rfl (st_row 0 rfl rfl)) ?_
  refine rwp_det rfl rfl (det_assign rfl rfl) ?_
  refine rwp_nil ?_
  refine awp_ret ?_
  repeat (first | refine thenQ_ret ?_ | refine blockQ_ret ?_)
  refine fin2 (rs_cell_agg agg28 rfl (ptr_row 0 rfl) rfl) (rs_c rfl) ?_
  exact rfl

end Go.W
