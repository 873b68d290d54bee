/-
  Walks: what functions of the program compute. Printed by wip/gen/mk2.py.
  Conditions: none.
-/
import Derived.Test.YtnnkemdiknefaaaGreatDoorWT
import Derived.Test.YtnnkemdiknefaaaGreatDoorWR
import Derived.Test.YtnnkemdiknefaaaGreatDoorPlain
set_option linter.unusedSimpArgs false
set_option linter.unusedVariables false
namespace Go.W
open Go Go.Eng Go.Proofs Go.L41 Go.Br
attribute [local irreducible] AWP RWP TD
theorem fd111_1 : fieldT Tryz.prog 111 1 = some (2, 4) := by kernel_rfl
theorem ok16 : callOk Tryz.prog 16 = true := by kernel_rfl
theorem ok41 : callOk Tryz.prog 41 = true := by kernel_rfl
theorem ok68 : callOk Tryz.prog 68 = true := by kernel_rfl
theorem ok70 : callOk Tryz.prog 70 = true := by kernel_rfl
theorem ok139 : callOk Tryz.prog 139 = true := by kernel_rfl
theorem one4 : oneT Tryz.prog 4 = true := by kernel_rfl
theorem base_Con (a b : Cn) (ha : a.Lin.L.length ≤ 4294967296) :
    Pur cfg 139 [vCn a, vCn b] (vB (decide (a = b))) := by
 refine con_intro Tryz.func139 rfl Tryz.ntmps139 Tryz.results139 rfl ?_
 intro z hz
 refine awp_seq ?_
 refine awp_region rfl ?_
 refine rwp_op rfl rfl (ope_box rfl rfl) ?_
 rintro _ _ ⟨b1, rfl, rfl⟩
 refine rwp_op rfl rfl (ope_box rfl rfl) ?_
 rintro _ _ ⟨b2, rfl, rfl⟩
 refine rwp_det rfl rfl (det_assign rfl rfl) ?_
 refine rwp_nil ?_
 refine awp_seq ?_
 refine awp_region rfl ?_
 refine rwp_det rfl rfl (det_field_lit rfl fd111_1 rfl) ?_
 refine rwp_det rfl rfl (det_load_one rfl one4 rfl (ptr_row 1 rfl) rfl) ?_
 refine rwp_det rfl rfl (det_field_lit rfl fd111_1 rfl) ?_
 refine rwp_det rfl rfl (det_load_one rfl one4 rfl (ptr_row 0 rfl) rfl) ?_
 refine rwp_det rfl rfl (det_beql rfl un4 rfl rfl) ?_
 refine rwp_det rfl rfl (det_move rfl rfl) ?_
 refine rwp_lazy [] rfl rfl rfl rfl gv1 trivial (fun g1_5 => det_field_lit rfl fd111_0 rfl) rfl ?_
 refine rwp_lazy [(11, _)] rfl rfl rfl rfl gv1 ⟨rfl, rfl, trivial⟩ (fun g1_5 => det_load_agg rfl agg29 rfl (ptr_row 1 rfl) rfl) rfl ?_
 refine rwp_lazy [] rfl rfl rfl rfl gv1 trivial (fun g1_5 => det_field_lit rfl fd111_0 rfl) rfl ?_
 refine rwp_lazy [(13, _)] rfl rfl rfl rfl gv1 ⟨rfl, rfl, trivial⟩ (fun g1_5 => det_load_agg rfl agg29 rfl (ptr_row 0 rfl) rfl) rfl ?_
 refine rwp_lazy [(12, _), (14, _)] rfl rfl rfl rfl gv1 ⟨rfl, rfl, rfl, rfl, trivial⟩ (fun g1_5 => det_call rfl ok86 (base_Lin a.Lin b.Lin (by omega)) ⟨VLe.refl _, rfl, VLe.refl _, rfl, trivial⟩) rfl ?_
 refine rwp_det rfl rfl (det_and rfl rfl rfl (fun h => h) rfl) ?_
 refine rwp_det rfl rfl (det_assign rfl rfl) ?_
 refine rwp_nil ?_
 refine awp_ret ?_
 repeat (first | refine thenQ_ret ?_ | refine blockQ_ret ?_)
 refine fin1 (rs_c rfl) ?_
 exact congrArg vB (cn_eq a b)

theorem base_Cons (a b : List Cn) (ha : a.length ≤ 4294967296) (hx0 : ∀ x, x ∈ a → x.Lin.L.length ≤ 4294967296) :
    Pur cfg 70 [.c (.sl 3 (a.map Cn.cells)), .c (.sl 3 (b.map Cn.cells))] (vB (decide (a = b))) := by
 refine con_intro Tryz.func70 rfl Tryz.ntmps70 Tryz.results70 rfl ?_
 intro z hz
 refine awp_seq ?_
 refine awp_region rfl ?_
 refine rwp_det rfl rfl (det_assign rfl rfl) ?_
 refine rwp_nil ?_
 refine awp_seq ?_
 refine awp_seq ?_
 refine awp_region rfl ?_
 refine rwp_det rfl rfl (det_move rfl rfl) ?_
 refine rwp_det rfl rfl (det_len_slm rfl el43 rfl) ?_
 refine rwp_det rfl rfl (det_move rfl rfl) ?_
 refine rwp_det rfl rfl (det_len_slm rfl el43 rfl) ?_
 refine rwp_det rfl rfl (det_neq rfl rfl rfl) ?_
 refine rwp_nil ?_
 refine awp_cond rfl (fun c1 => ?_) (fun c1 => ?_)
 ·try simp only [sx, List.length_map] at c1
  refine awp_seq ?_
  refine awp_region rfl ?_
  refine rwp_det rfl rfl (det_assign rfl rfl) ?_
  refine rwp_nil ?_
  refine awp_ret ?_
  repeat (first | refine thenQ_ret ?_ | refine blockQ_ret ?_)
  refine fin1 (rs_c rfl) ?_
  rw [dec_false (fun h => c1 (by rw [h]))]
 ·try simp only [sx, List.length_map] at c1
  refine awp_skip ?_
  refine awp_seq ?_
  refine awp_seq ?_
  refine awp_region rfl ?_
  refine rwp_det rfl rfl (det_assign rfl rfl) ?_
  refine rwp_nil ?_
  refine awp_block ?_
  refine awp_weak ⟨[(5, .c _), (0, .c _), (1, .c _)], []⟩ (Weak.mk [] ⟨VLe.of_eq rfl, VLe.of_eq rfl, VLe.of_eq rfl, trivial⟩ rfl) ?_
  refine awp_loop_k 1 0 rfl rfl (Nat) (fun k => [(5, vI k)]) (fun k => []) (fun k => k ≤ a.length ∧ (a.take k = b.take k)) (fun k => a.length - k) ⟨0, ⟨by omega, rfl⟩, Weak.mk [] ⟨VLe.refl _, VLe.refl _, VLe.refl _, trivial⟩ rfl⟩ ?_
  rintro k ⟨hk, hp⟩
  refine awp_seq ?_
  refine awp_seq ?_
  refine awp_region rfl ?_
  refine rwp_det rfl rfl (det_move rfl rfl) ?_
  refine rwp_det rfl rfl (det_move rfl rfl) ?_
  refine rwp_det rfl rfl (det_len_slm rfl el43 rfl) ?_
  refine rwp_det rfl rfl (det_lss rfl rfl rfl) ?_
  refine rwp_nil ?_
  refine awp_cond rfl (fun c2 => ?_) (fun c2 => ?_)
  ·try simp only [sx, List.length_map] at c2
   obtain ⟨x, hx⟩ := ex_get a k (by omega)
   obtain ⟨y, hy⟩ := ex_get b k (by omega)
   refine awp_skip ?_
   refine awp_seq ?_
   refine awp_block ?_
   refine awp_seq ?_
   refine awp_draw 10 mixed (by kernel_rfl) rfl rfl ?_
   refine td_det rfl rfl (det_move rfl rfl) ?_
   refine td_det rfl rfl (det_move rfl rfl) ?_
   refine td_det rfl rfl (det_index_sl rfl el43 rfl rfl (by omega) (getm (by assumption))) ?_
   refine td_det rfl rfl (det_load_agg rfl agg111 rfl ptr_imm rfl) ?_
   refine td_det rfl rfl (det_move rfl rfl) ?_
   refine td_det rfl rfl (det_move rfl rfl) ?_
   refine td_det rfl rfl (det_index_sl rfl el43 rfl rfl (by omega) (getm (by assumption))) ?_
   refine td_det rfl rfl (det_load_agg rfl agg111 rfl ptr_imm rfl) ?_
   refine td_det rfl rfl (det_call rfl ok139 (base_Con x y (hx0 x (mem_of_get hx))) ⟨VLe.refl _, rfl, VLe.refl _, rfl, trivial⟩) ?_
   refine td_det rfl rfl (det_not rfl rfl) ?_
   refine td_nil ?_
   refine rwp_nil ?_
   refine awp_cond rfl (fun c3 => ?_) (fun c3 => ?_)
   ·try simp only [sx, List.length_map] at c3
    refine awp_seq ?_
    refine awp_region rfl ?_
    refine rwp_det rfl rfl (det_assign rfl rfl) ?_
    refine rwp_nil ?_
    refine awp_ret ?_
    repeat (first | refine thenQ_ret ?_ | refine blockQ_ret ?_)
    refine fin1 (rs_c rfl) ?_
    rw [dec_false (ne_of_get hx hy c3)]
   ·try simp only [sx, List.length_map] at c3
    refine awp_skip ?_
    refine awp_region rfl ?_
    refine rwp_det rfl rfl (det_move rfl rfl) ?_
    refine rwp_det rfl rfl (det_add_nw rfl rfl rfl ⟨by omega, by omega⟩) ?_
    refine rwp_det rfl rfl (det_assign rfl rfl) ?_
    refine rwp_nil ?_
    refine ⟨k + 1, ⟨by omega, take_eq_next hx hy hp c3⟩, (by omega), Weak.mk [] ⟨VLe.refl _, VLe.refl _, VLe.refl _, trivial⟩ rfl⟩
  ·try simp only [sx, List.length_map] at c2
   refine awp_exit ?_
   refine awp_seq ?_
   refine awp_region rfl ?_
   refine rwp_det rfl rfl (det_assign rfl rfl) ?_
   refine rwp_nil ?_
   refine awp_ret ?_
   repeat (first | refine thenQ_ret ?_ | refine blockQ_ret ?_)
   refine fin1 (rs_c rfl) ?_
   rw [dec_true (eq_of_take hp (by omega) (by omega))]

theorem base_Axes (a b : List Ax) (ha : a.length ≤ 4294967296) (hx0 : ∀ x, x ∈ a → x.Size.L.length ≤ 6000000000000) :
    Pur cfg 68 [.c (.sl 3 (a.map Ax.cells)), .c (.sl 3 (b.map Ax.cells))] (vB (decide (a = b))) := by
 refine con_intro Tryz.func68 rfl Tryz.ntmps68 Tryz.results68 rfl ?_
 intro z hz
 refine awp_seq ?_
 refine awp_region rfl ?_
 refine rwp_det rfl rfl (det_assign rfl rfl) ?_
 refine rwp_nil ?_
 refine awp_seq ?_
 refine awp_seq ?_
 refine awp_region rfl ?_
 refine rwp_det rfl rfl (det_move rfl rfl) ?_
 refine rwp_det rfl rfl (det_len_slm rfl el24 rfl) ?_
 refine rwp_det rfl rfl (det_move rfl rfl) ?_
 refine rwp_det rfl rfl (det_len_slm rfl el24 rfl) ?_
 refine rwp_det rfl rfl (det_neq rfl rfl rfl) ?_
 refine rwp_nil ?_
 refine awp_cond rfl (fun c1 => ?_) (fun c1 => ?_)
 ·try simp only [sx, List.length_map] at c1
  refine awp_seq ?_
  refine awp_region rfl ?_
  refine rwp_det rfl rfl (det_assign rfl rfl) ?_
  refine rwp_nil ?_
  refine awp_ret ?_
  repeat (first | refine thenQ_ret ?_ | refine blockQ_ret ?_)
  refine fin1 (rs_c rfl) ?_
  rw [dec_false (fun h => c1 (by rw [h]))]
 ·try simp only [sx, List.length_map] at c1
  refine awp_skip ?_
  refine awp_seq ?_
  refine awp_seq ?_
  refine awp_region rfl ?_
  refine rwp_det rfl rfl (det_assign rfl rfl) ?_
  refine rwp_nil ?_
  refine awp_block ?_
  refine awp_weak ⟨[(5, .c _), (0, .c _), (1, .c _)], []⟩ (Weak.mk [] ⟨VLe.of_eq rfl, VLe.of_eq rfl, VLe.of_eq rfl, trivial⟩ rfl) ?_
  refine awp_loop_k 1 0 rfl rfl (Nat) (fun k => [(5, vI k)]) (fun k => []) (fun k => k ≤ a.length ∧ (a.take k = b.take k)) (fun k => a.length - k) ⟨0, ⟨by omega, rfl⟩, Weak.mk [] ⟨VLe.refl _, VLe.refl _, VLe.refl _, trivial⟩ rfl⟩ ?_
  rintro k ⟨hk, hp⟩
  refine awp_seq ?_
  refine awp_seq ?_
  refine awp_region rfl ?_
  refine rwp_det rfl rfl (det_move rfl rfl) ?_
  refine rwp_det rfl rfl (det_move rfl rfl) ?_
  refine rwp_det rfl rfl (det_len_slm rfl el24 rfl) ?_
  refine rwp_det rfl rfl (det_lss rfl rfl rfl) ?_
  refine rwp_nil ?_
  refine awp_cond rfl (fun c2 => ?_) (fun c2 => ?_)
  ·try simp only [sx, List.length_map] at c2
   obtain ⟨x, hx⟩ := ex_get a k (by omega)
   obtain ⟨y, hy⟩ := ex_get b k (by omega)
   refine awp_skip ?_
   refine awp_seq ?_
   refine awp_block ?_
   refine awp_seq ?_
   refine awp_draw 25 mixed (by kernel_rfl) rfl rfl ?_
   refine td_det rfl rfl (det_move rfl rfl) ?_
   refine td_det rfl rfl (det_move rfl rfl) ?_
   refine td_det rfl rfl (det_index_sl rfl el24 rfl rfl (by omega) (getm hx)) ?_
   refine td_det rfl rfl (det_field_imm rfl fd88_0 rfl) ?_
   refine td_det rfl rfl (det_load_one rfl one9 rfl ptr_imm rfl) ?_
   refine td_det rfl rfl (det_move rfl rfl) ?_
   refine td_det rfl rfl (det_move rfl rfl) ?_
   refine td_det rfl rfl (det_index_sl rfl el24 rfl rfl (by omega) (getm hy)) ?_
   refine td_det rfl rfl (det_field_imm rfl fd88_0 rfl) ?_
   refine td_det rfl rfl (det_load_one rfl one9 rfl ptr_imm rfl) ?_
   refine td_det rfl rfl (det_sneq rfl rfl rfl) ?_
   refine td_det rfl rfl (det_move rfl rfl) ?_
   refine td_lazy [] rfl rfl rfl rfl gv1 trivial (fun g6_11 => det_move rfl rfl) rfl ?_
   refine td_lazy [] rfl rfl rfl rfl gv1 trivial (fun g6_11 => det_move rfl rfl) rfl ?_
   refine td_lazy [(29, _), (30, _)] rfl rfl rfl rfl gv1 ⟨rfl, rfl, rfl, rfl, trivial⟩ (fun g6_11 => det_index_sl rfl el24 rfl rfl (by omega) (getm hx)) rfl ?_
   refine td_lazy [(31, _)] rfl rfl rfl rfl gv1 ⟨rfl, rfl, trivial⟩ (fun g6_11 => det_field_imm rfl fd88_1 rfl) rfl ?_
   refine td_lazy [(32, _)] rfl rfl rfl rfl gv1 ⟨rfl, rfl, trivial⟩ (fun g6_11 => det_load_agg rfl agg29 rfl ptr_imm rfl) rfl ?_
   refine td_lazy [] rfl rfl rfl rfl gv1 trivial (fun g6_11 => det_move rfl rfl) rfl ?_
   refine td_lazy [] rfl rfl rfl rfl gv1 trivial (fun g6_11 => det_move rfl rfl) rfl ?_
   refine td_lazy [(34, _), (35, _)] rfl rfl rfl rfl gv1 ⟨rfl, rfl, rfl, rfl, trivial⟩ (fun g6_11 => det_index_sl rfl el24 rfl rfl (by omega) (getm hy)) rfl ?_
   refine td_lazy [(36, _)] rfl rfl rfl rfl gv1 ⟨rfl, rfl, trivial⟩ (fun g6_11 => det_field_imm rfl fd88_1 rfl) rfl ?_
   refine td_lazy [(37, _)] rfl rfl rfl rfl gv1 ⟨rfl, rfl, trivial⟩ (fun g6_11 => det_load_agg rfl agg29 rfl ptr_imm rfl) rfl ?_
   refine td_lazy [(33, _), (38, _)] rfl rfl rfl rfl gv1 ⟨rfl, rfl, rfl, rfl, trivial⟩ (fun g6_11 => det_call rfl ok86 (base_Lin x.Size y.Size (hx0 x (mem_of_get hx))) ⟨VLe.refl _, rfl, VLe.refl _, rfl, trivial⟩) rfl ?_
   refine td_lazy [(39, _)] rfl rfl rfl rfl gv1 ⟨rfl, rfl, trivial⟩ (fun g6_11 => det_not rfl rfl) rfl ?_
   refine td_det rfl rfl (det_or rfl rfl rfl rfl (fun h => (lzf h))) ?_
   refine td_nil ?_
   refine rwp_nil ?_
   refine awp_cond rfl (fun c3 => ?_) (fun c3 => ?_)
   ·have hne := ax_ne c3
    refine awp_seq ?_
    refine awp_region rfl ?_
    refine rwp_det rfl rfl (det_assign rfl rfl) ?_
    refine rwp_nil ?_
    refine awp_ret ?_
    repeat (first | refine thenQ_ret ?_ | refine blockQ_ret ?_)
    refine fin1 (rs_c rfl) ?_
    rw [dec_false (ne_of_get hx hy hne)]
   ·have heq := ax_yes' c3
    refine awp_skip ?_
    refine awp_region rfl ?_
    refine rwp_det rfl rfl (det_move rfl rfl) ?_
    refine rwp_det rfl rfl (det_add_nw rfl rfl rfl ⟨by omega, by omega⟩) ?_
    refine rwp_det rfl rfl (det_assign rfl rfl) ?_
    refine rwp_nil ?_
    refine ⟨k + 1, ⟨by omega, take_eq_next hx hy hp heq⟩, (by omega), Weak.mk [] ⟨VLe.refl _, VLe.refl _, VLe.refl _, trivial⟩ rfl⟩
  ·try simp only [sx, List.length_map] at c2
   refine awp_exit ?_
   refine awp_seq ?_
   refine awp_region rfl ?_
   refine rwp_det rfl rfl (det_assign rfl rfl) ?_
   refine rwp_nil ?_
   refine awp_ret ?_
   repeat (first | refine thenQ_ret ?_ | refine blockQ_ret ?_)
   refine fin1 (rs_c rfl) ?_
   rw [dec_true (eq_of_take hp (by omega) (by omega))]

theorem base_Def (a b : Df) (h1 : a.Dims.length ≤ 4294967296) (h2 : a.Red.length ≤ 4294967296) (h3 : ∀ x, x ∈ a.Dims → x.Size.L.length ≤ 6000000000000) (h4 : ∀ x, x ∈ a.Red → x.Size.L.length ≤ 6000000000000) (h5 : a.Body.wt ≤ 6000000000000) :
    Pur cfg 16 [vDf a, vDf b] (vB (decide (a = b))) := by
 refine con_intro Tryz.func16 rfl Tryz.ntmps16 Tryz.results16 rfl ?_
 intro z hz
 refine awp_seq ?_
 refine awp_region rfl ?_
 refine rwp_op rfl rfl (ope_box rfl rfl) ?_
 rintro _ _ ⟨b1, rfl, rfl⟩
 refine rwp_op rfl rfl (ope_box rfl rfl) ?_
 rintro _ _ ⟨b2, rfl, rfl⟩
 refine rwp_det rfl rfl (det_assign rfl rfl) ?_
 refine rwp_nil ?_
 refine awp_seq ?_
 refine awp_region rfl ?_
 refine rwp_det rfl rfl (det_field_lit rfl fd35_0 rfl) ?_
 refine rwp_det rfl rfl (det_load_one rfl one9 rfl (ptr_row 1 rfl) rfl) ?_
 refine rwp_det rfl rfl (det_field_lit rfl fd35_0 rfl) ?_
 refine rwp_det rfl rfl (det_load_one rfl one9 rfl (ptr_row 0 rfl) rfl) ?_
 refine rwp_det rfl rfl (det_seql rfl rfl rfl) ?_
 refine rwp_det rfl rfl (det_move rfl rfl) ?_
 refine rwp_lazy [] rfl rfl rfl rfl gv1 trivial (fun g1_5 => det_field_lit rfl fd35_1 rfl) rfl ?_
 refine rwp_lazy [(11, _)] rfl rfl rfl rfl gv1 ⟨rfl, rfl, trivial⟩ (fun g1_5 => det_load_agg rfl agg23 rfl (ptr_row 1 rfl) rfl) rfl ?_
 refine rwp_lazy [] rfl rfl rfl rfl gv1 trivial (fun g1_5 => det_field_lit rfl fd35_1 rfl) rfl ?_
 refine rwp_lazy [(13, _)] rfl rfl rfl rfl gv1 ⟨rfl, rfl, trivial⟩ (fun g1_5 => det_load_agg rfl agg23 rfl (ptr_row 0 rfl) rfl) rfl ?_
 refine rwp_lazy [(12, _), (14, _)] rfl rfl rfl rfl gv1 ⟨rfl, rfl, rfl, rfl, trivial⟩ (fun g1_5 => det_aeql rfl fl23 rfl rfl rfl) rfl ?_
 refine rwp_det rfl rfl (det_and rfl rfl rfl (fun h => h) rfl) ?_
 refine rwp_det rfl rfl (det_move rfl rfl) ?_
 refine rwp_lazy [] rfl rfl rfl rfl gv1 trivial (fun g1_12 => det_field_lit rfl fd35_4 rfl) rfl ?_
 refine rwp_lazy [(18, _)] rfl rfl rfl rfl gv1 ⟨rfl, rfl, trivial⟩ (fun g1_12 => det_load_one rfl one3 rfl (ptr_row 1 rfl) rfl) rfl ?_
 refine rwp_lazy [] rfl rfl rfl rfl gv1 trivial (fun g1_12 => det_field_lit rfl fd35_4 rfl) rfl ?_
 refine rwp_lazy [(20, _)] rfl rfl rfl rfl gv1 ⟨rfl, rfl, trivial⟩ (fun g1_12 => det_load_one rfl one3 rfl (ptr_row 0 rfl) rfl) rfl ?_
 refine rwp_lazy [(19, _), (21, _)] rfl rfl rfl rfl gv1 ⟨rfl, rfl, rfl, rfl, trivial⟩ (fun g1_12 => det_eql rfl rfl rfl) rfl ?_
 refine rwp_det rfl rfl (det_and rfl rfl rfl (fun h => h) rfl) ?_
 refine rwp_det rfl rfl (det_move rfl rfl) ?_
 refine rwp_lazy [] rfl rfl rfl rfl gv1 trivial (fun g1_19 => det_field_lit rfl fd35_2 rfl) rfl ?_
 refine rwp_lazy [(25, _)] rfl rfl rfl rfl gv1 ⟨rfl, rfl, trivial⟩ (fun g1_19 => det_load_one rfl one24 rfl (ptr_row 1 rfl) rfl) rfl ?_
 refine rwp_lazy [] rfl rfl rfl rfl gv1 trivial (fun g1_19 => det_field_lit rfl fd35_2 rfl) rfl ?_
 refine rwp_lazy [(27, _)] rfl rfl rfl rfl gv1 ⟨rfl, rfl, trivial⟩ (fun g1_19 => det_load_one rfl one24 rfl (ptr_row 0 rfl) rfl) rfl ?_
 refine rwp_lazy [(26, _), (28, _)] rfl rfl rfl rfl gv1 ⟨rfl, rfl, rfl, rfl, trivial⟩ (fun g1_19 => det_call rfl ok68 (base_Axes a.Dims b.Dims h1 h3) ⟨VLe.refl _, rfl, VLe.refl _, rfl, trivial⟩) rfl ?_
 refine rwp_det rfl rfl (det_and rfl rfl rfl (fun h => h) rfl) ?_
 refine rwp_det rfl rfl (det_move rfl rfl) ?_
 refine rwp_lazy [] rfl rfl rfl rfl gv1 trivial (fun g1_26 => det_field_lit rfl fd35_3 rfl) rfl ?_
 refine rwp_lazy [(32, _)] rfl rfl rfl rfl gv1 ⟨rfl, rfl, trivial⟩ (fun g1_26 => det_load_one rfl one24 rfl (ptr_row 1 rfl) rfl) rfl ?_
 refine rwp_lazy [] rfl rfl rfl rfl gv1 trivial (fun g1_26 => det_field_lit rfl fd35_3 rfl) rfl ?_
 refine rwp_lazy [(34, _)] rfl rfl rfl rfl gv1 ⟨rfl, rfl, trivial⟩ (fun g1_26 => det_load_one rfl one24 rfl (ptr_row 0 rfl) rfl) rfl ?_
 refine rwp_lazy [(33, _), (35, _)] rfl rfl rfl rfl gv1 ⟨rfl, rfl, rfl, rfl, trivial⟩ (fun g1_26 => det_call rfl ok68 (base_Axes a.Red b.Red h2 h4) ⟨VLe.refl _, rfl, VLe.refl _, rfl, trivial⟩) rfl ?_
 refine rwp_det rfl rfl (det_and rfl rfl rfl (fun h => h) rfl) ?_
 refine rwp_det rfl rfl (det_move rfl rfl) ?_
 refine rwp_lazy [] rfl rfl rfl rfl gv1 trivial (fun g1_33 => det_field_lit rfl fd35_5 rfl) rfl ?_
 refine rwp_lazy [(39, _)] rfl rfl rfl rfl gv1 ⟨rfl, rfl, trivial⟩ (fun g1_33 => det_load_agg rfl agg33 rfl (ptr_row 1 rfl) rfl) rfl ?_
 refine rwp_lazy [] rfl rfl rfl rfl gv1 trivial (fun g1_33 => det_field_lit rfl fd35_5 rfl) rfl ?_
 refine rwp_lazy [(41, _)] rfl rfl rfl rfl gv1 ⟨rfl, rfl, trivial⟩ (fun g1_33 => det_load_agg rfl agg33 rfl (ptr_row 0 rfl) rfl) rfl ?_
 refine rwp_lazy [(40, _), (42, _)] rfl rfl rfl rfl gv1 ⟨rfl, rfl, rfl, rfl, trivial⟩ (fun g1_33 => det_call rfl ok26 (base_Expr a.Body b.Body h5) ⟨VLe.refl _, rfl, VLe.refl _, rfl, trivial⟩) rfl ?_
 refine rwp_det rfl rfl (det_and rfl rfl rfl (fun h => h) rfl) ?_
 refine rwp_det rfl rfl (det_assign rfl rfl) ?_
 refine rwp_nil ?_
 refine awp_ret ?_
 repeat (first | refine thenQ_ret ?_ | refine blockQ_ret ?_)
 refine fin1 (rs_c rfl) ?_
 exact congrArg vB (df_eq a b)

theorem base_Prog (p q : Pg) (hP : p.Ok) (hW : ∀ x, x ∈ p.Params → linsWt x.Dims ≤ 4294967296) :
    Pur cfg 20 [vPg p, vPg q] (vB (decide (p = q))) := by
 refine con_intro Tryz.func20 rfl Tryz.ntmps20 Tryz.results20 rfl ?_
 intro z hz
 have hpp := hP.params
 have hpd := hP.defs
 refine awp_seq ?_
 refine awp_region rfl ?_
 refine rwp_op rfl rfl (ope_box rfl rfl) ?_
 rintro _ _ ⟨b1, rfl, rfl⟩
 refine rwp_op rfl rfl (ope_box rfl rfl) ?_
 rintro _ _ ⟨b2, rfl, rfl⟩
 refine rwp_det rfl rfl (det_assign rfl rfl) ?_
 refine rwp_nil ?_
 refine awp_seq ?_
 refine awp_seq ?_
 refine awp_region rfl ?_
 refine rwp_det rfl rfl (det_field_lit rfl fd47_0 rfl) ?_
 refine rwp_det rfl rfl (det_load_one rfl one42 rfl (ptr_row 1 rfl) rfl) ?_
 refine rwp_det rfl rfl (det_field_lit rfl fd47_0 rfl) ?_
 refine rwp_det rfl rfl (det_load_one rfl one42 rfl (ptr_row 0 rfl) rfl) ?_
 refine rwp_det rfl rfl (det_call rfl ok41 (base_Strings p.Sizes q.Sizes (Nat.le_trans hP.sizes (by decide))) ⟨VLe.refl _, rfl, VLe.refl _, rfl, trivial⟩) ?_
 refine rwp_det rfl rfl (det_not rfl rfl) ?_
 refine rwp_det rfl rfl (det_move rfl rfl) ?_
 refine rwp_lazy [] rfl rfl rfl rfl gv1 trivial (fun g1_6 => det_field_lit rfl fd47_1 rfl) rfl ?_
 refine rwp_lazy [(14, _)] rfl rfl rfl rfl gv1 ⟨rfl, rfl, trivial⟩ (fun g1_6 => det_load_one rfl one43 rfl (ptr_row 1 rfl) rfl) rfl ?_
 refine rwp_lazy [] rfl rfl rfl rfl gv1 trivial (fun g1_6 => det_field_lit rfl fd47_1 rfl) rfl ?_
 refine rwp_lazy [(16, _)] rfl rfl rfl rfl gv1 ⟨rfl, rfl, trivial⟩ (fun g1_6 => det_load_one rfl one43 rfl (ptr_row 0 rfl) rfl) rfl ?_
 refine rwp_lazy [(15, _), (17, _)] rfl rfl rfl rfl gv1 ⟨rfl, rfl, rfl, rfl, trivial⟩ (fun g1_6 => det_call rfl ok70 (base_Cons p.Where q.Where hP.wh hP.whs) ⟨VLe.refl _, rfl, VLe.refl _, rfl, trivial⟩) rfl ?_
 refine rwp_lazy [(18, _)] rfl rfl rfl rfl gv1 ⟨rfl, rfl, trivial⟩ (fun g1_6 => det_not rfl rfl) rfl ?_
 refine rwp_det rfl rfl (det_or rfl rfl rfl rfl (fun h => (lzf h))) ?_
 refine rwp_det rfl rfl (det_move rfl rfl) ?_
 refine rwp_lazy [] rfl rfl rfl rfl gv1 trivial (fun g1_14 => det_field_lit rfl fd47_4 rfl) rfl ?_
 refine rwp_lazy [(22, _)] rfl rfl rfl rfl gv1 ⟨rfl, rfl, trivial⟩ (fun g1_14 => det_load_one rfl one42 rfl (ptr_row 1 rfl) rfl) rfl ?_
 refine rwp_lazy [] rfl rfl rfl rfl gv1 trivial (fun g1_14 => det_field_lit rfl fd47_4 rfl) rfl ?_
 refine rwp_lazy [(24, _)] rfl rfl rfl rfl gv1 ⟨rfl, rfl, trivial⟩ (fun g1_14 => det_load_one rfl one42 rfl (ptr_row 0 rfl) rfl) rfl ?_
 refine rwp_lazy [(23, _), (25, _)] rfl rfl rfl rfl gv1 ⟨rfl, rfl, rfl, rfl, trivial⟩ (fun g1_14 => det_call rfl ok41 (base_Strings p.Outs q.Outs (Nat.le_trans hP.outs (by decide))) ⟨VLe.refl _, rfl, VLe.refl _, rfl, trivial⟩) rfl ?_
 refine rwp_lazy [(26, _)] rfl rfl rfl rfl gv1 ⟨rfl, rfl, trivial⟩ (fun g1_14 => det_not rfl rfl) rfl ?_
 refine rwp_det rfl rfl (det_or rfl rfl rfl rfl (fun h => (lzf h))) ?_
 refine rwp_det rfl rfl (det_move rfl rfl) ?_
 refine rwp_lazy [] rfl rfl rfl rfl gv1 trivial (fun g1_22 => det_field_lit rfl fd47_2 rfl) rfl ?_
 refine rwp_lazy [(30, _)] rfl rfl rfl rfl gv1 ⟨rfl, rfl, trivial⟩ (fun g1_22 => det_load_one rfl one44 rfl (ptr_row 1 rfl) rfl) rfl ?_
 refine rwp_lazy [(31, _)] rfl rfl rfl rfl gv1 ⟨rfl, rfl, trivial⟩ (fun g1_22 => det_len_slm rfl el44 rfl) rfl ?_
 refine rwp_lazy [] rfl rfl rfl rfl gv1 trivial (fun g1_22 => det_field_lit rfl fd47_2 rfl) rfl ?_
 refine rwp_lazy [(33, _)] rfl rfl rfl rfl gv1 ⟨rfl, rfl, trivial⟩ (fun g1_22 => det_load_one rfl one44 rfl (ptr_row 0 rfl) rfl) rfl ?_
 refine rwp_lazy [(34, _)] rfl rfl rfl rfl gv1 ⟨rfl, rfl, trivial⟩ (fun g1_22 => det_len_slm rfl el44 rfl) rfl ?_
 refine rwp_lazy [(32, _), (35, _)] rfl rfl rfl rfl gv1 ⟨rfl, rfl, rfl, rfl, trivial⟩ (fun g1_22 => det_neq rfl rfl rfl) rfl ?_
 refine rwp_det rfl rfl (det_or rfl rfl rfl rfl (fun h => (lzf h))) ?_
 refine rwp_det rfl rfl (det_move rfl rfl) ?_
 refine rwp_lazy [] rfl rfl rfl rfl gv1 trivial (fun g1_31 => det_field_lit rfl fd47_3 rfl) rfl ?_
 refine rwp_lazy [(39, _)] rfl rfl rfl rfl gv1 ⟨rfl, rfl, trivial⟩ (fun g1_31 => det_load_one rfl one45 rfl (ptr_row 1 rfl) rfl) rfl ?_
 refine rwp_lazy [(40, _)] rfl rfl rfl rfl gv1 ⟨rfl, rfl, trivial⟩ (fun g1_31 => det_len_slm rfl el45 rfl) rfl ?_
 refine rwp_lazy [] rfl rfl rfl rfl gv1 trivial (fun g1_31 => det_field_lit rfl fd47_3 rfl) rfl ?_
 refine rwp_lazy [(42, _)] rfl rfl rfl rfl gv1 ⟨rfl, rfl, trivial⟩ (fun g1_31 => det_load_one rfl one45 rfl (ptr_row 0 rfl) rfl) rfl ?_
 refine rwp_lazy [(43, _)] rfl rfl rfl rfl gv1 ⟨rfl, rfl, trivial⟩ (fun g1_31 => det_len_slm rfl el45 rfl) rfl ?_
 refine rwp_lazy [(41, _), (44, _)] rfl rfl rfl rfl gv1 ⟨rfl, rfl, rfl, rfl, trivial⟩ (fun g1_31 => det_neq rfl rfl rfl) rfl ?_
 refine rwp_det rfl rfl (det_or rfl rfl rfl rfl (fun h => (lzf h))) ?_
 refine rwp_nil ?_
 refine awp_cond rfl (fun c1 => ?_) (fun c1 => ?_)
 ·have hne := pr_t c1
  refine awp_seq ?_
  refine awp_region rfl ?_
  refine rwp_det rfl rfl (det_assign rfl rfl) ?_
  refine rwp_nil ?_
  refine awp_ret ?_
  repeat (first | refine thenQ_ret ?_ | refine blockQ_ret ?_)
  refine fin1 (rs_c rfl) ?_
  rw [dec_false hne]
 ·obtain ⟨k1, k2, k3, k4, k5⟩ := pr_f c1
  refine awp_skip ?_
  refine awp_seq ?_
  refine awp_seq ?_
  refine awp_region rfl ?_
  refine rwp_det rfl rfl (det_assign rfl rfl) ?_
  refine rwp_nil ?_
  refine awp_block ?_
  refine awp_weak ⟨[(5, .c _), (2, .c _), (3, .c _)], [_, _]⟩ (Weak.mk [true, true] ⟨VLe.of_eq rfl, VLe.of_eq rfl, VLe.of_eq rfl, trivial⟩ rfl) ?_
  refine awp_loop_k 1 0 rfl rfl (Nat) (fun k => [(5, vI k)]) (fun k => []) (fun k => k ≤ p.Params.length ∧ (p.Params.take k = q.Params.take k)) (fun k => p.Params.length - k) ⟨0, ⟨by omega, rfl⟩, Weak.mk [true, true] ⟨VLe.refl _, VLe.refl _, VLe.refl _, trivial⟩ rfl⟩ ?_
  rintro k ⟨hk, hp⟩
  refine awp_seq ?_
  refine awp_seq ?_
  refine awp_region rfl ?_
  refine rwp_det rfl rfl (det_move rfl rfl) ?_
  refine rwp_det rfl rfl (det_field_lit rfl fd47_2 rfl) ?_
  refine rwp_det rfl rfl (det_load_one rfl one44 rfl (ptr_row 1 rfl) rfl) ?_
  refine rwp_det rfl rfl (det_len_slm rfl el44 rfl) ?_
  refine rwp_det rfl rfl (det_lss rfl rfl rfl) ?_
  refine rwp_nil ?_
  refine awp_cond rfl (fun c2 => ?_) (fun c2 => ?_)
  ·try simp only [sx, List.length_map] at c2
   obtain ⟨x, hx⟩ := ex_get p.Params k (by omega)
   obtain ⟨y, hy⟩ := ex_get q.Params k (by omega)
   refine awp_skip ?_
   refine awp_seq ?_
   refine awp_block ?_
   refine awp_seq ?_
   refine awp_draw 44 mixed (by kernel_rfl) rfl rfl ?_
   refine td_det rfl rfl (det_field_lit rfl fd47_2 rfl) ?_
   refine td_det rfl rfl (det_load_one rfl one44 rfl (ptr_row 1 rfl) rfl) ?_
   refine td_det rfl rfl (det_move rfl rfl) ?_
   refine td_det rfl rfl (det_index_sl rfl el44 rfl rfl (by omega) (getm hx)) ?_
   refine td_det rfl rfl (det_field_imm rfl fd106_0 rfl) ?_
   refine td_det rfl rfl (det_load_one rfl one9 rfl ptr_imm rfl) ?_
   refine td_det rfl rfl (det_field_lit rfl fd47_2 rfl) ?_
   refine td_det rfl rfl (det_load_one rfl one44 rfl (ptr_row 0 rfl) rfl) ?_
   refine td_det rfl rfl (det_move rfl rfl) ?_
   refine td_det rfl rfl (det_index_sl rfl el44 rfl rfl (by omega) (getm hy)) ?_
   refine td_det rfl rfl (det_field_imm rfl fd106_0 rfl) ?_
   refine td_det rfl rfl (det_load_one rfl one9 rfl ptr_imm rfl) ?_
   refine td_det rfl rfl (det_sneq rfl rfl rfl) ?_
   refine td_det rfl rfl (det_move rfl rfl) ?_
   refine td_lazy [] rfl rfl rfl rfl gv1 trivial (fun g6_13 => det_field_lit rfl fd47_2 rfl) rfl ?_
   refine td_lazy [(68, _)] rfl rfl rfl rfl gv1 ⟨rfl, rfl, trivial⟩ (fun g6_13 => det_load_one rfl one44 rfl (ptr_row 1 rfl) rfl) rfl ?_
   refine td_lazy [] rfl rfl rfl rfl gv1 trivial (fun g6_13 => det_move rfl rfl) rfl ?_
   refine td_lazy [(69, _), (70, _)] rfl rfl rfl rfl gv1 ⟨rfl, rfl, rfl, rfl, trivial⟩ (fun g6_13 => det_index_sl rfl el44 rfl rfl (by omega) (getm hx)) rfl ?_
   refine td_lazy [(71, _)] rfl rfl rfl rfl gv1 ⟨rfl, rfl, trivial⟩ (fun g6_13 => det_field_imm rfl fd106_1 rfl) rfl ?_
   refine td_lazy [(72, _)] rfl rfl rfl rfl gv1 ⟨rfl, rfl, trivial⟩ (fun g6_13 => det_load_agg rfl agg23 rfl ptr_imm rfl) rfl ?_
   refine td_lazy [] rfl rfl rfl rfl gv1 trivial (fun g6_13 => det_field_lit rfl fd47_2 rfl) rfl ?_
   refine td_lazy [(74, _)] rfl rfl rfl rfl gv1 ⟨rfl, rfl, trivial⟩ (fun g6_13 => det_load_one rfl one44 rfl (ptr_row 0 rfl) rfl) rfl ?_
   refine td_lazy [] rfl rfl rfl rfl gv1 trivial (fun g6_13 => det_move rfl rfl) rfl ?_
   refine td_lazy [(75, _), (76, _)] rfl rfl rfl rfl gv1 ⟨rfl, rfl, rfl, rfl, trivial⟩ (fun g6_13 => det_index_sl rfl el44 rfl rfl (by omega) (getm hy)) rfl ?_
   refine td_lazy [(77, _)] rfl rfl rfl rfl gv1 ⟨rfl, rfl, trivial⟩ (fun g6_13 => det_field_imm rfl fd106_1 rfl) rfl ?_
   refine td_lazy [(78, _)] rfl rfl rfl rfl gv1 ⟨rfl, rfl, trivial⟩ (fun g6_13 => det_load_agg rfl agg23 rfl ptr_imm rfl) rfl ?_
   refine td_lazy [(73, _), (79, _)] rfl rfl rfl rfl gv1 ⟨rfl, rfl, rfl, rfl, trivial⟩ (fun g6_13 => det_aneq rfl fl23 rfl rfl rfl) rfl ?_
   refine td_det rfl rfl (det_or rfl rfl rfl rfl (fun h => (lzf h))) ?_
   refine td_det rfl rfl (det_move rfl rfl) ?_
   refine td_lazy [] rfl rfl rfl rfl gv1 trivial (fun g6_28 => det_field_lit rfl fd47_2 rfl) rfl ?_
   refine td_lazy [(83, _)] rfl rfl rfl rfl gv1 ⟨rfl, rfl, trivial⟩ (fun g6_28 => det_load_one rfl one44 rfl (ptr_row 1 rfl) rfl) rfl ?_
   refine td_lazy [] rfl rfl rfl rfl gv1 trivial (fun g6_28 => det_move rfl rfl) rfl ?_
   refine td_lazy [(84, _), (85, _)] rfl rfl rfl rfl gv1 ⟨rfl, rfl, rfl, rfl, trivial⟩ (fun g6_28 => det_index_sl rfl el44 rfl rfl (by omega) (getm hx)) rfl ?_
   refine td_lazy [(86, _)] rfl rfl rfl rfl gv1 ⟨rfl, rfl, trivial⟩ (fun g6_28 => det_field_imm rfl fd106_2 rfl) rfl ?_
   refine td_lazy [(87, _)] rfl rfl rfl rfl gv1 ⟨rfl, rfl, trivial⟩ (fun g6_28 => det_load_one rfl one104 rfl ptr_imm rfl) rfl ?_
   refine td_lazy [] rfl rfl rfl rfl gv1 trivial (fun g6_28 => det_field_lit rfl fd47_2 rfl) rfl ?_
   refine td_lazy [(89, _)] rfl rfl rfl rfl gv1 ⟨rfl, rfl, trivial⟩ (fun g6_28 => det_load_one rfl one44 rfl (ptr_row 0 rfl) rfl) rfl ?_
   refine td_lazy [] rfl rfl rfl rfl gv1 trivial (fun g6_28 => det_move rfl rfl) rfl ?_
   refine td_lazy [(90, _), (91, _)] rfl rfl rfl rfl gv1 ⟨rfl, rfl, rfl, rfl, trivial⟩ (fun g6_28 => det_index_sl rfl el44 rfl rfl (by omega) (getm hy)) rfl ?_
   refine td_lazy [(92, _)] rfl rfl rfl rfl gv1 ⟨rfl, rfl, trivial⟩ (fun g6_28 => det_field_imm rfl fd106_2 rfl) rfl ?_
   refine td_lazy [(93, _)] rfl rfl rfl rfl gv1 ⟨rfl, rfl, trivial⟩ (fun g6_28 => det_load_one rfl one104 rfl ptr_imm rfl) rfl ?_
   refine td_lazy [(88, _), (94, _)] rfl rfl rfl rfl gv1 ⟨rfl, rfl, rfl, rfl, trivial⟩ (fun g6_28 => det_call rfl ok71 (base_Lins x.Dims y.Dims (Nat.le_trans (hP.ps x (mem_of_get hx)).1 (by decide)) (Nat.le_trans (hW x (mem_of_get hx)) (by decide))) ⟨VLe.refl _, rfl, VLe.refl _, rfl, trivial⟩) rfl ?_
   refine td_lazy [(95, _)] rfl rfl rfl rfl gv1 ⟨rfl, rfl, trivial⟩ (fun g6_28 => det_not rfl rfl) rfl ?_
   refine td_det rfl rfl (det_or rfl rfl rfl rfl (fun h => (lzf h))) ?_
   refine td_nil ?_
   refine rwp_nil ?_
   refine awp_cond rfl (fun c3 => ?_) (fun c3 => ?_)
   ·have hne := pm_t c3
    refine awp_seq ?_
    refine awp_region rfl ?_
    refine rwp_det rfl rfl (det_assign rfl rfl) ?_
    refine rwp_nil ?_
    refine awp_ret ?_
    repeat (first | refine thenQ_ret ?_ | refine blockQ_ret ?_)
    refine fin1 (rs_c rfl) ?_
    rw [dec_false (fun h => ne_of_get hx hy hne (by rw [h]))]
   ·have heq := pm_f c3
    refine awp_skip ?_
    refine awp_region rfl ?_
    refine rwp_det rfl rfl (det_move rfl rfl) ?_
    refine rwp_det rfl rfl (det_add_nw rfl rfl rfl ⟨by omega, by omega⟩) ?_
    refine rwp_det rfl rfl (det_assign rfl rfl) ?_
    refine rwp_nil ?_
    refine ⟨k + 1, ⟨by omega, take_eq_next hx hy hp heq⟩, (by omega), Weak.mk [true, true] ⟨VLe.refl _, VLe.refl _, VLe.refl _, trivial⟩ rfl⟩
  ·try simp only [sx, List.length_map] at c2
   have hPe := eq_of_take hp (by omega) k4
   refine awp_exit ?_
   refine awp_seq ?_
   refine awp_seq ?_
   refine awp_region rfl ?_
   refine rwp_det rfl rfl (det_assign rfl rfl) ?_
   refine rwp_nil ?_
   refine awp_block ?_
   refine awp_weak ⟨[(6, .c _), (2, .c _), (3, .c _)], [_, _]⟩ (Weak.mk [true, true] ⟨VLe.of_eq rfl, VLe.of_eq rfl, VLe.of_eq rfl, trivial⟩ rfl) ?_
   refine awp_loop_k 1 0 rfl rfl (Nat) (fun k => [(6, vI k)]) (fun k => []) (fun k => k ≤ p.Defs.length ∧ (p.Defs.take k = q.Defs.take k)) (fun k => p.Defs.length - k) ⟨0, ⟨by omega, rfl⟩, Weak.mk [true, true] ⟨VLe.refl _, VLe.refl _, VLe.refl _, trivial⟩ rfl⟩ ?_
   rintro k ⟨hk, hq⟩
   refine awp_seq ?_
   refine awp_seq ?_
   refine awp_region rfl ?_
   refine rwp_det rfl rfl (det_move rfl rfl) ?_
   refine rwp_det rfl rfl (det_field_lit rfl fd47_3 rfl) ?_
   refine rwp_det rfl rfl (det_load_one rfl one45 rfl (ptr_row 1 rfl) rfl) ?_
   refine rwp_det rfl rfl (det_len_slm rfl el45 rfl) ?_
   refine rwp_det rfl rfl (det_lss rfl rfl rfl) ?_
   refine rwp_nil ?_
   refine awp_cond rfl (fun c4 => ?_) (fun c4 => ?_)
   ·try simp only [sx, List.length_map] at c4
    obtain ⟨x, hx⟩ := ex_get p.Defs k (by omega)
    obtain ⟨y, hy⟩ := ex_get q.Defs k (by omega)
    refine awp_skip ?_
    refine awp_seq ?_
    refine awp_block ?_
    refine awp_seq ?_
    refine awp_draw 12 mixed (by kernel_rfl) rfl rfl ?_
    refine td_det rfl rfl (det_field_lit rfl fd47_3 rfl) ?_
    refine td_det rfl rfl (det_load_one rfl one45 rfl (ptr_row 1 rfl) rfl) ?_
    refine td_det rfl rfl (det_move rfl rfl) ?_
    refine td_det rfl rfl (det_index_sl rfl el45 rfl rfl (by omega) (getm hx)) ?_
    refine td_det rfl rfl (det_load_agg rfl agg35 rfl ptr_imm rfl) ?_
    refine td_det rfl rfl (det_field_lit rfl fd47_3 rfl) ?_
    refine td_det rfl rfl (det_load_one rfl one45 rfl (ptr_row 0 rfl) rfl) ?_
    refine td_det rfl rfl (det_move rfl rfl) ?_
    refine td_det rfl rfl (det_index_sl rfl el45 rfl rfl (by omega) (getm hy)) ?_
    refine td_det rfl rfl (det_load_agg rfl agg35 rfl ptr_imm rfl) ?_
    refine td_det rfl rfl (det_call rfl ok16 (base_Def x y (by have := (hP.ds x (mem_of_get hx)).1; omega) (by have := (hP.ds x (mem_of_get hx)).2.1; omega) (fun a ha => Nat.le_trans ((hP.ds x (mem_of_get hx)).2.2.1 a ha) (by decide)) (fun a ha => Nat.le_trans ((hP.ds x (mem_of_get hx)).2.2.2.1 a ha) (by decide)) (Nat.le_trans (hP.ds x (mem_of_get hx)).2.2.2.2 (by decide))) ⟨VLe.refl _, rfl, VLe.refl _, rfl, trivial⟩) ?_
    refine td_det rfl rfl (det_not rfl rfl) ?_
    refine td_nil ?_
    refine rwp_nil ?_
    refine awp_cond rfl (fun c5 => ?_) (fun c5 => ?_)
    ·try simp only [sx, List.length_map] at c5
     refine awp_seq ?_
     refine awp_region rfl ?_
     refine rwp_det rfl rfl (det_assign rfl rfl) ?_
     refine rwp_nil ?_
     refine awp_ret ?_
     repeat (first | refine thenQ_ret ?_ | refine blockQ_ret ?_)
     refine fin1 (rs_c rfl) ?_
     rw [dec_false (fun h => ne_of_get hx hy c5 (by rw [h]))]
    ·try simp only [sx, List.length_map] at c5
     refine awp_skip ?_
     refine awp_region rfl ?_
     refine rwp_det rfl rfl (det_move rfl rfl) ?_
     refine rwp_det rfl rfl (det_add_nw rfl rfl rfl ⟨by omega, by omega⟩) ?_
     refine rwp_det rfl rfl (det_assign rfl rfl) ?_
     refine rwp_nil ?_
     refine ⟨k + 1, ⟨by omega, take_eq_next hx hy hq c5⟩, (by omega), Weak.mk [true, true] ⟨VLe.refl _, VLe.refl _, VLe.refl _, trivial⟩ rfl⟩
   ·try simp only [sx, List.length_map] at c4
    refine awp_exit ?_
    refine awp_seq ?_
    refine awp_region rfl ?_
    refine rwp_det rfl rfl (det_assign rfl rfl) ?_
    refine rwp_nil ?_
    refine awp_ret ?_
    repeat (first | refine thenQ_ret ?_ | refine blockQ_ret ?_)
    refine fin1 (rs_c rfl) ?_
    rw [dec_true (pg_yes k1 k2 k3 hPe (eq_of_take hq (by omega) k5))]

end Go.W
