/-
  Walks: what functions of the program compute. Printed by wip/gen/mk2.py.
  Conditions: none.
-/
import Derived.Test.YtgoggemkajhloaaGreatDoorWF
import Derived.Test.YtgoggemkajhloaaGreatDoorDelta
set_option linter.unusedSimpArgs false
set_option linter.unusedVariables false
namespace Go.W
open Go Go.Eng Go.Proofs Go.L41 Go.Br
attribute [local irreducible] AWP RWP TD
theorem ok27 : callOk Tryz.prog 27 = true := by kernel_rfl
theorem ok33 : callOk Tryz.prog 33 = true := by kernel_rfl
theorem ok36 : callOk Tryz.prog 36 = true := by kernel_rfl
theorem ok41 : callOk Tryz.prog 41 = true := by kernel_rfl
theorem ok42 : callOk Tryz.prog 42 = true := by kernel_rfl
theorem ok43 : callOk Tryz.prog 43 = true := by kernel_rfl
theorem ok44 : callOk Tryz.prog 44 = true := by kernel_rfl
theorem ok45 : callOk Tryz.prog 45 = true := by kernel_rfl
theorem ok46 : callOk Tryz.prog 46 = true := by kernel_rfl
theorem ok47 : callOk Tryz.prog 47 = true := by kernel_rfl
theorem ok85 : callOk Tryz.prog 85 = true := by kernel_rfl
theorem ok88 : callOk Tryz.prog 88 = true := by kernel_rfl
theorem ok89 : callOk Tryz.prog 89 = true := by kernel_rfl
theorem delta_constant (e : Ex) :
    Pur cfg 43 [vE e] (.tup [vLin (constF e).1, vB (constF e).2]) := by
  refine con_intro Tryz.func43 rfl Tryz.ntmps43 Tryz.results43 rfl ?_
  intro z hz
  refine awp_seq ?_
  refine awp_region rfl ?_
  refine rwp_op rfl rfl (ope_box rfl rfl) ?_
  rintro _ _ ⟨b1, rfl, rfl⟩
  refine rwp_op rfl rfl (ope_allocN [none, some 2] rfl zr28 rfl) ?_
  rintro _ _ ⟨b2, rfl, rfl⟩
  refine rwp_det rfl rfl (det_assign rfl rfl) ?_
  refine rwp_nil ?_
  refine awp_seq ?_
  refine awp_block ?_
  refine awp_seq ?_
  refine awp_region rfl ?_
  refine rwp_det rfl rfl (det_field_lit rfl fd32_0 rfl) ?_
  refine rwp_det rfl rfl (det_load_one rfl one3 rfl (ptr_row 1 rfl) rfl) ?_
  refine rwp_det rfl rfl (det_eql rfl rfl rfl) ?_
  refine rwp_det rfl rfl (det_assign rfl rfl) ?_
  refine rwp_nil ?_
  refine awp_cond rfl (fun c1 => ?_) (fun c1 => ?_)
  · try simp only [decide_eq_true_eq, decide_eq_false_iff_not, Bool.not_eq_true', Bool.not_eq_false', Bool.and_eq_true, Bool.or_eq_true, Bool.and_eq_false_iff, Bool.or_eq_false_iff, Int.not_lt, Int.not_le, List.length_map] at c1
    refine awp_seq ?_
    refine awp_region rfl ?_
    refine rwp_det rfl rfl (det_field_lit rfl fd32_4 rfl) ?_
    refine rwp_det rfl rfl (det_load_agg rfl agg28 rfl (ptr_row 1 rfl) rfl) ?_
    refine rwp_det0 rfl rfl (det_store rfl sz28 rfl rfl rfl (st_row 0 rfl rfl)) ?_
    refine rwp_det rfl rfl (det_assign rfl rfl) ?_
    refine rwp_nil ?_
    refine awp_ret ?_
    repeat (first | refine thenQ_ret ?_ | refine blockQ_ret ?_)
    refine fin2 (rs_cell_agg agg28 rfl (ptr_row 0 rfl) rfl) (rs_c rfl) ?_
    rw [constF, dec_true c1]; rfl
  · try simp only [decide_eq_true_eq, decide_eq_false_iff_not, Bool.not_eq_true', Bool.not_eq_false', Bool.and_eq_true, Bool.or_eq_true, Bool.and_eq_false_iff, Bool.or_eq_false_iff, Int.not_lt, Int.not_le, List.length_map] at c1
    refine awp_seq ?_
    refine awp_region rfl ?_
    refine rwp_det rfl rfl (det_field_lit rfl fd32_0 rfl) ?_
    refine rwp_det rfl rfl (det_load_one rfl one3 rfl (ptr_row 1 rfl) rfl) ?_
    refine rwp_det rfl rfl (det_eql rfl rfl rfl) ?_
    refine rwp_det rfl rfl (det_move rfl rfl) ?_
    refine rwp_lazy [] rfl rfl rfl rfl gv1 trivial (fun g3_3 => det_field_lit rfl fd32_3 rfl) rfl ?_
    refine rwp_lazy [(15, _)] rfl rfl rfl rfl gv1 ⟨rfl, rfl, trivial⟩ (fun g3_3 => det_field_lit rfl fd25_0 rfl) rfl ?_
    refine rwp_lazy [(16, _)] rfl rfl rfl rfl gv1 ⟨rfl, rfl, trivial⟩ (fun g3_3 => det_load_one rfl one3 rfl (ptr_row 1 rfl) rfl) rfl ?_
    refine rwp_lazy [(17, _)] rfl rfl rfl rfl gv1 ⟨rfl, rfl, trivial⟩ (fun g3_3 => det_eql rfl rfl rfl) rfl ?_
    refine rwp_det rfl rfl (det_and rfl rfl rfl (fun h => h) rfl) ?_
    refine rwp_det rfl rfl (det_assign rfl rfl) ?_
    refine rwp_nil ?_
    refine awp_cond rfl (fun c2 => ?_) (fun c2 => ?_)
    · refine awp_seq ?_
      refine awp_region rfl ?_
      refine rwp_det rfl rfl (det_field_lit rfl fd32_2 rfl) ?_
      refine rwp_det rfl rfl (det_field_lit rfl fd23_0 rfl) ?_
      refine rwp_det rfl rfl (det_load_one rfl one2 rfl (ptr_row 1 rfl) rfl) ?_
      refine rwp_det rfl rfl (det_call rfl ok85 (lin_Const _) ⟨VLe.refl _, rfl, trivial⟩) ?_
      refine rwp_det0 rfl rfl (det_store rfl sz28 rfl rfl rfl (st_row 0 rfl rfl)) ?_
      refine rwp_det rfl rfl (det_assign rfl rfl) ?_
      refine rwp_nil ?_
      refine awp_ret ?_
      repeat (first | refine thenQ_ret ?_ | refine blockQ_ret ?_)
      refine fin2 (rs_cell_agg agg28 rfl (ptr_row 0 rfl) rfl) (rs_c rfl) ?_
      rw [constF, dec_false c1, c2]; rfl
    · refine awp_skip ?_
      refine awp_seq ?_
      refine awp_region rfl ?_
      refine rwp_det rfl rfl (det_buildN [none, some 2] rfl zr28 pl28 rfl rfl) ?_
      refine rwp_det0 rfl rfl (det_store rfl sz28 rfl rfl rfl (st_row 0 rfl rfl)) ?_
      refine rwp_det rfl rfl (det_assign rfl rfl) ?_
      refine rwp_nil ?_
      refine awp_ret ?_
      repeat (first | refine thenQ_ret ?_ | refine blockQ_ret ?_)
      refine fin2 (rs_cell_agg agg28 rfl (ptr_row 0 rfl) rfl) (rs_c rfl) ?_
      rw [constF, dec_false c1, c2]; rfl

theorem ref22_form (e : Ex) :
    Pur cfg 45 [vE e] (.tup [vLin (formF e).1, vB (formF e).2]) := by
  refine con_intro Tryz.func45 rfl Tryz.ntmps45 Tryz.results45 rfl ?_
  intro z hz
  refine awp_seq ?_
  refine awp_region rfl ?_
  refine rwp_op rfl rfl (ope_box rfl rfl) ?_
  rintro _ _ ⟨b1, rfl, rfl⟩
  refine rwp_op rfl rfl (ope_allocN [none, some 2] rfl zr28 rfl) ?_
  rintro _ _ ⟨b2, rfl, rfl⟩
  refine rwp_det rfl rfl (det_assign rfl rfl) ?_
  refine rwp_nil ?_
  refine awp_seq ?_
  refine awp_seq ?_
  refine awp_region rfl ?_
  refine rwp_det rfl rfl (det_field_lit rfl fd32_0 rfl) ?_
  refine rwp_det rfl rfl (det_load_one rfl one3 rfl (ptr_row 1 rfl) rfl) ?_
  refine rwp_det rfl rfl (det_eql rfl rfl rfl) ?_
  refine rwp_nil ?_
  refine awp_cond rfl (fun c1 => ?_) (fun c1 => ?_)
  · try simp only [decide_eq_true_eq, decide_eq_false_iff_not, Bool.not_eq_true', Bool.not_eq_false', Bool.and_eq_true, Bool.or_eq_true, Bool.and_eq_false_iff, Bool.or_eq_false_iff, Int.not_lt, Int.not_le, List.length_map] at c1
    refine awp_seq ?_
    refine awp_region rfl ?_
    refine rwp_det rfl rfl (det_field_lit rfl fd32_4 rfl) ?_
    refine rwp_det rfl rfl (det_load_agg rfl agg28 rfl (ptr_row 1 rfl) rfl) ?_
    refine rwp_det0 rfl rfl (det_store rfl sz28 rfl rfl rfl (st_row 0 rfl rfl)) ?_
    refine rwp_det rfl rfl (det_assign rfl rfl) ?_
    refine rwp_nil ?_
    refine awp_ret ?_
    repeat (first | refine thenQ_ret ?_ | refine blockQ_ret ?_)
    refine fin2 (rs_cell_agg agg28 rfl (ptr_row 0 rfl) rfl) (rs_c rfl) ?_
    rw [formF, dec_true c1]; rfl
  · try simp only [decide_eq_true_eq, decide_eq_false_iff_not, Bool.not_eq_true', Bool.not_eq_false', Bool.and_eq_true, Bool.or_eq_true, Bool.and_eq_false_iff, Bool.or_eq_false_iff, Int.not_lt, Int.not_le, List.length_map] at c1
    refine awp_skip ?_
    refine awp_seq ?_
    refine awp_draw_t 13 0 [.q, .q, .q, .q, .q, .q, .q, .q, .u, .u, .u, .u, .u]  mixed (by kernel_rfl) rfl rfl rfl ?_
    refine tdq_det rfl rfl (det_field_lit rfl fd32_2 rfl) ?_
    refine tdq_det rfl rfl (det_field_lit rfl fd23_0 rfl) ?_
    refine tdq_det rfl rfl (det_load_one rfl one2 rfl (ptr_row 1 rfl) rfl) ?_
    refine tdq_det rfl rfl (det_call rfl ok88 (brocaderef05_Const _) ⟨VLe.refl _, rfl, trivial⟩) ?_
    refine tdq_det rfl rfl (det_field_lit rfl fd32_0 rfl) ?_
    refine tdq_det rfl rfl (det_load_one rfl one3 rfl (ptr_row 1 rfl) rfl) ?_
    refine tdq_det rfl rfl (det_eql rfl rfl rfl) ?_
    refine tdq_det rfl rfl (det_move rfl rfl) ?_
    refine tdq_lazyS [] rfl rfl rfl rfl gv1 trivial (fun g3_7 => det_field_lit rfl fd32_3 rfl) (fun g3_7 _ => det_field_lit rfl fd32_3 rfl) rfl ?_
    refine tdq_lazyS [(17, _)] rfl rfl rfl rfl gv1 ⟨rfl, rfl, trivial⟩ (fun g3_7 => det_field_lit rfl fd25_0 rfl) (fun g3_7 _ => det_field_lit rfl fd25_0 rfl) rfl ?_
    refine tdq_lazyS [(18, _)] rfl rfl rfl rfl gv1 ⟨rfl, rfl, trivial⟩ (fun g3_7 => det_load_one rfl one3 rfl (ptr_row 1 rfl) rfl) (fun g3_7 _ => det_load_one rfl one3 rfl (ptr_row 1 rfl) rfl) rfl ?_
    refine tdq_lazyS [(19, _)] rfl rfl rfl rfl gv1 ⟨rfl, rfl, trivial⟩ (fun g3_7 => det_eql rfl rfl rfl) (fun g3_7 _ => det_eql rfl rfl rfl) rfl ?_
    refine tdq_detS rfl rfl (det_and rfl rfl rfl (fun h => h) rfl) (fun _ => det_and rfl rfl rfl (fun h => h) rfl) ?_
    refine tdq_nil ?_
    refine tdf_q ?_
    refine tdf_q ?_
    refine tdf_q ?_
    refine tdf_q ?_
    refine tdf_q ?_
    refine tdf_q ?_
    refine tdf_q ?_
    refine tdf_q ?_
    refine tdf_u ?_
    refine tdf_u ?_
    refine tdf_u ?_
    refine tdf_u ?_
    refine tdf_u ?_
    refine tdf_nil ?_
    refine allch_nil ?_
    refine ⟨_, det_store rfl sz28 rfl rfl rfl (st_row 0 rfl rfl), (by rintro _ _ ⟨rfl, rfl⟩; exact ⟨[], .inr ⟨_, rfl⟩⟩), ?_⟩
    rintro _ _ ⟨rfl, rfl⟩
    refine rwp_det rfl rfl (det_assign rfl rfl) ?_
    refine rwp_nil ?_
    refine awp_ret ?_
    repeat (first | refine thenQ_ret ?_ | refine blockQ_ret ?_)
    refine fin2 (rs_cell_agg agg28 rfl (ptr_row 0 rfl) rfl) (rs_c rfl) ?_
    rw [formF, dec_false c1]; rfl

theorem ref22_variable (e : Ex) (s : ByteArray) (he : e.wt ≤ 4294967296) :
    Pur cfg 46 [vE e, vS s] (vB (decide (e.Op = 2) && isNameB s && decide (e.Lin = varL s))) := by
  refine con_intro Tryz.func46 rfl Tryz.ntmps46 Tryz.results46 rfl ?_
  intro z hz
  obtain ⟨hL, hI, hA⟩ := e.parts he
  refine awp_seq ?_
  refine awp_region rfl ?_
  refine rwp_op rfl rfl (ope_box rfl rfl) ?_
  rintro _ _ ⟨b1, rfl, rfl⟩
  refine rwp_det rfl rfl (det_assign rfl rfl) ?_
  refine rwp_nil ?_
  refine awp_seq ?_
  refine awp_draw 15 mixed (by kernel_rfl) rfl rfl ?_
  refine td_det rfl rfl (det_field_lit rfl fd32_0 rfl) ?_
  refine td_det rfl rfl (det_load_one rfl one3 rfl (ptr_row 0 rfl) rfl) ?_
  refine td_det rfl rfl (det_eql rfl rfl rfl) ?_
  refine td_det rfl rfl (det_move rfl rfl) ?_
  refine td_lazy [] rfl rfl rfl rfl gv1 trivial (fun g1_3 => det_move rfl rfl) rfl ?_
  refine td_lazy [(9, _)] rfl rfl rfl rfl gv1 ⟨rfl, rfl, trivial⟩ (fun g1_3 => det_call rfl ok32 (base_Name _) ⟨VLe.refl _, rfl, trivial⟩) rfl ?_
  refine td_det rfl rfl (det_and rfl rfl rfl (fun h => h) rfl) ?_
  refine td_det rfl rfl (det_move rfl rfl) ?_
  refine td_lazy [] rfl rfl rfl rfl gv1 trivial (fun g1_7 => det_field_lit rfl fd32_4 rfl) rfl ?_
  refine td_lazy [(13, _)] rfl rfl rfl rfl gv1 ⟨rfl, rfl, trivial⟩ (fun g1_7 => det_load_agg rfl agg28 rfl (ptr_row 0 rfl) rfl) rfl ?_
  refine td_lazy [] rfl rfl rfl rfl gv1 trivial (fun g1_7 => det_move rfl rfl) rfl ?_
  refine td_lazy [(15, _)] rfl rfl rfl rfl gv1 ⟨rfl, rfl, trivial⟩ (fun g1_7 => det_call rfl ok89 (brocaderef05_Var _) ⟨VLe.refl _, rfl, trivial⟩) rfl ?_
  refine td_lazy [(14, _), (16, _)] rfl rfl rfl rfl gv1 ⟨rfl, rfl, rfl, rfl, trivial⟩ (fun g1_7 => det_call rfl ok15 (base_Lin e.Lin (varL s) hL) ⟨VLe.refl _, rfl, VLe.refl _, rfl, trivial⟩) rfl ?_
  refine td_det rfl rfl (det_and rfl rfl rfl (fun h => h) rfl) ?_
  refine td_det rfl rfl (det_assign rfl rfl) ?_
  refine td_nil ?_
  refine rwp_nil ?_
  refine awp_ret ?_
  repeat (first | refine thenQ_ret ?_ | refine blockQ_ret ?_)
  refine fin1 (rs_c rfl) ?_
  exact rfl

theorem delta_Solve (c : Ex) (s : ByteArray) (he : c.wt ≤ 4294967296) :
    Pur cfg 13 [vE c, vS s] (.tup [vLin (solveT c s).1, vB (solveT c s).2]) := by
  refine con_intro Tryz.func13 rfl Tryz.ntmps13 Tryz.results13 rfl ?_
  intro z hz
  refine awp_seq ?_
  refine awp_region rfl ?_
  refine rwp_op rfl rfl (ope_box rfl rfl) ?_
  rintro _ _ ⟨b1, rfl, rfl⟩
  refine rwp_op rfl rfl (ope_allocN [none, some 2] rfl zr28 rfl) ?_
  rintro _ _ ⟨b2, rfl, rfl⟩
  refine rwp_det rfl rfl (det_assign rfl rfl) ?_
  refine rwp_nil ?_
  refine awp_seq ?_
  refine awp_seq ?_
  refine awp_region rfl ?_
  refine rwp_det rfl rfl (det_load_agg rfl agg32 rfl (ptr_row 1 rfl) rfl) ?_
  refine rwp_det rfl rfl (det_call rfl ok36 (expr_Validate c he) ⟨VLe.refl _, rfl, trivial⟩) ?_
  refine rwp_det rfl rfl (det_neq rfl rfl rfl) ?_
  refine rwp_det rfl rfl (det_move rfl rfl) ?_
  refine rwp_lazy [] rfl rfl rfl rfl gv1 trivial (fun g1_3 => det_field_lit rfl fd32_0 rfl) rfl ?_
  refine rwp_lazy [(15, _)] rfl rfl rfl rfl gv1 ⟨rfl, rfl, trivial⟩ (fun g1_3 => det_load_one rfl one3 rfl (ptr_row 1 rfl) rfl) rfl ?_
  refine rwp_lazy [(16, _)] rfl rfl rfl rfl gv1 ⟨rfl, rfl, trivial⟩ (fun g1_3 => det_neq rfl rfl rfl) rfl ?_
  refine rwp_det rfl rfl (det_or rfl rfl rfl rfl (fun h => (lzf h))) ?_
  refine rwp_nil ?_
  refine awp_cond rfl (fun c1 => ?_) (fun c1 => ?_)
  · try simp only [decide_eq_true_eq, decide_eq_false_iff_not, Bool.not_eq_true', Bool.not_eq_false', Bool.and_eq_true, Bool.or_eq_true, Bool.and_eq_false_iff, Bool.or_eq_false_iff, Int.not_lt, Int.not_le, List.length_map] at c1
    have hS : solveT c s = (zL, false) := by simp only [solveT, solve_c1 c1]; rfl
    refine awp_seq ?_
    refine awp_region rfl ?_
    refine rwp_det rfl rfl (det_buildN [none, some 2] rfl zr28 pl28 rfl rfl) ?_
    refine rwp_det0 rfl rfl (det_store rfl sz28 rfl rfl rfl (st_row 0 rfl rfl)) ?_
    refine rwp_det rfl rfl (det_assign rfl rfl) ?_
    refine rwp_nil ?_
    refine awp_ret ?_
    repeat (first | refine thenQ_ret ?_ | refine blockQ_ret ?_)
    refine fin2 (rs_cell_agg agg28 rfl (ptr_row 0 rfl) rfl) (rs_c rfl) ?_
    rw [hS]; rfl
  · try simp only [decide_eq_true_eq, decide_eq_false_iff_not, Bool.not_eq_true', Bool.not_eq_false', Bool.and_eq_true, Bool.or_eq_true, Bool.and_eq_false_iff, Bool.or_eq_false_iff, Int.not_lt, Int.not_le, List.length_map] at c1
    obtain ⟨hv, hop⟩ := c1
    have hP := valid_part hv
    obtain ⟨a, b, hab, hPa, hPb⟩ := two_args hP (by rw [hop]; rfl)
    have ha0 : c.Args[0]? = some a := by rw [hab]; rfl
    have hb0 : c.Args[1]? = some b := by rw [hab]; rfl
    have hwa := Ex.arg_wt (mem_of_get ha0)
    have hwb := Ex.arg_wt (mem_of_get hb0)
    have hS : solveT c s = solveAB a b s := by simp only [solveT, hv, hop, argN, hab]; rfl
    obtain ⟨hLa, _, _⟩ := a.parts (show a.wt ≤ 4294967296 by omega)
    obtain ⟨hLb, _, _⟩ := b.parts (show b.wt ≤ 4294967296 by omega)
    refine awp_skip ?_
    refine awp_seq ?_
    refine awp_draw_p 10 [.q, .q, .q, .q, .u, .u, .u, .u, .f, .f]  mixed (by kernel_rfl) rfl rfl rfl ?_
    refine tdq_det rfl rfl (det_field_lit rfl fd32_6 rfl) ?_
    refine tdq_det rfl rfl (det_load_one rfl one30 rfl (ptr_row 1 rfl) rfl) ?_
    refine tdq_det rfl rfl (det_index_sl rfl el30 rfl rfl (by omega) (getmE ha0)) ?_
    refine tdq_det rfl rfl (det_load_agg rfl agg32 rfl ptr_imm rfl) ?_
    refine tdq_detF rfl rfl (det_field_lit rfl fd32_6 rfl) ?_
    refine tdq_detF rfl rfl (det_load_one rfl one30 rfl (ptr_row 1 rfl) rfl) ?_
    refine tdq_detF rfl rfl (det_index_sl rfl el30 rfl rfl (by omega) (getmE hb0)) ?_
    refine tdq_detF rfl rfl (det_load_agg rfl agg32 rfl ptr_imm rfl) ?_
    refine tdq_skip ?_
    refine tdq_skip ?_
    refine tdq_nil ?_
    refine tdf_q ?_
    refine tdf_q ?_
    refine tdf_q ?_
    refine tdf_q ?_
    refine tdf_u ?_
    refine tdf_u ?_
    refine tdf_u ?_
    refine tdf_u ?_
    refine tdf_fresh (fresh_alloc' (ope_allocN [none, none, none, none, none, none, none, none, none, none, some 2, some 4, some 13] rfl zr32 rfl)) ?_
    refine tdf_fresh (fresh_alloc' (ope_allocN [none, none, none, none, none, none, none, none, none, none, some 2, some 4, some 13] rfl zr32 rfl)) ?_
    refine tdf_nil ?_
    refine allch_cons ?_
    rintro _ _ ⟨b3, rfl, rfl⟩
    refine allch_cons ?_
    rintro _ _ ⟨b4, rfl, rfl⟩
    refine allch_nil ?_
    refine ⟨_, det_store rfl sz32 rfl rfl rfl (st_row 1 rfl rfl), (by rintro _ _ ⟨rfl, rfl⟩; exact ⟨[_, _], rfl⟩), ?_⟩
    rintro _ _ ⟨rfl, rfl⟩
    refine rwp_det0 rfl rfl (det_store rfl sz32 rfl rfl rfl (st_row 0 rfl rfl)) ?_
    refine rwp_nil ?_
    refine awp_seq ?_
    refine awp_region rfl ?_
    refine rwp_det rfl rfl (det_move rfl rfl) ?_
    refine rwp_det rfl rfl (det_call rfl ok41 (lin_Var _) ⟨VLe.refl _, rfl, trivial⟩) ?_
    refine rwp_op rfl rfl (ope_allocN [none, some 2] rfl zr28 rfl) ?_
    rintro _ _ ⟨b5, rfl, rfl⟩
    refine rwp_det0 rfl rfl (det_store rfl sz28 rfl rfl rfl (st_row 0 rfl rfl)) ?_
    refine rwp_nil ?_
    refine awp_seq ?_
    refine awp_seq ?_
    refine awp_region rfl ?_
    refine rwp_det rfl rfl (det_field_lit rfl fd28_1 rfl) ?_
    refine rwp_det rfl rfl (det_load_one rfl one26 rfl (ptr_row 0 rfl) rfl) ?_
    refine rwp_det rfl rfl (det_len_slm rfl el26 rfl) ?_
    refine rwp_det rfl rfl (det_eql rfl rfl rfl) ?_
    refine rwp_nil ?_
    refine awp_cond rfl (fun c2 => ?_) (fun c2 => ?_)
    · try simp only [decide_eq_true_eq, decide_eq_false_iff_not, Bool.not_eq_true', Bool.not_eq_false', Bool.and_eq_true, Bool.or_eq_true, Bool.and_eq_false_iff, Bool.or_eq_false_iff, Int.not_lt, Int.not_le, List.length_map] at c2
      have hn := var_empty.1 c2
      refine awp_seq ?_
      refine awp_region rfl ?_
      refine rwp_det rfl rfl (det_buildN [none, some 2] rfl zr28 pl28 rfl rfl) ?_
      refine rwp_det0 rfl rfl (det_store rfl sz28 rfl rfl rfl (st_row 3 rfl rfl)) ?_
      refine rwp_det rfl rfl (det_assign rfl rfl) ?_
      refine rwp_nil ?_
      refine awp_ret ?_
      repeat (first | refine thenQ_ret ?_ | refine blockQ_ret ?_)
      refine fin2 (rs_cell_agg agg28 rfl (ptr_row 3 rfl) rfl) (rs_c rfl) ?_
      rw [hS, solveAB, hn]; rfl
    · try simp only [decide_eq_true_eq, decide_eq_false_iff_not, Bool.not_eq_true', Bool.not_eq_false', Bool.and_eq_true, Bool.or_eq_true, Bool.and_eq_false_iff, Bool.or_eq_false_iff, Int.not_lt, Int.not_le, List.length_map] at c2
      have hn : isNameB s = true := by cases h : isNameB s; exact absurd (var_empty.2 h) c2; rfl
      refine awp_skip ?_
      refine awp_seq ?_
      refine awp_seq ?_
      refine awp_region rfl ?_
      refine rwp_det rfl rfl (det_field_lit rfl fd32_0 rfl) ?_
      refine rwp_det rfl rfl (det_load_one rfl one3 rfl (ptr_row 2 rfl) rfl) ?_
      refine rwp_det rfl rfl (det_neq rfl rfl rfl) ?_
      refine rwp_det rfl rfl (det_move rfl rfl) ?_
      refine rwp_lazy [] rfl rfl rfl rfl gv1 trivial (fun g7_3 => det_field_lit rfl fd32_4 rfl) rfl ?_
      refine rwp_lazy [(39, _)] rfl rfl rfl rfl gv1 ⟨rfl, rfl, trivial⟩ (fun g7_3 => det_load_agg rfl agg28 rfl (ptr_row 2 rfl) rfl) rfl ?_
      refine rwp_lazy [] rfl rfl rfl rfl gv1 trivial (fun g7_3 => det_load_agg rfl agg28 rfl (ptr_row 0 rfl) rfl) rfl ?_
      refine rwp_lazy [(40, _), (41, _)] rfl rfl rfl rfl gv1 ⟨rfl, rfl, rfl, rfl, trivial⟩ (fun g7_3 => det_call rfl ok42 (lin_Same a.Lin (varL s) hLa) ⟨VLe.refl _, rfl, VLe.refl _, rfl, trivial⟩) rfl ?_
      refine rwp_lazy [(42, _)] rfl rfl rfl rfl gv1 ⟨rfl, rfl, trivial⟩ (fun g7_3 => det_not rfl rfl) rfl ?_
      refine rwp_det rfl rfl (det_or rfl rfl rfl rfl (fun h => (lzf h))) ?_
      refine rwp_nil ?_
      refine awp_cond rfl (fun c3 => ?_) (fun c3 => ?_)
      · have h3 : isV a s = false := isV_of c3
        refine awp_region rfl ?_
        refine rwp_det rfl rfl (det_load_agg rfl agg32 rfl (ptr_row 1 rfl) rfl) ?_
        refine rwp_det rfl rfl (det_load_agg rfl agg32 rfl (ptr_row 2 rfl) rfl) ?_
        refine rwp_det0 rfl rfl (det_store rfl sz32 rfl rfl rfl (st_row 2 rfl rfl)) ?_
        refine rwp_det0 rfl rfl (det_store rfl sz32 rfl rfl rfl (st_row 1 rfl rfl)) ?_
        refine rwp_nil ?_
        refine awp_seq ?_
        refine awp_seq ?_
        refine awp_region rfl ?_
        refine rwp_det rfl rfl (det_field_lit rfl fd32_0 rfl) ?_
        refine rwp_det rfl rfl (det_load_one rfl one3 rfl (ptr_row 2 rfl) rfl) ?_
        refine rwp_det rfl rfl (det_neq rfl rfl rfl) ?_
        refine rwp_det rfl rfl (det_move rfl rfl) ?_
        refine rwp_lazy [] rfl rfl rfl rfl gv1 trivial (fun g9_3 => det_field_lit rfl fd32_4 rfl) rfl ?_
        refine rwp_lazy [(51, _)] rfl rfl rfl rfl gv1 ⟨rfl, rfl, trivial⟩ (fun g9_3 => det_load_agg rfl agg28 rfl (ptr_row 2 rfl) rfl) rfl ?_
        refine rwp_lazy [] rfl rfl rfl rfl gv1 trivial (fun g9_3 => det_load_agg rfl agg28 rfl (ptr_row 0 rfl) rfl) rfl ?_
        refine rwp_lazy [(52, _), (53, _)] rfl rfl rfl rfl gv1 ⟨rfl, rfl, rfl, rfl, trivial⟩ (fun g9_3 => det_call rfl ok42 (lin_Same _ _ (by omega)) ⟨VLe.refl _, rfl, VLe.refl _, rfl, trivial⟩) rfl ?_
        refine rwp_lazy [(54, _)] rfl rfl rfl rfl gv1 ⟨rfl, rfl, trivial⟩ (fun g9_3 => det_not rfl rfl) rfl ?_
        refine rwp_det rfl rfl (det_or rfl rfl rfl rfl (fun h => (lzf h))) ?_
        refine rwp_nil ?_
        refine awp_cond rfl (fun c4 => ?_) (fun c4 => ?_)
        · first | (have h4 : isV b s = false := isV_of c4) | (have h4 : isV a s = false := isV_of c4)
          refine awp_seq ?_
          refine awp_region rfl ?_
          refine rwp_det rfl rfl (det_buildN [none, some 2] rfl zr28 pl28 rfl rfl) ?_
          refine rwp_det0 rfl rfl (det_store rfl sz28 rfl rfl rfl (st_row 3 rfl rfl)) ?_
          refine rwp_det rfl rfl (det_assign rfl rfl) ?_
          refine rwp_nil ?_
          refine awp_ret ?_
          repeat (first | refine thenQ_ret ?_ | refine blockQ_ret ?_)
          refine fin2 (rs_cell_agg agg28 rfl (ptr_row 3 rfl) rfl) (rs_c rfl) ?_
          rw [hS, solveAB, hn, h3, h4]; rfl
        · first | (have h4 : isV b s = true := isV_of c4) | skip
          refine awp_skip ?_
          refine awp_seq ?_
          refine awp_region rfl ?_
          refine rwp_det rfl rfl (det_load_agg rfl agg32 rfl (ptr_row 1 rfl) rfl) ?_
          refine rwp_det rfl rfl (det_call rfl ok43 (delta_constant _) ⟨VLe.refl _, rfl, trivial⟩) ?_
          refine rwp_det rfl rfl (det_move_tup rfl rfl) ?_
          refine rwp_det rfl rfl (det_ex_agg rfl rfl rfl) ?_
          refine rwp_det rfl rfl (det_ex_c rfl rfl rfl) ?_
          refine rwp_op rfl rfl (ope_allocN [none, some 2] rfl zr28 rfl) ?_
          rintro _ _ ⟨b6, rfl, rfl⟩
          refine rwp_det0 rfl rfl (det_store rfl sz28 rfl rfl rfl (st_row 0 rfl rfl)) ?_
          refine rwp_det rfl rfl (det_assign rfl rfl) ?_
          refine rwp_nil ?_
          refine awp_seq ?_
          refine awp_seq ?_
          refine awp_region rfl ?_
          refine rwp_det rfl rfl (det_move rfl rfl) ?_
          refine rwp_det rfl rfl (det_not rfl rfl) ?_
          refine rwp_det rfl rfl (det_move rfl rfl) ?_
          refine rwp_lazy [] rfl rfl rfl rfl gv1 trivial (fun g12_2 => det_load_agg rfl agg28 rfl (ptr_row 0 rfl) rfl) rfl ?_
          refine rwp_lazy [] rfl rfl rfl rfl gv1 trivial (fun g12_2 => det_move rfl rfl) rfl ?_
          refine rwp_lazy [(66, _), (67, _)] rfl rfl rfl rfl gv1 ⟨rfl, rfl, rfl, rfl, trivial⟩ (fun g12_2 => det_call rfl ok44 (delta_contains _ s (by first | (have := const_len a; omega) | (have := const_len b; omega))) ⟨VLe.refl _, rfl, VLe.refl _, rfl, trivial⟩) rfl ?_
          refine rwp_det rfl rfl (det_or rfl rfl rfl rfl (fun h => (lzf h))) ?_
          refine rwp_nil ?_
          refine awp_cond rfl (fun c5 => ?_) (fun c5 => ?_)
          · refine awp_seq ?_
            refine awp_region rfl ?_
            refine rwp_det rfl rfl (det_buildN [none, some 2] rfl zr28 pl28 rfl rfl) ?_
            refine rwp_det0 rfl rfl (det_store rfl sz28 rfl rfl rfl (st_row 4 rfl rfl)) ?_
            refine rwp_det rfl rfl (det_assign rfl rfl) ?_
            refine rwp_nil ?_
            refine awp_ret ?_
            repeat (first | refine thenQ_ret ?_ | refine blockQ_ret ?_)
            refine fin2 (rs_cell_agg agg28 rfl (ptr_row 4 rfl) rfl) (rs_c rfl) ?_
            simp only [hS, solveAB, hn, h3, h4, cond_true, cond_false]
            rw [finS, c5]; rfl
          · refine awp_skip ?_
            refine awp_seq ?_
            refine awp_region rfl ?_
            refine rwp_det rfl rfl (det_load_agg rfl agg28 rfl (ptr_row 0 rfl) rfl) ?_
            refine rwp_det rfl rfl (det_buildN [none, none, none, none, none, none, none, none, none, none, none, some 4, some 13] rfl zr32 pl32 rfl rfl) ?_
            refine rwp_det rfl rfl (det_call rfl ok27 (expr_Copy (.mk 0 (bs []) ⟨0, 0⟩ ⟨0, 0, 0, 0, 0⟩ _ [] []) (cw_le (by first | (have := const_len a; omega) | (have := const_len b; omega)))) ⟨VLe.refl _, rfl, trivial⟩) ?_
            refine rwp_det rfl rfl (det_part_agg rfl fd32_4 agg28 rfl) ?_
            refine rwp_det0 rfl rfl (det_store rfl sz28 rfl rfl rfl (st_row 4 rfl rfl)) ?_
            refine rwp_det rfl rfl (det_assign rfl rfl) ?_
            refine rwp_nil ?_
            refine awp_ret ?_
            repeat (first | refine thenQ_ret ?_ | refine blockQ_ret ?_)
            refine fin2 (rs_cell_agg agg28 rfl (ptr_row 4 rfl) rfl) (rs_c rfl) ?_
            simp only [hS, solveAB, hn, h3, h4, cond_true, cond_false]
            rw [finS, c5]; rfl
      · have h3 : isV a s = true := isV_of c3
        refine awp_skip ?_
        refine awp_seq ?_
        refine awp_seq ?_
        refine awp_region rfl ?_
        refine rwp_det rfl rfl (det_field_lit rfl fd32_0 rfl) ?_
        refine rwp_det rfl rfl (det_load_one rfl one3 rfl (ptr_row 2 rfl) rfl) ?_
        refine rwp_det rfl rfl (det_neq rfl rfl rfl) ?_
        refine rwp_det rfl rfl (det_move rfl rfl) ?_
        refine rwp_lazy [] rfl rfl rfl rfl gv1 trivial (fun g9_3 => det_field_lit rfl fd32_4 rfl) rfl ?_
        refine rwp_lazy [(51, _)] rfl rfl rfl rfl gv1 ⟨rfl, rfl, trivial⟩ (fun g9_3 => det_load_agg rfl agg28 rfl (ptr_row 2 rfl) rfl) rfl ?_
        refine rwp_lazy [] rfl rfl rfl rfl gv1 trivial (fun g9_3 => det_load_agg rfl agg28 rfl (ptr_row 0 rfl) rfl) rfl ?_
        refine rwp_lazy [(52, _), (53, _)] rfl rfl rfl rfl gv1 ⟨rfl, rfl, rfl, rfl, trivial⟩ (fun g9_3 => det_call rfl ok42 (lin_Same _ _ (by omega)) ⟨VLe.refl _, rfl, VLe.refl _, rfl, trivial⟩) rfl ?_
        refine rwp_lazy [(54, _)] rfl rfl rfl rfl gv1 ⟨rfl, rfl, trivial⟩ (fun g9_3 => det_not rfl rfl) rfl ?_
        refine rwp_det rfl rfl (det_or rfl rfl rfl rfl (fun h => (lzf h))) ?_
        refine rwp_nil ?_
        refine awp_cond rfl (fun c4 => ?_) (fun c4 => ?_)
        · first | (have h4 : isV b s = false := isV_of c4) | (have h4 : isV a s = false := isV_of c4)
          refine awp_seq ?_
          refine awp_region rfl ?_
          refine rwp_det rfl rfl (det_buildN [none, some 2] rfl zr28 pl28 rfl rfl) ?_
          refine rwp_det0 rfl rfl (det_store rfl sz28 rfl rfl rfl (st_row 3 rfl rfl)) ?_
          refine rwp_det rfl rfl (det_assign rfl rfl) ?_
          refine rwp_nil ?_
          refine awp_ret ?_
          repeat (first | refine thenQ_ret ?_ | refine blockQ_ret ?_)
          refine fin2 (rs_cell_agg agg28 rfl (ptr_row 3 rfl) rfl) (rs_c rfl) ?_
          exact absurd (h3.symm.trans h4) (by simp)
        · first | (have h4 : isV b s = true := isV_of c4) | skip
          refine awp_skip ?_
          refine awp_seq ?_
          refine awp_region rfl ?_
          refine rwp_det rfl rfl (det_load_agg rfl agg32 rfl (ptr_row 1 rfl) rfl) ?_
          refine rwp_det rfl rfl (det_call rfl ok43 (delta_constant _) ⟨VLe.refl _, rfl, trivial⟩) ?_
          refine rwp_det rfl rfl (det_move_tup rfl rfl) ?_
          refine rwp_det rfl rfl (det_ex_agg rfl rfl rfl) ?_
          refine rwp_det rfl rfl (det_ex_c rfl rfl rfl) ?_
          refine rwp_op rfl rfl (ope_allocN [none, some 2] rfl zr28 rfl) ?_
          rintro _ _ ⟨b7, rfl, rfl⟩
          refine rwp_det0 rfl rfl (det_store rfl sz28 rfl rfl rfl (st_row 0 rfl rfl)) ?_
          refine rwp_det rfl rfl (det_assign rfl rfl) ?_
          refine rwp_nil ?_
          refine awp_seq ?_
          refine awp_seq ?_
          refine awp_region rfl ?_
          refine rwp_det rfl rfl (det_move rfl rfl) ?_
          refine rwp_det rfl rfl (det_not rfl rfl) ?_
          refine rwp_det rfl rfl (det_move rfl rfl) ?_
          refine rwp_lazy [] rfl rfl rfl rfl gv1 trivial (fun g12_2 => det_load_agg rfl agg28 rfl (ptr_row 0 rfl) rfl) rfl ?_
          refine rwp_lazy [] rfl rfl rfl rfl gv1 trivial (fun g12_2 => det_move rfl rfl) rfl ?_
          refine rwp_lazy [(66, _), (67, _)] rfl rfl rfl rfl gv1 ⟨rfl, rfl, rfl, rfl, trivial⟩ (fun g12_2 => det_call rfl ok44 (delta_contains _ s (by first | (have := const_len a; omega) | (have := const_len b; omega))) ⟨VLe.refl _, rfl, VLe.refl _, rfl, trivial⟩) rfl ?_
          refine rwp_det rfl rfl (det_or rfl rfl rfl rfl (fun h => (lzf h))) ?_
          refine rwp_nil ?_
          refine awp_cond rfl (fun c5 => ?_) (fun c5 => ?_)
          · refine awp_seq ?_
            refine awp_region rfl ?_
            refine rwp_det rfl rfl (det_buildN [none, some 2] rfl zr28 pl28 rfl rfl) ?_
            refine rwp_det0 rfl rfl (det_store rfl sz28 rfl rfl rfl (st_row 4 rfl rfl)) ?_
            refine rwp_det rfl rfl (det_assign rfl rfl) ?_
            refine rwp_nil ?_
            refine awp_ret ?_
            repeat (first | refine thenQ_ret ?_ | refine blockQ_ret ?_)
            refine fin2 (rs_cell_agg agg28 rfl (ptr_row 4 rfl) rfl) (rs_c rfl) ?_
            simp only [hS, solveAB, hn, h3, cond_true]
            rw [finS, c5]; rfl
          · refine awp_skip ?_
            refine awp_seq ?_
            refine awp_region rfl ?_
            refine rwp_det rfl rfl (det_load_agg rfl agg28 rfl (ptr_row 0 rfl) rfl) ?_
            refine rwp_det rfl rfl (det_buildN [none, none, none, none, none, none, none, none, none, none, none, some 4, some 13] rfl zr32 pl32 rfl rfl) ?_
            refine rwp_det rfl rfl (det_call rfl ok27 (expr_Copy (.mk 0 (bs []) ⟨0, 0⟩ ⟨0, 0, 0, 0, 0⟩ _ [] []) (cw_le (by first | (have := const_len a; omega) | (have := const_len b; omega)))) ⟨VLe.refl _, rfl, trivial⟩) ?_
            refine rwp_det rfl rfl (det_part_agg rfl fd32_4 agg28 rfl) ?_
            refine rwp_det0 rfl rfl (det_store rfl sz28 rfl rfl rfl (st_row 4 rfl rfl)) ?_
            refine rwp_det rfl rfl (det_assign rfl rfl) ?_
            refine rwp_nil ?_
            refine awp_ret ?_
            repeat (first | refine thenQ_ret ?_ | refine blockQ_ret ?_)
            refine fin2 (rs_cell_agg agg28 rfl (ptr_row 4 rfl) rfl) (rs_c rfl) ?_
            simp only [hS, solveAB, hn, h3, cond_true]
            rw [finS, c5]; rfl

theorem ref22_Solve (c : Ex) (s : ByteArray) (he : c.wt ≤ 4294967296) :
    Pur cfg 14 [vE c, vS s] (.tup [vLin (solveT c s).1, vB (solveT c s).2]) := by
  refine con_intro Tryz.func14 rfl Tryz.ntmps14 Tryz.results14 rfl ?_
  intro z hz
  refine awp_seq ?_
  refine awp_region rfl ?_
  refine rwp_op rfl rfl (ope_box rfl rfl) ?_
  rintro _ _ ⟨b1, rfl, rfl⟩
  refine rwp_op rfl rfl (ope_allocN [none, some 2] rfl zr28 rfl) ?_
  rintro _ _ ⟨b2, rfl, rfl⟩
  refine rwp_det rfl rfl (det_assign rfl rfl) ?_
  refine rwp_nil ?_
  refine awp_seq ?_
  refine awp_seq ?_
  refine awp_region rfl ?_
  refine rwp_det rfl rfl (det_load_agg rfl agg32 rfl (ptr_row 1 rfl) rfl) ?_
  refine rwp_det rfl rfl (det_call rfl ok33 (ref14_Validate c he) ⟨VLe.refl _, rfl, trivial⟩) ?_
  refine rwp_det rfl rfl (det_neq rfl rfl rfl) ?_
  refine rwp_det rfl rfl (det_move rfl rfl) ?_
  refine rwp_lazy [] rfl rfl rfl rfl gv1 trivial (fun g1_3 => det_field_lit rfl fd32_0 rfl) rfl ?_
  refine rwp_lazy [(13, _)] rfl rfl rfl rfl gv1 ⟨rfl, rfl, trivial⟩ (fun g1_3 => det_load_one rfl one3 rfl (ptr_row 1 rfl) rfl) rfl ?_
  refine rwp_lazy [(14, _)] rfl rfl rfl rfl gv1 ⟨rfl, rfl, trivial⟩ (fun g1_3 => det_neq rfl rfl rfl) rfl ?_
  refine rwp_det rfl rfl (det_or rfl rfl rfl rfl (fun h => (lzf h))) ?_
  refine rwp_nil ?_
  refine awp_cond rfl (fun c1 => ?_) (fun c1 => ?_)
  · try simp only [decide_eq_true_eq, decide_eq_false_iff_not, Bool.not_eq_true', Bool.not_eq_false', Bool.and_eq_true, Bool.or_eq_true, Bool.and_eq_false_iff, Bool.or_eq_false_iff, Int.not_lt, Int.not_le, List.length_map] at c1
    have hS : solveT c s = (zL, false) := by simp only [solveT, solve_c1 c1]; rfl
    refine awp_seq ?_
    refine awp_region rfl ?_
    refine rwp_det rfl rfl (det_buildN [none, some 2] rfl zr28 pl28 rfl rfl) ?_
    refine rwp_det0 rfl rfl (det_store rfl sz28 rfl rfl rfl (st_row 0 rfl rfl)) ?_
    refine rwp_det rfl rfl (det_assign rfl rfl) ?_
    refine rwp_nil ?_
    refine awp_ret ?_
    repeat (first | refine thenQ_ret ?_ | refine blockQ_ret ?_)
    refine fin2 (rs_cell_agg agg28 rfl (ptr_row 0 rfl) rfl) (rs_c rfl) ?_
    rw [hS]; rfl
  · try simp only [decide_eq_true_eq, decide_eq_false_iff_not, Bool.not_eq_true', Bool.not_eq_false', Bool.and_eq_true, Bool.or_eq_true, Bool.and_eq_false_iff, Bool.or_eq_false_iff, Int.not_lt, Int.not_le, List.length_map] at c1
    obtain ⟨hv, hop⟩ := c1
    have hP := valid_part hv
    obtain ⟨a, b, hab, hPa, hPb⟩ := two_args hP (by rw [hop]; rfl)
    have ha0 : c.Args[0]? = some a := by rw [hab]; rfl
    have hb0 : c.Args[1]? = some b := by rw [hab]; rfl
    have hwa := Ex.arg_wt (mem_of_get ha0)
    have hwb := Ex.arg_wt (mem_of_get hb0)
    have hS : solveT c s = solveAB a b s := by simp only [solveT, hv, hop, argN, hab]; rfl
    obtain ⟨hLa, _, _⟩ := a.parts (show a.wt ≤ 4294967296 by omega)
    obtain ⟨hLb, _, _⟩ := b.parts (show b.wt ≤ 4294967296 by omega)
    have hka := node_lin (partE_node hPa)
    have hkb := node_lin (partE_node hPb)
    refine awp_skip ?_
    refine awp_seq ?_
    refine awp_seq ?_
    refine awp_region rfl ?_
    refine rwp_det rfl rfl (det_assign rfl rfl) ?_
    refine rwp_nil ?_
    refine awp_block ?_
    refine awp_weak ⟨[(6, .c _), (1, .c _), (2, .c _), (4, .c _)], [_, _]⟩ (Weak.mk [true, true] ⟨VLe.of_eq rfl, VLe.of_eq rfl, VLe.of_eq rfl, VLe.of_eq rfl, trivial⟩ rfl) ?_
    refine awp_loop_k 1 0 rfl rfl (Nat) (fun k => [(6, vI k)]) (fun k => []) (fun k => k ≤ 2 ∧ (0 < k → tryS a b s = false) ∧ (1 < k → tryS b a s = false)) (fun k => 2 - k) ⟨0, ⟨by omega, fun h => by omega, fun h => by omega⟩, Weak.mk [true, true] ⟨VLe.refl _, VLe.refl _, VLe.refl _, VLe.refl _, trivial⟩ rfl⟩ ?_
    rintro k ⟨hk, hk0, hk1⟩
    refine awp_seq ?_
    refine awp_seq ?_
    refine awp_region rfl ?_
    refine rwp_det rfl rfl (det_move rfl rfl) ?_
    refine rwp_det rfl rfl (det_lss rfl rfl rfl) ?_
    refine rwp_nil ?_
    refine awp_cond rfl (fun c2 => ?_) (fun c2 => ?_)
    · try simp only [decide_eq_true_eq, decide_eq_false_iff_not, Bool.not_eq_true', Bool.not_eq_false', Bool.and_eq_true, Bool.or_eq_true, Bool.and_eq_false_iff, Bool.or_eq_false_iff, Int.not_lt, Int.not_le, List.length_map] at c2
      obtain ⟨x, y, hx, hy, hxw, hyw, hxy⟩ := pick_ab (a := a) (b := b) ha0 hb0 (show k < 2 by omega)
      refine awp_skip ?_
      refine awp_seq ?_
      refine awp_block ?_
      refine awp_seq ?_
      refine awp_region rfl ?_
      refine rwp_det rfl rfl (det_field_lit rfl fd32_6 rfl) ?_
      refine rwp_det rfl rfl (det_load_one rfl one30 rfl (ptr_row 1 rfl) rfl) ?_
      refine rwp_det rfl rfl (det_move rfl rfl) ?_
      refine rwp_det rfl rfl (det_sub_nw rfl rfl rfl ⟨by omega, by omega⟩) ?_
      refine rwp_det rfl rfl (det_index_sl rfl el30 rfl rfl (by omega) (getmE hy)) ?_
      refine rwp_det rfl rfl (det_load_agg rfl agg32 rfl ptr_imm rfl) ?_
      refine rwp_det rfl rfl (det_call rfl ok45 (ref22_form y) ⟨VLe.refl _, rfl, trivial⟩) ?_
      refine rwp_det rfl rfl (det_move_tup rfl rfl) ?_
      refine rwp_det rfl rfl (det_ex_agg rfl rfl rfl) ?_
      refine rwp_det rfl rfl (det_ex_c rfl rfl rfl) ?_
      refine rwp_op rfl rfl (ope_allocN [none, some 2] rfl zr28 rfl) ?_
      rintro _ _ ⟨b3, rfl, rfl⟩
      refine rwp_det0 rfl rfl (det_store rfl sz28 rfl rfl rfl (st_row 0 rfl rfl)) ?_
      refine rwp_det rfl rfl (det_assign rfl rfl) ?_
      refine rwp_nil ?_
      refine awp_seq ?_
      refine awp_region rfl ?_
      refine rwp_det rfl rfl (det_field_lit rfl fd32_6 rfl) ?_
      refine rwp_det rfl rfl (det_load_one rfl one30 rfl (ptr_row 2 rfl) rfl) ?_
      refine rwp_det rfl rfl (det_move rfl rfl) ?_
      refine rwp_det rfl rfl (det_index_sl rfl el30 rfl rfl (by omega) (getmE hx)) ?_
      refine rwp_det rfl rfl (det_load_agg rfl agg32 rfl ptr_imm rfl) ?_
      refine rwp_det rfl rfl (det_move rfl rfl) ?_
      refine rwp_det rfl rfl (det_call rfl ok46 (ref22_variable x s (by omega)) ⟨VLe.refl _, rfl, VLe.refl _, rfl, trivial⟩) ?_
      refine rwp_det rfl rfl (det_move rfl rfl) ?_
      refine rwp_lazy [] rfl rfl rfl rfl gv1 trivial (fun g7_7 => det_move rfl rfl) rfl ?_
      refine rwp_det rfl rfl (det_and rfl rfl rfl (fun h => h) rfl) ?_
      refine rwp_det rfl rfl (det_move rfl rfl) ?_
      refine rwp_lazy [] rfl rfl rfl rfl gv1 trivial (fun g7_10 => det_load_agg rfl agg28 rfl (ptr_row 0 rfl) rfl) rfl ?_
      refine rwp_lazy [] rfl rfl rfl rfl gv1 trivial (fun g7_10 => det_move rfl rfl) rfl ?_
      refine rwp_lazy [(43, _), (44, _)] rfl rfl rfl rfl gv1 ⟨rfl, rfl, rfl, rfl, trivial⟩ (fun g7_10 => det_call rfl ok47 (ref05_Coeff _ s (by have := form_len y; omega)) ⟨VLe.refl _, rfl, VLe.refl _, rfl, trivial⟩) rfl ?_
      refine rwp_lazy [(45, _)] rfl rfl rfl rfl gv1 ⟨rfl, rfl, trivial⟩ (fun g7_10 => det_eql rfl rfl rfl) rfl ?_
      refine rwp_det rfl rfl (det_and rfl rfl rfl (fun h => h) rfl) ?_
      refine rwp_nil ?_
      refine awp_cond rfl (fun c3 => ?_) (fun c3 => ?_)
      · have h3 : tryS x y s = true := c3
        refine awp_seq ?_
        refine awp_region rfl ?_
        refine rwp_det rfl rfl (det_load_agg rfl agg28 rfl (ptr_row 0 rfl) rfl) ?_
        refine rwp_det0 rfl rfl (det_store rfl sz28 rfl rfl rfl (st_row 1 rfl rfl)) ?_
        refine rwp_det rfl rfl (det_assign rfl rfl) ?_
        refine rwp_nil ?_
        refine awp_ret ?_
        repeat (first | refine thenQ_ret ?_ | refine blockQ_ret ?_)
        refine fin2 (rs_cell_agg agg28 rfl (ptr_row 1 rfl) rfl) (rs_c rfl) ?_
        rw [hS, pick_done hka hkb hxy h3 hk0]; rfl
      · have h3 : tryS x y s = false := c3
        refine awp_skip ?_
        refine awp_region rfl ?_
        refine rwp_det rfl rfl (det_move rfl rfl) ?_
        refine rwp_det rfl rfl (det_add_nw rfl rfl rfl ⟨by omega, by omega⟩) ?_
        refine rwp_det rfl rfl (det_assign rfl rfl) ?_
        refine rwp_nil ?_
        refine ⟨k + 1, pick_next hxy h3 hk hk0 hk1, (by omega), Weak.mk [false, true, true] ⟨VLe.refl _, VLe.refl _, VLe.refl _, VLe.refl _, trivial⟩ rfl⟩
    · try simp only [decide_eq_true_eq, decide_eq_false_iff_not, Bool.not_eq_true', Bool.not_eq_false', Bool.and_eq_true, Bool.or_eq_true, Bool.and_eq_false_iff, Bool.or_eq_false_iff, Int.not_lt, Int.not_le, List.length_map] at c2
      refine awp_exit ?_
      refine awp_seq ?_
      refine awp_region rfl ?_
      refine rwp_det rfl rfl (det_buildN [none, some 2] rfl zr28 pl28 rfl rfl) ?_
      refine rwp_det0 rfl rfl (det_store rfl sz28 rfl rfl rfl (st_row 0 rfl rfl)) ?_
      refine rwp_det rfl rfl (det_assign rfl rfl) ?_
      refine rwp_nil ?_
      refine awp_ret ?_
      repeat (first | refine thenQ_ret ?_ | refine blockQ_ret ?_)
      refine fin2 (rs_cell_agg agg28 rfl (ptr_row 0 rfl) rfl) (rs_c rfl) ?_
      rw [hS, solve_none hka hkb (hk0 (by omega)) (hk1 (by omega))]; rfl

end Go.W
