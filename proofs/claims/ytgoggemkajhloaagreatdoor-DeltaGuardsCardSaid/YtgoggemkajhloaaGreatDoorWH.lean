/-
  Walks: what functions of the program compute. Printed by wip/gen/mk2.py.
  Conditions: none.
-/
import Derived.Test.YtgoggemkajhloaaGreatDoorWG
set_option linter.unusedSimpArgs false
set_option linter.unusedVariables false
namespace Go.W
open Go Go.Eng Go.Proofs Go.L41 Go.Br
attribute [local irreducible] AWP RWP TD
theorem ok12 : callOk Tryz.prog 12 = true := by kernel_rfl
theorem ok13 : callOk Tryz.prog 13 = true := by kernel_rfl
theorem ok14 : callOk Tryz.prog 14 = true := by kernel_rfl
theorem delta_Solve_ex : Pur cfg 13 [vE exC, vS (bs [107])] (.tup [vLin ⟨0, [⟨bs [105], 1⟩]⟩, vB true]) := by
  have h := delta_Solve exC (bs [107]) exC_wt
  rw [solve_ex] at h
  exact h

theorem law22_alive  :
    Pur cfg 12 [] (vB true) := by
  refine con_intro Tryz.func12 rfl Tryz.ntmps12 Tryz.results12 rfl ?_
  intro z hz
  refine awp_seq ?_
  refine awp_region rfl ?_
  refine rwp_det rfl rfl (det_assign rfl rfl) ?_
  refine rwp_nil ?_
  refine awp_seq ?_
  refine awp_region rfl ?_
  refine rwp_det rfl rfl (det_build rfl zr62 pl62 rfl) ?_
  refine rwp_det rfl rfl (det_bslice rfl el26 zr62 rfl rfl rfl rfl) ?_
  refine rwp_det rfl rfl (det_build rfl zr28 pl28 rfl) ?_
  refine rwp_det rfl rfl (det_buildN [none, none, none, none, none, none, none, none, none, none, none, some 4, some 13] rfl zr32 pl32 rfl rfl) ?_
  refine rwp_det rfl rfl (det_build rfl zr62 pl62 rfl) ?_
  refine rwp_det rfl rfl (det_bslice rfl el26 zr62 rfl rfl rfl rfl) ?_
  refine rwp_det rfl rfl (det_build rfl zr28 pl28 rfl) ?_
  refine rwp_det rfl rfl (det_buildN [none, none, none, none, none, none, none, none, none, none, none, some 4, some 13] rfl zr32 pl32 rfl rfl) ?_
  refine rwp_op rfl rfl (ope_allocN [none, none, none, none, none, none, none, none, none, none, some 2, some 4, some 13] rfl zr32 rfl) ?_
  rintro _ _ ⟨b1, rfl, rfl⟩
  refine rwp_op rfl rfl (ope_allocN [none, none, none, none, none, none, none, none, none, none, some 2, some 4, some 13] rfl zr32 rfl) ?_
  rintro _ _ ⟨b2, rfl, rfl⟩
  refine rwp_det0 rfl rfl (det_store rfl sz32 rfl rfl rfl (st_row 1 rfl rfl)) ?_
  refine rwp_det0 rfl rfl (det_store rfl sz32 rfl rfl rfl (st_row 0 rfl rfl)) ?_
  refine rwp_nil ?_
  refine awp_seq ?_
  refine awp_region rfl ?_
  refine rwp_det rfl rfl (det_load_agg rfl agg32 rfl (ptr_row 1 rfl) rfl) ?_
  refine rwp_det rfl rfl (det_load_agg rfl agg32 rfl (ptr_row 0 rfl) rfl) ?_
  refine rwp_det rfl rfl (det_bslice rfl el30 zr32 rfl rfl rfl rfl) ?_
  refine rwp_det rfl rfl (det_buildN [none, none, none, none, none, none, none, none, none, none, some 2, some 4, none] rfl zr32 pl32 rfl rfl) ?_
  refine rwp_det rfl rfl (det_call rfl ok13 delta_Solve_ex ⟨VLe.refl _, rfl, VLe.refl _, rfl, trivial⟩) ?_
  refine rwp_det rfl rfl (det_move_tup rfl rfl) ?_
  refine rwp_det rfl rfl (det_ex_agg rfl rfl rfl) ?_
  refine rwp_det rfl rfl (det_ex_c rfl rfl rfl) ?_
  refine rwp_op rfl rfl (ope_allocN [none, some 2] rfl zr28 rfl) ?_
  rintro _ _ ⟨b3, rfl, rfl⟩
  refine rwp_det0 rfl rfl (det_store rfl sz28 rfl rfl rfl (st_row 0 rfl rfl)) ?_
  refine rwp_det rfl rfl (det_assign rfl rfl) ?_
  refine rwp_nil ?_
  refine awp_seq ?_
  refine awp_region rfl ?_
  refine rwp_det rfl rfl (det_move rfl rfl) ?_
  refine rwp_det rfl rfl (det_move rfl rfl) ?_
  refine rwp_lazy [] rfl rfl rfl rfl gv1 trivial (fun g3_1 => det_field_lit rfl fd28_1 rfl) rfl ?_
  refine rwp_lazy [(23, _)] rfl rfl rfl rfl gv1 ⟨rfl, rfl, trivial⟩ (fun g3_1 => det_load_one rfl one26 rfl (ptr_row 0 rfl) rfl) rfl ?_
  refine rwp_lazy [(24, _)] rfl rfl rfl rfl gv1 ⟨rfl, rfl, trivial⟩ (fun g3_1 => det_len_slm rfl el26 rfl) rfl ?_
  refine rwp_lazy [(25, _)] rfl rfl rfl rfl gv1 ⟨rfl, rfl, trivial⟩ (fun g3_1 => det_eql rfl rfl rfl) rfl ?_
  refine rwp_det rfl rfl (det_and rfl rfl rfl (fun h => h) rfl) ?_
  refine rwp_det rfl rfl (det_move rfl rfl) ?_
  refine rwp_lazy [] rfl rfl rfl rfl gv1 trivial (fun g3_7 => det_field_lit rfl fd28_1 rfl) rfl ?_
  refine rwp_lazy [(29, _)] rfl rfl rfl rfl gv1 ⟨rfl, rfl, trivial⟩ (fun g3_7 => det_load_one rfl one26 rfl (ptr_row 0 rfl) rfl) rfl ?_
  refine rwp_lazy [(30, _)] rfl rfl rfl rfl gv1 ⟨rfl, rfl, trivial⟩ (fun g3_7 => det_index_sl rfl el26 rfl rfl (by omega) rfl) rfl ?_
  refine rwp_lazy [(31, _)] rfl rfl rfl rfl gv1 ⟨rfl, rfl, trivial⟩ (fun g3_7 => det_field_imm rfl fd62_0 rfl) rfl ?_
  refine rwp_lazy [(32, _)] rfl rfl rfl rfl gv1 ⟨rfl, rfl, trivial⟩ (fun g3_7 => det_load_one rfl one9 rfl ptr_imm rfl) rfl ?_
  refine rwp_lazy [(33, _)] rfl rfl rfl rfl gv1 ⟨rfl, rfl, trivial⟩ (fun g3_7 => det_seql rfl rfl rfl) rfl ?_
  refine rwp_det rfl rfl (det_and rfl rfl rfl (fun h => h) rfl) ?_
  refine rwp_det rfl rfl (det_assign rfl rfl) ?_
  refine rwp_nil ?_
  refine awp_ret ?_
  repeat (first | refine thenQ_ret ?_ | refine blockQ_ret ?_)
  refine fin1 (rs_c rfl) ?_
  exact congrArg (fun b => V.c (C.lit (Value.bool b))) (by decide)

theorem law_DeltaSolves (c : Ex) (s : ByteArray) (hf : c.fit) :
    Pur cfg 3 [vE c, vS s] (vB true) := by
  refine con_intro Tryz.func3 rfl Tryz.ntmps3 Tryz.results3 rfl ?_
  intro z hz
  refine awp_seq ?_
  refine awp_region rfl ?_
  refine rwp_op rfl rfl (ope_box rfl rfl) ?_
  rintro _ _ ⟨b1, rfl, rfl⟩
  refine rwp_det rfl rfl (det_assign rfl rfl) ?_
  refine rwp_nil ?_
  refine awp_seq ?_
  refine awp_seq ?_
  refine awp_region rfl ?_
  refine rwp_det rfl rfl (det_load_agg rfl agg32 rfl (ptr_row 0 rfl) rfl) ?_
  refine rwp_det rfl rfl (det_call rfl ok11 (base_Weigh c 300 300 hf (by omega) rfl) ⟨VLe.refl _, rfl, VLe.refl _, rfl, trivial⟩) ?_
  refine rwp_det rfl rfl (det_gtr rfl rfl rfl) ?_
  refine rwp_nil ?_
  refine awp_cond rfl (fun c1 => ?_) (fun c1 => ?_)
  · try simp only [decide_eq_true_eq, decide_eq_false_iff_not, Bool.not_eq_true', Bool.not_eq_false', Bool.and_eq_true, Bool.or_eq_true, Bool.and_eq_false_iff, Bool.or_eq_false_iff, Int.not_lt, Int.not_le, List.length_map] at c1
    refine awp_seq ?_
    refine awp_region rfl ?_
    refine rwp_det rfl rfl (det_call rfl ok12 (law22_alive) trivial) ?_
    refine rwp_det rfl rfl (det_assign rfl rfl) ?_
    refine rwp_nil ?_
    refine awp_ret ?_
    repeat (first | refine thenQ_ret ?_ | refine blockQ_ret ?_)
    refine fin1 (rs_c rfl) ?_
    rfl
  · try simp only [decide_eq_true_eq, decide_eq_false_iff_not, Bool.not_eq_true', Bool.not_eq_false', Bool.and_eq_true, Bool.or_eq_true, Bool.and_eq_false_iff, Bool.or_eq_false_iff, Int.not_lt, Int.not_le, List.length_map] at c1
    have hw := weighE_wt c 300 (by omega)
    have hl := solve_len c s
    refine awp_skip ?_
    refine awp_seq ?_
    refine awp_region rfl ?_
    refine rwp_det rfl rfl (det_load_agg rfl agg32 rfl (ptr_row 0 rfl) rfl) ?_
    refine rwp_det rfl rfl (det_move rfl rfl) ?_
    refine rwp_det rfl rfl (det_call rfl ok13 (delta_Solve c s (by omega)) ⟨VLe.refl _, rfl, VLe.refl _, rfl, trivial⟩) ?_
    refine rwp_det rfl rfl (det_move_tup rfl rfl) ?_
    refine rwp_det rfl rfl (det_ex_agg rfl rfl rfl) ?_
    refine rwp_det rfl rfl (det_ex_c rfl rfl rfl) ?_
    refine rwp_op rfl rfl (ope_allocN [none, some 2] rfl zr28 rfl) ?_
    rintro _ _ ⟨b2, rfl, rfl⟩
    refine rwp_det0 rfl rfl (det_store rfl sz28 rfl rfl rfl (st_row 0 rfl rfl)) ?_
    refine rwp_det rfl rfl (det_assign rfl rfl) ?_
    refine rwp_nil ?_
    refine awp_seq ?_
    refine awp_region rfl ?_
    refine rwp_det rfl rfl (det_load_agg rfl agg32 rfl (ptr_row 1 rfl) rfl) ?_
    refine rwp_det rfl rfl (det_move rfl rfl) ?_
    refine rwp_det rfl rfl (det_call rfl ok14 (ref22_Solve c s (by omega)) ⟨VLe.refl _, rfl, VLe.refl _, rfl, trivial⟩) ?_
    refine rwp_det rfl rfl (det_move_tup rfl rfl) ?_
    refine rwp_det rfl rfl (det_ex_agg rfl rfl rfl) ?_
    refine rwp_det rfl rfl (det_ex_c rfl rfl rfl) ?_
    refine rwp_op rfl rfl (ope_allocN [none, some 2] rfl zr28 rfl) ?_
    rintro _ _ ⟨b3, rfl, rfl⟩
    refine rwp_det0 rfl rfl (det_store rfl sz28 rfl rfl rfl (st_row 0 rfl rfl)) ?_
    refine rwp_det rfl rfl (det_assign rfl rfl) ?_
    refine rwp_nil ?_
    refine awp_seq ?_
    refine awp_region rfl ?_
    refine rwp_det rfl rfl (det_load_agg rfl agg28 rfl (ptr_row 1 rfl) rfl) ?_
    refine rwp_det rfl rfl (det_load_agg rfl agg28 rfl (ptr_row 0 rfl) rfl) ?_
    refine rwp_det rfl rfl (det_call rfl ok15 (base_Lin _ _ (by omega)) ⟨VLe.refl _, rfl, VLe.refl _, rfl, trivial⟩) ?_
    refine rwp_det rfl rfl (det_move rfl rfl) ?_
    refine rwp_lazy [] rfl rfl rfl rfl gv1 trivial (fun g5_3 => det_move rfl rfl) rfl ?_
    refine rwp_lazy [] rfl rfl rfl rfl gv1 trivial (fun g5_3 => det_move rfl rfl) rfl ?_
    refine rwp_lazy [(29, _), (30, _)] rfl rfl rfl rfl gv1 ⟨rfl, rfl, rfl, rfl, trivial⟩ (fun g5_3 => det_beql rfl un4 rfl rfl) rfl ?_
    refine rwp_det rfl rfl (det_and rfl rfl rfl (fun h => h) rfl) ?_
    refine rwp_det rfl rfl (det_move rfl rfl) ?_
    refine rwp_lazy [] rfl rfl rfl rfl gv1 trivial (fun g5_8 => det_call rfl ok12 (law22_alive) trivial) rfl ?_
    refine rwp_det rfl rfl (det_and rfl rfl rfl (fun h => h) rfl) ?_
    refine rwp_det rfl rfl (det_assign rfl rfl) ?_
    refine rwp_nil ?_
    refine awp_ret ?_
    repeat (first | refine thenQ_ret ?_ | refine blockQ_ret ?_)
    refine fin1 (rs_c rfl) ?_
    simp

end Go.W
