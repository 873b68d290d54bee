/-
  Walks: what functions of the program compute. Printed by wip/gen/mk2.py.
  Conditions: none.
-/
import Derived.Test.YtgoggemkajhloaaGreatDoorWH
import Derived.Test.YtgoggemkajhloaaGreatDoorGuard
set_option linter.unusedSimpArgs false
set_option linter.unusedVariables false
namespace Go.W
open Go Go.Eng Go.Proofs Go.L41 Go.Br
attribute [local irreducible] AWP RWP TD
theorem ok16 : callOk Tryz.prog 16 = true := by kernel_rfl
theorem ok17 : callOk Tryz.prog 17 = true := by kernel_rfl
theorem ok48 : callOk Tryz.prog 48 = true := by kernel_rfl
theorem ok49 : callOk Tryz.prog 49 = true := by kernel_rfl
theorem ok50 : callOk Tryz.prog 50 = true := by kernel_rfl
theorem ok51 : callOk Tryz.prog 51 = true := by kernel_rfl
theorem delta_conjuncts_step (c : Ex) (ih : ∀ x, x ∈ c.Args → partE x = 0 → x.wt ≤ 4294967296 → OwnR cfg 49 [vE x] 32 13 ((conjE x).map Ex.cells)) (hp : partE c = 0) (hw : c.wt ≤ 4294967296) :
    OwnR cfg 49 [vE c] 32 13 ((conjE c).map Ex.cells) := by
  refine con_intro Tryz.func49 rfl Tryz.ntmps49 Tryz.results49 rfl ?_
  intro z hz
  refine awp_seq ?_
  refine awp_region rfl ?_
  refine rwp_op rfl rfl (ope_box rfl rfl) ?_
  rintro _ _ ⟨b1, rfl, rfl⟩
  refine rwp_det rfl rfl (det_assignN 13 rfl rfl) ?_
  refine rwp_nil ?_
  refine awp_seq ?_
  refine awp_seq ?_
  refine awp_region rfl ?_
  refine rwp_det rfl rfl (det_field_lit rfl fd32_0 rfl) ?_
  refine rwp_det rfl rfl (det_load_one rfl one3 rfl (ptr_row 0 rfl) rfl) ?_
  refine rwp_det rfl rfl (det_neq rfl rfl rfl) ?_
  refine rwp_nil ?_
  refine awp_cond rfl (fun c1 => ?_) (fun c1 => ?_)
  · try simp only [decide_eq_true_eq, decide_eq_false_iff_not, Bool.not_eq_true', Bool.not_eq_false', Bool.and_eq_true, Bool.or_eq_true, Bool.and_eq_false_iff, Bool.or_eq_false_iff, Int.not_lt, Int.not_le, List.length_map] at c1
    refine awp_seq ?_
    refine awp_region rfl ?_
    refine rwp_det rfl rfl (det_load_agg rfl agg32 rfl (ptr_row 0 rfl) rfl) ?_
    refine rwp_op rfl rfl (ope_bslice rfl el30 zr32 rfl rfl rfl rfl) ?_
    rintro _ _ ⟨sv2, rfl, rfl⟩
    refine rwp_det rfl rfl (det_assign rfl rfl) ?_
    refine rwp_nil ?_
    refine awp_weak _ (Weak.mem [true, false] rfl) ?_
    refine awp_ret ?_
    repeat (first | refine thenQ_ret ?_ | refine blockQ_ret ?_)
    refine fin1 (rs_c rfl) ?_
    exact ⟨_, rfl, by rw [conj_one c1, ← map_cs]; rfl⟩
  · try simp only [decide_eq_true_eq, decide_eq_false_iff_not, Bool.not_eq_true', Bool.not_eq_false', Bool.and_eq_true, Bool.or_eq_true, Bool.and_eq_false_iff, Bool.or_eq_false_iff, Int.not_lt, Int.not_le, List.length_map] at c1
    obtain ⟨a, b, hab, hPa, hPb⟩ := two_args hp (by rw [c1]; rfl)
    have ha0 : c.Args[0]? = some a := by rw [hab]; rfl
    have hb0 : c.Args[1]? = some b := by rw [hab]; rfl
    have hwa := Ex.arg_wt (mem_of_get ha0)
    have hwb := Ex.arg_wt (mem_of_get hb0)
    have hla := conjm_len a
    have hlb := conjm_len b
    refine awp_skip ?_
    refine awp_seq ?_
    refine awp_draw_f 10 [.q, .q, .q, .q, .f, .q, .q, .q, .q, .q] Mall mixed (by kernel_rfl) rfl rfl rfl ?_
    refine tdq_det rfl rfl (det_field_lit rfl fd32_6 rfl) ?_
    refine tdq_det rfl rfl (det_load_one rfl one30 rfl (ptr_row 0 rfl) rfl) ?_
    refine tdq_det rfl rfl (det_index_sl rfl el30 rfl rfl (by omega) (getmE ha0)) ?_
    refine tdq_det rfl rfl (det_load_agg rfl agg32 rfl ptr_imm rfl) ?_
    refine tdq_skip ?_
    refine tdq_det rfl rfl (det_field_lit rfl fd32_6 rfl) ?_
    refine tdq_det rfl rfl (det_load_one rfl one30 rfl (ptr_row 0 rfl) rfl) ?_
    refine tdq_det rfl rfl (det_index_sl rfl el30 rfl rfl (by omega) (getmE hb0)) ?_
    refine tdq_det rfl rfl (det_load_agg rfl agg32 rfl ptr_imm rfl) ?_
    refine tdq_det rfl rfl (det_call rfl ok49 (OwnR.pur (ih b (mem_of_get hb0) hPb (by omega))) ⟨VLe.refl _, rfl, trivial⟩) ?_
    refine tdq_nil ?_
    refine tdf_q ?_
    refine tdf_q ?_
    refine tdf_q ?_
    refine tdf_q ?_
    refine tdf_fresh (fresh_own (ope_call_own rfl ok49 (ih a (mem_of_get ha0) hPa (by omega)) ⟨VLe.refl _, rfl, trivial⟩)) ?_
    refine tdf_q ?_
    refine tdf_q ?_
    refine tdf_q ?_
    refine tdf_q ?_
    refine tdf_q ?_
    refine tdf_nil ?_
    refine allch_cons ?_
    rintro _ _ ⟨sv3, rfl, rfl⟩
    refine allch_nil ?_
    refine ⟨_, ope_append 0 rfl el30 rfl rfl rfl (by first | omega | (simp only [List.length_append, List.length_nil]; omega)) (by first | omega | (simp only [List.length_append, List.length_nil]; omega)), (fun _ _ _ => trivial), ?_⟩
    rintro _ _ ⟨sv4, rfl, rfl⟩
    refine rwp_det rfl rfl (det_assign rfl rfl) ?_
    refine rwp_nil ?_
    refine awp_weak _ (Weak.mem [true, false] rfl) ?_
    refine awp_ret ?_
    repeat (first | refine thenQ_ret ?_ | refine blockQ_ret ?_)
    refine fin1 (rs_c rfl) ?_
    exact ⟨_, rfl, by rw [conj_two c1 hab, List.map_append]; rfl⟩

theorem delta_conjuncts (c : Ex) (hp : partE c = 0) (hw : c.wt ≤ 4294967296) : OwnR cfg 49 [vE c] 32 13 ((conjE c).map Ex.cells) := by
  induction c using Ex.ind with
  | _ c ih => exact delta_conjuncts_step c (fun x hx h1 h2 => ih x hx h1 h2) hp hw

theorem ref22_conjuncts_step (c : Ex) (ih : ∀ x, x ∈ c.Args → partE x = 0 → x.wt ≤ 4294967296 → OwnR cfg 51 [vE x] 32 13 ((conjE x).map Ex.cells)) (hp : partE c = 0) (hw : c.wt ≤ 4294967296) :
    OwnR cfg 51 [vE c] 32 13 ((conjE c).map Ex.cells) := by
  refine con_intro Tryz.func51 rfl Tryz.ntmps51 Tryz.results51 rfl ?_
  intro z hz
  refine awp_seq ?_
  refine awp_region rfl ?_
  refine rwp_op rfl rfl (ope_box rfl rfl) ?_
  rintro _ _ ⟨b1, rfl, rfl⟩
  refine rwp_det rfl rfl (det_assignN 13 rfl rfl) ?_
  refine rwp_nil ?_
  refine awp_seq ?_
  refine awp_seq ?_
  refine awp_region rfl ?_
  refine rwp_det rfl rfl (det_field_lit rfl fd32_0 rfl) ?_
  refine rwp_det rfl rfl (det_load_one rfl one3 rfl (ptr_row 0 rfl) rfl) ?_
  refine rwp_det rfl rfl (det_neq rfl rfl rfl) ?_
  refine rwp_nil ?_
  refine awp_cond rfl (fun c1 => ?_) (fun c1 => ?_)
  · try simp only [decide_eq_true_eq, decide_eq_false_iff_not, Bool.not_eq_true', Bool.not_eq_false', Bool.and_eq_true, Bool.or_eq_true, Bool.and_eq_false_iff, Bool.or_eq_false_iff, Int.not_lt, Int.not_le, List.length_map] at c1
    refine awp_seq ?_
    refine awp_region rfl ?_
    refine rwp_det rfl rfl (det_load_agg rfl agg32 rfl (ptr_row 0 rfl) rfl) ?_
    refine rwp_op rfl rfl (ope_bslice rfl el30 zr32 rfl rfl rfl rfl) ?_
    rintro _ _ ⟨sv2, rfl, rfl⟩
    refine rwp_det rfl rfl (det_assign rfl rfl) ?_
    refine rwp_nil ?_
    refine awp_weak _ (Weak.mem [true, false] rfl) ?_
    refine awp_ret ?_
    repeat (first | refine thenQ_ret ?_ | refine blockQ_ret ?_)
    refine fin1 (rs_c rfl) ?_
    exact ⟨_, rfl, by rw [conj_one c1, ← map_cs]; rfl⟩
  · try simp only [decide_eq_true_eq, decide_eq_false_iff_not, Bool.not_eq_true', Bool.not_eq_false', Bool.and_eq_true, Bool.or_eq_true, Bool.and_eq_false_iff, Bool.or_eq_false_iff, Int.not_lt, Int.not_le, List.length_map] at c1
    obtain ⟨a, b, hab, hPa, hPb⟩ := two_args hp (by rw [c1]; rfl)
    have ha0 : c.Args[0]? = some a := by rw [hab]; rfl
    have hb0 : c.Args[1]? = some b := by rw [hab]; rfl
    have hwa := Ex.arg_wt (mem_of_get ha0)
    have hwb := Ex.arg_wt (mem_of_get hb0)
    have hla := conjm_len a
    have hlb := conjm_len b
    refine awp_skip ?_
    refine awp_seq ?_
    refine awp_region rfl ?_
    refine rwp_det rfl rfl (det_assign rfl rfl) ?_
    refine rwp_weak _ (weak_own 32 13) ?_
    refine rwp_nil ?_
    refine awp_seq ?_
    refine awp_region rfl ?_
    refine rwp_det rfl rfl (det_move rfl rfl) ?_
    refine rwp_det rfl rfl (det_field_lit rfl fd32_6 rfl) ?_
    refine rwp_det rfl rfl (det_load_one rfl one30 rfl (ptr_row 1 rfl) rfl) ?_
    refine rwp_det rfl rfl (det_index_sl rfl el30 rfl rfl (by omega) (getmE ha0)) ?_
    refine rwp_det rfl rfl (det_load_agg rfl agg32 rfl ptr_imm rfl) ?_
    refine rwp_det rfl rfl (det_call rfl ok51 (OwnR.pur (ih a (mem_of_get ha0) hPa (by omega))) ⟨VLe.refl _, rfl, trivial⟩) ?_
    refine rwp_op rfl rfl (ope_append 0 rfl el30 rfl rfl rfl (by first | omega | (simp only [List.length_append, List.length_nil]; omega)) (by first | omega | (simp only [List.length_append, List.length_nil]; omega))) ?_
    rintro _ _ ⟨sv4, rfl, rfl⟩
    refine rwp_det rfl rfl (det_assign rfl rfl) ?_
    refine rwp_nil ?_
    refine awp_seq ?_
    refine awp_region rfl ?_
    refine rwp_det rfl rfl (det_move rfl rfl) ?_
    refine rwp_det rfl rfl (det_field_lit rfl fd32_6 rfl) ?_
    refine rwp_det rfl rfl (det_load_one rfl one30 rfl (ptr_row 1 rfl) rfl) ?_
    refine rwp_det rfl rfl (det_index_sl rfl el30 rfl rfl (by omega) (getmE hb0)) ?_
    refine rwp_det rfl rfl (det_load_agg rfl agg32 rfl ptr_imm rfl) ?_
    refine rwp_det rfl rfl (det_call rfl ok51 (OwnR.pur (ih b (mem_of_get hb0) hPb (by omega))) ⟨VLe.refl _, rfl, trivial⟩) ?_
    refine rwp_op rfl rfl (ope_append 0 rfl el30 rfl rfl rfl (by first | omega | (simp only [List.length_append, List.length_nil]; omega)) (by first | omega | (simp only [List.length_append, List.length_nil]; omega))) ?_
    rintro _ _ ⟨sv5, rfl, rfl⟩
    refine rwp_det rfl rfl (det_assign rfl rfl) ?_
    refine rwp_nil ?_
    refine awp_seq ?_
    refine awp_region rfl ?_
    refine rwp_det rfl rfl (det_move rfl rfl) ?_
    refine rwp_det rfl rfl (det_assign rfl rfl) ?_
    refine rwp_nil ?_
    refine awp_weak _ (Weak.mem [true, false] rfl) ?_
    refine awp_ret ?_
    repeat (first | refine thenQ_ret ?_ | refine blockQ_ret ?_)
    refine fin1 (rs_c rfl) ?_
    exact ⟨_, rfl, by rw [conj_two c1 hab, List.map_append]; rfl⟩

theorem ref22_conjuncts (c : Ex) (hp : partE c = 0) (hw : c.wt ≤ 4294967296) : OwnR cfg 51 [vE c] 32 13 ((conjE c).map Ex.cells) := by
  induction c using Ex.ind with
  | _ c ih => exact ref22_conjuncts_step c (fun x hx h1 h2 => ih x hx h1 h2) hp hw

theorem delta_Guard (e : Ex) (he : e.wt ≤ 4294967296) :
    Pur cfg 16 [vE e] (.tup [vEs (guardT e).conds, vE (guardT e).val, vB (guardT e).ok]) := by
  refine con_intro Tryz.func16 rfl Tryz.ntmps16 Tryz.results16 rfl ?_
  intro z hz
  refine awp_seq ?_
  refine awp_region rfl ?_
  refine rwp_op rfl rfl (ope_box rfl rfl) ?_
  rintro _ _ ⟨b1, rfl, rfl⟩
  refine rwp_det rfl rfl (det_assignN 13 rfl rfl) ?_
  refine rwp_op rfl rfl (ope_allocN [none, none, none, none, none, none, none, none, none, none, some 2, some 4, some 13] rfl zr32 rfl) ?_
  rintro _ _ ⟨b2, rfl, rfl⟩
  refine rwp_det rfl rfl (det_assign rfl rfl) ?_
  refine rwp_nil ?_
  refine awp_seq ?_
  refine awp_seq ?_
  refine awp_region rfl ?_
  refine rwp_det rfl rfl (det_load_agg rfl agg32 rfl (ptr_row 1 rfl) rfl) ?_
  refine rwp_det rfl rfl (det_call rfl ok36 (expr_Validate e he) ⟨VLe.refl _, rfl, trivial⟩) ?_
  refine rwp_det rfl rfl (det_neq rfl rfl rfl) ?_
  refine rwp_det rfl rfl (det_move rfl rfl) ?_
  refine rwp_lazy [] rfl rfl rfl rfl gv1 trivial (fun g1_3 => det_field_lit rfl fd32_0 rfl) rfl ?_
  refine rwp_lazy [(10, _)] rfl rfl rfl rfl gv1 ⟨rfl, rfl, trivial⟩ (fun g1_3 => det_load_one rfl one3 rfl (ptr_row 1 rfl) rfl) rfl ?_
  refine rwp_lazy [(11, _)] rfl rfl rfl rfl gv1 ⟨rfl, rfl, trivial⟩ (fun g1_3 => det_neq rfl rfl rfl) rfl ?_
  refine rwp_det rfl rfl (det_or rfl rfl rfl rfl (fun h => (lzf h))) ?_
  refine rwp_nil ?_
  refine awp_cond rfl (fun c1 => ?_) (fun c1 => ?_)
  · try simp only [decide_eq_true_eq, decide_eq_false_iff_not, Bool.not_eq_true', Bool.not_eq_false', Bool.and_eq_true, Bool.or_eq_true, Bool.and_eq_false_iff, Bool.or_eq_false_iff, Int.not_lt, Int.not_le, List.length_map] at c1
    have hS : guardT e = zG := by simp only [guardT, guard_c1 c1]; rfl
    refine awp_seq ?_
    refine awp_region rfl ?_
    refine rwp_det rfl rfl (det_buildN [none, none, none, none, none, none, none, none, none, none, some 2, some 4, some 13] rfl zr32 pl32 rfl rfl) ?_
    refine rwp_det rfl rfl (det_assignN 13 rfl rfl) ?_
    refine rwp_det0 rfl rfl (det_store rfl sz32 rfl rfl rfl (st_row 0 rfl rfl)) ?_
    refine rwp_det rfl rfl (det_assign rfl rfl) ?_
    refine rwp_nil ?_
    refine awp_ret ?_
    repeat (first | refine thenQ_ret ?_ | refine blockQ_ret ?_)
    refine fin3 (rs_c rfl) (rs_cell_agg agg32 rfl (ptr_row 0 rfl) rfl) (rs_c rfl) ?_
    rw [hS]; rfl
  · try simp only [decide_eq_true_eq, decide_eq_false_iff_not, Bool.not_eq_true', Bool.not_eq_false', Bool.and_eq_true, Bool.or_eq_true, Bool.and_eq_false_iff, Bool.or_eq_false_iff, Int.not_lt, Int.not_le, List.length_map] at c1
    obtain ⟨hv, hop⟩ := c1
    have hP := valid_part hv
    obtain ⟨a, b, z, habc, hPa, hPb, hPz⟩ := three_args hP (by rw [hop]; rfl)
    have ha0 : e.Args[0]? = some a := by rw [habc]; rfl
    have hb0 : e.Args[1]? = some b := by rw [habc]; rfl
    have hz0 : e.Args[2]? = some z := by rw [habc]; rfl
    have hwa := Ex.arg_wt (mem_of_get ha0)
    have hS : guardT e = guardA a b z := by simp only [guardT, hv, hop, argN, habc]; rfl
    refine awp_skip ?_
    refine awp_seq ?_
    refine awp_region rfl ?_
    refine rwp_det rfl rfl (det_field_lit rfl fd32_6 rfl) ?_
    refine rwp_det rfl rfl (det_load_one rfl one30 rfl (ptr_row 1 rfl) rfl) ?_
    refine rwp_det rfl rfl (det_index_sl rfl el30 rfl rfl (by omega) (getmE hz0)) ?_
    refine rwp_det rfl rfl (det_load_agg rfl agg32 rfl ptr_imm rfl) ?_
    refine rwp_op rfl rfl (ope_allocN [none, none, none, none, none, none, none, none, none, none, some 2, some 4, some 13] rfl zr32 rfl) ?_
    rintro _ _ ⟨b3, rfl, rfl⟩
    refine rwp_det0 rfl rfl (det_store rfl sz32 rfl rfl rfl (st_row 0 rfl rfl)) ?_
    refine rwp_nil ?_
    refine awp_seq ?_
    refine awp_seq ?_
    refine awp_draw 11 mixed (by kernel_rfl) rfl rfl ?_
    refine td_det rfl rfl (det_field_lit rfl fd32_0 rfl) ?_
    refine td_det rfl rfl (det_load_one rfl one3 rfl (ptr_row 0 rfl) rfl) ?_
    refine td_det rfl rfl (det_neq rfl rfl rfl) ?_
    refine td_det rfl rfl (det_move rfl rfl) ?_
    refine td_lazy [] rfl rfl rfl rfl gv1 trivial (fun g4_3 => det_field_lit rfl fd32_2 rfl) rfl ?_
    refine td_lazy [(23, _)] rfl rfl rfl rfl gv1 ⟨rfl, rfl, trivial⟩ (fun g4_3 => det_load_agg rfl agg23 rfl (ptr_row 0 rfl) rfl) rfl ?_
    refine td_lazy [] rfl rfl rfl rfl gv1 trivial (fun g4_3 => det_field_lit rfl fd32_3 rfl) rfl ?_
    refine td_lazy [(25, _)] rfl rfl rfl rfl gv1 ⟨rfl, rfl, trivial⟩ (fun g4_3 => det_load_agg rfl agg25 rfl (ptr_row 0 rfl) rfl) rfl ?_
    refine td_lazy [(26, _)] rfl rfl rfl rfl gv1 ⟨rfl, rfl, trivial⟩ (fun g4_3 => det_call rfl ok48 (value_Zero _) ⟨VLe.refl _, rfl, trivial⟩) rfl ?_
    refine td_lazy [(24, _), (27, _)] rfl rfl rfl rfl gv1 ⟨rfl, rfl, rfl, rfl, trivial⟩ (fun g4_3 => det_aneq rfl fl23 rfl rfl rfl) rfl ?_
    refine td_det rfl rfl (det_or rfl rfl rfl rfl (fun h => (lzf h))) ?_
    refine td_nil ?_
    refine rwp_nil ?_
    refine awp_cond rfl (fun c2 => ?_) (fun c2 => ?_)
    · refine awp_seq ?_
      refine awp_region rfl ?_
      refine rwp_det rfl rfl (det_buildN [none, none, none, none, none, none, none, none, none, none, some 2, some 4, some 13] rfl zr32 pl32 rfl rfl) ?_
      refine rwp_det rfl rfl (det_assignN 13 rfl rfl) ?_
      refine rwp_det0 rfl rfl (det_store rfl sz32 rfl rfl rfl (st_row 1 rfl rfl)) ?_
      refine rwp_det rfl rfl (det_assign rfl rfl) ?_
      refine rwp_nil ?_
      refine awp_ret ?_
      repeat (first | refine thenQ_ret ?_ | refine blockQ_ret ?_)
      refine fin3 (rs_c rfl) (rs_cell_agg agg32 rfl (ptr_row 1 rfl) rfl) (rs_c rfl) ?_
      rw [hS, guardA, guard_no c2]; rfl
    · refine awp_skip ?_
      refine awp_seq ?_
      refine awp_region rfl ?_
      refine rwp_det rfl rfl (det_load_agg rfl agg32 rfl (ptr_row 2 rfl) rfl) ?_
      refine rwp_det rfl rfl (det_call rfl ok27 (expr_Copy e he) ⟨VLe.refl _, rfl, trivial⟩) ?_
      refine rwp_det0 rfl rfl (det_store rfl sz32 rfl rfl rfl (st_row 2 rfl rfl)) ?_
      refine rwp_nil ?_
      refine awp_seq ?_
      refine awp_draw 10 mixed (by kernel_rfl) rfl rfl ?_
      refine td_det rfl rfl (det_field_lit rfl fd32_6 rfl) ?_
      refine td_det rfl rfl (det_load_one rfl one30 rfl (ptr_row 2 rfl) rfl) ?_
      refine td_det rfl rfl (det_index_sl rfl el30 rfl rfl (by omega) (getmE ha0)) ?_
      refine td_det rfl rfl (det_load_agg rfl agg32 rfl ptr_imm rfl) ?_
      refine td_det rfl rfl (det_call rfl ok49 (OwnR.pur (delta_conjuncts a hPa (by omega))) ⟨VLe.refl _, rfl, trivial⟩) ?_
      refine td_det rfl rfl (det_field_lit rfl fd32_6 rfl) ?_
      refine td_det rfl rfl (det_load_one rfl one30 rfl (ptr_row 2 rfl) rfl) ?_
      refine td_det rfl rfl (det_index_sl rfl el30 rfl rfl (by omega) (getmE hb0)) ?_
      refine td_det rfl rfl (det_load_agg rfl agg32 rfl ptr_imm rfl) ?_
      refine td_det rfl rfl (det_assign rfl rfl) ?_
      refine td_nil ?_
      refine rwp_det0 rfl rfl (det_store rfl sz32 rfl rfl rfl (st_row 1 rfl rfl)) ?_
      refine rwp_det rfl rfl (det_assign rfl rfl) ?_
      refine rwp_nil ?_
      refine awp_ret ?_
      repeat (first | refine thenQ_ret ?_ | refine blockQ_ret ?_)
      refine fin3 (rs_c rfl) (rs_cell_agg agg32 rfl (ptr_row 1 rfl) rfl) (rs_c rfl) ?_
      rw [hS, guardA, guard_yes c2]; rfl

theorem ref22_Guard (e : Ex) (he : e.wt ≤ 4294967296) :
    Pur cfg 17 [vE e] (.tup [vEs (guardT e).conds, vE (guardT e).val, vB (guardT e).ok]) := by
  refine con_intro Tryz.func17 rfl Tryz.ntmps17 Tryz.results17 rfl ?_
  intro z hz
  refine awp_seq ?_
  refine awp_region rfl ?_
  refine rwp_op rfl rfl (ope_box rfl rfl) ?_
  rintro _ _ ⟨b1, rfl, rfl⟩
  refine rwp_det rfl rfl (det_assignN 13 rfl rfl) ?_
  refine rwp_op rfl rfl (ope_allocN [none, none, none, none, none, none, none, none, none, none, some 2, some 4, some 13] rfl zr32 rfl) ?_
  rintro _ _ ⟨b2, rfl, rfl⟩
  refine rwp_det rfl rfl (det_assign rfl rfl) ?_
  refine rwp_nil ?_
  refine awp_seq ?_
  refine awp_seq ?_
  refine awp_region rfl ?_
  refine rwp_det rfl rfl (det_load_agg rfl agg32 rfl (ptr_row 1 rfl) rfl) ?_
  refine rwp_det rfl rfl (det_call rfl ok33 (ref14_Validate e he) ⟨VLe.refl _, rfl, trivial⟩) ?_
  refine rwp_det rfl rfl (det_neq rfl rfl rfl) ?_
  refine rwp_det rfl rfl (det_move rfl rfl) ?_
  refine rwp_lazy [] rfl rfl rfl rfl gv1 trivial (fun g1_3 => det_field_lit rfl fd32_0 rfl) rfl ?_
  refine rwp_lazy [(10, _)] rfl rfl rfl rfl gv1 ⟨rfl, rfl, trivial⟩ (fun g1_3 => det_load_one rfl one3 rfl (ptr_row 1 rfl) rfl) rfl ?_
  refine rwp_lazy [(11, _)] rfl rfl rfl rfl gv1 ⟨rfl, rfl, trivial⟩ (fun g1_3 => det_neq rfl rfl rfl) rfl ?_
  refine rwp_det rfl rfl (det_or rfl rfl rfl rfl (fun h => (lzf h))) ?_
  refine rwp_nil ?_
  refine awp_cond rfl (fun c1 => ?_) (fun c1 => ?_)
  · try simp only [decide_eq_true_eq, decide_eq_false_iff_not, Bool.not_eq_true', Bool.not_eq_false', Bool.and_eq_true, Bool.or_eq_true, Bool.and_eq_false_iff, Bool.or_eq_false_iff, Int.not_lt, Int.not_le, List.length_map] at c1
    have hS : guardT e = zG := by simp only [guardT, guard_c1 c1]; rfl
    refine awp_seq ?_
    refine awp_region rfl ?_
    refine rwp_det rfl rfl (det_buildN [none, none, none, none, none, none, none, none, none, none, some 2, some 4, some 13] rfl zr32 pl32 rfl rfl) ?_
    refine rwp_det rfl rfl (det_assignN 13 rfl rfl) ?_
    refine rwp_det0 rfl rfl (det_store rfl sz32 rfl rfl rfl (st_row 0 rfl rfl)) ?_
    refine rwp_det rfl rfl (det_assign rfl rfl) ?_
    refine rwp_nil ?_
    refine awp_ret ?_
    repeat (first | refine thenQ_ret ?_ | refine blockQ_ret ?_)
    refine fin3 (rs_c rfl) (rs_cell_agg agg32 rfl (ptr_row 0 rfl) rfl) (rs_c rfl) ?_
    rw [hS]; rfl
  · try simp only [decide_eq_true_eq, decide_eq_false_iff_not, Bool.not_eq_true', Bool.not_eq_false', Bool.and_eq_true, Bool.or_eq_true, Bool.and_eq_false_iff, Bool.or_eq_false_iff, Int.not_lt, Int.not_le, List.length_map] at c1
    obtain ⟨hv, hop⟩ := c1
    have hP := valid_part hv
    obtain ⟨a, b, z, habc, hPa, hPb, hPz⟩ := three_args hP (by rw [hop]; rfl)
    have ha0 : e.Args[0]? = some a := by rw [habc]; rfl
    have hb0 : e.Args[1]? = some b := by rw [habc]; rfl
    have hz0 : e.Args[2]? = some z := by rw [habc]; rfl
    have hwa := Ex.arg_wt (mem_of_get ha0)
    have hS : guardT e = guardA a b z := by simp only [guardT, hv, hop, argN, habc]; rfl
    refine awp_skip ?_
    refine awp_seq ?_
    refine awp_region rfl ?_
    refine rwp_det rfl rfl (det_field_lit rfl fd32_6 rfl) ?_
    refine rwp_det rfl rfl (det_load_one rfl one30 rfl (ptr_row 1 rfl) rfl) ?_
    refine rwp_det rfl rfl (det_index_sl rfl el30 rfl rfl (by omega) (getmE hz0)) ?_
    refine rwp_det rfl rfl (det_load_agg rfl agg32 rfl ptr_imm rfl) ?_
    refine rwp_op rfl rfl (ope_allocN [none, none, none, none, none, none, none, none, none, none, some 2, some 4, some 13] rfl zr32 rfl) ?_
    rintro _ _ ⟨b3, rfl, rfl⟩
    refine rwp_det0 rfl rfl (det_store rfl sz32 rfl rfl rfl (st_row 0 rfl rfl)) ?_
    refine rwp_nil ?_
    refine awp_seq ?_
    refine awp_seq ?_
    refine awp_draw 11 mixed (by kernel_rfl) rfl rfl ?_
    refine td_det rfl rfl (det_field_lit rfl fd32_0 rfl) ?_
    refine td_det rfl rfl (det_load_one rfl one3 rfl (ptr_row 0 rfl) rfl) ?_
    refine td_det rfl rfl (det_neq rfl rfl rfl) ?_
    refine td_det rfl rfl (det_move rfl rfl) ?_
    refine td_lazy [] rfl rfl rfl rfl gv1 trivial (fun g4_3 => det_field_lit rfl fd32_2 rfl) rfl ?_
    refine td_lazy [(23, _)] rfl rfl rfl rfl gv1 ⟨rfl, rfl, trivial⟩ (fun g4_3 => det_load_agg rfl agg23 rfl (ptr_row 0 rfl) rfl) rfl ?_
    refine td_lazy [] rfl rfl rfl rfl gv1 trivial (fun g4_3 => det_field_lit rfl fd32_3 rfl) rfl ?_
    refine td_lazy [(25, _)] rfl rfl rfl rfl gv1 ⟨rfl, rfl, trivial⟩ (fun g4_3 => det_load_agg rfl agg25 rfl (ptr_row 0 rfl) rfl) rfl ?_
    refine td_lazy [(26, _)] rfl rfl rfl rfl gv1 ⟨rfl, rfl, trivial⟩ (fun g4_3 => det_call rfl ok50 (ref04_Zero _) ⟨VLe.refl _, rfl, trivial⟩) rfl ?_
    refine td_lazy [(24, _), (27, _)] rfl rfl rfl rfl gv1 ⟨rfl, rfl, rfl, rfl, trivial⟩ (fun g4_3 => det_aneq rfl fl23 rfl rfl rfl) rfl ?_
    refine td_det rfl rfl (det_or rfl rfl rfl rfl (fun h => (lzf h))) ?_
    refine td_nil ?_
    refine rwp_nil ?_
    refine awp_cond rfl (fun c2 => ?_) (fun c2 => ?_)
    · refine awp_seq ?_
      refine awp_region rfl ?_
      refine rwp_det rfl rfl (det_buildN [none, none, none, none, none, none, none, none, none, none, some 2, some 4, some 13] rfl zr32 pl32 rfl rfl) ?_
      refine rwp_det rfl rfl (det_assignN 13 rfl rfl) ?_
      refine rwp_det0 rfl rfl (det_store rfl sz32 rfl rfl rfl (st_row 1 rfl rfl)) ?_
      refine rwp_det rfl rfl (det_assign rfl rfl) ?_
      refine rwp_nil ?_
      refine awp_ret ?_
      repeat (first | refine thenQ_ret ?_ | refine blockQ_ret ?_)
      refine fin3 (rs_c rfl) (rs_cell_agg agg32 rfl (ptr_row 1 rfl) rfl) (rs_c rfl) ?_
      rw [hS, guardA, guard_no c2]; rfl
    · refine awp_skip ?_
      refine awp_seq ?_
      refine awp_draw 10 mixed (by kernel_rfl) rfl rfl ?_
      refine td_det rfl rfl (det_field_lit rfl fd32_6 rfl) ?_
      refine td_det rfl rfl (det_load_one rfl one30 rfl (ptr_row 2 rfl) rfl) ?_
      refine td_det rfl rfl (det_index_sl rfl el30 rfl rfl (by omega) (getmE ha0)) ?_
      refine td_det rfl rfl (det_load_agg rfl agg32 rfl ptr_imm rfl) ?_
      refine td_det rfl rfl (det_call rfl ok51 (OwnR.pur (ref22_conjuncts a hPa (by omega))) ⟨VLe.refl _, rfl, trivial⟩) ?_
      refine td_det rfl rfl (det_field_lit rfl fd32_6 rfl) ?_
      refine td_det rfl rfl (det_load_one rfl one30 rfl (ptr_row 2 rfl) rfl) ?_
      refine td_det rfl rfl (det_index_sl rfl el30 rfl rfl (by omega) (getmE hb0)) ?_
      refine td_det rfl rfl (det_load_agg rfl agg32 rfl ptr_imm rfl) ?_
      refine td_det rfl rfl (det_assign rfl rfl) ?_
      refine td_nil ?_
      refine rwp_det0 rfl rfl (det_store rfl sz32 rfl rfl rfl (st_row 1 rfl rfl)) ?_
      refine rwp_det rfl rfl (det_assign rfl rfl) ?_
      refine rwp_nil ?_
      refine awp_ret ?_
      repeat (first | refine thenQ_ret ?_ | refine blockQ_ret ?_)
      refine fin3 (rs_c rfl) (rs_cell_agg agg32 rfl (ptr_row 1 rfl) rfl) (rs_c rfl) ?_
      rw [hS, guardA, guard_yes c2]; rfl

theorem law_DeltaGuards (e : Ex) (hf : e.fit) :
    Pur cfg 4 [vE e] (vB true) := by
  refine con_intro Tryz.func4 rfl Tryz.ntmps4 Tryz.results4 rfl ?_
  intro z hz
  refine awp_seq ?_
  refine awp_region rfl ?_
  refine rwp_op rfl rfl (ope_box rfl rfl) ?_
  rintro _ _ ⟨b1, rfl, rfl⟩
  refine rwp_det rfl rfl (det_assign rfl rfl) ?_
  refine rwp_nil ?_
  refine awp_seq ?_
  refine awp_seq ?_
  refine awp_region rfl ?_
  refine rwp_det rfl rfl (det_load_agg rfl agg32 rfl (ptr_row 0 rfl) rfl) ?_
  refine rwp_det rfl rfl (det_call rfl ok11 (base_Weigh e 300 300 hf (by omega) rfl) ⟨VLe.refl _, rfl, VLe.refl _, rfl, trivial⟩) ?_
  refine rwp_det rfl rfl (det_gtr rfl rfl rfl) ?_
  refine rwp_nil ?_
  refine awp_cond rfl (fun c1 => ?_) (fun c1 => ?_)
  · try simp only [decide_eq_true_eq, decide_eq_false_iff_not, Bool.not_eq_true', Bool.not_eq_false', Bool.and_eq_true, Bool.or_eq_true, Bool.and_eq_false_iff, Bool.or_eq_false_iff, Int.not_lt, Int.not_le, List.length_map] at c1
    refine awp_seq ?_
    refine awp_region rfl ?_
    refine rwp_det rfl rfl (det_call rfl ok12 (law22_alive) trivial) ?_
    refine rwp_det rfl rfl (det_assign rfl rfl) ?_
    refine rwp_nil ?_
    refine awp_ret ?_
    repeat (first | refine thenQ_ret ?_ | refine blockQ_ret ?_)
    refine fin1 (rs_c rfl) ?_
    rfl
  · try simp only [decide_eq_true_eq, decide_eq_false_iff_not, Bool.not_eq_true', Bool.not_eq_false', Bool.and_eq_true, Bool.or_eq_true, Bool.and_eq_false_iff, Bool.or_eq_false_iff, Int.not_lt, Int.not_le, List.length_map] at c1
    have hw := weighE_wt e 300 (by omega)
    obtain ⟨hl1, hl2⟩ := guard_wt e
    refine awp_skip ?_
    refine awp_seq ?_
    refine awp_region rfl ?_
    refine rwp_det rfl rfl (det_load_agg rfl agg32 rfl (ptr_row 0 rfl) rfl) ?_
    refine rwp_det rfl rfl (det_call rfl ok16 (delta_Guard e (by omega)) ⟨VLe.refl _, rfl, trivial⟩) ?_
    refine rwp_det rfl rfl (det_move_tup rfl rfl) ?_
    refine rwp_det rfl rfl (det_ex_c rfl rfl rfl) ?_
    refine rwp_det rfl rfl (det_ex_agg rfl rfl rfl) ?_
    refine rwp_det rfl rfl (det_ex_c rfl rfl rfl) ?_
    refine rwp_op rfl rfl (ope_allocN [none, none, none, none, none, none, none, none, none, none, some 2, some 4, some 13] rfl zr32 rfl) ?_
    rintro _ _ ⟨b2, rfl, rfl⟩
    refine rwp_det rfl rfl (det_assign rfl rfl) ?_
    refine rwp_det0 rfl rfl (det_store rfl sz32 rfl rfl rfl (st_row 0 rfl rfl)) ?_
    refine rwp_det rfl rfl (det_assign rfl rfl) ?_
    refine rwp_nil ?_
    refine awp_seq ?_
    refine awp_region rfl ?_
    refine rwp_det rfl rfl (det_load_agg rfl agg32 rfl (ptr_row 1 rfl) rfl) ?_
    refine rwp_det rfl rfl (det_call rfl ok17 (ref22_Guard e (by omega)) ⟨VLe.refl _, rfl, trivial⟩) ?_
    refine rwp_det rfl rfl (det_move_tup rfl rfl) ?_
    refine rwp_det rfl rfl (det_ex_c rfl rfl rfl) ?_
    refine rwp_det rfl rfl (det_ex_agg rfl rfl rfl) ?_
    refine rwp_det rfl rfl (det_ex_c rfl rfl rfl) ?_
    refine rwp_op rfl rfl (ope_allocN [none, none, none, none, none, none, none, none, none, none, some 2, some 4, some 13] rfl zr32 rfl) ?_
    rintro _ _ ⟨b3, rfl, rfl⟩
    refine rwp_det rfl rfl (det_assign rfl rfl) ?_
    refine rwp_det0 rfl rfl (det_store rfl sz32 rfl rfl rfl (st_row 0 rfl rfl)) ?_
    refine rwp_det rfl rfl (det_assign rfl rfl) ?_
    refine rwp_nil ?_
    refine awp_seq ?_
    refine awp_region rfl ?_
    refine rwp_det rfl rfl (det_move rfl rfl) ?_
    refine rwp_det rfl rfl (det_move rfl rfl) ?_
    refine rwp_det rfl rfl (det_call rfl ok18 (base_Exprs _ _ (by omega)) ⟨VLe.refl _, rfl, VLe.refl _, rfl, trivial⟩) ?_
    refine rwp_det rfl rfl (det_move rfl rfl) ?_
    refine rwp_lazy [] rfl rfl rfl rfl gv1 trivial (fun g5_3 => det_load_agg rfl agg32 rfl (ptr_row 1 rfl) rfl) rfl ?_
    refine rwp_lazy [] rfl rfl rfl rfl gv1 trivial (fun g5_3 => det_load_agg rfl agg32 rfl (ptr_row 0 rfl) rfl) rfl ?_
    refine rwp_lazy [(29, _), (30, _)] rfl rfl rfl rfl gv1 ⟨rfl, rfl, rfl, rfl, trivial⟩ (fun g5_3 => det_call rfl ok19 (base_Expr _ _ (by omega)) ⟨VLe.refl _, rfl, VLe.refl _, rfl, trivial⟩) rfl ?_
    refine rwp_det rfl rfl (det_and rfl rfl rfl (fun h => h) rfl) ?_
    refine rwp_det rfl rfl (det_move rfl rfl) ?_
    refine rwp_lazy [] rfl rfl rfl rfl gv1 trivial (fun g5_8 => det_move rfl rfl) rfl ?_
    refine rwp_lazy [] rfl rfl rfl rfl gv1 trivial (fun g5_8 => det_move rfl rfl) rfl ?_
    refine rwp_lazy [(34, _), (35, _)] rfl rfl rfl rfl gv1 ⟨rfl, rfl, rfl, rfl, trivial⟩ (fun g5_8 => det_beql rfl un4 rfl rfl) rfl ?_
    refine rwp_det rfl rfl (det_and rfl rfl rfl (fun h => h) rfl) ?_
    refine rwp_det rfl rfl (det_move rfl rfl) ?_
    refine rwp_lazy [] rfl rfl rfl rfl gv1 trivial (fun g5_13 => det_call rfl ok12 (law22_alive) trivial) rfl ?_
    refine rwp_det rfl rfl (det_and rfl rfl rfl (fun h => h) rfl) ?_
    refine rwp_det rfl rfl (det_assign rfl rfl) ?_
    refine rwp_nil ?_
    refine awp_ret ?_
    repeat (first | refine thenQ_ret ?_ | refine blockQ_ret ?_)
    refine fin1 (rs_c rfl) ?_
    simp

end Go.W
