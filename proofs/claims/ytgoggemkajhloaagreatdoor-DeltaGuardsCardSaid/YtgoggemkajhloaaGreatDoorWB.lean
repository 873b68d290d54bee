/-
  Walks: what functions of the program compute. Printed by wip/gen/mk2.py.
  Conditions: none.
-/
import Derived.Test.YtgoggemkajhloaaGreatDoorWA
set_option linter.unusedSimpArgs false
set_option linter.unusedVariables false
namespace Go.W
open Go Go.Eng Go.Proofs Go.L41 Go.Br
attribute [local irreducible] AWP RWP TD
theorem agg23 : aggT Tryz.prog 23 = some 2 := by kernel_rfl
theorem agg25 : aggT Tryz.prog 25 = some 5 := by kernel_rfl
theorem fd23_0 : fieldT Tryz.prog 23 0 = some (0, 2) := by kernel_rfl
theorem fd23_1 : fieldT Tryz.prog 23 1 = some (1, 2) := by kernel_rfl
theorem fd25_0 : fieldT Tryz.prog 25 0 = some (0, 3) := by kernel_rfl
theorem fd25_1 : fieldT Tryz.prog 25 1 = some (1, 3) := by kernel_rfl
theorem fd25_2 : fieldT Tryz.prog 25 2 = some (2, 3) := by kernel_rfl
theorem fd25_3 : fieldT Tryz.prog 25 3 = some (3, 3) := by kernel_rfl
theorem fd25_4 : fieldT Tryz.prog 25 4 = some (4, 3) := by kernel_rfl
theorem fl25 : flatK Tryz.prog 25 = some [.int, .int, .int, .int, .int] := by kernel_rfl
theorem ik135 : intT Tryz.prog 135 = some .u64 := by kernel_rfl
theorem ik139 : intT Tryz.prog 139 = some .u64 := by kernel_rfl
theorem ok86 : callOk Tryz.prog 86 = true := by kernel_rfl
theorem ok87 : callOk Tryz.prog 87 = true := by kernel_rfl
theorem ok90 : callOk Tryz.prog 90 = true := by kernel_rfl
theorem ok91 : callOk Tryz.prog 91 = true := by kernel_rfl
theorem ok128 : callOk Tryz.prog 128 = true := by kernel_rfl
theorem ok129 : callOk Tryz.prog 129 = true := by kernel_rfl
theorem ok153 : callOk Tryz.prog 153 = true := by kernel_rfl
theorem ok154 : callOk Tryz.prog 154 = true := by kernel_rfl
theorem ok155 : callOk Tryz.prog 155 = true := by kernel_rfl
theorem ok159 : callOk Tryz.prog 159 = true := by kernel_rfl
theorem ok176 : callOk Tryz.prog 176 = true := by kernel_rfl
theorem ok177 : callOk Tryz.prog 177 = true := by kernel_rfl
theorem ok178 : callOk Tryz.prog 178 = true := by kernel_rfl
theorem ok179 : callOk Tryz.prog 179 = true := by kernel_rfl
theorem ok180 : callOk Tryz.prog 180 = true := by kernel_rfl
theorem ok190 : callOk Tryz.prog 190 = true := by kernel_rfl
theorem one3 : oneT Tryz.prog 3 = true := by kernel_rfl
theorem pl23 : placesT Tryz.prog 23 = some [(0, 1), (1, 1)] := by kernel_rfl
theorem pl25 : placesT Tryz.prog 25 = some [(0, 1), (1, 1), (2, 1), (3, 1), (4, 1)] := by kernel_rfl
theorem sz23 : (Tryz.prog.info? 23).map (·.size) = some 2 := by kernel_rfl
theorem us2 : (Tryz.prog.underlying 2).isSome = true := by kernel_rfl
theorem us3 : (Tryz.prog.underlying 3).isSome = true := by kernel_rfl
theorem zr23 : zeroT Tryz.prog 23 = some [(Value.int IntKind.i64 0), (Value.int IntKind.i64 0)] := by kernel_rfl
theorem zr25 : zeroT Tryz.prog 25 = some [(Value.int IntKind.i64 0), (Value.int IntKind.i64 0), (Value.int IntKind.i64 0), (Value.int IntKind.i64 0), (Value.int IntKind.i64 0)] := by kernel_rfl
theorem delta_contains (l : Lf) (s : ByteArray) (hl : l.L.length ≤ 4294967296) :
    Pur cfg 44 [vLin l, vS s] (vB (hasVar l.L s)) := by
  refine con_intro Tryz.func44 rfl Tryz.ntmps44 Tryz.results44 rfl ?_
  intro z hz
  refine awp_seq ?_
  refine awp_region rfl ?_
  refine rwp_op rfl rfl (ope_box rfl rfl) ?_
  rintro _ _ ⟨b1, rfl, rfl⟩
  refine rwp_op rfl rfl (ope_box rfl rfl) ?_
  rintro _ _ ⟨b2, rfl, rfl⟩
  refine rwp_det rfl rfl (det_assign rfl rfl) ?_
  refine rwp_nil ?_
  refine awp_seq ?_
  refine awp_region rfl ?_
  refine rwp_det rfl rfl (det_field_lit rfl fd28_1 rfl) ?_
  refine rwp_det rfl rfl (det_load_one rfl one26 rfl (ptr_row 1 rfl) rfl) ?_
  refine rwp_det rfl rfl (det_func rfl rfl rfl rfl rfl) ?_
  refine rwp_weak _ (weak_freeze_row 0 rfl 7 (.c (.fn _ _ [_])) (PLe.fn ⟨.inr ⟨rfl, rfl⟩, trivial⟩)) ?_
  refine rwp_det rfl rfl (det_call rfl ok86 (slices_ContainsFunc_mono l.L _ (fun m => decide (m.Name = s)) hl (fun m _ => FnPur.of_pur (first := []) (cap := [.iptr [cS s]]) ok87 (delta_contains_1 m s))) ⟨VLe.refl _, rfl, VLe.refl _, rfl, trivial⟩) ?_
  refine rwp_det rfl rfl (det_assign rfl rfl) ?_
  refine rwp_nil ?_
  refine awp_ret ?_
  repeat (first | refine thenQ_ret ?_ | refine blockQ_ret ?_)
  refine fin1 (rs_c rfl) ?_
  exact rfl

theorem value_plain (t : Ty) :
    Pur cfg 128 [vTy t] (vB (plainT t)) := by
  refine con_intro Tryz.func128 rfl Tryz.ntmps128 Tryz.results128 rfl ?_
  intro z hz
  refine awp_seq ?_
  refine awp_region rfl ?_
  refine rwp_op rfl rfl (ope_box rfl rfl) ?_
  rintro _ _ ⟨b1, rfl, rfl⟩
  refine rwp_det rfl rfl (det_assign rfl rfl) ?_
  refine rwp_nil ?_
  refine awp_seq ?_
  refine awp_region rfl ?_
  refine rwp_det rfl rfl (det_load_agg rfl agg25 rfl (ptr_row 0 rfl) rfl) ?_
  refine rwp_det rfl rfl (det_field_lit rfl fd25_0 rfl) ?_
  refine rwp_det rfl rfl (det_load_one rfl one3 rfl (ptr_row 0 rfl) rfl) ?_
  refine rwp_det rfl rfl (det_build rfl zr25 pl25 rfl) ?_
  refine rwp_det rfl rfl (det_aeql rfl fl25 rfl rfl rfl) ?_
  refine rwp_det rfl rfl (det_assign rfl rfl) ?_
  refine rwp_nil ?_
  refine awp_ret ?_
  repeat (first | refine thenQ_ret ?_ | refine blockQ_ret ?_)
  refine fin1 (rs_c rfl) ?_
  exact congrArg vB (plainT_eq t)

theorem fixed_ValidateType (t : Ty) :
    Pur cfg 129 [vTy t] (vI (bif fixOk t then 0 else 10)) := by
  refine con_intro Tryz.func129 rfl Tryz.ntmps129 Tryz.results129 rfl ?_
  intro z hz
  refine awp_seq ?_
  refine awp_region rfl ?_
  refine rwp_op rfl rfl (ope_box rfl rfl) ?_
  rintro _ _ ⟨b1, rfl, rfl⟩
  refine rwp_det rfl rfl (det_assign rfl rfl) ?_
  refine rwp_nil ?_
  refine awp_seq ?_
  refine awp_region rfl ?_
  refine rwp_det rfl rfl (det_field_lit rfl fd25_3 rfl) ?_
  refine rwp_det rfl rfl (det_load_one rfl one3 rfl (ptr_row 0 rfl) rfl) ?_
  refine rwp_det rfl rfl (det_geq rfl rfl rfl) ?_
  refine rwp_det rfl rfl (det_move rfl rfl) ?_
  refine rwp_lazy [] rfl rfl rfl rfl gv1 trivial (fun g1_3 => det_field_lit rfl fd25_3 rfl) rfl ?_
  refine rwp_lazy [(8, _)] rfl rfl rfl rfl gv1 ⟨rfl, rfl, trivial⟩ (fun g1_3 => det_load_one rfl one3 rfl (ptr_row 0 rfl) rfl) rfl ?_
  refine rwp_lazy [(9, _)] rfl rfl rfl rfl gv1 ⟨rfl, rfl, trivial⟩ (fun g1_3 => det_leq rfl rfl rfl) rfl ?_
  refine rwp_det rfl rfl (det_and rfl rfl rfl (fun h => h) rfl) ?_
  refine rwp_det rfl rfl (det_move rfl rfl) ?_
  refine rwp_lazy [] rfl rfl rfl rfl gv1 trivial (fun g1_8 => det_field_lit rfl fd25_4 rfl) rfl ?_
  refine rwp_lazy [(13, _)] rfl rfl rfl rfl gv1 ⟨rfl, rfl, trivial⟩ (fun g1_8 => det_load_one rfl one3 rfl (ptr_row 0 rfl) rfl) rfl ?_
  refine rwp_lazy [(14, _)] rfl rfl rfl rfl gv1 ⟨rfl, rfl, trivial⟩ (fun g1_8 => det_eql rfl rfl rfl) rfl ?_
  refine rwp_lazy [(15, _)] rfl rfl rfl rfl gv1 ⟨rfl, rfl, trivial⟩ (fun g1_8 => det_move rfl rfl) rfl ?_
  refine rwp_lazy [] rfl rfl rfl rfl gv2 trivial (fun g1_12 => det_field_lit rfl fd25_4 rfl) rfl ?_
  refine rwp_lazy [(17, _)] rfl rfl rfl rfl gv2 ⟨rfl, rfl, trivial⟩ (fun g1_12 => det_load_one rfl one3 rfl (ptr_row 0 rfl) rfl) rfl ?_
  refine rwp_lazy [(18, _)] rfl rfl rfl rfl gv2 ⟨rfl, rfl, trivial⟩ (fun g1_12 => det_eql rfl rfl rfl) rfl ?_
  refine rwp_lazy [(16, _)] rfl rfl rfl rfl gv1 ⟨rfl, rfl, trivial⟩ (fun g1_8 => det_or rfl rfl rfl rfl (fun h => and_mk (by assumption) (lzf h))) rfl ?_
  refine rwp_det rfl rfl (det_and rfl rfl rfl (fun h => h) rfl) ?_
  refine rwp_det rfl rfl (det_assign rfl rfl) ?_
  refine rwp_nil ?_
  refine awp_seq ?_
  refine awp_seq ?_
  refine awp_region rfl ?_
  refine rwp_det rfl rfl (det_field_lit rfl fd25_0 rfl) ?_
  refine rwp_det rfl rfl (det_load_one rfl one3 rfl (ptr_row 0 rfl) rfl) ?_
  refine rwp_det rfl rfl (det_neq rfl rfl rfl) ?_
  refine rwp_det rfl rfl (det_move rfl rfl) ?_
  refine rwp_lazy [] rfl rfl rfl rfl gv1 trivial (fun g2_3 => det_field_lit rfl fd25_1 rfl) rfl ?_
  refine rwp_lazy [(26, _)] rfl rfl rfl rfl gv1 ⟨rfl, rfl, trivial⟩ (fun g2_3 => det_load_one rfl one3 rfl (ptr_row 0 rfl) rfl) rfl ?_
  refine rwp_lazy [(27, _)] rfl rfl rfl rfl gv1 ⟨rfl, rfl, trivial⟩ (fun g2_3 => det_lss rfl rfl rfl) rfl ?_
  refine rwp_det rfl rfl (det_or rfl rfl rfl rfl (fun h => (lzf h))) ?_
  refine rwp_det rfl rfl (det_move rfl rfl) ?_
  refine rwp_lazy [] rfl rfl rfl rfl gv1 trivial (fun g2_8 => det_field_lit rfl fd25_1 rfl) rfl ?_
  refine rwp_lazy [(31, _)] rfl rfl rfl rfl gv1 ⟨rfl, rfl, trivial⟩ (fun g2_8 => det_load_one rfl one3 rfl (ptr_row 0 rfl) rfl) rfl ?_
  refine rwp_lazy [(32, _)] rfl rfl rfl rfl gv1 ⟨rfl, rfl, trivial⟩ (fun g2_8 => det_gtr rfl rfl rfl) rfl ?_
  refine rwp_det rfl rfl (det_or rfl rfl rfl rfl (fun h => (lzf h))) ?_
  refine rwp_det rfl rfl (det_move rfl rfl) ?_
  refine rwp_lazy [] rfl rfl rfl rfl gv1 trivial (fun g2_13 => det_field_lit rfl fd25_2 rfl) rfl ?_
  refine rwp_lazy [(36, _)] rfl rfl rfl rfl gv1 ⟨rfl, rfl, trivial⟩ (fun g2_13 => det_load_one rfl one3 rfl (ptr_row 0 rfl) rfl) rfl ?_
  refine rwp_lazy [(37, _)] rfl rfl rfl rfl gv1 ⟨rfl, rfl, trivial⟩ (fun g2_13 => det_lss rfl rfl rfl) rfl ?_
  refine rwp_det rfl rfl (det_or rfl rfl rfl rfl (fun h => (lzf h))) ?_
  refine rwp_det rfl rfl (det_move rfl rfl) ?_
  refine rwp_lazy [] rfl rfl rfl rfl gv1 trivial (fun g2_18 => det_field_lit rfl fd25_2 rfl) rfl ?_
  refine rwp_lazy [(41, _)] rfl rfl rfl rfl gv1 ⟨rfl, rfl, trivial⟩ (fun g2_18 => det_load_one rfl one3 rfl (ptr_row 0 rfl) rfl) rfl ?_
  refine rwp_lazy [(42, _)] rfl rfl rfl rfl gv1 ⟨rfl, rfl, trivial⟩ (fun g2_18 => det_gtr rfl rfl rfl) rfl ?_
  refine rwp_det rfl rfl (det_or rfl rfl rfl rfl (fun h => (lzf h))) ?_
  refine rwp_det rfl rfl (det_move rfl rfl) ?_
  refine rwp_lazy [] rfl rfl rfl rfl gv1 trivial (fun g2_23 => det_move rfl rfl) rfl ?_
  refine rwp_lazy [(46, _)] rfl rfl rfl rfl gv1 ⟨rfl, rfl, trivial⟩ (fun g2_23 => det_not rfl rfl) rfl ?_
  refine rwp_det rfl rfl (det_or rfl rfl rfl rfl (fun h => (lzf h))) ?_
  refine rwp_nil ?_
  refine awp_cond rfl (fun c1 => ?_) (fun c1 => ?_)
  · refine awp_seq ?_
    refine awp_region rfl ?_
    refine rwp_det rfl rfl (det_assign rfl rfl) ?_
    refine rwp_nil ?_
    refine awp_ret ?_
    repeat (first | refine thenQ_ret ?_ | refine blockQ_ret ?_)
    refine fin1 (rs_c rfl) ?_
    rw [show fixOk t = false from fix_no c1]; rfl
  · refine awp_skip ?_
    refine awp_seq ?_
    refine awp_region rfl ?_
    refine rwp_det rfl rfl (det_assign rfl rfl) ?_
    refine rwp_nil ?_
    refine awp_ret ?_
    repeat (first | refine thenQ_ret ?_ | refine blockQ_ret ?_)
    refine fin1 (rs_c rfl) ?_
    rw [show fixOk t = true from fix_yes c1]; rfl

theorem value_ValidateType (t : Ty) :
    Pur cfg 90 [vTy t] (vI (tyErr t)) := by
  refine con_intro Tryz.func90 rfl Tryz.ntmps90 Tryz.results90 rfl ?_
  intro z hz
  refine awp_seq ?_
  refine awp_region rfl ?_
  refine rwp_op rfl rfl (ope_box rfl rfl) ?_
  rintro _ _ ⟨b1, rfl, rfl⟩
  refine rwp_det rfl rfl (det_assign rfl rfl) ?_
  refine rwp_nil ?_
  refine awp_seq ?_
  refine awp_seq ?_
  refine awp_region rfl ?_
  refine rwp_det rfl rfl (det_field_lit rfl fd25_0 rfl) ?_
  refine rwp_det rfl rfl (det_load_one rfl one3 rfl (ptr_row 0 rfl) rfl) ?_
  refine rwp_nil ?_
  refine awp_block ?_
  refine awp_seq ?_
  refine awp_seq ?_
  refine awp_region rfl ?_
  refine rwp_det rfl rfl (det_eql rfl rfl rfl) ?_
  refine rwp_det rfl rfl (det_assign rfl rfl) ?_
  refine rwp_nil ?_
  refine awp_cond rfl (fun c1 => ?_) (fun c1 => ?_)
  · try simp only [decide_eq_true_eq, decide_eq_false_iff_not, Bool.not_eq_true', Bool.not_eq_false', Bool.and_eq_true, Bool.or_eq_true, Bool.and_eq_false_iff, Bool.or_eq_false_iff, Int.not_lt, Int.not_le, List.length_map] at c1
    refine awp_skip ?_
    refine awp_cond rfl (fun c2 => ?_) (fun c2 => ?_)
    · try simp only [decide_eq_true_eq, decide_eq_false_iff_not, Bool.not_eq_true', Bool.not_eq_false', Bool.and_eq_true, Bool.or_eq_true, Bool.and_eq_false_iff, Bool.or_eq_false_iff, Int.not_lt, Int.not_le, List.length_map] at c2
      refine awp_seq ?_
      refine awp_region rfl ?_
      refine rwp_det rfl rfl (det_load_agg rfl agg25 rfl (ptr_row 0 rfl) rfl) ?_
      refine rwp_det rfl rfl (det_call rfl ok128 (value_plain _) ⟨VLe.refl _, rfl, trivial⟩) ?_
      refine rwp_nil ?_
      refine awp_cond rfl (fun c3 => ?_) (fun c3 => ?_)
      · try simp only [decide_eq_true_eq, decide_eq_false_iff_not, Bool.not_eq_true', Bool.not_eq_false', Bool.and_eq_true, Bool.or_eq_true, Bool.and_eq_false_iff, Bool.or_eq_false_iff, Int.not_lt, Int.not_le, List.length_map] at c3
        refine awp_seq ?_
        refine awp_region rfl ?_
        refine rwp_det rfl rfl (det_assign rfl rfl) ?_
        refine rwp_nil ?_
        refine awp_ret ?_
        repeat (first | refine thenQ_ret ?_ | refine blockQ_ret ?_)
        refine fin1 (rs_c rfl) ?_
        exact congrArg vI (by first | (exfalso; omega) | (rw [tyErr, tyk1 (by omega), c3]; rfl) | (rw [tyErr, fix_ty (by omega), fxz c5]; rfl) | (rw [tyErr, fix_ty (by omega), fxn c5]; rfl) | (rw [tyErr, tyk0 (by omega) (by omega) (by omega)]; rfl))
      · try simp only [decide_eq_true_eq, decide_eq_false_iff_not, Bool.not_eq_true', Bool.not_eq_false', Bool.and_eq_true, Bool.or_eq_true, Bool.and_eq_false_iff, Bool.or_eq_false_iff, Int.not_lt, Int.not_le, List.length_map] at c3
        refine awp_skip ?_
        refine awp_seq ?_
        refine awp_region rfl ?_
        refine rwp_det rfl rfl (det_assign rfl rfl) ?_
        refine rwp_nil ?_
        refine awp_ret ?_
        repeat (first | refine thenQ_ret ?_ | refine blockQ_ret ?_)
        refine fin1 (rs_c rfl) ?_
        exact congrArg vI (by first | (exfalso; omega) | (rw [tyErr, tyk1 (by omega), c3]; rfl) | (rw [tyErr, fix_ty (by omega), fxz c5]; rfl) | (rw [tyErr, fix_ty (by omega), fxn c5]; rfl) | (rw [tyErr, tyk0 (by omega) (by omega) (by omega)]; rfl))
    · try simp only [decide_eq_true_eq, decide_eq_false_iff_not, Bool.not_eq_true', Bool.not_eq_false', Bool.and_eq_true, Bool.or_eq_true, Bool.and_eq_false_iff, Bool.or_eq_false_iff, Int.not_lt, Int.not_le, List.length_map] at c2
      refine awp_seq ?_
      refine awp_region rfl ?_
      refine rwp_det rfl rfl (det_eql rfl rfl rfl) ?_
      refine rwp_det rfl rfl (det_assign rfl rfl) ?_
      refine rwp_nil ?_
      refine awp_cond rfl (fun c4 => ?_) (fun c4 => ?_)
      · try simp only [decide_eq_true_eq, decide_eq_false_iff_not, Bool.not_eq_true', Bool.not_eq_false', Bool.and_eq_true, Bool.or_eq_true, Bool.and_eq_false_iff, Bool.or_eq_false_iff, Int.not_lt, Int.not_le, List.length_map] at c4
        refine awp_seq ?_
        refine awp_region rfl ?_
        refine rwp_det rfl rfl (det_load_agg rfl agg25 rfl (ptr_row 0 rfl) rfl) ?_
        refine rwp_det rfl rfl (det_call rfl ok129 (fixed_ValidateType _) ⟨VLe.refl _, rfl, trivial⟩) ?_
        refine rwp_det rfl rfl (det_eql rfl rfl rfl) ?_
        refine rwp_nil ?_
        refine awp_cond rfl (fun c5 => ?_) (fun c5 => ?_)
        · try simp only [decide_eq_true_eq, decide_eq_false_iff_not, Bool.not_eq_true', Bool.not_eq_false', Bool.and_eq_true, Bool.or_eq_true, Bool.and_eq_false_iff, Bool.or_eq_false_iff, Int.not_lt, Int.not_le, List.length_map] at c5
          refine awp_seq ?_
          refine awp_region rfl ?_
          refine rwp_det rfl rfl (det_assign rfl rfl) ?_
          refine rwp_nil ?_
          refine awp_ret ?_
          repeat (first | refine thenQ_ret ?_ | refine blockQ_ret ?_)
          refine fin1 (rs_c rfl) ?_
          exact congrArg vI (by first | (exfalso; omega) | (rw [tyErr, tyk1 (by omega), c3]; rfl) | (rw [tyErr, fix_ty (by omega), fxz c5]; rfl) | (rw [tyErr, fix_ty (by omega), fxn c5]; rfl) | (rw [tyErr, tyk0 (by omega) (by omega) (by omega)]; rfl))
        · try simp only [decide_eq_true_eq, decide_eq_false_iff_not, Bool.not_eq_true', Bool.not_eq_false', Bool.and_eq_true, Bool.or_eq_true, Bool.and_eq_false_iff, Bool.or_eq_false_iff, Int.not_lt, Int.not_le, List.length_map] at c5
          refine awp_skip ?_
          refine awp_seq ?_
          refine awp_region rfl ?_
          refine rwp_det rfl rfl (det_assign rfl rfl) ?_
          refine rwp_nil ?_
          refine awp_ret ?_
          repeat (first | refine thenQ_ret ?_ | refine blockQ_ret ?_)
          refine fin1 (rs_c rfl) ?_
          exact congrArg vI (by first | (exfalso; omega) | (rw [tyErr, tyk1 (by omega), c3]; rfl) | (rw [tyErr, fix_ty (by omega), fxz c5]; rfl) | (rw [tyErr, fix_ty (by omega), fxn c5]; rfl) | (rw [tyErr, tyk0 (by omega) (by omega) (by omega)]; rfl))
      · try simp only [decide_eq_true_eq, decide_eq_false_iff_not, Bool.not_eq_true', Bool.not_eq_false', Bool.and_eq_true, Bool.or_eq_true, Bool.and_eq_false_iff, Bool.or_eq_false_iff, Int.not_lt, Int.not_le, List.length_map] at c4
        refine awp_skip ?_
        refine awp_seq ?_
        refine awp_region rfl ?_
        refine rwp_det rfl rfl (det_assign rfl rfl) ?_
        refine rwp_nil ?_
        refine awp_ret ?_
        repeat (first | refine thenQ_ret ?_ | refine blockQ_ret ?_)
        refine fin1 (rs_c rfl) ?_
        exact congrArg vI (by first | (exfalso; omega) | (rw [tyErr, tyk1 (by omega), c3]; rfl) | (rw [tyErr, fix_ty (by omega), fxz c5]; rfl) | (rw [tyErr, fix_ty (by omega), fxn c5]; rfl) | (rw [tyErr, tyk0 (by omega) (by omega) (by omega)]; rfl))
  · try simp only [decide_eq_true_eq, decide_eq_false_iff_not, Bool.not_eq_true', Bool.not_eq_false', Bool.and_eq_true, Bool.or_eq_true, Bool.and_eq_false_iff, Bool.or_eq_false_iff, Int.not_lt, Int.not_le, List.length_map] at c1
    refine awp_region rfl ?_
    refine rwp_det rfl rfl (det_eql rfl rfl rfl) ?_
    refine rwp_det rfl rfl (det_assign rfl rfl) ?_
    refine rwp_nil ?_
    refine awp_cond rfl (fun c2 => ?_) (fun c2 => ?_)
    · try simp only [decide_eq_true_eq, decide_eq_false_iff_not, Bool.not_eq_true', Bool.not_eq_false', Bool.and_eq_true, Bool.or_eq_true, Bool.and_eq_false_iff, Bool.or_eq_false_iff, Int.not_lt, Int.not_le, List.length_map] at c2
      refine awp_seq ?_
      refine awp_region rfl ?_
      refine rwp_det rfl rfl (det_load_agg rfl agg25 rfl (ptr_row 0 rfl) rfl) ?_
      refine rwp_det rfl rfl (det_call rfl ok128 (value_plain _) ⟨VLe.refl _, rfl, trivial⟩) ?_
      refine rwp_nil ?_
      refine awp_cond rfl (fun c3 => ?_) (fun c3 => ?_)
      · try simp only [decide_eq_true_eq, decide_eq_false_iff_not, Bool.not_eq_true', Bool.not_eq_false', Bool.and_eq_true, Bool.or_eq_true, Bool.and_eq_false_iff, Bool.or_eq_false_iff, Int.not_lt, Int.not_le, List.length_map] at c3
        refine awp_seq ?_
        refine awp_region rfl ?_
        refine rwp_det rfl rfl (det_assign rfl rfl) ?_
        refine rwp_nil ?_
        refine awp_ret ?_
        repeat (first | refine thenQ_ret ?_ | refine blockQ_ret ?_)
        refine fin1 (rs_c rfl) ?_
        exact congrArg vI (by first | (exfalso; omega) | (rw [tyErr, tyk1 (by omega), c3]; rfl) | (rw [tyErr, fix_ty (by omega), fxz c5]; rfl) | (rw [tyErr, fix_ty (by omega), fxn c5]; rfl) | (rw [tyErr, tyk0 (by omega) (by omega) (by omega)]; rfl))
      · try simp only [decide_eq_true_eq, decide_eq_false_iff_not, Bool.not_eq_true', Bool.not_eq_false', Bool.and_eq_true, Bool.or_eq_true, Bool.and_eq_false_iff, Bool.or_eq_false_iff, Int.not_lt, Int.not_le, List.length_map] at c3
        refine awp_skip ?_
        refine awp_seq ?_
        refine awp_region rfl ?_
        refine rwp_det rfl rfl (det_assign rfl rfl) ?_
        refine rwp_nil ?_
        refine awp_ret ?_
        repeat (first | refine thenQ_ret ?_ | refine blockQ_ret ?_)
        refine fin1 (rs_c rfl) ?_
        exact congrArg vI (by first | (exfalso; omega) | (rw [tyErr, tyk1 (by omega), c3]; rfl) | (rw [tyErr, fix_ty (by omega), fxz c5]; rfl) | (rw [tyErr, fix_ty (by omega), fxn c5]; rfl) | (rw [tyErr, tyk0 (by omega) (by omega) (by omega)]; rfl))
    · try simp only [decide_eq_true_eq, decide_eq_false_iff_not, Bool.not_eq_true', Bool.not_eq_false', Bool.and_eq_true, Bool.or_eq_true, Bool.and_eq_false_iff, Bool.or_eq_false_iff, Int.not_lt, Int.not_le, List.length_map] at c2
      refine awp_seq ?_
      refine awp_region rfl ?_
      refine rwp_det rfl rfl (det_eql rfl rfl rfl) ?_
      refine rwp_det rfl rfl (det_assign rfl rfl) ?_
      refine rwp_nil ?_
      refine awp_cond rfl (fun c4 => ?_) (fun c4 => ?_)
      · try simp only [decide_eq_true_eq, decide_eq_false_iff_not, Bool.not_eq_true', Bool.not_eq_false', Bool.and_eq_true, Bool.or_eq_true, Bool.and_eq_false_iff, Bool.or_eq_false_iff, Int.not_lt, Int.not_le, List.length_map] at c4
        refine awp_seq ?_
        refine awp_region rfl ?_
        refine rwp_det rfl rfl (det_load_agg rfl agg25 rfl (ptr_row 0 rfl) rfl) ?_
        refine rwp_det rfl rfl (det_call rfl ok129 (fixed_ValidateType _) ⟨VLe.refl _, rfl, trivial⟩) ?_
        refine rwp_det rfl rfl (det_eql rfl rfl rfl) ?_
        refine rwp_nil ?_
        refine awp_cond rfl (fun c5 => ?_) (fun c5 => ?_)
        · try simp only [decide_eq_true_eq, decide_eq_false_iff_not, Bool.not_eq_true', Bool.not_eq_false', Bool.and_eq_true, Bool.or_eq_true, Bool.and_eq_false_iff, Bool.or_eq_false_iff, Int.not_lt, Int.not_le, List.length_map] at c5
          refine awp_seq ?_
          refine awp_region rfl ?_
          refine rwp_det rfl rfl (det_assign rfl rfl) ?_
          refine rwp_nil ?_
          refine awp_ret ?_
          repeat (first | refine thenQ_ret ?_ | refine blockQ_ret ?_)
          refine fin1 (rs_c rfl) ?_
          exact congrArg vI (by first | (exfalso; omega) | (rw [tyErr, tyk1 (by omega), c3]; rfl) | (rw [tyErr, fix_ty (by omega), fxz c5]; rfl) | (rw [tyErr, fix_ty (by omega), fxn c5]; rfl) | (rw [tyErr, tyk0 (by omega) (by omega) (by omega)]; rfl))
        · try simp only [decide_eq_true_eq, decide_eq_false_iff_not, Bool.not_eq_true', Bool.not_eq_false', Bool.and_eq_true, Bool.or_eq_true, Bool.and_eq_false_iff, Bool.or_eq_false_iff, Int.not_lt, Int.not_le, List.length_map] at c5
          refine awp_skip ?_
          refine awp_seq ?_
          refine awp_region rfl ?_
          refine rwp_det rfl rfl (det_assign rfl rfl) ?_
          refine rwp_nil ?_
          refine awp_ret ?_
          repeat (first | refine thenQ_ret ?_ | refine blockQ_ret ?_)
          refine fin1 (rs_c rfl) ?_
          exact congrArg vI (by first | (exfalso; omega) | (rw [tyErr, tyk1 (by omega), c3]; rfl) | (rw [tyErr, fix_ty (by omega), fxz c5]; rfl) | (rw [tyErr, fix_ty (by omega), fxn c5]; rfl) | (rw [tyErr, tyk0 (by omega) (by omega) (by omega)]; rfl))
      · try simp only [decide_eq_true_eq, decide_eq_false_iff_not, Bool.not_eq_true', Bool.not_eq_false', Bool.and_eq_true, Bool.or_eq_true, Bool.and_eq_false_iff, Bool.or_eq_false_iff, Int.not_lt, Int.not_le, List.length_map] at c4
        refine awp_skip ?_
        refine awp_seq ?_
        refine awp_region rfl ?_
        refine rwp_det rfl rfl (det_assign rfl rfl) ?_
        refine rwp_nil ?_
        refine awp_ret ?_
        repeat (first | refine thenQ_ret ?_ | refine blockQ_ret ?_)
        refine fin1 (rs_c rfl) ?_
        exact congrArg vI (by first | (exfalso; omega) | (rw [tyErr, tyk1 (by omega), c3]; rfl) | (rw [tyErr, fix_ty (by omega), fxz c5]; rfl) | (rw [tyErr, fix_ty (by omega), fxn c5]; rfl) | (rw [tyErr, tyk0 (by omega) (by omega) (by omega)]; rfl))

theorem base_Type (t : Ty) :
    Pur cfg 91 [vTy t] (vB (tyOk t)) := by
  refine con_intro Tryz.func91 rfl Tryz.ntmps91 Tryz.results91 rfl ?_
  intro z hz
  refine awp_seq ?_
  refine awp_region rfl ?_
  refine rwp_op rfl rfl (ope_box rfl rfl) ?_
  rintro _ _ ⟨b1, rfl, rfl⟩
  refine rwp_det rfl rfl (det_assign rfl rfl) ?_
  refine rwp_nil ?_
  refine awp_seq ?_
  refine awp_seq ?_
  refine awp_region rfl ?_
  refine rwp_det rfl rfl (det_field_lit rfl fd25_0 rfl) ?_
  refine rwp_det rfl rfl (det_load_one rfl one3 rfl (ptr_row 0 rfl) rfl) ?_
  refine rwp_det rfl rfl (det_eql rfl rfl rfl) ?_
  refine rwp_det rfl rfl (det_move rfl rfl) ?_
  refine rwp_lazy [] rfl rfl rfl rfl gv1 trivial (fun g1_3 => det_field_lit rfl fd25_0 rfl) rfl ?_
  refine rwp_lazy [(7, _)] rfl rfl rfl rfl gv1 ⟨rfl, rfl, trivial⟩ (fun g1_3 => det_load_one rfl one3 rfl (ptr_row 0 rfl) rfl) rfl ?_
  refine rwp_lazy [(8, _)] rfl rfl rfl rfl gv1 ⟨rfl, rfl, trivial⟩ (fun g1_3 => det_eql rfl rfl rfl) rfl ?_
  refine rwp_det rfl rfl (det_or rfl rfl rfl rfl (fun h => (lzf h))) ?_
  refine rwp_nil ?_
  refine awp_cond rfl (fun c1 => ?_) (fun c1 => ?_)
  · refine awp_seq ?_
    refine awp_region rfl ?_
    refine rwp_det rfl rfl (det_field_lit rfl fd25_1 rfl) ?_
    refine rwp_det rfl rfl (det_load_one rfl one3 rfl (ptr_row 0 rfl) rfl) ?_
    refine rwp_det rfl rfl (det_eql rfl rfl rfl) ?_
    refine rwp_det rfl rfl (det_move rfl rfl) ?_
    refine rwp_lazy [] rfl rfl rfl rfl gv1 trivial (fun g2_3 => det_field_lit rfl fd25_2 rfl) rfl ?_
    refine rwp_lazy [(15, _)] rfl rfl rfl rfl gv1 ⟨rfl, rfl, trivial⟩ (fun g2_3 => det_load_one rfl one3 rfl (ptr_row 0 rfl) rfl) rfl ?_
    refine rwp_lazy [(16, _)] rfl rfl rfl rfl gv1 ⟨rfl, rfl, trivial⟩ (fun g2_3 => det_eql rfl rfl rfl) rfl ?_
    refine rwp_det rfl rfl (det_and rfl rfl rfl (fun h => h) rfl) ?_
    refine rwp_det rfl rfl (det_move rfl rfl) ?_
    refine rwp_lazy [] rfl rfl rfl rfl gv1 trivial (fun g2_8 => det_field_lit rfl fd25_3 rfl) rfl ?_
    refine rwp_lazy [(20, _)] rfl rfl rfl rfl gv1 ⟨rfl, rfl, trivial⟩ (fun g2_8 => det_load_one rfl one3 rfl (ptr_row 0 rfl) rfl) rfl ?_
    refine rwp_lazy [(21, _)] rfl rfl rfl rfl gv1 ⟨rfl, rfl, trivial⟩ (fun g2_8 => det_eql rfl rfl rfl) rfl ?_
    refine rwp_det rfl rfl (det_and rfl rfl rfl (fun h => h) rfl) ?_
    refine rwp_det rfl rfl (det_move rfl rfl) ?_
    refine rwp_lazy [] rfl rfl rfl rfl gv1 trivial (fun g2_13 => det_field_lit rfl fd25_4 rfl) rfl ?_
    refine rwp_lazy [(25, _)] rfl rfl rfl rfl gv1 ⟨rfl, rfl, trivial⟩ (fun g2_13 => det_load_one rfl one3 rfl (ptr_row 0 rfl) rfl) rfl ?_
    refine rwp_lazy [(26, _)] rfl rfl rfl rfl gv1 ⟨rfl, rfl, trivial⟩ (fun g2_13 => det_eql rfl rfl rfl) rfl ?_
    refine rwp_det rfl rfl (det_and rfl rfl rfl (fun h => h) rfl) ?_
    refine rwp_det rfl rfl (det_assign rfl rfl) ?_
    refine rwp_nil ?_
    refine awp_ret ?_
    repeat (first | refine thenQ_ret ?_ | refine blockQ_ret ?_)
    refine fin1 (rs_c rfl) ?_
    exact congrArg vB (type1 c1)
  · refine awp_skip ?_
    refine awp_seq ?_
    refine awp_region rfl ?_
    refine rwp_det rfl rfl (det_field_lit rfl fd25_0 rfl) ?_
    refine rwp_det rfl rfl (det_load_one rfl one3 rfl (ptr_row 0 rfl) rfl) ?_
    refine rwp_det rfl rfl (det_eql rfl rfl rfl) ?_
    refine rwp_det rfl rfl (det_move rfl rfl) ?_
    refine rwp_lazy [] rfl rfl rfl rfl gv1 trivial (fun g3_3 => det_field_lit rfl fd25_1 rfl) rfl ?_
    refine rwp_lazy [(33, _)] rfl rfl rfl rfl gv1 ⟨rfl, rfl, trivial⟩ (fun g3_3 => det_load_one rfl one3 rfl (ptr_row 0 rfl) rfl) rfl ?_
    refine rwp_lazy [(34, _)] rfl rfl rfl rfl gv1 ⟨rfl, rfl, trivial⟩ (fun g3_3 => det_geq rfl rfl rfl) rfl ?_
    refine rwp_det rfl rfl (det_and rfl rfl rfl (fun h => h) rfl) ?_
    refine rwp_det rfl rfl (det_move rfl rfl) ?_
    refine rwp_lazy [] rfl rfl rfl rfl gv1 trivial (fun g3_8 => det_field_lit rfl fd25_1 rfl) rfl ?_
    refine rwp_lazy [(38, _)] rfl rfl rfl rfl gv1 ⟨rfl, rfl, trivial⟩ (fun g3_8 => det_load_one rfl one3 rfl (ptr_row 0 rfl) rfl) rfl ?_
    refine rwp_lazy [(39, _)] rfl rfl rfl rfl gv1 ⟨rfl, rfl, trivial⟩ (fun g3_8 => det_leq rfl rfl rfl) rfl ?_
    refine rwp_det rfl rfl (det_and rfl rfl rfl (fun h => h) rfl) ?_
    refine rwp_det rfl rfl (det_move rfl rfl) ?_
    refine rwp_lazy [] rfl rfl rfl rfl gv1 trivial (fun g3_13 => det_field_lit rfl fd25_2 rfl) rfl ?_
    refine rwp_lazy [(43, _)] rfl rfl rfl rfl gv1 ⟨rfl, rfl, trivial⟩ (fun g3_13 => det_load_one rfl one3 rfl (ptr_row 0 rfl) rfl) rfl ?_
    refine rwp_lazy [(44, _)] rfl rfl rfl rfl gv1 ⟨rfl, rfl, trivial⟩ (fun g3_13 => det_geq rfl rfl rfl) rfl ?_
    refine rwp_det rfl rfl (det_and rfl rfl rfl (fun h => h) rfl) ?_
    refine rwp_det rfl rfl (det_move rfl rfl) ?_
    refine rwp_lazy [] rfl rfl rfl rfl gv1 trivial (fun g3_18 => det_field_lit rfl fd25_2 rfl) rfl ?_
    refine rwp_lazy [(48, _)] rfl rfl rfl rfl gv1 ⟨rfl, rfl, trivial⟩ (fun g3_18 => det_load_one rfl one3 rfl (ptr_row 0 rfl) rfl) rfl ?_
    refine rwp_lazy [(49, _)] rfl rfl rfl rfl gv1 ⟨rfl, rfl, trivial⟩ (fun g3_18 => det_leq rfl rfl rfl) rfl ?_
    refine rwp_det rfl rfl (det_and rfl rfl rfl (fun h => h) rfl) ?_
    refine rwp_det rfl rfl (det_move rfl rfl) ?_
    refine rwp_lazy [] rfl rfl rfl rfl gv1 trivial (fun g3_23 => det_field_lit rfl fd25_3 rfl) rfl ?_
    refine rwp_lazy [(53, _)] rfl rfl rfl rfl gv1 ⟨rfl, rfl, trivial⟩ (fun g3_23 => det_load_one rfl one3 rfl (ptr_row 0 rfl) rfl) rfl ?_
    refine rwp_lazy [(54, _)] rfl rfl rfl rfl gv1 ⟨rfl, rfl, trivial⟩ (fun g3_23 => det_geq rfl rfl rfl) rfl ?_
    refine rwp_det rfl rfl (det_and rfl rfl rfl (fun h => h) rfl) ?_
    refine rwp_det rfl rfl (det_move rfl rfl) ?_
    refine rwp_lazy [] rfl rfl rfl rfl gv1 trivial (fun g3_28 => det_field_lit rfl fd25_3 rfl) rfl ?_
    refine rwp_lazy [(58, _)] rfl rfl rfl rfl gv1 ⟨rfl, rfl, trivial⟩ (fun g3_28 => det_load_one rfl one3 rfl (ptr_row 0 rfl) rfl) rfl ?_
    refine rwp_lazy [(59, _)] rfl rfl rfl rfl gv1 ⟨rfl, rfl, trivial⟩ (fun g3_28 => det_leq rfl rfl rfl) rfl ?_
    refine rwp_det rfl rfl (det_and rfl rfl rfl (fun h => h) rfl) ?_
    refine rwp_det rfl rfl (det_move rfl rfl) ?_
    refine rwp_lazy [] rfl rfl rfl rfl gv1 trivial (fun g3_33 => det_field_lit rfl fd25_4 rfl) rfl ?_
    refine rwp_lazy [(63, _)] rfl rfl rfl rfl gv1 ⟨rfl, rfl, trivial⟩ (fun g3_33 => det_load_one rfl one3 rfl (ptr_row 0 rfl) rfl) rfl ?_
    refine rwp_lazy [(64, _)] rfl rfl rfl rfl gv1 ⟨rfl, rfl, trivial⟩ (fun g3_33 => det_eql rfl rfl rfl) rfl ?_
    refine rwp_lazy [(65, _)] rfl rfl rfl rfl gv1 ⟨rfl, rfl, trivial⟩ (fun g3_33 => det_move rfl rfl) rfl ?_
    refine rwp_lazy [] rfl rfl rfl rfl gv2 trivial (fun g3_37 => det_field_lit rfl fd25_4 rfl) rfl ?_
    refine rwp_lazy [(67, _)] rfl rfl rfl rfl gv2 ⟨rfl, rfl, trivial⟩ (fun g3_37 => det_load_one rfl one3 rfl (ptr_row 0 rfl) rfl) rfl ?_
    refine rwp_lazy [(68, _)] rfl rfl rfl rfl gv2 ⟨rfl, rfl, trivial⟩ (fun g3_37 => det_eql rfl rfl rfl) rfl ?_
    refine rwp_lazy [(66, _)] rfl rfl rfl rfl gv1 ⟨rfl, rfl, trivial⟩ (fun g3_33 => det_or rfl rfl rfl rfl (fun h => and_mk (by assumption) (lzf h))) rfl ?_
    refine rwp_det rfl rfl (det_and rfl rfl rfl (fun h => h) rfl) ?_
    refine rwp_det rfl rfl (det_assign rfl rfl) ?_
    refine rwp_nil ?_
    refine awp_ret ?_
    repeat (first | refine thenQ_ret ?_ | refine blockQ_ret ?_)
    refine fin1 (rs_c rfl) ?_
    exact congrArg vB (type2 c1)

theorem round_valid (b : Int) :
    Pur cfg 190 [vI b] (vB (decide (2 ≤ b) && decide (b ≤ 31))) := by
  refine con_intro Tryz.func190 rfl Tryz.ntmps190 Tryz.results190 rfl ?_
  intro z hz
  refine awp_seq ?_
  refine awp_region rfl ?_
  refine rwp_det rfl rfl (det_assign rfl rfl) ?_
  refine rwp_nil ?_
  refine awp_seq ?_
  refine awp_region rfl ?_
  refine rwp_det rfl rfl (det_move rfl rfl) ?_
  refine rwp_det rfl rfl (det_geq rfl rfl rfl) ?_
  refine rwp_det rfl rfl (det_move rfl rfl) ?_
  refine rwp_lazy [] rfl rfl rfl rfl gv1 trivial (fun g1_2 => det_move rfl rfl) rfl ?_
  refine rwp_lazy [(6, _)] rfl rfl rfl rfl gv1 ⟨rfl, rfl, trivial⟩ (fun g1_2 => det_leq rfl rfl rfl) rfl ?_
  refine rwp_det rfl rfl (det_and rfl rfl rfl (fun h => h) rfl) ?_
  refine rwp_det rfl rfl (det_assign rfl rfl) ?_
  refine rwp_nil ?_
  refine awp_ret ?_
  repeat (first | refine thenQ_ret ?_ | refine blockQ_ret ?_)
  refine fin1 (rs_c rfl) ?_
  exact rfl

theorem round_MinInt (b : Int) (h1 : 2 ≤ b) (h2 : b ≤ 31) :
    Pur cfg 176 [vI b] (vI (-half b)) := by
  refine con_intro Tryz.func176 rfl Tryz.ntmps176 Tryz.results176 rfl ?_
  intro z hz
  refine awp_seq ?_
  refine awp_region rfl ?_
  refine rwp_det rfl rfl (det_assign rfl rfl) ?_
  refine rwp_nil ?_
  refine awp_seq ?_
  refine awp_seq ?_
  refine awp_region rfl ?_
  refine rwp_det rfl rfl (det_move rfl rfl) ?_
  refine rwp_det rfl rfl (det_call rfl ok190 (round_valid _) ⟨VLe.refl _, rfl, trivial⟩) ?_
  refine rwp_det rfl rfl (det_not rfl rfl) ?_
  refine rwp_nil ?_
  refine awp_cond rfl (fun c1 => ?_) (fun c1 => ?_)
  · try simp only [decide_eq_true_eq, decide_eq_false_iff_not, Bool.not_eq_true', Bool.not_eq_false', Bool.and_eq_true, Bool.or_eq_true, Bool.and_eq_false_iff, Bool.or_eq_false_iff, Int.not_lt, Int.not_le, List.length_map] at c1
    exact absurd c1 (by omega)
  · try simp only [decide_eq_true_eq, decide_eq_false_iff_not, Bool.not_eq_true', Bool.not_eq_false', Bool.and_eq_true, Bool.or_eq_true, Bool.and_eq_false_iff, Bool.or_eq_false_iff, Int.not_lt, Int.not_le, List.length_map] at c1
    refine awp_skip ?_
    refine awp_seq ?_
    refine awp_region rfl ?_
    refine rwp_det rfl rfl (det_move rfl rfl) ?_
    refine rwp_det rfl rfl (det_sub_nw rfl rfl rfl ⟨by omega, by omega⟩) ?_
    refine rwp_det rfl rfl (det_conv rfl us3 ik135 rfl) ?_
    refine rwp_det rfl rfl (det_shl rfl rfl rfl (by rw [wrap_u64 (by omega)]; omega)) ?_
    refine rwp_det rfl rfl (det_neg rfl rfl) ?_
    refine rwp_det rfl rfl (det_assign rfl rfl) ?_
    refine rwp_nil ?_
    refine awp_ret ?_
    repeat (first | refine thenQ_ret ?_ | refine blockQ_ret ?_)
    refine fin1 (rs_c rfl) ?_
    exact congrArg vI (min_eq h1 h2)

theorem round_MaxInt (b : Int) (h1 : 2 ≤ b) (h2 : b ≤ 31) :
    Pur cfg 177 [vI b] (vI (half b - 1)) := by
  refine con_intro Tryz.func177 rfl Tryz.ntmps177 Tryz.results177 rfl ?_
  intro z hz
  refine awp_seq ?_
  refine awp_region rfl ?_
  refine rwp_det rfl rfl (det_assign rfl rfl) ?_
  refine rwp_nil ?_
  refine awp_seq ?_
  refine awp_seq ?_
  refine awp_region rfl ?_
  refine rwp_det rfl rfl (det_move rfl rfl) ?_
  refine rwp_det rfl rfl (det_call rfl ok190 (round_valid _) ⟨VLe.refl _, rfl, trivial⟩) ?_
  refine rwp_det rfl rfl (det_not rfl rfl) ?_
  refine rwp_nil ?_
  refine awp_cond rfl (fun c1 => ?_) (fun c1 => ?_)
  · try simp only [decide_eq_true_eq, decide_eq_false_iff_not, Bool.not_eq_true', Bool.not_eq_false', Bool.and_eq_true, Bool.or_eq_true, Bool.and_eq_false_iff, Bool.or_eq_false_iff, Int.not_lt, Int.not_le, List.length_map] at c1
    exact absurd c1 (by omega)
  · try simp only [decide_eq_true_eq, decide_eq_false_iff_not, Bool.not_eq_true', Bool.not_eq_false', Bool.and_eq_true, Bool.or_eq_true, Bool.and_eq_false_iff, Bool.or_eq_false_iff, Int.not_lt, Int.not_le, List.length_map] at c1
    refine awp_skip ?_
    refine awp_seq ?_
    refine awp_region rfl ?_
    refine rwp_det rfl rfl (det_move rfl rfl) ?_
    refine rwp_det rfl rfl (det_sub_nw rfl rfl rfl ⟨by omega, by omega⟩) ?_
    refine rwp_det rfl rfl (det_conv rfl us3 ik135 rfl) ?_
    refine rwp_det rfl rfl (det_shl rfl rfl rfl (by rw [wrap_u64 (by omega)]; omega)) ?_
    refine rwp_det rfl rfl (det_sub rfl rfl rfl) ?_
    refine rwp_det rfl rfl (det_assign rfl rfl) ?_
    refine rwp_nil ?_
    refine awp_ret ?_
    repeat (first | refine thenQ_ret ?_ | refine blockQ_ret ?_)
    refine fin1 (rs_c rfl) ?_
    exact congrArg vI (max_eq h1 h2)

theorem fixed_Valid (t : Ty) (v : Vl) :
    Pur cfg 153 [vTy t, vVal v] (vB (fixOk t && (decide (v.D = 1) && decide (-half t.Bits ≤ v.N) && decide (v.N < half t.Bits)))) := by
  refine con_intro Tryz.func153 rfl Tryz.ntmps153 Tryz.results153 rfl ?_
  intro z hz
  refine awp_seq ?_
  refine awp_region rfl ?_
  refine rwp_op rfl rfl (ope_box rfl rfl) ?_
  rintro _ _ ⟨b1, rfl, rfl⟩
  refine rwp_op rfl rfl (ope_box rfl rfl) ?_
  rintro _ _ ⟨b2, rfl, rfl⟩
  refine rwp_det rfl rfl (det_assign rfl rfl) ?_
  refine rwp_nil ?_
  refine awp_seq ?_
  refine awp_draw 25 mixed (by kernel_rfl) rfl rfl ?_
  refine td_det rfl rfl (det_load_agg rfl agg25 rfl (ptr_row 1 rfl) rfl) ?_
  refine td_det rfl rfl (det_call rfl ok129 (fixed_ValidateType _) ⟨VLe.refl _, rfl, trivial⟩) ?_
  refine td_det rfl rfl (det_eql rfl rfl rfl) ?_
  refine td_det rfl rfl (det_move rfl rfl) ?_
  refine td_lazy [] rfl rfl rfl rfl gv1 trivial (fun g1_3 => det_field_lit rfl fd23_1 rfl) rfl ?_
  refine td_lazy [(9, _)] rfl rfl rfl rfl gv1 ⟨rfl, rfl, trivial⟩ (fun g1_3 => det_load_one rfl one2 rfl (ptr_row 0 rfl) rfl) rfl ?_
  refine td_lazy [(10, _)] rfl rfl rfl rfl gv1 ⟨rfl, rfl, trivial⟩ (fun g1_3 => det_eql rfl rfl rfl) rfl ?_
  refine td_det rfl rfl (det_and rfl rfl rfl (fun h => h) rfl) ?_
  refine td_det rfl rfl (det_move rfl rfl) ?_
  refine td_lazy [] rfl rfl rfl rfl gv1 trivial (fun g1_8 => det_field_lit rfl fd23_0 rfl) rfl ?_
  refine td_lazy [(14, _)] rfl rfl rfl rfl gv1 ⟨rfl, rfl, trivial⟩ (fun g1_8 => det_load_one rfl one2 rfl (ptr_row 0 rfl) rfl) rfl ?_
  refine td_lazy [] rfl rfl rfl rfl gv1 trivial (fun g1_8 => det_field_lit rfl fd25_1 rfl) rfl ?_
  refine td_lazy [(16, _)] rfl rfl rfl rfl gv1 ⟨rfl, rfl, trivial⟩ (fun g1_8 => det_load_one rfl one3 rfl (ptr_row 1 rfl) rfl) rfl ?_
  refine td_lazy [(17, _)] rfl rfl rfl rfl gv1 ⟨rfl, rfl, trivial⟩ (fun g1_8 => det_call rfl ok176 (round_MinInt _ (fixB (fxa g1_8)).1 (fixB (fxa g1_8)).2) ⟨VLe.refl _, rfl, trivial⟩) rfl ?_
  refine td_lazy [(15, _), (18, _)] rfl rfl rfl rfl gv1 ⟨rfl, rfl, rfl, rfl, trivial⟩ (fun g1_8 => det_geq rfl rfl rfl) rfl ?_
  refine td_det rfl rfl (det_and rfl rfl rfl (fun h => h) rfl) ?_
  refine td_det rfl rfl (det_move rfl rfl) ?_
  refine td_lazy [] rfl rfl rfl rfl gv1 trivial (fun g1_16 => det_field_lit rfl fd23_0 rfl) rfl ?_
  refine td_lazy [(22, _)] rfl rfl rfl rfl gv1 ⟨rfl, rfl, trivial⟩ (fun g1_16 => det_load_one rfl one2 rfl (ptr_row 0 rfl) rfl) rfl ?_
  refine td_lazy [] rfl rfl rfl rfl gv1 trivial (fun g1_16 => det_field_lit rfl fd25_1 rfl) rfl ?_
  refine td_lazy [(24, _)] rfl rfl rfl rfl gv1 ⟨rfl, rfl, trivial⟩ (fun g1_16 => det_load_one rfl one3 rfl (ptr_row 1 rfl) rfl) rfl ?_
  refine td_lazy [(25, _)] rfl rfl rfl rfl gv1 ⟨rfl, rfl, trivial⟩ (fun g1_16 => det_call rfl ok177 (round_MaxInt _ (fixB (fxb g1_16)).1 (fixB (fxb g1_16)).2) ⟨VLe.refl _, rfl, trivial⟩) rfl ?_
  refine td_lazy [(23, _), (26, _)] rfl rfl rfl rfl gv1 ⟨rfl, rfl, rfl, rfl, trivial⟩ (fun g1_16 => det_leq rfl rfl rfl) rfl ?_
  refine td_det rfl rfl (det_and rfl rfl rfl (fun h => h) rfl) ?_
  refine td_det rfl rfl (det_assign rfl rfl) ?_
  refine td_nil ?_
  refine rwp_nil ?_
  refine awp_ret ?_
  repeat (first | refine thenQ_ret ?_ | refine blockQ_ret ?_)
  refine fin1 (rs_c rfl) ?_
  exact congrArg vB (fixV t v)

theorem value_whole (n : Int) :
    Pur cfg 154 [vI n] (vB (num31 n)) := by
  refine con_intro Tryz.func154 rfl Tryz.ntmps154 Tryz.results154 rfl ?_
  intro z hz
  refine awp_seq ?_
  refine awp_region rfl ?_
  refine rwp_det rfl rfl (det_assign rfl rfl) ?_
  refine rwp_nil ?_
  refine awp_seq ?_
  refine awp_region rfl ?_
  refine rwp_det rfl rfl (det_move rfl rfl) ?_
  refine rwp_det rfl rfl (det_geq rfl rfl rfl) ?_
  refine rwp_det rfl rfl (det_move rfl rfl) ?_
  refine rwp_lazy [] rfl rfl rfl rfl gv1 trivial (fun g1_2 => det_move rfl rfl) rfl ?_
  refine rwp_lazy [(6, _)] rfl rfl rfl rfl gv1 ⟨rfl, rfl, trivial⟩ (fun g1_2 => det_leq rfl rfl rfl) rfl ?_
  refine rwp_det rfl rfl (det_and rfl rfl rfl (fun h => h) rfl) ?_
  refine rwp_det rfl rfl (det_assign rfl rfl) ?_
  refine rwp_nil ?_
  refine awp_ret ?_
  repeat (first | refine thenQ_ret ?_ | refine blockQ_ret ?_)
  refine fin1 (rs_c rfl) ?_
  exact rfl

theorem frac_inRange (n : Int) :
    Pur cfg 178 [vI n] (vB (num31 n)) := by
  refine con_intro Tryz.func178 rfl Tryz.ntmps178 Tryz.results178 rfl ?_
  intro z hz
  refine awp_seq ?_
  refine awp_region rfl ?_
  refine rwp_det rfl rfl (det_assign rfl rfl) ?_
  refine rwp_nil ?_
  refine awp_seq ?_
  refine awp_region rfl ?_
  refine rwp_det rfl rfl (det_move rfl rfl) ?_
  refine rwp_det rfl rfl (det_geq rfl rfl rfl) ?_
  refine rwp_det rfl rfl (det_move rfl rfl) ?_
  refine rwp_lazy [] rfl rfl rfl rfl gv1 trivial (fun g1_2 => det_move rfl rfl) rfl ?_
  refine rwp_lazy [(6, _)] rfl rfl rfl rfl gv1 ⟨rfl, rfl, trivial⟩ (fun g1_2 => det_leq rfl rfl rfl) rfl ?_
  refine rwp_det rfl rfl (det_and rfl rfl rfl (fun h => h) rfl) ?_
  refine rwp_det rfl rfl (det_assign rfl rfl) ?_
  refine rwp_nil ?_
  refine awp_ret ?_
  repeat (first | refine thenQ_ret ?_ | refine blockQ_ret ?_)
  refine fin1 (rs_c rfl) ?_
  exact rfl

theorem frac_magnitude (n : Int) (hn : -9223372036854775808 ≤ n) (hm : n ≤ 9223372036854775807) :
    Pur cfg 180 [vI n] (vU64 n.natAbs) := by
  refine con_intro Tryz.func180 rfl Tryz.ntmps180 Tryz.results180 rfl ?_
  intro z hz
  refine awp_seq ?_
  refine awp_region rfl ?_
  refine rwp_det rfl rfl (det_assign rfl rfl) ?_
  refine rwp_nil ?_
  refine awp_seq ?_
  refine awp_seq ?_
  refine awp_region rfl ?_
  refine rwp_det rfl rfl (det_move rfl rfl) ?_
  refine rwp_det rfl rfl (det_lss rfl rfl rfl) ?_
  refine rwp_nil ?_
  refine awp_cond rfl (fun c1 => ?_) (fun c1 => ?_)
  · try simp only [decide_eq_true_eq, decide_eq_false_iff_not, Bool.not_eq_true', Bool.not_eq_false', Bool.and_eq_true, Bool.or_eq_true, Bool.and_eq_false_iff, Bool.or_eq_false_iff, Int.not_lt, Int.not_le, List.length_map] at c1
    refine awp_seq ?_
    refine awp_region rfl ?_
    refine rwp_det rfl rfl (det_move rfl rfl) ?_
    refine rwp_det rfl rfl (det_conv rfl us2 ik139 rfl) ?_
    refine rwp_det rfl rfl (det_neg rfl rfl) ?_
    refine rwp_det rfl rfl (det_assign rfl rfl) ?_
    refine rwp_nil ?_
    refine awp_ret ?_
    repeat (first | refine thenQ_ret ?_ | refine blockQ_ret ?_)
    refine fin1 (rs_c rfl) ?_
    exact congrArg vU64 (mag_neg c1 hn)
  · try simp only [decide_eq_true_eq, decide_eq_false_iff_not, Bool.not_eq_true', Bool.not_eq_false', Bool.and_eq_true, Bool.or_eq_true, Bool.and_eq_false_iff, Bool.or_eq_false_iff, Int.not_lt, Int.not_le, List.length_map] at c1
    refine awp_skip ?_
    refine awp_seq ?_
    refine awp_region rfl ?_
    refine rwp_det rfl rfl (det_move rfl rfl) ?_
    refine rwp_det rfl rfl (det_conv rfl us2 ik139 rfl) ?_
    refine rwp_det rfl rfl (det_assign rfl rfl) ?_
    refine rwp_nil ?_
    refine awp_ret ?_
    repeat (first | refine thenQ_ret ?_ | refine blockQ_ret ?_)
    refine fin1 (rs_c rfl) ?_
    exact congrArg vU64 (mag_pos (by omega) hm)

theorem frac_gcd (a b : Nat) :
    Pur cfg 179 [vU64 a, vU64 b] (vU64 (Nat.gcd a b)) := by
  refine con_intro Tryz.func179 rfl Tryz.ntmps179 Tryz.results179 rfl ?_
  intro z hz
  refine awp_seq ?_
  refine awp_region rfl ?_
  refine rwp_det rfl rfl (det_assign rfl rfl) ?_
  refine rwp_nil ?_
  refine awp_seq ?_
  refine awp_block ?_
  refine awp_weak ⟨[(0, .c _), (1, .c _)], []⟩ (Weak.mk [] ⟨VLe.of_eq rfl, VLe.of_eq rfl, trivial⟩ rfl) ?_
  refine awp_loop_k 2 0 rfl rfl (Nat × Nat) (fun ⟨x, y⟩ => [(0, vU64 x), (1, vU64 y)]) (fun ⟨x, y⟩ => []) (fun ⟨x, y⟩ => Nat.gcd a b = Nat.gcd x y) (fun ⟨x, y⟩ => y) ⟨⟨a, b⟩, rfl, Weak.mk [] ⟨VLe.refl _, VLe.refl _, trivial⟩ rfl⟩ ?_
  rintro ⟨x, y⟩ hg
  refine awp_seq ?_
  refine awp_seq ?_
  refine awp_region rfl ?_
  refine rwp_det rfl rfl (det_move rfl rfl) ?_
  refine rwp_det rfl rfl (det_neq rfl rfl rfl) ?_
  refine rwp_nil ?_
  refine awp_cond rfl (fun c1 => ?_) (fun c1 => ?_)
  · try simp only [decide_eq_true_eq, decide_eq_false_iff_not, Bool.not_eq_true', Bool.not_eq_false', Bool.and_eq_true, Bool.or_eq_true, Bool.and_eq_false_iff, Bool.or_eq_false_iff, Int.not_lt, Int.not_le, List.length_map] at c1
    refine awp_skip ?_
    refine awp_block ?_
    refine awp_draw 6 mixed (by kernel_rfl) rfl rfl ?_
    refine td_det rfl rfl (det_move rfl rfl) ?_
    refine td_det rfl rfl (det_move rfl rfl) ?_
    refine td_det rfl rfl (det_move rfl rfl) ?_
    refine td_det rfl rfl (det_rem rfl rfl rfl (by omega)) ?_
    refine td_det rfl rfl (det_assign rfl rfl) ?_
    refine td_det rfl rfl (det_assign rfl rfl) ?_
    refine td_nil ?_
    refine rwp_nil ?_
    refine ⟨⟨y, x % y⟩, (by rw [hg]; exact gcd_step (by omega)), (Nat.mod_lt _ (by omega)), Weak.mk [] ⟨VLe.refl _, VLe.of_eq (congrArg vU64 (Int.ofNat_tmod x y).symm), trivial⟩ rfl⟩
  · try simp only [decide_eq_true_eq, decide_eq_false_iff_not, Bool.not_eq_true', Bool.not_eq_false', Bool.and_eq_true, Bool.or_eq_true, Bool.and_eq_false_iff, Bool.or_eq_false_iff, Int.not_lt, Int.not_le, List.length_map] at c1
    refine awp_exit ?_
    refine awp_seq ?_
    refine awp_region rfl ?_
    refine rwp_det rfl rfl (det_move rfl rfl) ?_
    refine rwp_det rfl rfl (det_assign rfl rfl) ?_
    refine rwp_nil ?_
    refine awp_ret ?_
    repeat (first | refine thenQ_ret ?_ | refine blockQ_ret ?_)
    refine fin1 (rs_c rfl) ?_
    exact congrArg vU64 (by rw [hg, show y = 0 by omega, Nat.gcd_zero_right])

theorem base_gcd (a b : Nat) :
    Pur cfg 159 [vI a, vI b] (vI (Nat.gcd a b)) := by
  refine con_intro Tryz.func159 rfl Tryz.ntmps159 Tryz.results159 rfl ?_
  intro z hz
  refine awp_seq ?_
  refine awp_region rfl ?_
  refine rwp_det rfl rfl (det_assign rfl rfl) ?_
  refine rwp_nil ?_
  refine awp_seq ?_
  refine awp_block ?_
  refine awp_weak ⟨[(0, .c _), (1, .c _)], []⟩ (Weak.mk [] ⟨VLe.of_eq rfl, VLe.of_eq rfl, trivial⟩ rfl) ?_
  refine awp_loop_k 2 0 rfl rfl (Nat × Nat) (fun ⟨x, y⟩ => [(0, vI x), (1, vI y)]) (fun ⟨x, y⟩ => []) (fun ⟨x, y⟩ => Nat.gcd a b = Nat.gcd x y) (fun ⟨x, y⟩ => y) ⟨⟨a, b⟩, rfl, Weak.mk [] ⟨VLe.refl _, VLe.refl _, trivial⟩ rfl⟩ ?_
  rintro ⟨x, y⟩ hg
  refine awp_seq ?_
  refine awp_seq ?_
  refine awp_region rfl ?_
  refine rwp_det rfl rfl (det_move rfl rfl) ?_
  refine rwp_det rfl rfl (det_neq rfl rfl rfl) ?_
  refine rwp_nil ?_
  refine awp_cond rfl (fun c1 => ?_) (fun c1 => ?_)
  · try simp only [decide_eq_true_eq, decide_eq_false_iff_not, Bool.not_eq_true', Bool.not_eq_false', Bool.and_eq_true, Bool.or_eq_true, Bool.and_eq_false_iff, Bool.or_eq_false_iff, Int.not_lt, Int.not_le, List.length_map] at c1
    refine awp_skip ?_
    refine awp_block ?_
    refine awp_draw 6 mixed (by kernel_rfl) rfl rfl ?_
    refine td_det rfl rfl (det_move rfl rfl) ?_
    refine td_det rfl rfl (det_move rfl rfl) ?_
    refine td_det rfl rfl (det_move rfl rfl) ?_
    refine td_det rfl rfl (det_rem rfl rfl rfl (by omega)) ?_
    refine td_det rfl rfl (det_assign rfl rfl) ?_
    refine td_det rfl rfl (det_assign rfl rfl) ?_
    refine td_nil ?_
    refine rwp_nil ?_
    refine ⟨⟨y, x % y⟩, (by rw [hg]; exact gcd_step (by omega)), (Nat.mod_lt _ (by omega)), Weak.mk [] ⟨VLe.refl _, VLe.of_eq (congrArg vI (Int.ofNat_tmod x y).symm), trivial⟩ rfl⟩
  · try simp only [decide_eq_true_eq, decide_eq_false_iff_not, Bool.not_eq_true', Bool.not_eq_false', Bool.and_eq_true, Bool.or_eq_true, Bool.and_eq_false_iff, Bool.or_eq_false_iff, Int.not_lt, Int.not_le, List.length_map] at c1
    refine awp_exit ?_
    refine awp_seq ?_
    refine awp_region rfl ?_
    refine rwp_det rfl rfl (det_move rfl rfl) ?_
    refine rwp_det rfl rfl (det_assign rfl rfl) ?_
    refine rwp_nil ?_
    refine awp_ret ?_
    repeat (first | refine thenQ_ret ?_ | refine blockQ_ret ?_)
    refine fin1 (rs_c rfl) ?_
    exact congrArg vI (by rw [hg, show y = 0 by omega, Nat.gcd_zero_right])

theorem frac_Valid (v : Vl) :
    Pur cfg 155 [vVal v] (vB (decide (1 ≤ v.D) && decide (v.D ≤ 2147483647) && num31 v.N && decide (Int.gcd v.N v.D = 1))) := by
  refine con_intro Tryz.func155 rfl Tryz.ntmps155 Tryz.results155 rfl ?_
  intro z hz
  refine awp_seq ?_
  refine awp_region rfl ?_
  refine rwp_op rfl rfl (ope_box rfl rfl) ?_
  rintro _ _ ⟨b1, rfl, rfl⟩
  refine rwp_det rfl rfl (det_assign rfl rfl) ?_
  refine rwp_nil ?_
  refine awp_seq ?_
  refine awp_draw 24 mixed (by kernel_rfl) rfl rfl ?_
  refine td_det rfl rfl (det_field_lit rfl fd23_1 rfl) ?_
  refine td_det rfl rfl (det_load_one rfl one2 rfl (ptr_row 0 rfl) rfl) ?_
  refine td_det rfl rfl (det_geq rfl rfl rfl) ?_
  refine td_det rfl rfl (det_move rfl rfl) ?_
  refine td_lazy [] rfl rfl rfl rfl gv1 trivial (fun g1_3 => det_field_lit rfl fd23_1 rfl) rfl ?_
  refine td_lazy [(7, _)] rfl rfl rfl rfl gv1 ⟨rfl, rfl, trivial⟩ (fun g1_3 => det_load_one rfl one2 rfl (ptr_row 0 rfl) rfl) rfl ?_
  refine td_lazy [(8, _)] rfl rfl rfl rfl gv1 ⟨rfl, rfl, trivial⟩ (fun g1_3 => det_leq rfl rfl rfl) rfl ?_
  refine td_det rfl rfl (det_and rfl rfl rfl (fun h => h) rfl) ?_
  refine td_det rfl rfl (det_move rfl rfl) ?_
  refine td_lazy [] rfl rfl rfl rfl gv1 trivial (fun g1_8 => det_field_lit rfl fd23_0 rfl) rfl ?_
  refine td_lazy [(12, _)] rfl rfl rfl rfl gv1 ⟨rfl, rfl, trivial⟩ (fun g1_8 => det_load_one rfl one2 rfl (ptr_row 0 rfl) rfl) rfl ?_
  refine td_lazy [(13, _)] rfl rfl rfl rfl gv1 ⟨rfl, rfl, trivial⟩ (fun g1_8 => det_call rfl ok178 (frac_inRange _) ⟨VLe.refl _, rfl, trivial⟩) rfl ?_
  refine td_det rfl rfl (det_and rfl rfl rfl (fun h => h) rfl) ?_
  refine td_det rfl rfl (det_move rfl rfl) ?_
  refine td_lazy [] rfl rfl rfl rfl gv1 trivial (fun g1_13 => det_field_lit rfl fd23_0 rfl) rfl ?_
  refine td_lazy [(17, _)] rfl rfl rfl rfl gv1 ⟨rfl, rfl, trivial⟩ (fun g1_13 => det_load_one rfl one2 rfl (ptr_row 0 rfl) rfl) rfl ?_
  refine td_lazy [(18, _)] rfl rfl rfl rfl gv1 ⟨rfl, rfl, trivial⟩ (fun g1_13 => det_call rfl ok180 (frac_magnitude v.N (frV g1_13).2.2.1 (frV g1_13).2.2.2) ⟨VLe.refl _, rfl, trivial⟩) rfl ?_
  refine td_lazy [] rfl rfl rfl rfl gv1 trivial (fun g1_13 => det_field_lit rfl fd23_1 rfl) rfl ?_
  refine td_lazy [(20, _)] rfl rfl rfl rfl gv1 ⟨rfl, rfl, trivial⟩ (fun g1_13 => det_load_one rfl one2 rfl (ptr_row 0 rfl) rfl) rfl ?_
  refine td_lazy [(21, _)] rfl rfl rfl rfl gv1 ⟨rfl, rfl, trivial⟩ (fun g1_13 => det_conv rfl us2 ik139 rfl) rfl ?_
  refine td_lazy [(19, _), (22, _)] rfl rfl rfl rfl gv1 ⟨rfl, rfl, rfl, rfl, trivial⟩ (fun g1_13 => det_call rfl ok179 (show Pur cfg 179 [vU64 v.N.natAbs, vU64 (IntKind.u64.wrap v.D)] (vU64 (Nat.gcd v.N.natAbs v.D.natAbs)) from by rw [u64_D (frV g1_13).1 (frV g1_13).2.1]; exact frac_gcd _ _) ⟨VLe.refl _, rfl, VLe.refl _, rfl, trivial⟩) rfl ?_
  refine td_lazy [(23, _)] rfl rfl rfl rfl gv1 ⟨rfl, rfl, trivial⟩ (fun g1_13 => det_eql rfl rfl rfl) rfl ?_
  refine td_det rfl rfl (det_and rfl rfl rfl (fun h => h) rfl) ?_
  refine td_det rfl rfl (det_assign rfl rfl) ?_
  refine td_nil ?_
  refine rwp_nil ?_
  refine awp_ret ?_
  repeat (first | refine thenQ_ret ?_ | refine blockQ_ret ?_)
  refine fin1 (rs_c rfl) ?_
  exact congrArg vB (by rw [show (decide (((Nat.gcd v.N.natAbs v.D.natAbs : Nat) : Int) = 1)) = decide (Int.gcd v.N v.D = 1) from decide_eq_decide.2 (by unfold Int.gcd; omega)])

theorem value_Valid (t : Ty) (v : Vl) :
    Pur cfg 125 [vTy t, vVal v] (vB (tyOk t && valOk t v)) := by
  refine con_intro Tryz.func125 rfl Tryz.ntmps125 Tryz.results125 rfl ?_
  intro z hz
  refine awp_seq ?_
  refine awp_region rfl ?_
  refine rwp_op rfl rfl (ope_box rfl rfl) ?_
  rintro _ _ ⟨b1, rfl, rfl⟩
  refine rwp_op rfl rfl (ope_box rfl rfl) ?_
  rintro _ _ ⟨b2, rfl, rfl⟩
  refine rwp_det rfl rfl (det_assign rfl rfl) ?_
  refine rwp_nil ?_
  refine awp_seq ?_
  refine awp_seq ?_
  refine awp_region rfl ?_
  refine rwp_det rfl rfl (det_load_agg rfl agg25 rfl (ptr_row 1 rfl) rfl) ?_
  refine rwp_det rfl rfl (det_call rfl ok90 (value_ValidateType _) ⟨VLe.refl _, rfl, trivial⟩) ?_
  refine rwp_det rfl rfl (det_neq rfl rfl rfl) ?_
  refine rwp_nil ?_
  refine awp_cond rfl (fun c1 => ?_) (fun c1 => ?_)
  · try simp only [decide_eq_true_eq, decide_eq_false_iff_not, Bool.not_eq_true', Bool.not_eq_false', Bool.and_eq_true, Bool.or_eq_true, Bool.and_eq_false_iff, Bool.or_eq_false_iff, Int.not_lt, Int.not_le, List.length_map] at c1
    have ht : tyOk t = false := tyErr_ne c1
    refine awp_seq ?_
    refine awp_region rfl ?_
    refine rwp_det rfl rfl (det_assign rfl rfl) ?_
    refine rwp_nil ?_
    refine awp_ret ?_
    repeat (first | refine thenQ_ret ?_ | refine blockQ_ret ?_)
    refine fin1 (rs_c rfl) ?_
    rw [ht]; rfl
  · try simp only [decide_eq_true_eq, decide_eq_false_iff_not, Bool.not_eq_true', Bool.not_eq_false', Bool.and_eq_true, Bool.or_eq_true, Bool.and_eq_false_iff, Bool.or_eq_false_iff, Int.not_lt, Int.not_le, List.length_map] at c1
    have ht : tyOk t = true := tyErr_eq c1
    refine awp_skip ?_
    refine awp_seq ?_
    refine awp_seq ?_
    refine awp_region rfl ?_
    refine rwp_det rfl rfl (det_field_lit rfl fd25_0 rfl) ?_
    refine rwp_det rfl rfl (det_load_one rfl one3 rfl (ptr_row 1 rfl) rfl) ?_
    refine rwp_nil ?_
    refine awp_block ?_
    refine awp_seq ?_
    refine awp_region rfl ?_
    refine rwp_det rfl rfl (det_eql rfl rfl rfl) ?_
    refine rwp_det rfl rfl (det_assign rfl rfl) ?_
    refine rwp_nil ?_
    refine awp_cond rfl (fun c2 => ?_) (fun c2 => ?_)
    · try simp only [decide_eq_true_eq, decide_eq_false_iff_not, Bool.not_eq_true', Bool.not_eq_false', Bool.and_eq_true, Bool.or_eq_true, Bool.and_eq_false_iff, Bool.or_eq_false_iff, Int.not_lt, Int.not_le, List.length_map] at c2
      refine awp_seq ?_
      refine awp_region rfl ?_
      refine rwp_det rfl rfl (det_load_agg rfl agg25 rfl (ptr_row 1 rfl) rfl) ?_
      refine rwp_det rfl rfl (det_load_agg rfl agg23 rfl (ptr_row 0 rfl) rfl) ?_
      refine rwp_det rfl rfl (det_call rfl ok153 (fixed_Valid _ _) ⟨VLe.refl _, rfl, VLe.refl _, rfl, trivial⟩) ?_
      refine rwp_det rfl rfl (det_assign rfl rfl) ?_
      refine rwp_nil ?_
      refine awp_ret ?_
      repeat (first | refine thenQ_ret ?_ | refine blockQ_ret ?_)
      refine fin1 (rs_c rfl) ?_
      exact congrArg vB (by rw [ht, valOk, c2, ← fix_ty c2, ht]; rfl)
    · try simp only [decide_eq_true_eq, decide_eq_false_iff_not, Bool.not_eq_true', Bool.not_eq_false', Bool.and_eq_true, Bool.or_eq_true, Bool.and_eq_false_iff, Bool.or_eq_false_iff, Int.not_lt, Int.not_le, List.length_map] at c2
      refine awp_seq ?_
      refine awp_region rfl ?_
      refine rwp_det rfl rfl (det_eql rfl rfl rfl) ?_
      refine rwp_det rfl rfl (det_assign rfl rfl) ?_
      refine rwp_nil ?_
      refine awp_cond rfl (fun c3 => ?_) (fun c3 => ?_)
      · try simp only [decide_eq_true_eq, decide_eq_false_iff_not, Bool.not_eq_true', Bool.not_eq_false', Bool.and_eq_true, Bool.or_eq_true, Bool.and_eq_false_iff, Bool.or_eq_false_iff, Int.not_lt, Int.not_le, List.length_map] at c3
        refine awp_seq ?_
        refine awp_region rfl ?_
        refine rwp_det rfl rfl (det_field_lit rfl fd23_1 rfl) ?_
        refine rwp_det rfl rfl (det_load_one rfl one2 rfl (ptr_row 0 rfl) rfl) ?_
        refine rwp_det rfl rfl (det_eql rfl rfl rfl) ?_
        refine rwp_det rfl rfl (det_move rfl rfl) ?_
        refine rwp_lazy [] rfl rfl rfl rfl gv1 trivial (fun g7_3 => det_field_lit rfl fd23_0 rfl) rfl ?_
        refine rwp_lazy [(21, _)] rfl rfl rfl rfl gv1 ⟨rfl, rfl, trivial⟩ (fun g7_3 => det_load_one rfl one2 rfl (ptr_row 0 rfl) rfl) rfl ?_
        refine rwp_lazy [(22, _)] rfl rfl rfl rfl gv1 ⟨rfl, rfl, trivial⟩ (fun g7_3 => det_call rfl ok154 (value_whole _) ⟨VLe.refl _, rfl, trivial⟩) rfl ?_
        refine rwp_det rfl rfl (det_and rfl rfl rfl (fun h => h) rfl) ?_
        refine rwp_det rfl rfl (det_assign rfl rfl) ?_
        refine rwp_nil ?_
        refine awp_ret ?_
        repeat (first | refine thenQ_ret ?_ | refine blockQ_ret ?_)
        refine fin1 (rs_c rfl) ?_
        exact congrArg vB (by rw [ht, valOk, dec_false c2, c3]; rfl)
      · try simp only [decide_eq_true_eq, decide_eq_false_iff_not, Bool.not_eq_true', Bool.not_eq_false', Bool.and_eq_true, Bool.or_eq_true, Bool.and_eq_false_iff, Bool.or_eq_false_iff, Int.not_lt, Int.not_le, List.length_map] at c3
        refine awp_skip ?_
        refine awp_seq ?_
        refine awp_region rfl ?_
        refine rwp_det rfl rfl (det_load_agg rfl agg23 rfl (ptr_row 0 rfl) rfl) ?_
        refine rwp_det rfl rfl (det_call rfl ok155 (frac_Valid _) ⟨VLe.refl _, rfl, trivial⟩) ?_
        refine rwp_det rfl rfl (det_assign rfl rfl) ?_
        refine rwp_nil ?_
        refine awp_ret ?_
        repeat (first | refine thenQ_ret ?_ | refine blockQ_ret ?_)
        refine fin1 (rs_c rfl) ?_
        exact congrArg vB (by rw [ht, valOk, dec_false c2, dec_false c3]; rfl)

theorem base_Val (t : Ty) (v : Vl) (ht : tyOk t = true) :
    Pur cfg 141 [vTy t, vVal v] (vB (valOk t v)) := by
  refine con_intro Tryz.func141 rfl Tryz.ntmps141 Tryz.results141 rfl ?_
  intro z hz
  refine awp_seq ?_
  refine awp_region rfl ?_
  refine rwp_op rfl rfl (ope_box rfl rfl) ?_
  rintro _ _ ⟨b1, rfl, rfl⟩
  refine rwp_op rfl rfl (ope_box rfl rfl) ?_
  rintro _ _ ⟨b2, rfl, rfl⟩
  refine rwp_det rfl rfl (det_assign rfl rfl) ?_
  refine rwp_nil ?_
  refine awp_seq ?_
  refine awp_seq ?_
  refine awp_region rfl ?_
  refine rwp_det rfl rfl (det_field_lit rfl fd25_0 rfl) ?_
  refine rwp_det rfl rfl (det_load_one rfl one3 rfl (ptr_row 1 rfl) rfl) ?_
  refine rwp_det rfl rfl (det_eql rfl rfl rfl) ?_
  refine rwp_nil ?_
  refine awp_cond rfl (fun c1 => ?_) (fun c1 => ?_)
  · try simp only [decide_eq_true_eq, decide_eq_false_iff_not, Bool.not_eq_true', Bool.not_eq_false', Bool.and_eq_true, Bool.or_eq_true, Bool.and_eq_false_iff, Bool.or_eq_false_iff, Int.not_lt, Int.not_le, List.length_map] at c1
    obtain ⟨b1, b2⟩ := fixB (by rw [← fix_ty c1]; exact ht)
    refine awp_seq ?_
    refine awp_region rfl ?_
    refine rwp_det rfl rfl (det_field_lit rfl fd25_1 rfl) ?_
    refine rwp_det rfl rfl (det_load_one rfl one3 rfl (ptr_row 1 rfl) rfl) ?_
    refine rwp_det rfl rfl (det_sub_nw rfl rfl rfl ⟨by omega, by omega⟩) ?_
    refine rwp_det rfl rfl (det_shl rfl rfl rfl (by omega)) ?_
    refine rwp_det rfl rfl (det_assign rfl rfl) ?_
    refine rwp_nil ?_
    refine awp_seq ?_
    refine awp_region rfl ?_
    refine rwp_det rfl rfl (det_field_lit rfl fd23_1 rfl) ?_
    refine rwp_det rfl rfl (det_load_one rfl one2 rfl (ptr_row 0 rfl) rfl) ?_
    refine rwp_det rfl rfl (det_eql rfl rfl rfl) ?_
    refine rwp_det rfl rfl (det_move rfl rfl) ?_
    refine rwp_lazy [] rfl rfl rfl rfl gv1 trivial (fun g3_3 => det_field_lit rfl fd23_0 rfl) rfl ?_
    refine rwp_lazy [(17, _)] rfl rfl rfl rfl gv1 ⟨rfl, rfl, trivial⟩ (fun g3_3 => det_load_one rfl one2 rfl (ptr_row 0 rfl) rfl) rfl ?_
    refine rwp_lazy [] rfl rfl rfl rfl gv1 trivial (fun g3_3 => det_move rfl rfl) rfl ?_
    refine rwp_lazy [(19, _)] rfl rfl rfl rfl gv1 ⟨rfl, rfl, trivial⟩ (fun g3_3 => det_neg rfl rfl) rfl ?_
    refine rwp_lazy [(18, _), (20, _)] rfl rfl rfl rfl gv1 ⟨rfl, rfl, rfl, rfl, trivial⟩ (fun g3_3 => det_geq rfl rfl rfl) rfl ?_
    refine rwp_det rfl rfl (det_and rfl rfl rfl (fun h => h) rfl) ?_
    refine rwp_det rfl rfl (det_move rfl rfl) ?_
    refine rwp_lazy [] rfl rfl rfl rfl gv1 trivial (fun g3_10 => det_field_lit rfl fd23_0 rfl) rfl ?_
    refine rwp_lazy [(24, _)] rfl rfl rfl rfl gv1 ⟨rfl, rfl, trivial⟩ (fun g3_10 => det_load_one rfl one2 rfl (ptr_row 0 rfl) rfl) rfl ?_
    refine rwp_lazy [] rfl rfl rfl rfl gv1 trivial (fun g3_10 => det_move rfl rfl) rfl ?_
    refine rwp_lazy [(25, _), (26, _)] rfl rfl rfl rfl gv1 ⟨rfl, rfl, rfl, rfl, trivial⟩ (fun g3_10 => det_lss rfl rfl rfl) rfl ?_
    refine rwp_det rfl rfl (det_and rfl rfl rfl (fun h => h) rfl) ?_
    refine rwp_det rfl rfl (det_assign rfl rfl) ?_
    refine rwp_nil ?_
    refine awp_ret ?_
    repeat (first | refine thenQ_ret ?_ | refine blockQ_ret ?_)
    refine fin1 (rs_c rfl) ?_
    exact congrArg vB (valfix c1 b1 b2)
  · try simp only [decide_eq_true_eq, decide_eq_false_iff_not, Bool.not_eq_true', Bool.not_eq_false', Bool.and_eq_true, Bool.or_eq_true, Bool.and_eq_false_iff, Bool.or_eq_false_iff, Int.not_lt, Int.not_le, List.length_map] at c1
    refine awp_skip ?_
    refine awp_seq ?_
    refine awp_seq ?_
    refine awp_region rfl ?_
    refine rwp_det rfl rfl (det_field_lit rfl fd23_0 rfl) ?_
    refine rwp_det rfl rfl (det_load_one rfl one2 rfl (ptr_row 0 rfl) rfl) ?_
    refine rwp_det rfl rfl (det_gtr rfl rfl rfl) ?_
    refine rwp_det rfl rfl (det_move rfl rfl) ?_
    refine rwp_lazy [] rfl rfl rfl rfl gv1 trivial (fun g4_3 => det_field_lit rfl fd23_0 rfl) rfl ?_
    refine rwp_lazy [(33, _)] rfl rfl rfl rfl gv1 ⟨rfl, rfl, trivial⟩ (fun g4_3 => det_load_one rfl one2 rfl (ptr_row 0 rfl) rfl) rfl ?_
    refine rwp_lazy [(34, _)] rfl rfl rfl rfl gv1 ⟨rfl, rfl, trivial⟩ (fun g4_3 => det_lss rfl rfl rfl) rfl ?_
    refine rwp_det rfl rfl (det_or rfl rfl rfl rfl (fun h => (lzf h))) ?_
    refine rwp_det rfl rfl (det_move rfl rfl) ?_
    refine rwp_lazy [] rfl rfl rfl rfl gv1 trivial (fun g4_8 => det_field_lit rfl fd23_1 rfl) rfl ?_
    refine rwp_lazy [(38, _)] rfl rfl rfl rfl gv1 ⟨rfl, rfl, trivial⟩ (fun g4_8 => det_load_one rfl one2 rfl (ptr_row 0 rfl) rfl) rfl ?_
    refine rwp_lazy [(39, _)] rfl rfl rfl rfl gv1 ⟨rfl, rfl, trivial⟩ (fun g4_8 => det_lss rfl rfl rfl) rfl ?_
    refine rwp_det rfl rfl (det_or rfl rfl rfl rfl (fun h => (lzf h))) ?_
    refine rwp_det rfl rfl (det_move rfl rfl) ?_
    refine rwp_lazy [] rfl rfl rfl rfl gv1 trivial (fun g4_13 => det_field_lit rfl fd23_1 rfl) rfl ?_
    refine rwp_lazy [(43, _)] rfl rfl rfl rfl gv1 ⟨rfl, rfl, trivial⟩ (fun g4_13 => det_load_one rfl one2 rfl (ptr_row 0 rfl) rfl) rfl ?_
    refine rwp_lazy [(44, _)] rfl rfl rfl rfl gv1 ⟨rfl, rfl, trivial⟩ (fun g4_13 => det_gtr rfl rfl rfl) rfl ?_
    refine rwp_det rfl rfl (det_or rfl rfl rfl rfl (fun h => (lzf h))) ?_
    refine rwp_nil ?_
    refine awp_cond rfl (fun c2 => ?_) (fun c2 => ?_)
    · refine awp_seq ?_
      refine awp_region rfl ?_
      refine rwp_det rfl rfl (det_assign rfl rfl) ?_
      refine rwp_nil ?_
      refine awp_ret ?_
      repeat (first | refine thenQ_ret ?_ | refine blockQ_ret ?_)
      refine fin1 (rs_c rfl) ?_
      exact congrArg vB (val_out c1 c2).symm
    · obtain ⟨hN1, hN2, hD1, hD2⟩ := val_in c2
      refine awp_skip ?_
      refine awp_seq ?_
      refine awp_seq ?_
      refine awp_region rfl ?_
      refine rwp_det rfl rfl (det_field_lit rfl fd25_0 rfl) ?_
      refine rwp_det rfl rfl (det_load_one rfl one3 rfl (ptr_row 1 rfl) rfl) ?_
      refine rwp_det rfl rfl (det_eql rfl rfl rfl) ?_
      refine rwp_nil ?_
      refine awp_cond rfl (fun c3 => ?_) (fun c3 => ?_)
      · try simp only [decide_eq_true_eq, decide_eq_false_iff_not, Bool.not_eq_true', Bool.not_eq_false', Bool.and_eq_true, Bool.or_eq_true, Bool.and_eq_false_iff, Bool.or_eq_false_iff, Int.not_lt, Int.not_le, List.length_map] at c3
        refine awp_seq ?_
        refine awp_region rfl ?_
        refine rwp_det rfl rfl (det_field_lit rfl fd23_1 rfl) ?_
        refine rwp_det rfl rfl (det_load_one rfl one2 rfl (ptr_row 0 rfl) rfl) ?_
        refine rwp_det rfl rfl (det_eql rfl rfl rfl) ?_
        refine rwp_det rfl rfl (det_assign rfl rfl) ?_
        refine rwp_nil ?_
        refine awp_ret ?_
        repeat (first | refine thenQ_ret ?_ | refine blockQ_ret ?_)
        refine fin1 (rs_c rfl) ?_
        exact congrArg vB (by rw [valOk, dec_false c1, c3]; simp [num31, hN1, hN2])
      · try simp only [decide_eq_true_eq, decide_eq_false_iff_not, Bool.not_eq_true', Bool.not_eq_false', Bool.and_eq_true, Bool.or_eq_true, Bool.and_eq_false_iff, Bool.or_eq_false_iff, Int.not_lt, Int.not_le, List.length_map] at c3
        refine awp_skip ?_
        refine awp_seq ?_
        refine awp_region rfl ?_
        refine rwp_det rfl rfl (det_field_lit rfl fd23_0 rfl) ?_
        refine rwp_det rfl rfl (det_load_one rfl one2 rfl (ptr_row 0 rfl) rfl) ?_
        refine rwp_det rfl rfl (det_field_lit rfl fd23_0 rfl) ?_
        refine rwp_det rfl rfl (det_load_one rfl one2 rfl (ptr_row 0 rfl) rfl) ?_
        refine rwp_det rfl rfl (det_neg rfl rfl) ?_
        refine rwp_det rfl rfl (det_max rfl rfl rfl) ?_
        refine rwp_det rfl rfl (det_field_lit rfl fd23_1 rfl) ?_
        refine rwp_det rfl rfl (det_load_one rfl one2 rfl (ptr_row 0 rfl) rfl) ?_
        refine rwp_det rfl rfl (det_call rfl ok159 (show Pur cfg 159 [vI (max v.N (IntKind.i64.wrap (-v.N))), vI v.D] (vI (Int.gcd v.N v.D)) from by rw [max_abs hN1 hN2, show v.D = (v.D.natAbs : Int) by omega]; exact base_gcd _ _) ⟨VLe.refl _, rfl, VLe.refl _, rfl, trivial⟩) ?_
        refine rwp_det rfl rfl (det_eql rfl rfl rfl) ?_
        refine rwp_det rfl rfl (det_assign rfl rfl) ?_
        refine rwp_nil ?_
        refine awp_ret ?_
        repeat (first | refine thenQ_ret ?_ | refine blockQ_ret ?_)
        refine fin1 (rs_c rfl) ?_
        exact congrArg vB (by rw [valOk, dec_false c1, dec_false c3]; simp [num31, hN1, hN2, hD1, hD2]; omega)

theorem value_Zero (t : Ty) :
    Pur cfg 48 [vTy t] (vVal (zeroV t)) := by
  refine con_intro Tryz.func48 rfl Tryz.ntmps48 Tryz.results48 rfl ?_
  intro z hz
  refine awp_seq ?_
  refine awp_region rfl ?_
  refine rwp_op rfl rfl (ope_box rfl rfl) ?_
  rintro _ _ ⟨b1, rfl, rfl⟩
  refine rwp_op rfl rfl (ope_alloc rfl zr23) ?_
  rintro _ _ ⟨b2, rfl, rfl⟩
  refine rwp_nil ?_
  refine awp_seq ?_
  refine awp_seq ?_
  refine awp_region rfl ?_
  refine rwp_det rfl rfl (det_load_agg rfl agg25 rfl (ptr_row 1 rfl) rfl) ?_
  refine rwp_det rfl rfl (det_call rfl ok90 (value_ValidateType _) ⟨VLe.refl _, rfl, trivial⟩) ?_
  refine rwp_det rfl rfl (det_neq rfl rfl rfl) ?_
  refine rwp_nil ?_
  refine awp_cond rfl (fun c1 => ?_) (fun c1 => ?_)
  · try simp only [decide_eq_true_eq, decide_eq_false_iff_not, Bool.not_eq_true', Bool.not_eq_false', Bool.and_eq_true, Bool.or_eq_true, Bool.and_eq_false_iff, Bool.or_eq_false_iff, Int.not_lt, Int.not_le, List.length_map] at c1
    refine awp_seq ?_
    refine awp_region rfl ?_
    refine rwp_det rfl rfl (det_build rfl zr23 pl23 rfl) ?_
    refine rwp_det0 rfl rfl (det_store rfl sz23 rfl rfl rfl (st_row 0 rfl rfl)) ?_
    refine rwp_nil ?_
    refine awp_ret ?_
    repeat (first | refine thenQ_ret ?_ | refine blockQ_ret ?_)
    refine fin1 (rs_cell_agg agg23 rfl (ptr_row 0 rfl) rfl) ?_
    rw [zeroV, tyErr_ne c1]; rfl
  · try simp only [decide_eq_true_eq, decide_eq_false_iff_not, Bool.not_eq_true', Bool.not_eq_false', Bool.and_eq_true, Bool.or_eq_true, Bool.and_eq_false_iff, Bool.or_eq_false_iff, Int.not_lt, Int.not_le, List.length_map] at c1
    refine awp_skip ?_
    refine awp_seq ?_
    refine awp_region rfl ?_
    refine rwp_det rfl rfl (det_build rfl zr23 pl23 rfl) ?_
    refine rwp_det0 rfl rfl (det_store rfl sz23 rfl rfl rfl (st_row 0 rfl rfl)) ?_
    refine rwp_nil ?_
    refine awp_ret ?_
    repeat (first | refine thenQ_ret ?_ | refine blockQ_ret ?_)
    refine fin1 (rs_cell_agg agg23 rfl (ptr_row 0 rfl) rfl) ?_
    rw [zeroV, tyErr_eq c1]; rfl

theorem ref04_Zero (t : Ty) :
    Pur cfg 50 [vTy t] (vVal (zeroV t)) := by
  refine con_intro Tryz.func50 rfl Tryz.ntmps50 Tryz.results50 rfl ?_
  intro z hz
  refine awp_seq ?_
  refine awp_region rfl ?_
  refine rwp_op rfl rfl (ope_box rfl rfl) ?_
  rintro _ _ ⟨b1, rfl, rfl⟩
  refine rwp_op rfl rfl (ope_alloc rfl zr23) ?_
  rintro _ _ ⟨b2, rfl, rfl⟩
  refine rwp_nil ?_
  refine awp_seq ?_
  refine awp_seq ?_
  refine awp_region rfl ?_
  refine rwp_det rfl rfl (det_load_agg rfl agg25 rfl (ptr_row 1 rfl) rfl) ?_
  refine rwp_det rfl rfl (det_call rfl ok91 (base_Type _) ⟨VLe.refl _, rfl, trivial⟩) ?_
  refine rwp_det rfl rfl (det_not rfl rfl) ?_
  refine rwp_nil ?_
  refine awp_cond rfl (fun c1 => ?_) (fun c1 => ?_)
  · try simp only [decide_eq_true_eq, decide_eq_false_iff_not, Bool.not_eq_true', Bool.not_eq_false', Bool.and_eq_true, Bool.or_eq_true, Bool.and_eq_false_iff, Bool.or_eq_false_iff, Int.not_lt, Int.not_le, List.length_map] at c1
    refine awp_seq ?_
    refine awp_region rfl ?_
    refine rwp_det rfl rfl (det_build rfl zr23 pl23 rfl) ?_
    refine rwp_det0 rfl rfl (det_store rfl sz23 rfl rfl rfl (st_row 0 rfl rfl)) ?_
    refine rwp_nil ?_
    refine awp_ret ?_
    repeat (first | refine thenQ_ret ?_ | refine blockQ_ret ?_)
    refine fin1 (rs_cell_agg agg23 rfl (ptr_row 0 rfl) rfl) ?_
    rw [zeroV, c1]; rfl
  · try simp only [decide_eq_true_eq, decide_eq_false_iff_not, Bool.not_eq_true', Bool.not_eq_false', Bool.and_eq_true, Bool.or_eq_true, Bool.and_eq_false_iff, Bool.or_eq_false_iff, Int.not_lt, Int.not_le, List.length_map] at c1
    refine awp_skip ?_
    refine awp_seq ?_
    refine awp_region rfl ?_
    refine rwp_det rfl rfl (det_build rfl zr23 pl23 rfl) ?_
    refine rwp_det0 rfl rfl (det_store rfl sz23 rfl rfl rfl (st_row 0 rfl rfl)) ?_
    refine rwp_nil ?_
    refine awp_ret ?_
    repeat (first | refine thenQ_ret ?_ | refine blockQ_ret ?_)
    refine fin1 (rs_cell_agg agg23 rfl (ptr_row 0 rfl) rfl) ?_
    rw [zeroV, c1]; rfl

end Go.W
