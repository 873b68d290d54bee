/-
  The walks of layer 41.
  Conditions: none.
-/
import Derived.Test.YthgabpbbjnejnaaDoorL41A
import Derived.Test.YthgabpbbjnejnaaDoorCfg
set_option linter.unusedSimpArgs false
set_option linter.unusedVariables false
namespace Go.L41
open Go Go.Eng Go.Proofs
theorem agg23 : aggT Tryd.prog 23 = some 4 := by kernel_rfl
theorem el26 : elemT Tryd.prog 26 = some (23, 4, 40) := by kernel_rfl
theorem el36 : elemT Tryd.prog 36 = some (9, 1, 16) := by kernel_rfl
theorem fd23_0 : fieldT Tryd.prog 23 0 = some (0, 9) := by kernel_rfl
theorem fd23_1 : fieldT Tryd.prog 23 1 = some (1, 3) := by kernel_rfl
theorem fd23_2 : fieldT Tryd.prog 23 2 = some (2, 3) := by kernel_rfl
theorem fd23_3 : fieldT Tryd.prog 23 3 = some (3, 3) := by kernel_rfl
theorem ik21 : intT Tryd.prog 21 = some .i32 := by kernel_rfl
theorem mixed : Tryd.prog.follows .mixedOrders = true := by kernel_rfl
theorem ok7 : callOk Tryd.prog 7 = true := by kernel_rfl
theorem ok8 : callOk Tryd.prog 8 = true := by kernel_rfl
theorem ok9 : callOk Tryd.prog 9 = true := by kernel_rfl
theorem ok10 : callOk Tryd.prog 10 = true := by kernel_rfl
theorem ok11 : callOk Tryd.prog 11 = true := by kernel_rfl
theorem ok12 : callOk Tryd.prog 12 = true := by kernel_rfl
theorem ok13 : callOk Tryd.prog 13 = true := by kernel_rfl
theorem ok14 : callOk Tryd.prog 14 = true := by kernel_rfl
theorem ok15 : callOk Tryd.prog 15 = true := by kernel_rfl
theorem ok16 : callOk Tryd.prog 16 = true := by kernel_rfl
theorem ok17 : callOk Tryd.prog 17 = true := by kernel_rfl
theorem ok18 : callOk Tryd.prog 18 = true := by kernel_rfl
theorem ok19 : callOk Tryd.prog 19 = true := by kernel_rfl
theorem ok20 : callOk Tryd.prog 20 = true := by kernel_rfl
theorem ok21 : callOk Tryd.prog 21 = true := by kernel_rfl
theorem ok22 : callOk Tryd.prog 22 = true := by kernel_rfl
theorem ok23 : callOk Tryd.prog 23 = true := by kernel_rfl
theorem ok24 : callOk Tryd.prog 24 = true := by kernel_rfl
theorem ok25 : callOk Tryd.prog 25 = true := by kernel_rfl
theorem ok26 : callOk Tryd.prog 26 = true := by kernel_rfl
theorem one3 : oneT Tryd.prog 3 = true := by kernel_rfl
theorem one9 : oneT Tryd.prog 9 = true := by kernel_rfl
theorem pl23 : placesT Tryd.prog 23 = some [(0, 1), (1, 1), (2, 1), (3, 1)] := by kernel_rfl
theorem sm31 : smapT Tryd.prog 31 = some (Value.bool false) := by kernel_rfl
theorem sz23 : (Tryd.prog.info? 23).map (·.size) = some 4 := by kernel_rfl
theorem un4 : Tryd.prog.underlying 4 = some .bool := by kernel_rfl
theorem un9 : Tryd.prog.underlying 9 = some .string := by kernel_rfl
theorem us5 : (Tryd.prog.underlying 5).isSome = true := by kernel_rfl
theorem zr9 : zeroT Tryd.prog 9 = some [(Value.string (ByteArray.mk #[]))] := by kernel_rfl
theorem zr23 : zeroT Tryd.prog 23 = some [(Value.string (ByteArray.mk #[])), (Value.int IntKind.i64 0), (Value.int IntKind.i64 0), (Value.int IntKind.i64 0)] := by kernel_rfl
attribute [local irreducible] AWP RWP TD
theorem kw_ascii : ∀ (j : Nat) (b : UInt8), (bs kwBytes).data.toList[j]? = some b → b.toNat < 128 := by
  intro j b h
  have : (kwBytes.all fun c => decide (c.toNat < 128)) = true := by decide
  rw [List.all_eq_true] at this
  simpa using this b (List.mem_of_getElem? h)
theorem kw_fields : (Lib.fields kwBytes).map bs = words := by decide +kernel
theorem nm1 {s : ByteArray} (h : Lz (!decide (s = bs []) && decide ((s.size : Int) ≤ 16)) true = true) : ¬ s = bs [] := by
  simp only [Lz, cond_true, Bool.and_eq_true, Bool.not_eq_true', decide_eq_false_iff_not] at h
  exact h.1
theorem nm2 {s : ByteArray} {p : Bool} (h : Lz (!decide (s = bs []) && decide ((s.size : Int) ≤ 16) && p) true = true) : s.size ≤ 1000000 := by
  simp only [Lz, cond_true, Bool.and_eq_true, decide_eq_true_eq] at h
  omega
theorem liveness_Overlap (a b : Lifetime) :
    Pur cfg 7 [vL a, vL b] (vB (Overlap a b)) := by
  refine con_intro Tryd.func7 rfl Tryd.ntmps7 Tryd.results7 rfl ?_
  intro z hz
  refine awp_seq ?_
  refine awp_region rfl ?_
  refine rwp_op rfl rfl (ope_box rfl rfl) ?_
  rintro _ _ ⟨b1, rfl, rfl⟩
  refine rwp_op rfl rfl (ope_box rfl rfl) ?_
  rintro _ _ ⟨b2, rfl, rfl⟩
  refine rwp_det rfl rfl (det_assign rfl rfl) ?_
  refine rwp_nil ?_
  refine awp_seq ?_
  refine awp_region rfl ?_
  refine rwp_det rfl rfl (det_field_lit rfl fd23_1 rfl) ?_
  refine rwp_det rfl rfl (det_load_one rfl one3 rfl (ptr_row 1 rfl) rfl) ?_
  refine rwp_det rfl rfl (det_field_lit rfl fd23_2 rfl) ?_
  refine rwp_det rfl rfl (det_load_one rfl one3 rfl (ptr_row 0 rfl) rfl) ?_
  refine rwp_det rfl rfl (det_leq rfl rfl rfl) ?_
  refine rwp_det rfl rfl (det_move rfl rfl) ?_
  refine rwp_lazy [] rfl rfl rfl rfl gv1 trivial (fun g1_5 => det_field_lit rfl fd23_1 rfl) rfl ?_
  refine rwp_lazy [(11, _)] rfl rfl rfl rfl gv1 ⟨rfl, rfl, trivial⟩ (fun g1_5 => det_load_one rfl one3 rfl (ptr_row 0 rfl) rfl) rfl ?_
  refine rwp_lazy [] rfl rfl rfl rfl gv1 trivial (fun g1_5 => det_field_lit rfl fd23_2 rfl) rfl ?_
  refine rwp_lazy [(13, _)] rfl rfl rfl rfl gv1 ⟨rfl, rfl, trivial⟩ (fun g1_5 => det_load_one rfl one3 rfl (ptr_row 1 rfl) rfl) rfl ?_
  refine rwp_lazy [(12, _), (14, _)] rfl rfl rfl rfl gv1 ⟨rfl, rfl, rfl, rfl, trivial⟩ (fun g1_5 => det_leq rfl rfl rfl) rfl ?_
  refine rwp_det rfl rfl (det_and rfl rfl rfl (fun h => h) rfl) ?_
  refine rwp_det rfl rfl (det_assign rfl rfl) ?_
  refine rwp_nil ?_
  refine awp_ret ?_
  repeat (first | refine thenQ_ret ?_ | refine blockQ_ret ?_)
  refine fin1 (rs_c rfl) ?_
  exact rfl

theorem ref41_Overlap (a b : Lifetime) :
    Pur cfg 8 [vL a, vL b] (vB (Overlap a b)) := by
  refine con_intro Tryd.func8 rfl Tryd.ntmps8 Tryd.results8 rfl ?_
  intro z hz
  refine awp_seq ?_
  refine awp_region rfl ?_
  refine rwp_op rfl rfl (ope_box rfl rfl) ?_
  rintro _ _ ⟨b1, rfl, rfl⟩
  refine rwp_op rfl rfl (ope_box rfl rfl) ?_
  rintro _ _ ⟨b2, rfl, rfl⟩
  refine rwp_det rfl rfl (det_assign rfl rfl) ?_
  refine rwp_nil ?_
  refine awp_seq ?_
  refine awp_region rfl ?_
  refine rwp_det rfl rfl (det_field_lit rfl fd23_1 rfl) ?_
  refine rwp_det rfl rfl (det_load_one rfl one3 rfl (ptr_row 1 rfl) rfl) ?_
  refine rwp_det rfl rfl (det_field_lit rfl fd23_2 rfl) ?_
  refine rwp_det rfl rfl (det_load_one rfl one3 rfl (ptr_row 0 rfl) rfl) ?_
  refine rwp_det rfl rfl (det_leq rfl rfl rfl) ?_
  refine rwp_det rfl rfl (det_move rfl rfl) ?_
  refine rwp_lazy [] rfl rfl rfl rfl gv1 trivial (fun g1_5 => det_field_lit rfl fd23_1 rfl) rfl ?_
  refine rwp_lazy [(11, _)] rfl rfl rfl rfl gv1 ⟨rfl, rfl, trivial⟩ (fun g1_5 => det_load_one rfl one3 rfl (ptr_row 0 rfl) rfl) rfl ?_
  refine rwp_lazy [] rfl rfl rfl rfl gv1 trivial (fun g1_5 => det_field_lit rfl fd23_2 rfl) rfl ?_
  refine rwp_lazy [(13, _)] rfl rfl rfl rfl gv1 ⟨rfl, rfl, trivial⟩ (fun g1_5 => det_load_one rfl one3 rfl (ptr_row 1 rfl) rfl) rfl ?_
  refine rwp_lazy [(12, _), (14, _)] rfl rfl rfl rfl gv1 ⟨rfl, rfl, rfl, rfl, trivial⟩ (fun g1_5 => det_leq rfl rfl rfl) rfl ?_
  refine rwp_det rfl rfl (det_and rfl rfl rfl (fun h => h) rfl) ?_
  refine rwp_det rfl rfl (det_assign rfl rfl) ?_
  refine rwp_nil ?_
  refine awp_ret ?_
  repeat (first | refine thenQ_ret ?_ | refine blockQ_ret ?_)
  refine fin1 (rs_c rfl) ?_
  exact rfl

theorem liveness_MaxLive (l : List Lifetime) (hl : l.length ≤ 1000000) :
    Pur cfg 10 [vLs l] (vI (mostP l l)) := by
  refine con_intro Tryd.func10 rfl Tryd.ntmps10 Tryd.results10 rfl ?_
  intro z hz
  refine awp_seq ?_
  refine awp_region rfl ?_
  refine rwp_det rfl rfl (det_assign rfl rfl) ?_
  refine rwp_nil ?_
  refine awp_seq ?_
  refine awp_region rfl ?_
  refine rwp_det rfl rfl (det_assign rfl rfl) ?_
  refine rwp_nil ?_
  refine awp_seq ?_
  refine awp_seq ?_
  refine awp_region rfl ?_
  refine rwp_det rfl rfl (det_move rfl rfl) ?_
  refine rwp_det rfl rfl (det_len_sl rfl el26 rfl) ?_
  refine rwp_det rfl rfl (det_move rfl rfl) ?_
  refine rwp_nil ?_
  refine awp_block ?_
  refine awp_weak ⟨[(11, .c _), (3, .c _), (0, .c _), (9, .c _), (10, .c _)], []⟩ (Weak.mk [] ⟨VLe.of_eq rfl, VLe.of_eq rfl, VLe.of_eq rfl, VLe.of_eq rfl, VLe.of_eq rfl, trivial⟩ rfl) ?_
  refine awp_loop_k 2 0 rfl rfl (Nat) (fun k => [(11, vI k), (3, vI (mostP l (l.take k)))]) (fun k => []) (fun k => k ≤ l.length) (fun k => l.length - k) ⟨0, (by omega), Weak.mk [] ⟨VLe.refl _, VLe.of_eq (rfl), VLe.refl _, VLe.refl _, VLe.refl _, trivial⟩ rfl⟩ ?_
  rintro k hk
  refine awp_seq ?_
  refine awp_region rfl ?_
  refine rwp_det rfl rfl (det_lss rfl rfl rfl) ?_
  refine rwp_nil ?_
  refine awp_seq ?_
  refine awp_cond rfl (fun c1 => ?_) (fun c1 => ?_)
  · try simp only [decide_eq_true_eq, decide_eq_false_iff_not, Bool.not_eq_true', Bool.not_eq_false', Bool.and_eq_true, Bool.or_eq_true, Bool.and_eq_false_iff, Bool.or_eq_false_iff, Int.not_lt, Int.not_le, List.length_map] at c1
    obtain ⟨x, hx⟩ := ex_get l k (by omega)
    refine awp_skip ?_
    refine awp_seq ?_
    refine awp_block ?_
    refine awp_seq ?_
    refine awp_region rfl ?_
    refine rwp_det rfl rfl (det_index_sl rfl el26 rfl rfl (by omega) (getm hx)) ?_
    refine rwp_det rfl rfl (det_load_agg rfl agg23 rfl ptr_imm rfl) ?_
    refine rwp_op rfl rfl (ope_alloc rfl zr23) ?_
    rintro _ _ ⟨b1, rfl, rfl⟩
    refine rwp_det0 rfl rfl (det_store rfl sz23 rfl rfl rfl (st_row 0 rfl rfl)) ?_
    refine rwp_nil ?_
    refine awp_seq ?_
    refine awp_seq ?_
    refine awp_region rfl ?_
    refine rwp_det rfl rfl (det_field_lit rfl fd23_1 rfl) ?_
    refine rwp_det rfl rfl (det_load_one rfl one3 rfl (ptr_row 0 rfl) rfl) ?_
    refine rwp_det rfl rfl (det_field_lit rfl fd23_2 rfl) ?_
    refine rwp_det rfl rfl (det_load_one rfl one3 rfl (ptr_row 0 rfl) rfl) ?_
    refine rwp_det rfl rfl (det_gtr rfl rfl rfl) ?_
    refine rwp_nil ?_
    refine awp_cond rfl (fun c2 => ?_) (fun c2 => ?_)
    · try simp only [decide_eq_true_eq, decide_eq_false_iff_not, Bool.not_eq_true', Bool.not_eq_false', Bool.and_eq_true, Bool.or_eq_true, Bool.and_eq_false_iff, Bool.or_eq_false_iff, Int.not_lt, Int.not_le, List.length_map] at c2
      refine awp_exit ?_
      refine awp_region rfl ?_
      refine rwp_det rfl rfl (det_add_nw rfl rfl rfl ⟨by omega, by omega⟩) ?_
      refine rwp_det rfl rfl (det_move rfl rfl) ?_
      refine rwp_nil ?_
      refine ⟨k + 1, (by omega), (by omega), Weak.mk [false] ⟨VLe.of_eq (rfl), VLe.of_eq (by first | (rw [mostP_no hx (by omega)]; rfl) | (rw [mostP_yes hx (by omega)]; rfl)), VLe.refl _, VLe.refl _, VLe.refl _, trivial⟩ rfl⟩
    · try simp only [decide_eq_true_eq, decide_eq_false_iff_not, Bool.not_eq_true', Bool.not_eq_false', Bool.and_eq_true, Bool.or_eq_true, Bool.and_eq_false_iff, Bool.or_eq_false_iff, Int.not_lt, Int.not_le, List.length_map] at c2
      refine awp_skip ?_
      refine awp_seq ?_
      refine awp_region rfl ?_
      refine rwp_det rfl rfl (det_assign rfl rfl) ?_
      refine rwp_nil ?_
      refine awp_seq ?_
      refine awp_seq ?_
      refine awp_region rfl ?_
      refine rwp_det rfl rfl (det_move rfl rfl) ?_
      refine rwp_det rfl rfl (det_len_sl rfl el26 rfl) ?_
      refine rwp_det rfl rfl (det_move rfl rfl) ?_
      refine rwp_nil ?_
      refine awp_block ?_
      refine awp_weak ⟨[(22, .c _), (6, .c _), (0, .c _), (3, .c _), (5, .c _), (9, .c _), (10, .c _), (11, .c _), (20, .c _), (21, .c _)], [_]⟩ (Weak.mk [true] ⟨VLe.of_eq rfl, VLe.of_eq rfl, VLe.of_eq rfl, VLe.of_eq rfl, VLe.of_eq rfl, VLe.of_eq rfl, VLe.of_eq rfl, VLe.of_eq rfl, VLe.of_eq rfl, VLe.of_eq rfl, trivial⟩ rfl) ?_
      refine awp_loop_k 2 0 rfl rfl (Nat) (fun j => [(22, vI j), (6, vI (cnt (l.take j) x.From))]) (fun j => []) (fun j => j ≤ l.length) (fun j => l.length - j) ⟨0, (by omega), Weak.mk [true] ⟨VLe.refl _, VLe.of_eq (rfl), VLe.refl _, VLe.refl _, VLe.refl _, VLe.refl _, VLe.refl _, VLe.refl _, VLe.refl _, VLe.refl _, trivial⟩ rfl⟩ ?_
      rintro j hj
      have hcj := cnt_le (l.take j) x.From
      have hcl : (l.take j).length ≤ j := List.length_take_le _ _
      refine awp_seq ?_
      refine awp_region rfl ?_
      refine rwp_det rfl rfl (det_lss rfl rfl rfl) ?_
      refine rwp_nil ?_
      refine awp_seq ?_
      refine awp_cond rfl (fun c3 => ?_) (fun c3 => ?_)
      · try simp only [decide_eq_true_eq, decide_eq_false_iff_not, Bool.not_eq_true', Bool.not_eq_false', Bool.and_eq_true, Bool.or_eq_true, Bool.and_eq_false_iff, Bool.or_eq_false_iff, Int.not_lt, Int.not_le, List.length_map] at c3
        obtain ⟨y, hy⟩ := ex_get l j (by omega)
        refine awp_skip ?_
        refine awp_seq ?_
        refine awp_block ?_
        refine awp_seq ?_
        refine awp_region rfl ?_
        refine rwp_det rfl rfl (det_index_sl rfl el26 rfl rfl (by omega) (getm hy)) ?_
        refine rwp_det rfl rfl (det_load_agg rfl agg23 rfl ptr_imm rfl) ?_
        refine rwp_op rfl rfl (ope_alloc rfl zr23) ?_
        rintro _ _ ⟨b2, rfl, rfl⟩
        refine rwp_det0 rfl rfl (det_store rfl sz23 rfl rfl rfl (st_row 0 rfl rfl)) ?_
        refine rwp_nil ?_
        refine awp_seq ?_
        refine awp_region rfl ?_
        refine rwp_det rfl rfl (det_field_lit rfl fd23_1 rfl) ?_
        refine rwp_det rfl rfl (det_load_one rfl one3 rfl (ptr_row 0 rfl) rfl) ?_
        refine rwp_det rfl rfl (det_field_lit rfl fd23_1 rfl) ?_
        refine rwp_det rfl rfl (det_load_one rfl one3 rfl (ptr_row 1 rfl) rfl) ?_
        refine rwp_det rfl rfl (det_leq rfl rfl rfl) ?_
        refine rwp_det rfl rfl (det_move rfl rfl) ?_
        refine rwp_lazy [] rfl rfl rfl rfl gv1 trivial (fun g10_5 => det_field_lit rfl fd23_1 rfl) rfl ?_
        refine rwp_lazy [(32, _)] rfl rfl rfl rfl gv1 ⟨rfl, rfl, trivial⟩ (fun g10_5 => det_load_one rfl one3 rfl (ptr_row 1 rfl) rfl) rfl ?_
        refine rwp_lazy [] rfl rfl rfl rfl gv1 trivial (fun g10_5 => det_field_lit rfl fd23_2 rfl) rfl ?_
        refine rwp_lazy [(34, _)] rfl rfl rfl rfl gv1 ⟨rfl, rfl, trivial⟩ (fun g10_5 => det_load_one rfl one3 rfl (ptr_row 0 rfl) rfl) rfl ?_
        refine rwp_lazy [(33, _), (35, _)] rfl rfl rfl rfl gv1 ⟨rfl, rfl, rfl, rfl, trivial⟩ (fun g10_5 => det_leq rfl rfl rfl) rfl ?_
        refine rwp_det rfl rfl (det_and rfl rfl rfl (fun h => h) rfl) ?_
        refine rwp_nil ?_
        refine awp_cond rfl (fun c4 => ?_) (fun c4 => ?_)
        · try simp only [decide_eq_true_eq, decide_eq_false_iff_not, Bool.not_eq_true', Bool.not_eq_false', Bool.and_eq_true, Bool.or_eq_true, Bool.and_eq_false_iff, Bool.or_eq_false_iff, Int.not_lt, Int.not_le, List.length_map] at c4
          have hcv : covers x.From y = true := by unfold covers; simp [c4]
          refine awp_region rfl ?_
          refine rwp_det rfl rfl (det_move rfl rfl) ?_
          refine rwp_det rfl rfl (det_add_nw rfl rfl rfl ⟨by omega, by omega⟩) ?_
          refine rwp_det rfl rfl (det_assign rfl rfl) ?_
          refine rwp_nil ?_
          refine awp_region rfl ?_
          refine rwp_det rfl rfl (det_add_nw rfl rfl rfl ⟨by omega, by omega⟩) ?_
          refine rwp_det rfl rfl (det_move rfl rfl) ?_
          refine rwp_nil ?_
          refine ⟨j + 1, (by omega), (by omega), Weak.mk [false, true] ⟨VLe.of_eq (rfl), VLe.of_eq (by first | (rw [cnt_yes hy hcv]; rfl) | (rw [cnt_no hy hcv]; rfl)), VLe.refl _, VLe.refl _, VLe.refl _, VLe.refl _, VLe.refl _, VLe.refl _, VLe.refl _, VLe.refl _, trivial⟩ rfl⟩
        · try simp only [decide_eq_true_eq, decide_eq_false_iff_not, Bool.not_eq_true', Bool.not_eq_false', Bool.and_eq_true, Bool.or_eq_true, Bool.and_eq_false_iff, Bool.or_eq_false_iff, Int.not_lt, Int.not_le, List.length_map] at c4
          have hcv : covers x.From y = false := by unfold covers; simp only [Bool.and_eq_false_iff, decide_eq_false_iff_not]; omega
          refine awp_skip ?_
          refine awp_region rfl ?_
          refine rwp_det rfl rfl (det_add_nw rfl rfl rfl ⟨by omega, by omega⟩) ?_
          refine rwp_det rfl rfl (det_move rfl rfl) ?_
          refine rwp_nil ?_
          refine ⟨j + 1, (by omega), (by omega), Weak.mk [false, true] ⟨VLe.of_eq (rfl), VLe.of_eq (by first | (rw [cnt_yes hy hcv]; rfl) | (rw [cnt_no hy hcv]; rfl)), VLe.refl _, VLe.refl _, VLe.refl _, VLe.refl _, VLe.refl _, VLe.refl _, VLe.refl _, VLe.refl _, trivial⟩ rfl⟩
      · try simp only [decide_eq_true_eq, decide_eq_false_iff_not, Bool.not_eq_true', Bool.not_eq_false', Bool.and_eq_true, Bool.or_eq_true, Bool.and_eq_false_iff, Bool.or_eq_false_iff, Int.not_lt, Int.not_le, List.length_map] at c3
        rw [show l.take j = l from take_all (by omega)]
        refine awp_exit ?_
        refine awp_region rfl ?_
        refine rwp_det rfl rfl (det_move rfl rfl) ?_
        refine rwp_det rfl rfl (det_move rfl rfl) ?_
        refine rwp_det rfl rfl (det_max rfl rfl rfl) ?_
        refine rwp_det rfl rfl (det_assign rfl rfl) ?_
        refine rwp_nil ?_
        refine awp_region rfl ?_
        refine rwp_det rfl rfl (det_add_nw rfl rfl rfl ⟨by omega, by omega⟩) ?_
        refine rwp_det rfl rfl (det_move rfl rfl) ?_
        refine rwp_nil ?_
        refine ⟨k + 1, (by omega), (by omega), Weak.mk [false] ⟨VLe.of_eq (rfl), VLe.of_eq (by first | (rw [mostP_no hx (by omega)]; rfl) | (rw [mostP_yes hx (by omega)]; rfl)), VLe.refl _, VLe.refl _, VLe.refl _, trivial⟩ rfl⟩
  · try simp only [decide_eq_true_eq, decide_eq_false_iff_not, Bool.not_eq_true', Bool.not_eq_false', Bool.and_eq_true, Bool.or_eq_true, Bool.and_eq_false_iff, Bool.or_eq_false_iff, Int.not_lt, Int.not_le, List.length_map] at c1
    rw [take_all (by omega)]
    refine awp_exit ?_
    refine awp_seq ?_
    refine awp_region rfl ?_
    refine rwp_det rfl rfl (det_move rfl rfl) ?_
    refine rwp_det rfl rfl (det_assign rfl rfl) ?_
    refine rwp_nil ?_
    refine awp_ret ?_
    repeat (first | refine thenQ_ret ?_ | refine blockQ_ret ?_)
    refine fin1 (rs_c rfl) ?_
    exact rfl

theorem ref41_MaxLive (l : List Lifetime) (hl : l.length ≤ 1000000) :
    Pur cfg 11 [vLs l] (vI (mostR l l)) := by
  refine con_intro Tryd.func11 rfl Tryd.ntmps11 Tryd.results11 rfl ?_
  intro z hz
  refine awp_seq ?_
  refine awp_region rfl ?_
  refine rwp_det rfl rfl (det_assign rfl rfl) ?_
  refine rwp_nil ?_
  refine awp_seq ?_
  refine awp_region rfl ?_
  refine rwp_det rfl rfl (det_assign rfl rfl) ?_
  refine rwp_nil ?_
  refine awp_seq ?_
  refine awp_seq ?_
  refine awp_region rfl ?_
  refine rwp_det rfl rfl (det_assign rfl rfl) ?_
  refine rwp_nil ?_
  refine awp_block ?_
  refine awp_weak ⟨[(4, .c _), (3, .c _), (0, .c _)], []⟩ (Weak.mk [] ⟨VLe.of_eq rfl, VLe.of_eq rfl, VLe.of_eq rfl, trivial⟩ rfl) ?_
  refine awp_loop_k 2 0 rfl rfl (Nat) (fun k => [(4, vI k), (3, vI (mostR l (l.take k)))]) (fun k => []) (fun k => k ≤ l.length) (fun k => l.length - k) ⟨0, (by omega), Weak.mk [] ⟨VLe.refl _, VLe.of_eq (rfl), VLe.refl _, trivial⟩ rfl⟩ ?_
  rintro k hk
  refine awp_seq ?_
  refine awp_seq ?_
  refine awp_region rfl ?_
  refine rwp_det rfl rfl (det_move rfl rfl) ?_
  refine rwp_det rfl rfl (det_move rfl rfl) ?_
  refine rwp_det rfl rfl (det_len_sl rfl el26 rfl) ?_
  refine rwp_det rfl rfl (det_lss rfl rfl rfl) ?_
  refine rwp_nil ?_
  refine awp_cond rfl (fun c1 => ?_) (fun c1 => ?_)
  · try simp only [decide_eq_true_eq, decide_eq_false_iff_not, Bool.not_eq_true', Bool.not_eq_false', Bool.and_eq_true, Bool.or_eq_true, Bool.and_eq_false_iff, Bool.or_eq_false_iff, Int.not_lt, Int.not_le, List.length_map] at c1
    obtain ⟨x, hx⟩ := ex_get l k (by omega)
    refine awp_skip ?_
    refine awp_seq ?_
    refine awp_block ?_
    refine awp_seq ?_
    refine awp_region rfl ?_
    refine rwp_det rfl rfl (det_assign rfl rfl) ?_
    refine rwp_nil ?_
    refine awp_seq ?_
    refine awp_seq ?_
    refine awp_region rfl ?_
    refine rwp_det rfl rfl (det_assign rfl rfl) ?_
    refine rwp_nil ?_
    refine awp_block ?_
    refine awp_weak ⟨[(6, .c _), (5, .c _), (0, .c _), (3, .c _), (4, .c _)], []⟩ (Weak.mk [] ⟨VLe.of_eq rfl, VLe.of_eq rfl, VLe.of_eq rfl, VLe.of_eq rfl, VLe.of_eq rfl, trivial⟩ rfl) ?_
    refine awp_loop_k 2 0 rfl rfl (Nat) (fun j => [(6, vI j), (5, vI (cnt (l.take j) x.From))]) (fun j => []) (fun j => j ≤ l.length) (fun j => l.length - j) ⟨0, (by omega), Weak.mk [] ⟨VLe.refl _, VLe.of_eq (rfl), VLe.refl _, VLe.refl _, VLe.refl _, trivial⟩ rfl⟩ ?_
    rintro j hj
    have hcj := cnt_le (l.take j) x.From
    have hcl : (l.take j).length ≤ j := List.length_take_le _ _
    refine awp_seq ?_
    refine awp_seq ?_
    refine awp_region rfl ?_
    refine rwp_det rfl rfl (det_move rfl rfl) ?_
    refine rwp_det rfl rfl (det_move rfl rfl) ?_
    refine rwp_det rfl rfl (det_len_sl rfl el26 rfl) ?_
    refine rwp_det rfl rfl (det_lss rfl rfl rfl) ?_
    refine rwp_nil ?_
    refine awp_cond rfl (fun c2 => ?_) (fun c2 => ?_)
    · try simp only [decide_eq_true_eq, decide_eq_false_iff_not, Bool.not_eq_true', Bool.not_eq_false', Bool.and_eq_true, Bool.or_eq_true, Bool.and_eq_false_iff, Bool.or_eq_false_iff, Int.not_lt, Int.not_le, List.length_map] at c2
      obtain ⟨y, hy⟩ := ex_get l j (by omega)
      refine awp_skip ?_
      refine awp_seq ?_
      refine awp_block ?_
      refine awp_seq ?_
      refine awp_draw 24 mixed (by kernel_rfl) rfl rfl ?_
      refine td_det rfl rfl (det_move rfl rfl) ?_
      refine td_det rfl rfl (det_move rfl rfl) ?_
      refine td_det rfl rfl (det_index_sl rfl el26 rfl rfl (by omega) (getm hy)) ?_
      refine td_det rfl rfl (det_field_imm rfl fd23_1 rfl) ?_
      refine td_det rfl rfl (det_load_one rfl one3 rfl ptr_imm rfl) ?_
      refine td_det rfl rfl (det_move rfl rfl) ?_
      refine td_det rfl rfl (det_move rfl rfl) ?_
      refine td_det rfl rfl (det_index_sl rfl el26 rfl rfl (by omega) (getm hx)) ?_
      refine td_det rfl rfl (det_field_imm rfl fd23_1 rfl) ?_
      refine td_det rfl rfl (det_load_one rfl one3 rfl ptr_imm rfl) ?_
      refine td_det rfl rfl (det_leq rfl rfl rfl) ?_
      refine td_det rfl rfl (det_move rfl rfl) ?_
      refine td_lazy [] rfl rfl rfl rfl gv1 trivial (fun g9_11 => det_move rfl rfl) rfl ?_
      refine td_lazy [] rfl rfl rfl rfl gv1 trivial (fun g9_11 => det_move rfl rfl) rfl ?_
      refine td_lazy [(31, _), (32, _)] rfl rfl rfl rfl gv1 ⟨rfl, rfl, rfl, rfl, trivial⟩ (fun g9_11 => det_index_sl rfl el26 rfl rfl (by omega) (getm hx)) rfl ?_
      refine td_lazy [(33, _)] rfl rfl rfl rfl gv1 ⟨rfl, rfl, trivial⟩ (fun g9_11 => det_field_imm rfl fd23_1 rfl) rfl ?_
      refine td_lazy [(34, _)] rfl rfl rfl rfl gv1 ⟨rfl, rfl, trivial⟩ (fun g9_11 => det_load_one rfl one3 rfl ptr_imm rfl) rfl ?_
      refine td_lazy [] rfl rfl rfl rfl gv1 trivial (fun g9_11 => det_move rfl rfl) rfl ?_
      refine td_lazy [] rfl rfl rfl rfl gv1 trivial (fun g9_11 => det_move rfl rfl) rfl ?_
      refine td_lazy [(36, _), (37, _)] rfl rfl rfl rfl gv1 ⟨rfl, rfl, rfl, rfl, trivial⟩ (fun g9_11 => det_index_sl rfl el26 rfl rfl (by omega) (getm hy)) rfl ?_
      refine td_lazy [(38, _)] rfl rfl rfl rfl gv1 ⟨rfl, rfl, trivial⟩ (fun g9_11 => det_field_imm rfl fd23_2 rfl) rfl ?_
      refine td_lazy [(39, _)] rfl rfl rfl rfl gv1 ⟨rfl, rfl, trivial⟩ (fun g9_11 => det_load_one rfl one3 rfl ptr_imm rfl) rfl ?_
      refine td_lazy [(35, _), (40, _)] rfl rfl rfl rfl gv1 ⟨rfl, rfl, rfl, rfl, trivial⟩ (fun g9_11 => det_leq rfl rfl rfl) rfl ?_
      refine td_det rfl rfl (det_and rfl rfl rfl (fun h => h) rfl) ?_
      refine td_nil ?_
      refine rwp_nil ?_
      refine awp_cond rfl (fun c3 => ?_) (fun c3 => ?_)
      · try simp only [decide_eq_true_eq, decide_eq_false_iff_not, Bool.not_eq_true', Bool.not_eq_false', Bool.and_eq_true, Bool.or_eq_true, Bool.and_eq_false_iff, Bool.or_eq_false_iff, Int.not_lt, Int.not_le, List.length_map] at c3
        have hcv : covers x.From y = true := by unfold covers; simp [c3]
        refine awp_region rfl ?_
        refine rwp_det rfl rfl (det_move rfl rfl) ?_
        refine rwp_det rfl rfl (det_add_nw rfl rfl rfl ⟨by omega, by omega⟩) ?_
        refine rwp_det rfl rfl (det_assign rfl rfl) ?_
        refine rwp_nil ?_
        refine awp_region rfl ?_
        refine rwp_det rfl rfl (det_move rfl rfl) ?_
        refine rwp_det rfl rfl (det_add_nw rfl rfl rfl ⟨by omega, by omega⟩) ?_
        refine rwp_det rfl rfl (det_assign rfl rfl) ?_
        refine rwp_nil ?_
        refine ⟨j + 1, (by omega), (by omega), Weak.mk [] ⟨VLe.of_eq (rfl), VLe.of_eq (by first | (rw [cnt_yes hy hcv]; rfl) | (rw [cnt_no hy hcv]; rfl)), VLe.refl _, VLe.refl _, VLe.refl _, trivial⟩ rfl⟩
      · try simp only [decide_eq_true_eq, decide_eq_false_iff_not, Bool.not_eq_true', Bool.not_eq_false', Bool.and_eq_true, Bool.or_eq_true, Bool.and_eq_false_iff, Bool.or_eq_false_iff, Int.not_lt, Int.not_le, List.length_map] at c3
        have hcv : covers x.From y = false := by unfold covers; simp only [Bool.and_eq_false_iff, decide_eq_false_iff_not]; omega
        refine awp_skip ?_
        refine awp_region rfl ?_
        refine rwp_det rfl rfl (det_move rfl rfl) ?_
        refine rwp_det rfl rfl (det_add_nw rfl rfl rfl ⟨by omega, by omega⟩) ?_
        refine rwp_det rfl rfl (det_assign rfl rfl) ?_
        refine rwp_nil ?_
        refine ⟨j + 1, (by omega), (by omega), Weak.mk [] ⟨VLe.of_eq (rfl), VLe.of_eq (by first | (rw [cnt_yes hy hcv]; rfl) | (rw [cnt_no hy hcv]; rfl)), VLe.refl _, VLe.refl _, VLe.refl _, trivial⟩ rfl⟩
    · try simp only [decide_eq_true_eq, decide_eq_false_iff_not, Bool.not_eq_true', Bool.not_eq_false', Bool.and_eq_true, Bool.or_eq_true, Bool.and_eq_false_iff, Bool.or_eq_false_iff, Int.not_lt, Int.not_le, List.length_map] at c2
      rw [show l.take j = l from take_all (by omega)]
      refine awp_exit ?_
      refine awp_region rfl ?_
      refine rwp_det rfl rfl (det_move rfl rfl) ?_
      refine rwp_det rfl rfl (det_move rfl rfl) ?_
      refine rwp_det rfl rfl (det_max rfl rfl rfl) ?_
      refine rwp_det rfl rfl (det_assign rfl rfl) ?_
      refine rwp_nil ?_
      refine awp_region rfl ?_
      refine rwp_det rfl rfl (det_move rfl rfl) ?_
      refine rwp_det rfl rfl (det_add_nw rfl rfl rfl ⟨by omega, by omega⟩) ?_
      refine rwp_det rfl rfl (det_assign rfl rfl) ?_
      refine rwp_nil ?_
      refine ⟨k + 1, (by omega), (by omega), Weak.mk [] ⟨VLe.of_eq (rfl), VLe.of_eq (by rw [mostR_next hx]; rfl), VLe.refl _, trivial⟩ rfl⟩
  · try simp only [decide_eq_true_eq, decide_eq_false_iff_not, Bool.not_eq_true', Bool.not_eq_false', Bool.and_eq_true, Bool.or_eq_true, Bool.and_eq_false_iff, Bool.or_eq_false_iff, Int.not_lt, Int.not_le, List.length_map] at c1
    rw [take_all (by omega)]
    refine awp_exit ?_
    refine awp_seq ?_
    refine awp_region rfl ?_
    refine rwp_det rfl rfl (det_move rfl rfl) ?_
    refine rwp_det rfl rfl (det_assign rfl rfl) ?_
    refine rwp_nil ?_
    refine awp_ret ?_
    repeat (first | refine thenQ_ret ?_ | refine blockQ_ret ?_)
    refine fin1 (rs_c rfl) ?_
    exact rfl

theorem lexer_letter (n : Int) :
    Pur cfg 16 [vR n] (vB (letterI n)) := by
  refine con_intro Tryd.func16 rfl Tryd.ntmps16 Tryd.results16 rfl ?_
  intro z hz
  refine awp_seq ?_
  refine awp_region rfl ?_
  refine rwp_det rfl rfl (det_assign rfl rfl) ?_
  refine rwp_nil ?_
  refine awp_seq ?_
  refine awp_region rfl ?_
  refine rwp_det rfl rfl (det_move rfl rfl) ?_
  refine rwp_det rfl rfl (det_geq rfl rfl rfl) ?_
  refine rwp_det rfl rfl (det_move rfl rfl) ?_
  refine rwp_lazy [] rfl rfl rfl rfl gv1 trivial (fun g1_2 => det_move rfl rfl) rfl ?_
  refine rwp_lazy [(6, _)] rfl rfl rfl rfl gv1 ⟨rfl, rfl, trivial⟩ (fun g1_2 => det_leq rfl rfl rfl) rfl ?_
  refine rwp_det rfl rfl (det_and rfl rfl rfl (fun h => h) rfl) ?_
  refine rwp_det rfl rfl (det_assign rfl rfl) ?_
  refine rwp_nil ?_
  refine awp_ret ?_
  repeat (first | refine thenQ_ret ?_ | refine blockQ_ret ?_)
  refine fin1 (rs_c rfl) ?_
  exact rfl

theorem lexer_digit (n : Int) :
    Pur cfg 22 [vR n] (vB (digitI n)) := by
  refine con_intro Tryd.func22 rfl Tryd.ntmps22 Tryd.results22 rfl ?_
  intro z hz
  refine awp_seq ?_
  refine awp_region rfl ?_
  refine rwp_det rfl rfl (det_assign rfl rfl) ?_
  refine rwp_nil ?_
  refine awp_seq ?_
  refine awp_region rfl ?_
  refine rwp_det rfl rfl (det_move rfl rfl) ?_
  refine rwp_det rfl rfl (det_geq rfl rfl rfl) ?_
  refine rwp_det rfl rfl (det_move rfl rfl) ?_
  refine rwp_lazy [] rfl rfl rfl rfl gv1 trivial (fun g1_2 => det_move rfl rfl) rfl ?_
  refine rwp_lazy [(6, _)] rfl rfl rfl rfl gv1 ⟨rfl, rfl, trivial⟩ (fun g1_2 => det_leq rfl rfl rfl) rfl ?_
  refine rwp_det rfl rfl (det_and rfl rfl rfl (fun h => h) rfl) ?_
  refine rwp_det rfl rfl (det_assign rfl rfl) ?_
  refine rwp_nil ?_
  refine awp_ret ?_
  repeat (first | refine thenQ_ret ?_ | refine blockQ_ret ?_)
  refine fin1 (rs_c rfl) ?_
  exact rfl

theorem lexer_inWord (n : Int) :
    Pur cfg 18 [vR n] (vB (inWordI n)) := by
  refine con_intro Tryd.func18 rfl Tryd.ntmps18 Tryd.results18 rfl ?_
  intro z hz
  refine awp_seq ?_
  refine awp_region rfl ?_
  refine rwp_det rfl rfl (det_assign rfl rfl) ?_
  refine rwp_nil ?_
  refine awp_seq ?_
  refine awp_region rfl ?_
  refine rwp_det rfl rfl (det_move rfl rfl) ?_
  refine rwp_det rfl rfl (det_call rfl ok16 (lexer_letter _) ⟨VLe.refl _, rfl, trivial⟩) ?_
  refine rwp_det rfl rfl (det_move rfl rfl) ?_
  refine rwp_lazy [] rfl rfl rfl rfl gv1 trivial (fun g1_2 => det_move rfl rfl) rfl ?_
  refine rwp_lazy [(6, _)] rfl rfl rfl rfl gv1 ⟨rfl, rfl, trivial⟩ (fun g1_2 => det_call rfl ok22 (lexer_digit _) ⟨VLe.refl _, rfl, trivial⟩) rfl ?_
  refine rwp_det rfl rfl (det_or rfl rfl rfl rfl (fun h => (lzf h))) ?_
  refine rwp_det rfl rfl (det_move rfl rfl) ?_
  refine rwp_lazy [] rfl rfl rfl rfl gv1 trivial (fun g1_6 => det_move rfl rfl) rfl ?_
  refine rwp_lazy [(10, _)] rfl rfl rfl rfl gv1 ⟨rfl, rfl, trivial⟩ (fun g1_6 => det_eql rfl rfl rfl) rfl ?_
  refine rwp_det rfl rfl (det_or rfl rfl rfl rfl (fun h => (lzf h))) ?_
  refine rwp_det rfl rfl (det_assign rfl rfl) ?_
  refine rwp_nil ?_
  refine awp_ret ?_
  repeat (first | refine thenQ_ret ?_ | refine blockQ_ret ?_)
  refine fin1 (rs_c rfl) ?_
  exact rfl

theorem lexer_span_inWord (s : ByteArray) (hs : s.size ≤ 1000000) :
    Pur cfg 17 [vS s, .c (.fn (.func 18) [] [])] (vI (spanB inWordB s.data.toList)) := by
  refine con_intro Tryd.func17 rfl Tryd.ntmps17 Tryd.results17 rfl ?_
  intro z hz
  refine awp_seq ?_
  refine awp_region rfl ?_
  refine rwp_det rfl rfl (det_assign rfl rfl) ?_
  refine rwp_nil ?_
  refine awp_seq ?_
  refine awp_region rfl ?_
  refine rwp_det rfl rfl (det_assign rfl rfl) ?_
  refine rwp_nil ?_
  refine awp_seq ?_
  refine awp_block ?_
  refine awp_weak ⟨[(5, .c _), (0, .c _), (1, .c _)], []⟩ (Weak.mk [] ⟨VLe.of_eq rfl, VLe.of_eq rfl, VLe.of_eq rfl, trivial⟩ rfl) ?_
  refine awp_loop_k 1 0 rfl rfl (Nat) (fun k => [(5, vI k)]) (fun k => []) (fun k => k ≤ s.size ∧ (s.data.toList.take k).all inWordB = true) (fun k => s.size - k) ⟨0, ⟨by omega, rfl⟩, Weak.mk [] ⟨VLe.refl _, VLe.refl _, VLe.refl _, trivial⟩ rfl⟩ ?_
  rintro k ⟨hk, hp⟩
  refine awp_seq ?_
  refine awp_seq ?_
  refine awp_region rfl ?_
  refine rwp_det rfl rfl (det_move rfl rfl) ?_
  refine rwp_det rfl rfl (det_move rfl rfl) ?_
  refine rwp_det rfl rfl (det_len_str rfl un9 rfl) ?_
  refine rwp_det rfl rfl (det_lss rfl rfl rfl) ?_
  refine rwp_det rfl rfl (det_move rfl rfl) ?_
  refine rwp_lazy [] rfl rfl rfl rfl gv1 trivial (fun g2_4 => det_move rfl rfl) rfl ?_
  refine rwp_lazy [] rfl rfl rfl rfl gv1 trivial (fun g2_4 => det_move rfl rfl) rfl ?_
  refine rwp_lazy [] rfl rfl rfl rfl gv1 trivial (fun g2_4 => det_move rfl rfl) rfl ?_
  refine rwp_lazy [(12, _), (13, _)] rfl rfl rfl rfl gv1 ⟨rfl, rfl, rfl, rfl, trivial⟩ (fun g2_4 => det_sindexD rfl un9 rfl rfl (by omega) (by simp only [Lz, cond_true, decide_eq_true_eq] at g2_4; omega)) rfl ?_
  refine rwp_lazy [(14, _)] rfl rfl rfl rfl gv1 ⟨rfl, rfl, trivial⟩ (fun g2_4 => det_conv rfl us5 ik21 rfl) rfl ?_
  refine rwp_lazy [(11, _), (15, _)] rfl rfl rfl rfl gv1 ⟨rfl, rfl, rfl, rfl, trivial⟩ (fun g2_4 => det_call_fn0 rfl rfl ok18 (lexer_inWord _) ⟨VLe.refl _, rfl, trivial⟩) rfl ?_
  refine rwp_det rfl rfl (det_and rfl rfl rfl (fun h => h) rfl) ?_
  refine rwp_nil ?_
  refine awp_cond rfl (fun c1 => ?_) (fun c1 => ?_)
  · try simp only [decide_eq_true_eq, decide_eq_false_iff_not, Bool.not_eq_true', Bool.not_eq_false', Bool.and_eq_true, Bool.or_eq_true, Bool.and_eq_false_iff, Bool.or_eq_false_iff, Int.not_lt, Int.not_le, List.length_map] at c1
    obtain ⟨hlt, hcc⟩ := c1
    have hlt : k < s.size := by omega
    rw [wrap32_byte] at hcc
    refine awp_skip ?_
    refine awp_block ?_
    refine awp_region rfl ?_
    refine rwp_det rfl rfl (det_move rfl rfl) ?_
    refine rwp_det rfl rfl (det_add_nw rfl rfl rfl ⟨by omega, by omega⟩) ?_
    refine rwp_det rfl rfl (det_assign rfl rfl) ?_
    refine rwp_nil ?_
    have hg := getD_get hlt
    refine ⟨k + 1, ⟨by omega, by rw [all_take_next hg, hp]; exact hcc⟩, (by omega), Weak.mk [] ⟨VLe.refl _, VLe.refl _, VLe.refl _, trivial⟩ rfl⟩
  · try simp only [decide_eq_true_eq, decide_eq_false_iff_not, Bool.not_eq_true', Bool.not_eq_false', Bool.and_eq_true, Bool.or_eq_true, Bool.and_eq_false_iff, Bool.or_eq_false_iff, Int.not_lt, Int.not_le, List.length_map] at c1
    have hsp : spanB inWordB s.data.toList = k := span_stop hp (by
      by_cases hlt : k < s.size
      · right; refine ⟨_, getD_get hlt, ?_⟩; rcases c1 with c1 | c1; omega; rw [wrap32_byte] at c1; exact c1
      · left; simp; omega)
    refine awp_exit ?_
    refine awp_seq ?_
    refine awp_region rfl ?_
    refine rwp_det rfl rfl (det_move rfl rfl) ?_
    refine rwp_det rfl rfl (det_assign rfl rfl) ?_
    refine rwp_nil ?_
    refine awp_ret ?_
    repeat (first | refine thenQ_ret ?_ | refine blockQ_ret ?_)
    refine fin1 (rs_c rfl) ?_
    rw [hsp]

theorem slices_Index_str (l : List ByteArray) (s : ByteArray) (hl : l.length ≤ 1000000) :
    Pur cfg 25 [vSs l, vS s] (vI (idxB l s)) := by
  refine con_intro Tryd.func25 rfl Tryd.ntmps25 Tryd.results25 rfl ?_
  intro z hz
  refine awp_seq ?_
  refine awp_region rfl ?_
  refine rwp_det rfl rfl (det_assign rfl rfl) ?_
  refine rwp_nil ?_
  refine awp_seq ?_
  refine awp_seq ?_
  refine awp_region rfl ?_
  refine rwp_det rfl rfl (det_move rfl rfl) ?_
  refine rwp_det rfl rfl (det_len_sl rfl el36 rfl) ?_
  refine rwp_det rfl rfl (det_move rfl rfl) ?_
  refine rwp_nil ?_
  refine awp_block ?_
  refine awp_weak ⟨[(8, .c _), (0, .c _), (1, .c _), (7, .c _)], []⟩ (Weak.mk [] ⟨VLe.of_eq rfl, VLe.of_eq rfl, VLe.of_eq rfl, VLe.of_eq rfl, trivial⟩ rfl) ?_
  refine awp_loop_k 1 0 rfl rfl (Nat) (fun k => [(8, vI k)]) (fun k => []) (fun k => k ≤ l.length ∧ hasB (l.take k) s = false) (fun k => l.length - k) ⟨0, ⟨by omega, rfl⟩, Weak.mk [] ⟨VLe.refl _, VLe.refl _, VLe.refl _, VLe.refl _, trivial⟩ rfl⟩ ?_
  rintro k ⟨hk, hp⟩
  refine awp_seq ?_
  refine awp_region rfl ?_
  refine rwp_det rfl rfl (det_lss rfl rfl rfl) ?_
  refine rwp_nil ?_
  refine awp_seq ?_
  refine awp_cond rfl (fun c1 => ?_) (fun c1 => ?_)
  · try simp only [decide_eq_true_eq, decide_eq_false_iff_not, Bool.not_eq_true', Bool.not_eq_false', Bool.and_eq_true, Bool.or_eq_true, Bool.and_eq_false_iff, Bool.or_eq_false_iff, Int.not_lt, Int.not_le, List.length_map] at c1
    obtain ⟨t, ht⟩ := ex_get l k (by omega)
    refine awp_skip ?_
    refine awp_seq ?_
    refine awp_block ?_
    refine awp_seq ?_
    refine awp_region rfl ?_
    refine rwp_det rfl rfl (det_move rfl rfl) ?_
    refine rwp_det rfl rfl (det_assign rfl rfl) ?_
    refine rwp_nil ?_
    refine awp_seq ?_
    refine awp_region rfl ?_
    refine rwp_det rfl rfl (det_move rfl rfl) ?_
    refine rwp_det rfl rfl (det_move rfl rfl) ?_
    refine rwp_det rfl rfl (det_move rfl rfl) ?_
    refine rwp_det rfl rfl (det_index_sl rfl el36 rfl rfl (by omega) (getm ht)) ?_
    refine rwp_det rfl rfl (det_load_one rfl one9 rfl ptr_imm rfl) ?_
    refine rwp_det rfl rfl (det_seql rfl rfl rfl) ?_
    refine rwp_nil ?_
    refine awp_cond rfl (fun c2 => ?_) (fun c2 => ?_)
    · try simp only [decide_eq_true_eq, decide_eq_false_iff_not, Bool.not_eq_true', Bool.not_eq_false', Bool.and_eq_true, Bool.or_eq_true, Bool.and_eq_false_iff, Bool.or_eq_false_iff, Int.not_lt, Int.not_le, List.length_map] at c2
      refine awp_seq ?_
      refine awp_region rfl ?_
      refine rwp_det rfl rfl (det_move rfl rfl) ?_
      refine rwp_det rfl rfl (det_assign rfl rfl) ?_
      refine rwp_nil ?_
      refine awp_ret ?_
      repeat (first | refine thenQ_ret ?_ | refine blockQ_ret ?_)
      refine fin1 (rs_c rfl) ?_
      rw [idxB_some ht c2 hp]
    · try simp only [decide_eq_true_eq, decide_eq_false_iff_not, Bool.not_eq_true', Bool.not_eq_false', Bool.and_eq_true, Bool.or_eq_true, Bool.and_eq_false_iff, Bool.or_eq_false_iff, Int.not_lt, Int.not_le, List.length_map] at c2
      refine awp_skip ?_
      refine awp_region rfl ?_
      refine rwp_det rfl rfl (det_add_nw rfl rfl rfl ⟨by omega, by omega⟩) ?_
      refine rwp_det rfl rfl (det_move rfl rfl) ?_
      refine rwp_nil ?_
      refine ⟨k + 1, ⟨by omega, hasB_take_no ht hp (fun e => c2 e.symm)⟩, (by omega), Weak.mk [] ⟨VLe.refl _, VLe.refl _, VLe.refl _, VLe.refl _, trivial⟩ rfl⟩
  · try simp only [decide_eq_true_eq, decide_eq_false_iff_not, Bool.not_eq_true', Bool.not_eq_false', Bool.and_eq_true, Bool.or_eq_true, Bool.and_eq_false_iff, Bool.or_eq_false_iff, Int.not_lt, Int.not_le, List.length_map] at c1
    refine awp_exit ?_
    refine awp_seq ?_
    refine awp_region rfl ?_
    refine rwp_det rfl rfl (det_assign rfl rfl) ?_
    refine rwp_nil ?_
    refine awp_ret ?_
    repeat (first | refine thenQ_ret ?_ | refine blockQ_ret ?_)
    refine fin1 (rs_c rfl) ?_
    rw [idxB_none (by rw [take_all (by omega)] at hp; exact hp)]

theorem slices_Contains_str (l : List ByteArray) (s : ByteArray) (hl : l.length ≤ 1000000) :
    Pur cfg 23 [vSs l, vS s] (vB (hasB l s)) := by
  refine con_intro Tryd.func23 rfl Tryd.ntmps23 Tryd.results23 rfl ?_
  intro z hz
  refine awp_seq ?_
  refine awp_region rfl ?_
  refine rwp_det rfl rfl (det_assign rfl rfl) ?_
  refine rwp_nil ?_
  refine awp_seq ?_
  refine awp_region rfl ?_
  refine rwp_det rfl rfl (det_move rfl rfl) ?_
  refine rwp_det rfl rfl (det_move rfl rfl) ?_
  refine rwp_det rfl rfl (det_call rfl ok25 (slices_Index_str l s hl) ⟨VLe.refl _, rfl, VLe.refl _, rfl, trivial⟩) ?_
  refine rwp_det rfl rfl (det_geq rfl rfl rfl) ?_
  refine rwp_det rfl rfl (det_assign rfl rfl) ?_
  refine rwp_nil ?_
  refine awp_ret ?_
  repeat (first | refine thenQ_ret ?_ | refine blockQ_ret ?_)
  refine fin1 (rs_c rfl) ?_
  rw [idxB_has]

theorem lexer_keywords  :
    Pur cfg 24 [] (vSs words) := by
  refine con_intro Tryd.func24 rfl Tryd.ntmps24 Tryd.results24 rfl ?_
  intro z hz
  refine awp_seq ?_
  refine awp_region rfl ?_
  refine rwp_det rfl rfl (det_assign rfl rfl) ?_
  refine rwp_nil ?_
  refine awp_seq ?_
  refine awp_region rfl ?_
  refine rwp_det rfl rfl (det_call rfl ok26 (strings_Fields _ (by decide) kw_ascii) ⟨VLe.refl _, rfl, trivial⟩) ?_
  refine rwp_det rfl rfl (det_assign rfl rfl) ?_
  refine rwp_nil ?_
  refine awp_ret ?_
  repeat (first | refine thenQ_ret ?_ | refine blockQ_ret ?_)
  refine fin1 (rs_c rfl) ?_
  exact congrArg vSs kw_fields

theorem lexer_IsKeyword (s : ByteArray) :
    Pur cfg 19 [vS s] (vB (hasB words s)) := by
  refine con_intro Tryd.func19 rfl Tryd.ntmps19 Tryd.results19 rfl ?_
  intro z hz
  refine awp_seq ?_
  refine awp_region rfl ?_
  refine rwp_det rfl rfl (det_assign rfl rfl) ?_
  refine rwp_nil ?_
  refine awp_seq ?_
  refine awp_region rfl ?_
  refine rwp_det rfl rfl (det_call rfl ok24 (lexer_keywords) trivial) ?_
  refine rwp_det rfl rfl (det_move rfl rfl) ?_
  refine rwp_det rfl rfl (det_call rfl ok23 (slices_Contains_str _ _ (by decide)) ⟨VLe.refl _, rfl, VLe.refl _, rfl, trivial⟩) ?_
  refine rwp_det rfl rfl (det_assign rfl rfl) ?_
  refine rwp_nil ?_
  refine awp_ret ?_
  repeat (first | refine thenQ_ret ?_ | refine blockQ_ret ?_)
  refine fin1 (rs_c rfl) ?_
  exact rfl

theorem lexer_IsName (s : ByteArray) :
    Pur cfg 14 [vS s] (vB (isNameB s)) := by
  refine con_intro Tryd.func14 rfl Tryd.ntmps14 Tryd.results14 rfl ?_
  intro z hz
  refine awp_seq ?_
  refine awp_region rfl ?_
  refine rwp_det rfl rfl (det_assign rfl rfl) ?_
  refine rwp_nil ?_
  refine awp_seq ?_
  refine awp_region rfl ?_
  refine rwp_det rfl rfl (det_move rfl rfl) ?_
  refine rwp_det rfl rfl (det_sneq rfl rfl rfl) ?_
  refine rwp_det rfl rfl (det_move rfl rfl) ?_
  refine rwp_lazy [] rfl rfl rfl rfl gv1 trivial (fun g1_2 => det_move rfl rfl) rfl ?_
  refine rwp_lazy [(6, _)] rfl rfl rfl rfl gv1 ⟨rfl, rfl, trivial⟩ (fun g1_2 => det_len_str rfl un9 rfl) rfl ?_
  refine rwp_lazy [(7, _)] rfl rfl rfl rfl gv1 ⟨rfl, rfl, trivial⟩ (fun g1_2 => det_leq rfl rfl rfl) rfl ?_
  refine rwp_det rfl rfl (det_and rfl rfl rfl (fun h => h) rfl) ?_
  refine rwp_det rfl rfl (det_move rfl rfl) ?_
  refine rwp_lazy [] rfl rfl rfl rfl gv1 trivial (fun g1_7 => det_move rfl rfl) rfl ?_
  refine rwp_lazy [(11, _)] rfl rfl rfl rfl gv1 ⟨rfl, rfl, trivial⟩ (fun g1_7 => det_sindexD rfl un9 rfl rfl (by decide) (size_pos (nm1 g1_7))) rfl ?_
  refine rwp_lazy [(12, _)] rfl rfl rfl rfl gv1 ⟨rfl, rfl, trivial⟩ (fun g1_7 => det_conv rfl us5 ik21 rfl) rfl ?_
  refine rwp_lazy [(13, _)] rfl rfl rfl rfl gv1 ⟨rfl, rfl, trivial⟩ (fun g1_7 => det_call rfl ok16 (lexer_letter _) ⟨VLe.refl _, rfl, trivial⟩) rfl ?_
  refine rwp_det rfl rfl (det_and rfl rfl rfl (fun h => h) rfl) ?_
  refine rwp_det rfl rfl (det_move rfl rfl) ?_
  refine rwp_lazy [] rfl rfl rfl rfl gv1 trivial (fun g1_13 => det_move rfl rfl) rfl ?_
  refine rwp_lazy [(17, _)] rfl rfl rfl rfl gv1 ⟨rfl, rfl, trivial⟩ (fun g1_13 => det_call rfl ok17 (lexer_span_inWord s (nm2 g1_13)) ⟨VLe.refl _, rfl, VLe.refl _, rfl, trivial⟩) rfl ?_
  refine rwp_lazy [] rfl rfl rfl rfl gv1 trivial (fun g1_13 => det_move rfl rfl) rfl ?_
  refine rwp_lazy [(19, _)] rfl rfl rfl rfl gv1 ⟨rfl, rfl, trivial⟩ (fun g1_13 => det_len_str rfl un9 rfl) rfl ?_
  refine rwp_lazy [(18, _), (20, _)] rfl rfl rfl rfl gv1 ⟨rfl, rfl, rfl, rfl, trivial⟩ (fun g1_13 => det_eql rfl rfl rfl) rfl ?_
  refine rwp_det rfl rfl (det_and rfl rfl rfl (fun h => h) rfl) ?_
  refine rwp_det rfl rfl (det_move rfl rfl) ?_
  refine rwp_lazy [] rfl rfl rfl rfl gv1 trivial (fun g1_20 => det_move rfl rfl) rfl ?_
  refine rwp_lazy [(24, _)] rfl rfl rfl rfl gv1 ⟨rfl, rfl, trivial⟩ (fun g1_20 => det_call rfl ok19 (lexer_IsKeyword _) ⟨VLe.refl _, rfl, trivial⟩) rfl ?_
  refine rwp_lazy [(25, _)] rfl rfl rfl rfl gv1 ⟨rfl, rfl, trivial⟩ (fun g1_20 => det_not rfl rfl) rfl ?_
  refine rwp_det rfl rfl (det_and rfl rfl rfl (fun h => h) rfl) ?_
  refine rwp_det rfl rfl (det_assign rfl rfl) ?_
  refine rwp_nil ?_
  refine awp_ret ?_
  repeat (first | refine thenQ_ret ?_ | refine blockQ_ret ?_)
  refine fin1 (rs_c rfl) ?_
  exact congrArg vB (isName_eq s)

theorem base_Words  :
    Pur cfg 21 [] (vSs words) := by
  refine con_intro Tryd.func21 rfl Tryd.ntmps21 Tryd.results21 rfl ?_
  intro z hz
  refine awp_seq ?_
  refine awp_region rfl ?_
  refine rwp_det rfl rfl (det_assign rfl rfl) ?_
  refine rwp_nil ?_
  refine awp_seq ?_
  refine awp_region rfl ?_
  refine rwp_det rfl rfl (det_bslice rfl el36 zr9 rfl rfl rfl rfl) ?_
  refine rwp_det rfl rfl (det_assign rfl rfl) ?_
  refine rwp_nil ?_
  refine awp_ret ?_
  repeat (first | refine thenQ_ret ?_ | refine blockQ_ret ?_)
  refine fin1 (rs_c rfl) ?_
  exact rfl

theorem base_Has (l : List ByteArray) (s : ByteArray) (hl : l.length ≤ 1000000) :
    Pur cfg 20 [vSs l, vS s] (vB (hasB l s)) := by
  refine con_intro Tryd.func20 rfl Tryd.ntmps20 Tryd.results20 rfl ?_
  intro z hz
  refine awp_seq ?_
  refine awp_region rfl ?_
  refine rwp_det rfl rfl (det_assign rfl rfl) ?_
  refine rwp_nil ?_
  refine awp_seq ?_
  refine awp_seq ?_
  refine awp_region rfl ?_
  refine rwp_det rfl rfl (det_assign rfl rfl) ?_
  refine rwp_nil ?_
  refine awp_block ?_
  refine awp_weak ⟨[(5, .c _), (0, .c _), (1, .c _)], []⟩ (Weak.mk [] ⟨VLe.of_eq rfl, VLe.of_eq rfl, VLe.of_eq rfl, trivial⟩ rfl) ?_
  refine awp_loop_k 1 0 rfl rfl (Nat) (fun k => [(5, vI k)]) (fun k => []) (fun k => k ≤ l.length ∧ hasB (l.take k) s = false) (fun k => l.length - k) ⟨0, ⟨by omega, rfl⟩, Weak.mk [] ⟨VLe.refl _, VLe.refl _, VLe.refl _, trivial⟩ rfl⟩ ?_
  rintro k ⟨hk, hp⟩
  refine awp_seq ?_
  refine awp_seq ?_
  refine awp_region rfl ?_
  refine rwp_det rfl rfl (det_move rfl rfl) ?_
  refine rwp_det rfl rfl (det_move rfl rfl) ?_
  refine rwp_det rfl rfl (det_len_sl rfl el36 rfl) ?_
  refine rwp_det rfl rfl (det_lss rfl rfl rfl) ?_
  refine rwp_nil ?_
  refine awp_cond rfl (fun c1 => ?_) (fun c1 => ?_)
  · try simp only [decide_eq_true_eq, decide_eq_false_iff_not, Bool.not_eq_true', Bool.not_eq_false', Bool.and_eq_true, Bool.or_eq_true, Bool.and_eq_false_iff, Bool.or_eq_false_iff, Int.not_lt, Int.not_le, List.length_map] at c1
    obtain ⟨t, ht⟩ := ex_get l k (by omega)
    refine awp_skip ?_
    refine awp_seq ?_
    refine awp_block ?_
    refine awp_seq ?_
    refine awp_region rfl ?_
    refine rwp_det rfl rfl (det_move rfl rfl) ?_
    refine rwp_det rfl rfl (det_move rfl rfl) ?_
    refine rwp_det rfl rfl (det_index_sl rfl el36 rfl rfl (by omega) (getm ht)) ?_
    refine rwp_det rfl rfl (det_load_one rfl one9 rfl ptr_imm rfl) ?_
    refine rwp_det rfl rfl (det_move rfl rfl) ?_
    refine rwp_det rfl rfl (det_seql rfl rfl rfl) ?_
    refine rwp_nil ?_
    refine awp_cond rfl (fun c2 => ?_) (fun c2 => ?_)
    · try simp only [decide_eq_true_eq, decide_eq_false_iff_not, Bool.not_eq_true', Bool.not_eq_false', Bool.and_eq_true, Bool.or_eq_true, Bool.and_eq_false_iff, Bool.or_eq_false_iff, Int.not_lt, Int.not_le, List.length_map] at c2
      refine awp_seq ?_
      refine awp_region rfl ?_
      refine rwp_det rfl rfl (det_assign rfl rfl) ?_
      refine rwp_nil ?_
      refine awp_ret ?_
      repeat (first | refine thenQ_ret ?_ | refine blockQ_ret ?_)
      refine fin1 (rs_c rfl) ?_
      rw [hasB_of_get ht c2]
    · try simp only [decide_eq_true_eq, decide_eq_false_iff_not, Bool.not_eq_true', Bool.not_eq_false', Bool.and_eq_true, Bool.or_eq_true, Bool.and_eq_false_iff, Bool.or_eq_false_iff, Int.not_lt, Int.not_le, List.length_map] at c2
      refine awp_skip ?_
      refine awp_region rfl ?_
      refine rwp_det rfl rfl (det_move rfl rfl) ?_
      refine rwp_det rfl rfl (det_add_nw rfl rfl rfl ⟨by omega, by omega⟩) ?_
      refine rwp_det rfl rfl (det_assign rfl rfl) ?_
      refine rwp_nil ?_
      refine ⟨k + 1, ⟨by omega, hasB_take_no ht hp c2⟩, (by omega), Weak.mk [] ⟨VLe.refl _, VLe.refl _, VLe.refl _, trivial⟩ rfl⟩
  · try simp only [decide_eq_true_eq, decide_eq_false_iff_not, Bool.not_eq_true', Bool.not_eq_false', Bool.and_eq_true, Bool.or_eq_true, Bool.and_eq_false_iff, Bool.or_eq_false_iff, Int.not_lt, Int.not_le, List.length_map] at c1
    refine awp_exit ?_
    refine awp_seq ?_
    refine awp_region rfl ?_
    refine rwp_det rfl rfl (det_assign rfl rfl) ?_
    refine rwp_nil ?_
    refine awp_ret ?_
    repeat (first | refine thenQ_ret ?_ | refine blockQ_ret ?_)
    refine fin1 (rs_c rfl) ?_
    rw [show hasB l s = false by rw [take_all (by omega)] at hp; exact hp]

theorem base_Name (s : ByteArray) :
    Pur cfg 15 [vS s] (vB (isNameB s)) := by
  refine con_intro Tryd.func15 rfl Tryd.ntmps15 Tryd.results15 rfl ?_
  intro z hz
  refine awp_seq ?_
  refine awp_region rfl ?_
  refine rwp_det rfl rfl (det_assign rfl rfl) ?_
  refine rwp_nil ?_
  refine awp_seq ?_
  refine awp_seq ?_
  refine awp_region rfl ?_
  refine rwp_det rfl rfl (det_move rfl rfl) ?_
  refine rwp_det rfl rfl (det_len_str rfl un9 rfl) ?_
  refine rwp_det rfl rfl (det_lss rfl rfl rfl) ?_
  refine rwp_det rfl rfl (det_move rfl rfl) ?_
  refine rwp_lazy [] rfl rfl rfl rfl gv1 trivial (fun g1_3 => det_move rfl rfl) rfl ?_
  refine rwp_lazy [(9, _)] rfl rfl rfl rfl gv1 ⟨rfl, rfl, trivial⟩ (fun g1_3 => det_len_str rfl un9 rfl) rfl ?_
  refine rwp_lazy [(10, _)] rfl rfl rfl rfl gv1 ⟨rfl, rfl, trivial⟩ (fun g1_3 => det_gtr rfl rfl rfl) rfl ?_
  refine rwp_det rfl rfl (det_or rfl rfl rfl rfl (fun h => (lzf h))) ?_
  refine rwp_det rfl rfl (det_move rfl rfl) ?_
  refine rwp_lazy [] rfl rfl rfl rfl gv1 trivial (fun g1_8 => det_call rfl ok21 (base_Words) trivial) rfl ?_
  refine rwp_lazy [] rfl rfl rfl rfl gv1 trivial (fun g1_8 => det_move rfl rfl) rfl ?_
  refine rwp_lazy [(14, _), (15, _)] rfl rfl rfl rfl gv1 ⟨rfl, rfl, rfl, rfl, trivial⟩ (fun g1_8 => det_call rfl ok20 (base_Has _ _ (by decide)) ⟨VLe.refl _, rfl, VLe.refl _, rfl, trivial⟩) rfl ?_
  refine rwp_det rfl rfl (det_or rfl rfl rfl rfl (fun h => (lzf h))) ?_
  refine rwp_nil ?_
  refine awp_cond rfl (fun c1 => ?_) (fun c1 => ?_)
  · try simp only [decide_eq_true_eq, decide_eq_false_iff_not, Bool.not_eq_true', Bool.not_eq_false', Bool.and_eq_true, Bool.or_eq_true, Bool.and_eq_false_iff, Bool.or_eq_false_iff, Int.not_lt, Int.not_le, List.length_map] at c1
    have hno := name_short (s := s) (by simpa using c1)
    refine awp_seq ?_
    refine awp_region rfl ?_
    refine rwp_det rfl rfl (det_assign rfl rfl) ?_
    refine rwp_nil ?_
    refine awp_ret ?_
    repeat (first | refine thenQ_ret ?_ | refine blockQ_ret ?_)
    refine fin1 (rs_c rfl) ?_
    rw [hno]
  · try simp only [decide_eq_true_eq, decide_eq_false_iff_not, Bool.not_eq_true', Bool.not_eq_false', Bool.and_eq_true, Bool.or_eq_true, Bool.and_eq_false_iff, Bool.or_eq_false_iff, Int.not_lt, Int.not_le, List.length_map] at c1
    obtain ⟨⟨n1, n2⟩, n3⟩ := c1
    have n1 : 1 ≤ s.size := by omega
    have n2 : s.size ≤ 16 := by omega
    have hne := name_end n1 n2 n3
    refine awp_skip ?_
    refine awp_seq ?_
    refine awp_seq ?_
    refine awp_region rfl ?_
    refine rwp_det rfl rfl (det_assign rfl rfl) ?_
    refine rwp_nil ?_
    refine awp_block ?_
    refine awp_weak ⟨[(3, .c _), (0, .c _)], []⟩ (Weak.mk [] ⟨VLe.of_eq rfl, VLe.of_eq rfl, trivial⟩ rfl) ?_
    refine awp_loop_k 1 0 rfl rfl (Nat) (fun k => [(3, vI k)]) (fun k => []) (fun k => k ≤ s.size ∧ okTo s k = true) (fun k => s.size - k) ⟨0, ⟨by omega, rfl⟩, Weak.mk [] ⟨VLe.refl _, VLe.refl _, trivial⟩ rfl⟩ ?_
    rintro k ⟨hk, hp⟩
    refine awp_seq ?_
    refine awp_seq ?_
    refine awp_region rfl ?_
    refine rwp_det rfl rfl (det_move rfl rfl) ?_
    refine rwp_det rfl rfl (det_move rfl rfl) ?_
    refine rwp_det rfl rfl (det_len_str rfl un9 rfl) ?_
    refine rwp_det rfl rfl (det_lss rfl rfl rfl) ?_
    refine rwp_nil ?_
    refine awp_cond rfl (fun c2 => ?_) (fun c2 => ?_)
    · try simp only [decide_eq_true_eq, decide_eq_false_iff_not, Bool.not_eq_true', Bool.not_eq_false', Bool.and_eq_true, Bool.or_eq_true, Bool.and_eq_false_iff, Bool.or_eq_false_iff, Int.not_lt, Int.not_le, List.length_map] at c2
      have hlt : k < s.size := by omega
      refine awp_skip ?_
      refine awp_seq ?_
      refine awp_block ?_
      refine awp_seq ?_
      refine awp_region rfl ?_
      refine rwp_det rfl rfl (det_move rfl rfl) ?_
      refine rwp_det rfl rfl (det_move rfl rfl) ?_
      refine rwp_det rfl rfl (det_sindexD rfl un9 rfl rfl (by omega) (by omega)) ?_
      refine rwp_det rfl rfl (det_assign rfl rfl) ?_
      refine rwp_nil ?_
      refine awp_seq ?_
      refine awp_region rfl ?_
      refine rwp_det rfl rfl (det_move rfl rfl) ?_
      refine rwp_det rfl rfl (det_geq rfl rfl rfl) ?_
      refine rwp_det rfl rfl (det_move rfl rfl) ?_
      refine rwp_lazy [] rfl rfl rfl rfl gv1 trivial (fun g7_2 => det_move rfl rfl) rfl ?_
      refine rwp_lazy [(30, _)] rfl rfl rfl rfl gv1 ⟨rfl, rfl, trivial⟩ (fun g7_2 => det_leq rfl rfl rfl) rfl ?_
      refine rwp_det rfl rfl (det_and rfl rfl rfl (fun h => h) rfl) ?_
      refine rwp_det rfl rfl (det_move rfl rfl) ?_
      refine rwp_lazy [] rfl rfl rfl rfl gv1 trivial (fun g7_6 => det_move rfl rfl) rfl ?_
      refine rwp_lazy [(34, _)] rfl rfl rfl rfl gv1 ⟨rfl, rfl, trivial⟩ (fun g7_6 => det_gtr rfl rfl rfl) rfl ?_
      refine rwp_lazy [(35, _)] rfl rfl rfl rfl gv1 ⟨rfl, rfl, trivial⟩ (fun g7_6 => det_move rfl rfl) rfl ?_
      refine rwp_lazy [] rfl rfl rfl rfl gv2 trivial (fun g7_9 => det_move rfl rfl) rfl ?_
      refine rwp_lazy [(37, _)] rfl rfl rfl rfl gv2 ⟨rfl, rfl, trivial⟩ (fun g7_9 => det_geq rfl rfl rfl) rfl ?_
      refine rwp_lazy [(38, _)] rfl rfl rfl rfl gv2 ⟨rfl, rfl, trivial⟩ (fun g7_9 => det_move rfl rfl) rfl ?_
      refine rwp_lazy [] rfl rfl rfl rfl gv2 trivial (fun g7_12 => det_move rfl rfl) rfl ?_
      refine rwp_lazy [(40, _)] rfl rfl rfl rfl gv2 ⟨rfl, rfl, trivial⟩ (fun g7_12 => det_leq rfl rfl rfl) rfl ?_
      refine rwp_lazy [(39, _)] rfl rfl rfl rfl gv2 ⟨rfl, rfl, trivial⟩ (fun g7_9 => det_and rfl rfl rfl (fun h => and_mk (by assumption) h) rfl) rfl ?_
      refine rwp_lazy [(42, _)] rfl rfl rfl rfl gv2 ⟨rfl, rfl, trivial⟩ (fun g7_9 => det_move rfl rfl) rfl ?_
      refine rwp_lazy [] rfl rfl rfl rfl gv2 trivial (fun g7_16 => det_move rfl rfl) rfl ?_
      refine rwp_lazy [(44, _)] rfl rfl rfl rfl gv2 ⟨rfl, rfl, trivial⟩ (fun g7_16 => det_eql rfl rfl rfl) rfl ?_
      refine rwp_lazy [(43, _)] rfl rfl rfl rfl gv2 ⟨rfl, rfl, trivial⟩ (fun g7_9 => det_or rfl rfl rfl rfl (fun h => and_mk (by assumption) (lzf h))) rfl ?_
      refine rwp_lazy [(36, _)] rfl rfl rfl rfl gv1 ⟨rfl, rfl, trivial⟩ (fun g7_6 => det_and rfl rfl rfl (fun h => and_mk (by assumption) h) rfl) rfl ?_
      refine rwp_det rfl rfl (det_or rfl rfl rfl rfl (fun h => (lzf h))) ?_
      refine rwp_det rfl rfl (det_not rfl rfl) ?_
      refine rwp_nil ?_
      refine awp_cond rfl (fun c3 => ?_) (fun c3 => ?_)
      · have hbad : okTo s (k + 1) = false := by rw [okTo_next, show nameOk k (s.data.toList.getD k 0) = false from (Bool.not_eq_true' _).mp c3]; simp
        refine awp_seq ?_
        refine awp_region rfl ?_
        refine rwp_det rfl rfl (det_assign rfl rfl) ?_
        refine rwp_nil ?_
        refine awp_ret ?_
        repeat (first | refine thenQ_ret ?_ | refine blockQ_ret ?_)
        refine fin1 (rs_c rfl) ?_
        rw [hne]; cases ho : okTo s s.size; rfl; exact absurd (okTo_le (k := k + 1) (by omega) ho) (by rw [hbad]; simp)
      · have hgood : okTo s (k + 1) = true := by rw [okTo_next, hp, show nameOk k (s.data.toList.getD k 0) = true from (Bool.not_eq_false' _).mp c3]; rfl
        refine awp_skip ?_
        refine awp_region rfl ?_
        refine rwp_det rfl rfl (det_move rfl rfl) ?_
        refine rwp_det rfl rfl (det_add_nw rfl rfl rfl ⟨by omega, by omega⟩) ?_
        refine rwp_det rfl rfl (det_assign rfl rfl) ?_
        refine rwp_nil ?_
        refine ⟨k + 1, ⟨by omega, hgood⟩, (by omega), Weak.mk [] ⟨VLe.refl _, VLe.refl _, trivial⟩ rfl⟩
    · try simp only [decide_eq_true_eq, decide_eq_false_iff_not, Bool.not_eq_true', Bool.not_eq_false', Bool.and_eq_true, Bool.or_eq_true, Bool.and_eq_false_iff, Bool.or_eq_false_iff, Int.not_lt, Int.not_le, List.length_map] at c2
      refine awp_exit ?_
      refine awp_seq ?_
      refine awp_region rfl ?_
      refine rwp_det rfl rfl (det_assign rfl rfl) ?_
      refine rwp_nil ?_
      refine awp_ret ?_
      repeat (first | refine thenQ_ret ?_ | refine blockQ_ret ?_)
      refine fin1 (rs_c rfl) ?_
      rw [hne, show s.size = k by omega, hp]

theorem liveness_Validate (l : List Lifetime) (hl : l.length ≤ 1000000) :
    Pur cfg 12 [vLs l] (vI (validateL l)) := by
  refine con_intro Tryd.func12 rfl Tryd.ntmps12 Tryd.results12 rfl ?_
  intro z hz
  refine awp_seq ?_
  refine awp_region rfl ?_
  refine rwp_det rfl rfl (det_assign rfl rfl) ?_
  refine rwp_nil ?_
  refine awp_seq ?_
  refine awp_region rfl ?_
  refine rwp_op rfl rfl (ope_mkmap vB rfl rfl) ?_
  rintro _ _ ⟨b1, rfl, rfl⟩
  refine rwp_det rfl rfl (det_assign rfl rfl) ?_
  refine rwp_nil ?_
  refine awp_seq ?_
  refine awp_seq ?_
  refine awp_region rfl ?_
  refine rwp_det rfl rfl (det_move rfl rfl) ?_
  refine rwp_det rfl rfl (det_len_sl rfl el26 rfl) ?_
  refine rwp_det rfl rfl (det_move rfl rfl) ?_
  refine rwp_nil ?_
  refine awp_block ?_
  refine awp_weak ⟨[(9, .c _), (3, .c _), (7, .c _), (8, .c _)], [_]⟩ (Weak.mk [true] ⟨VLe.of_eq rfl, VLe.of_eq rfl, VLe.of_eq rfl, VLe.of_eq rfl, trivial⟩ rfl) ?_
  refine awp_loop_k 1 1 rfl rfl (Nat) (fun k => [(9, vI k)]) (fun k => [E.blk b1 (MapR vB (seenM (l.take k)))]) (fun k => k ≤ l.length ∧ validateL l = validFrom (l.take k) (l.drop k)) (fun k => l.length - k) ⟨0, ⟨by omega, rfl⟩, Weak.mk [true] ⟨VLe.refl _, VLe.refl _, VLe.refl _, VLe.refl _, trivial⟩ rfl⟩ ?_
  rintro k ⟨hk, hv⟩
  refine awp_seq ?_
  refine awp_region rfl ?_
  refine rwp_det rfl rfl (det_lss rfl rfl rfl) ?_
  refine rwp_nil ?_
  refine awp_seq ?_
  refine awp_cond rfl (fun c1 => ?_) (fun c1 => ?_)
  · try simp only [decide_eq_true_eq, decide_eq_false_iff_not, Bool.not_eq_true', Bool.not_eq_false', Bool.and_eq_true, Bool.or_eq_true, Bool.and_eq_false_iff, Bool.or_eq_false_iff, Int.not_lt, Int.not_le, List.length_map] at c1
    obtain ⟨x, hx⟩ := ex_get l k (by omega)
    refine awp_skip ?_
    refine awp_seq ?_
    refine awp_block ?_
    refine awp_seq ?_
    refine awp_region rfl ?_
    refine rwp_det rfl rfl (det_index_sl rfl el26 rfl rfl (by omega) (getm hx)) ?_
    refine rwp_det rfl rfl (det_load_agg rfl agg23 rfl ptr_imm rfl) ?_
    refine rwp_op rfl rfl (ope_alloc rfl zr23) ?_
    rintro _ _ ⟨b2, rfl, rfl⟩
    refine rwp_det0 rfl rfl (det_store rfl sz23 rfl rfl rfl (st_row 0 rfl rfl)) ?_
    refine rwp_nil ?_
    refine awp_seq ?_
    refine awp_block ?_
    refine awp_seq ?_
    refine awp_region rfl ?_
    refine rwp_det rfl rfl (det_field_lit rfl fd23_0 rfl) ?_
    refine rwp_det rfl rfl (det_load_one rfl one9 rfl (ptr_row 0 rfl) rfl) ?_
    refine rwp_det rfl rfl (det_call rfl ok14 (lexer_IsName _) ⟨VLe.refl _, rfl, trivial⟩) ?_
    refine rwp_det rfl rfl (det_not rfl rfl) ?_
    refine rwp_det rfl rfl (det_assign rfl rfl) ?_
    refine rwp_nil ?_
    refine awp_cond rfl (fun c2 => ?_) (fun c2 => ?_)
    · try simp only [decide_eq_true_eq, decide_eq_false_iff_not, Bool.not_eq_true', Bool.not_eq_false', Bool.and_eq_true, Bool.or_eq_true, Bool.and_eq_false_iff, Bool.or_eq_false_iff, Int.not_lt, Int.not_le, List.length_map] at c2
      refine awp_seq ?_
      refine awp_region rfl ?_
      refine rwp_det rfl rfl (det_assign rfl rfl) ?_
      refine rwp_nil ?_
      refine awp_ret ?_
      repeat (first | refine thenQ_ret ?_ | refine blockQ_ret ?_)
      refine fin1 (rs_c rfl) ?_
      rw [valid_err hv hx (check_name c2) (by decide)]
    · try simp only [decide_eq_true_eq, decide_eq_false_iff_not, Bool.not_eq_true', Bool.not_eq_false', Bool.and_eq_true, Bool.or_eq_true, Bool.and_eq_false_iff, Bool.or_eq_false_iff, Int.not_lt, Int.not_le, List.length_map] at c2
      refine awp_seq ?_
      refine awp_region rfl ?_
      refine rwp_det rfl rfl (det_move rfl rfl) ?_
      refine rwp_det rfl rfl (det_field_lit rfl fd23_0 rfl) ?_
      refine rwp_det rfl rfl (det_load_one rfl one9 rfl (ptr_row 0 rfl) rfl) ?_
      refine rwp_det rfl rfl (det_lookup 1 false rfl sm31 rfl rfl rfl (fun _ _ => CRep.lit _ rfl)) ?_
      refine rwp_det rfl rfl (det_assign rfl rfl) ?_
      refine rwp_nil ?_
      refine awp_cond rfl (fun c3 => ?_) (fun c3 => ?_)
      · try simp only [decide_eq_true_eq, decide_eq_false_iff_not, Bool.not_eq_true', Bool.not_eq_false', Bool.and_eq_true, Bool.or_eq_true, Bool.and_eq_false_iff, Bool.or_eq_false_iff, Int.not_lt, Int.not_le, List.length_map] at c3
        rw [seen_get] at c3
        refine awp_seq ?_
        refine awp_region rfl ?_
        refine rwp_det rfl rfl (det_assign rfl rfl) ?_
        refine rwp_nil ?_
        refine awp_ret ?_
        repeat (first | refine thenQ_ret ?_ | refine blockQ_ret ?_)
        refine fin1 (rs_c rfl) ?_
        rw [valid_err hv hx (check_dup c2 c3) (by decide)]
      · try simp only [decide_eq_true_eq, decide_eq_false_iff_not, Bool.not_eq_true', Bool.not_eq_false', Bool.and_eq_true, Bool.or_eq_true, Bool.and_eq_false_iff, Bool.or_eq_false_iff, Int.not_lt, Int.not_le, List.length_map] at c3
        rw [seen_get] at c3
        refine awp_seq ?_
        refine awp_region rfl ?_
        refine rwp_det rfl rfl (det_field_lit rfl fd23_1 rfl) ?_
        refine rwp_det rfl rfl (det_load_one rfl one3 rfl (ptr_row 0 rfl) rfl) ?_
        refine rwp_det rfl rfl (det_lss rfl rfl rfl) ?_
        refine rwp_det rfl rfl (det_move rfl rfl) ?_
        refine rwp_lazy [] rfl rfl rfl rfl gv1 trivial (fun g9_3 => det_field_lit rfl fd23_2 rfl) rfl ?_
        refine rwp_lazy [(28, _)] rfl rfl rfl rfl gv1 ⟨rfl, rfl, trivial⟩ (fun g9_3 => det_load_one rfl one3 rfl (ptr_row 0 rfl) rfl) rfl ?_
        refine rwp_lazy [] rfl rfl rfl rfl gv1 trivial (fun g9_3 => det_field_lit rfl fd23_1 rfl) rfl ?_
        refine rwp_lazy [(30, _)] rfl rfl rfl rfl gv1 ⟨rfl, rfl, trivial⟩ (fun g9_3 => det_load_one rfl one3 rfl (ptr_row 0 rfl) rfl) rfl ?_
        refine rwp_lazy [(29, _), (31, _)] rfl rfl rfl rfl gv1 ⟨rfl, rfl, rfl, rfl, trivial⟩ (fun g9_3 => det_lss rfl rfl rfl) rfl ?_
        refine rwp_det rfl rfl (det_or rfl rfl rfl rfl (fun h => (lzf h))) ?_
        refine rwp_det rfl rfl (det_move rfl rfl) ?_
        refine rwp_lazy [] rfl rfl rfl rfl gv1 trivial (fun g9_10 => det_field_lit rfl fd23_3 rfl) rfl ?_
        refine rwp_lazy [(35, _)] rfl rfl rfl rfl gv1 ⟨rfl, rfl, trivial⟩ (fun g9_10 => det_load_one rfl one3 rfl (ptr_row 0 rfl) rfl) rfl ?_
        refine rwp_lazy [(36, _)] rfl rfl rfl rfl gv1 ⟨rfl, rfl, trivial⟩ (fun g9_10 => det_lss rfl rfl rfl) rfl ?_
        refine rwp_det rfl rfl (det_or rfl rfl rfl rfl (fun h => (lzf h))) ?_
        refine rwp_det rfl rfl (det_move rfl rfl) ?_
        refine rwp_lazy [] rfl rfl rfl rfl gv1 trivial (fun g9_15 => det_field_lit rfl fd23_3 rfl) rfl ?_
        refine rwp_lazy [(40, _)] rfl rfl rfl rfl gv1 ⟨rfl, rfl, trivial⟩ (fun g9_15 => det_load_one rfl one3 rfl (ptr_row 0 rfl) rfl) rfl ?_
        refine rwp_lazy [(41, _)] rfl rfl rfl rfl gv1 ⟨rfl, rfl, trivial⟩ (fun g9_15 => det_gtr rfl rfl rfl) rfl ?_
        refine rwp_det rfl rfl (det_or rfl rfl rfl rfl (fun h => (lzf h))) ?_
        refine rwp_det rfl rfl (det_assign rfl rfl) ?_
        refine rwp_nil ?_
        refine awp_cond rfl (fun c4 => ?_) (fun c4 => ?_)
        · try simp only [decide_eq_true_eq, decide_eq_false_iff_not, Bool.not_eq_true', Bool.not_eq_false', Bool.and_eq_true, Bool.or_eq_true, Bool.and_eq_false_iff, Bool.or_eq_false_iff, Int.not_lt, Int.not_le, List.length_map] at c4
          refine awp_seq ?_
          refine awp_region rfl ?_
          refine rwp_det rfl rfl (det_assign rfl rfl) ?_
          refine rwp_nil ?_
          refine awp_ret ?_
          repeat (first | refine thenQ_ret ?_ | refine blockQ_ret ?_)
          refine fin1 (rs_c rfl) ?_
          rw [valid_err hv hx (check_arg c2 c3 (by omega)) (by decide)]
        · try simp only [decide_eq_true_eq, decide_eq_false_iff_not, Bool.not_eq_true', Bool.not_eq_false', Bool.and_eq_true, Bool.or_eq_true, Bool.and_eq_false_iff, Bool.or_eq_false_iff, Int.not_lt, Int.not_le, List.length_map] at c4
          refine awp_skip ?_
          refine awp_region rfl ?_
          refine rwp_det rfl rfl (det_move rfl rfl) ?_
          refine rwp_det rfl rfl (det_field_lit rfl fd23_0 rfl) ?_
          refine rwp_det rfl rfl (det_load_one rfl one9 rfl (ptr_row 0 rfl) rfl) ?_
          refine rwp_det0 rfl rfl (det_mapput 1 true rfl sm31 rfl rfl rfl (VLe.refl _) rfl) ?_
          refine rwp_nil ?_
          refine awp_region rfl ?_
          refine rwp_det rfl rfl (det_add_nw rfl rfl rfl ⟨by omega, by omega⟩) ?_
          refine rwp_det rfl rfl (det_move rfl rfl) ?_
          refine rwp_nil ?_
          refine ⟨k + 1, ⟨by omega, valid_ok hv hx (check_ok c2 c3 (by omega))⟩, (by omega), Weak.mk [false, true] ⟨VLe.refl _, VLe.refl _, VLe.refl _, VLe.refl _, trivial⟩ (by rw [seen_next hx]; rfl)⟩
  · try simp only [decide_eq_true_eq, decide_eq_false_iff_not, Bool.not_eq_true', Bool.not_eq_false', Bool.and_eq_true, Bool.or_eq_true, Bool.and_eq_false_iff, Bool.or_eq_false_iff, Int.not_lt, Int.not_le, List.length_map] at c1
    refine awp_exit ?_
    refine awp_seq ?_
    refine awp_region rfl ?_
    refine rwp_det rfl rfl (det_assign rfl rfl) ?_
    refine rwp_nil ?_
    refine awp_ret ?_
    repeat (first | refine thenQ_ret ?_ | refine blockQ_ret ?_)
    refine fin1 (rs_c rfl) ?_
    rw [valid_end hv (by omega)]

theorem ref41_Validate (l : List Lifetime) (hl : l.length ≤ 1000000) :
    Pur cfg 13 [vLs l] (vI (validateL l)) := by
  refine con_intro Tryd.func13 rfl Tryd.ntmps13 Tryd.results13 rfl ?_
  intro z hz
  refine awp_seq ?_
  refine awp_region rfl ?_
  refine rwp_det rfl rfl (det_assign rfl rfl) ?_
  refine rwp_nil ?_
  refine awp_seq ?_
  refine awp_seq ?_
  refine awp_region rfl ?_
  refine rwp_det rfl rfl (det_assign rfl rfl) ?_
  refine rwp_nil ?_
  refine awp_block ?_
  refine awp_weak ⟨[(3, .c _), (0, .c _)], []⟩ (Weak.mk [] ⟨VLe.of_eq rfl, VLe.of_eq rfl, trivial⟩ rfl) ?_
  refine awp_loop_k 1 0 rfl rfl (Nat) (fun k => [(3, vI k)]) (fun k => []) (fun k => k ≤ l.length ∧ validateL l = validFrom (l.take k) (l.drop k)) (fun k => l.length - k) ⟨0, ⟨by omega, rfl⟩, Weak.mk [] ⟨VLe.refl _, VLe.refl _, trivial⟩ rfl⟩ ?_
  rintro k ⟨hk, hv⟩
  refine awp_seq ?_
  refine awp_seq ?_
  refine awp_region rfl ?_
  refine rwp_det rfl rfl (det_move rfl rfl) ?_
  refine rwp_det rfl rfl (det_move rfl rfl) ?_
  refine rwp_det rfl rfl (det_len_sl rfl el26 rfl) ?_
  refine rwp_det rfl rfl (det_lss rfl rfl rfl) ?_
  refine rwp_nil ?_
  refine awp_cond rfl (fun c1 => ?_) (fun c1 => ?_)
  · try simp only [decide_eq_true_eq, decide_eq_false_iff_not, Bool.not_eq_true', Bool.not_eq_false', Bool.and_eq_true, Bool.or_eq_true, Bool.and_eq_false_iff, Bool.or_eq_false_iff, Int.not_lt, Int.not_le, List.length_map] at c1
    obtain ⟨x, hx⟩ := ex_get l k (by omega)
    refine awp_skip ?_
    refine awp_seq ?_
    refine awp_block ?_
    refine awp_seq ?_
    refine awp_seq ?_
    refine awp_region rfl ?_
    refine rwp_det rfl rfl (det_move rfl rfl) ?_
    refine rwp_det rfl rfl (det_move rfl rfl) ?_
    refine rwp_det rfl rfl (det_index_sl rfl el26 rfl rfl (by omega) (getm hx)) ?_
    refine rwp_det rfl rfl (det_field_imm rfl fd23_0 rfl) ?_
    refine rwp_det rfl rfl (det_load_one rfl one9 rfl ptr_imm rfl) ?_
    refine rwp_det rfl rfl (det_call rfl ok15 (base_Name _) ⟨VLe.refl _, rfl, trivial⟩) ?_
    refine rwp_det rfl rfl (det_not rfl rfl) ?_
    refine rwp_nil ?_
    refine awp_cond rfl (fun c2 => ?_) (fun c2 => ?_)
    · try simp only [decide_eq_true_eq, decide_eq_false_iff_not, Bool.not_eq_true', Bool.not_eq_false', Bool.and_eq_true, Bool.or_eq_true, Bool.and_eq_false_iff, Bool.or_eq_false_iff, Int.not_lt, Int.not_le, List.length_map] at c2
      refine awp_seq ?_
      refine awp_region rfl ?_
      refine rwp_det rfl rfl (det_assign rfl rfl) ?_
      refine rwp_nil ?_
      refine awp_ret ?_
      repeat (first | refine thenQ_ret ?_ | refine blockQ_ret ?_)
      refine fin1 (rs_c rfl) ?_
      rw [valid_err hv hx (check_name c2) (by decide)]
    · try simp only [decide_eq_true_eq, decide_eq_false_iff_not, Bool.not_eq_true', Bool.not_eq_false', Bool.and_eq_true, Bool.or_eq_true, Bool.and_eq_false_iff, Bool.or_eq_false_iff, Int.not_lt, Int.not_le, List.length_map] at c2
      refine awp_skip ?_
      refine awp_seq ?_
      refine awp_seq ?_
      refine awp_region rfl ?_
      refine rwp_det rfl rfl (det_assign rfl rfl) ?_
      refine rwp_nil ?_
      refine awp_block ?_
      refine awp_weak ⟨[(4, .c _), (0, .c _), (3, .c _)], []⟩ (Weak.mk [] ⟨VLe.of_eq rfl, VLe.of_eq rfl, VLe.of_eq rfl, trivial⟩ rfl) ?_
      refine awp_loop_k 1 0 rfl rfl (Nat) (fun j => [(4, vI j)]) (fun j => []) (fun j => j ≤ k ∧ ((l.take j).any fun y => decide (y.Name = x.Name)) = false) (fun j => k - j) ⟨0, ⟨by omega, rfl⟩, Weak.mk [] ⟨VLe.refl _, VLe.refl _, VLe.refl _, trivial⟩ rfl⟩ ?_
      rintro j ⟨hj, hp⟩
      refine awp_seq ?_
      refine awp_seq ?_
      refine awp_region rfl ?_
      refine rwp_det rfl rfl (det_move rfl rfl) ?_
      refine rwp_det rfl rfl (det_move rfl rfl) ?_
      refine rwp_det rfl rfl (det_lss rfl rfl rfl) ?_
      refine rwp_nil ?_
      refine awp_cond rfl (fun c3 => ?_) (fun c3 => ?_)
      · try simp only [decide_eq_true_eq, decide_eq_false_iff_not, Bool.not_eq_true', Bool.not_eq_false', Bool.and_eq_true, Bool.or_eq_true, Bool.and_eq_false_iff, Bool.or_eq_false_iff, Int.not_lt, Int.not_le, List.length_map] at c3
        obtain ⟨y, hy⟩ := ex_get l j (by omega)
        refine awp_skip ?_
        refine awp_seq ?_
        refine awp_block ?_
        refine awp_seq ?_
        refine awp_draw 11 mixed (by kernel_rfl) rfl rfl ?_
        refine td_det rfl rfl (det_move rfl rfl) ?_
        refine td_det rfl rfl (det_move rfl rfl) ?_
        refine td_det rfl rfl (det_index_sl rfl el26 rfl rfl (by omega) (getm hy)) ?_
        refine td_det rfl rfl (det_field_imm rfl fd23_0 rfl) ?_
        refine td_det rfl rfl (det_load_one rfl one9 rfl ptr_imm rfl) ?_
        refine td_det rfl rfl (det_move rfl rfl) ?_
        refine td_det rfl rfl (det_move rfl rfl) ?_
        refine td_det rfl rfl (det_index_sl rfl el26 rfl rfl (by omega) (getm hx)) ?_
        refine td_det rfl rfl (det_field_imm rfl fd23_0 rfl) ?_
        refine td_det rfl rfl (det_load_one rfl one9 rfl ptr_imm rfl) ?_
        refine td_det rfl rfl (det_seql rfl rfl rfl) ?_
        refine td_nil ?_
        refine rwp_nil ?_
        refine awp_cond rfl (fun c4 => ?_) (fun c4 => ?_)
        · try simp only [decide_eq_true_eq, decide_eq_false_iff_not, Bool.not_eq_true', Bool.not_eq_false', Bool.and_eq_true, Bool.or_eq_true, Bool.and_eq_false_iff, Bool.or_eq_false_iff, Int.not_lt, Int.not_le, List.length_map] at c4
          refine awp_seq ?_
          refine awp_region rfl ?_
          refine rwp_det rfl rfl (det_assign rfl rfl) ?_
          refine rwp_nil ?_
          refine awp_ret ?_
          repeat (first | refine thenQ_ret ?_ | refine blockQ_ret ?_)
          refine fin1 (rs_c rfl) ?_
          rw [valid_err hv hx (check_dup c2 (any_of_get hy (by omega) c4)) (by decide)]
        · try simp only [decide_eq_true_eq, decide_eq_false_iff_not, Bool.not_eq_true', Bool.not_eq_false', Bool.and_eq_true, Bool.or_eq_true, Bool.and_eq_false_iff, Bool.or_eq_false_iff, Int.not_lt, Int.not_le, List.length_map] at c4
          refine awp_skip ?_
          refine awp_region rfl ?_
          refine rwp_det rfl rfl (det_move rfl rfl) ?_
          refine rwp_det rfl rfl (det_add_nw rfl rfl rfl ⟨by omega, by omega⟩) ?_
          refine rwp_det rfl rfl (det_assign rfl rfl) ?_
          refine rwp_nil ?_
          refine ⟨j + 1, ⟨by omega, any_next_no hy hp c4⟩, (by omega), Weak.mk [] ⟨VLe.refl _, VLe.refl _, VLe.refl _, trivial⟩ rfl⟩
      · try simp only [decide_eq_true_eq, decide_eq_false_iff_not, Bool.not_eq_true', Bool.not_eq_false', Bool.and_eq_true, Bool.or_eq_true, Bool.and_eq_false_iff, Bool.or_eq_false_iff, Int.not_lt, Int.not_le, List.length_map] at c3
        have hjk : j = k := by omega
        rw [hjk] at hp
        refine awp_exit ?_
        refine awp_seq ?_
        refine awp_draw 35 mixed (by kernel_rfl) rfl rfl ?_
        refine td_det rfl rfl (det_move rfl rfl) ?_
        refine td_det rfl rfl (det_move rfl rfl) ?_
        refine td_det rfl rfl (det_index_sl rfl el26 rfl rfl (by omega) (getm hx)) ?_
        refine td_det rfl rfl (det_field_imm rfl fd23_1 rfl) ?_
        refine td_det rfl rfl (det_load_one rfl one3 rfl ptr_imm rfl) ?_
        refine td_det rfl rfl (det_lss rfl rfl rfl) ?_
        refine td_det rfl rfl (det_move rfl rfl) ?_
        refine td_lazy [] rfl rfl rfl rfl gv1 trivial (fun g11_6 => det_move rfl rfl) rfl ?_
        refine td_lazy [] rfl rfl rfl rfl gv1 trivial (fun g11_6 => det_move rfl rfl) rfl ?_
        refine td_lazy [(41, _), (42, _)] rfl rfl rfl rfl gv1 ⟨rfl, rfl, rfl, rfl, trivial⟩ (fun g11_6 => det_index_sl rfl el26 rfl rfl (by omega) (getm hx)) rfl ?_
        refine td_lazy [(43, _)] rfl rfl rfl rfl gv1 ⟨rfl, rfl, trivial⟩ (fun g11_6 => det_field_imm rfl fd23_2 rfl) rfl ?_
        refine td_lazy [(44, _)] rfl rfl rfl rfl gv1 ⟨rfl, rfl, trivial⟩ (fun g11_6 => det_load_one rfl one3 rfl ptr_imm rfl) rfl ?_
        refine td_lazy [] rfl rfl rfl rfl gv1 trivial (fun g11_6 => det_move rfl rfl) rfl ?_
        refine td_lazy [] rfl rfl rfl rfl gv1 trivial (fun g11_6 => det_move rfl rfl) rfl ?_
        refine td_lazy [(46, _), (47, _)] rfl rfl rfl rfl gv1 ⟨rfl, rfl, rfl, rfl, trivial⟩ (fun g11_6 => det_index_sl rfl el26 rfl rfl (by omega) (getm hx)) rfl ?_
        refine td_lazy [(48, _)] rfl rfl rfl rfl gv1 ⟨rfl, rfl, trivial⟩ (fun g11_6 => det_field_imm rfl fd23_1 rfl) rfl ?_
        refine td_lazy [(49, _)] rfl rfl rfl rfl gv1 ⟨rfl, rfl, trivial⟩ (fun g11_6 => det_load_one rfl one3 rfl ptr_imm rfl) rfl ?_
        refine td_lazy [(45, _), (50, _)] rfl rfl rfl rfl gv1 ⟨rfl, rfl, rfl, rfl, trivial⟩ (fun g11_6 => det_lss rfl rfl rfl) rfl ?_
        refine td_det rfl rfl (det_or rfl rfl rfl rfl (fun h => (lzf h))) ?_
        refine td_det rfl rfl (det_move rfl rfl) ?_
        refine td_lazy [] rfl rfl rfl rfl gv1 trivial (fun g11_19 => det_move rfl rfl) rfl ?_
        refine td_lazy [] rfl rfl rfl rfl gv1 trivial (fun g11_19 => det_move rfl rfl) rfl ?_
        refine td_lazy [(54, _), (55, _)] rfl rfl rfl rfl gv1 ⟨rfl, rfl, rfl, rfl, trivial⟩ (fun g11_19 => det_index_sl rfl el26 rfl rfl (by omega) (getm hx)) rfl ?_
        refine td_lazy [(56, _)] rfl rfl rfl rfl gv1 ⟨rfl, rfl, trivial⟩ (fun g11_19 => det_field_imm rfl fd23_3 rfl) rfl ?_
        refine td_lazy [(57, _)] rfl rfl rfl rfl gv1 ⟨rfl, rfl, trivial⟩ (fun g11_19 => det_load_one rfl one3 rfl ptr_imm rfl) rfl ?_
        refine td_lazy [(58, _)] rfl rfl rfl rfl gv1 ⟨rfl, rfl, trivial⟩ (fun g11_19 => det_lss rfl rfl rfl) rfl ?_
        refine td_det rfl rfl (det_or rfl rfl rfl rfl (fun h => (lzf h))) ?_
        refine td_det rfl rfl (det_move rfl rfl) ?_
        refine td_lazy [] rfl rfl rfl rfl gv1 trivial (fun g11_27 => det_move rfl rfl) rfl ?_
        refine td_lazy [] rfl rfl rfl rfl gv1 trivial (fun g11_27 => det_move rfl rfl) rfl ?_
        refine td_lazy [(62, _), (63, _)] rfl rfl rfl rfl gv1 ⟨rfl, rfl, rfl, rfl, trivial⟩ (fun g11_27 => det_index_sl rfl el26 rfl rfl (by omega) (getm hx)) rfl ?_
        refine td_lazy [(64, _)] rfl rfl rfl rfl gv1 ⟨rfl, rfl, trivial⟩ (fun g11_27 => det_field_imm rfl fd23_3 rfl) rfl ?_
        refine td_lazy [(65, _)] rfl rfl rfl rfl gv1 ⟨rfl, rfl, trivial⟩ (fun g11_27 => det_load_one rfl one3 rfl ptr_imm rfl) rfl ?_
        refine td_lazy [(66, _)] rfl rfl rfl rfl gv1 ⟨rfl, rfl, trivial⟩ (fun g11_27 => det_gtr rfl rfl rfl) rfl ?_
        refine td_det rfl rfl (det_or rfl rfl rfl rfl (fun h => (lzf h))) ?_
        refine td_nil ?_
        refine rwp_nil ?_
        refine awp_cond rfl (fun c5 => ?_) (fun c5 => ?_)
        · try simp only [decide_eq_true_eq, decide_eq_false_iff_not, Bool.not_eq_true', Bool.not_eq_false', Bool.and_eq_true, Bool.or_eq_true, Bool.and_eq_false_iff, Bool.or_eq_false_iff, Int.not_lt, Int.not_le, List.length_map] at c5
          refine awp_seq ?_
          refine awp_region rfl ?_
          refine rwp_det rfl rfl (det_assign rfl rfl) ?_
          refine rwp_nil ?_
          refine awp_ret ?_
          repeat (first | refine thenQ_ret ?_ | refine blockQ_ret ?_)
          refine fin1 (rs_c rfl) ?_
          rw [valid_err hv hx (check_arg c2 hp (by omega)) (by decide)]
        · try simp only [decide_eq_true_eq, decide_eq_false_iff_not, Bool.not_eq_true', Bool.not_eq_false', Bool.and_eq_true, Bool.or_eq_true, Bool.and_eq_false_iff, Bool.or_eq_false_iff, Int.not_lt, Int.not_le, List.length_map] at c5
          refine awp_skip ?_
          refine awp_region rfl ?_
          refine rwp_det rfl rfl (det_move rfl rfl) ?_
          refine rwp_det rfl rfl (det_add_nw rfl rfl rfl ⟨by omega, by omega⟩) ?_
          refine rwp_det rfl rfl (det_assign rfl rfl) ?_
          refine rwp_nil ?_
          refine ⟨k + 1, ⟨by omega, valid_ok hv hx (check_ok c2 hp (by omega))⟩, (by omega), Weak.mk [] ⟨VLe.refl _, VLe.refl _, trivial⟩ rfl⟩
  · try simp only [decide_eq_true_eq, decide_eq_false_iff_not, Bool.not_eq_true', Bool.not_eq_false', Bool.and_eq_true, Bool.or_eq_true, Bool.and_eq_false_iff, Bool.or_eq_false_iff, Int.not_lt, Int.not_le, List.length_map] at c1
    refine awp_exit ?_
    refine awp_seq ?_
    refine awp_region rfl ?_
    refine rwp_det rfl rfl (det_assign rfl rfl) ?_
    refine rwp_nil ?_
    refine awp_ret ?_
    repeat (first | refine thenQ_ret ?_ | refine blockQ_ret ?_)
    refine fin1 (rs_c rfl) ?_
    rw [valid_end hv (by omega)]

theorem law41_alive  :
    Pur cfg 9 [] (vB true) := by
  refine con_intro Tryd.func9 rfl Tryd.ntmps9 Tryd.results9 rfl ?_
  intro z hz
  refine awp_seq ?_
  refine awp_region rfl ?_
  refine rwp_det rfl rfl (det_assign rfl rfl) ?_
  refine rwp_nil ?_
  refine awp_seq ?_
  refine awp_region rfl ?_
  refine rwp_det rfl rfl (det_build rfl zr23 pl23 rfl) ?_
  refine rwp_det rfl rfl (det_build rfl zr23 pl23 rfl) ?_
  refine rwp_op rfl rfl (ope_alloc rfl zr23) ?_
  rintro _ _ ⟨b1, rfl, rfl⟩
  refine rwp_op rfl rfl (ope_alloc rfl zr23) ?_
  rintro _ _ ⟨b2, rfl, rfl⟩
  refine rwp_det0 rfl rfl (det_store rfl sz23 rfl rfl rfl (st_row 1 rfl rfl)) ?_
  refine rwp_det0 rfl rfl (det_store rfl sz23 rfl rfl rfl (st_row 0 rfl rfl)) ?_
  refine rwp_nil ?_
  refine awp_seq ?_
  refine awp_region rfl ?_
  refine rwp_det rfl rfl (det_load_agg rfl agg23 rfl (ptr_row 1 rfl) rfl) ?_
  refine rwp_det rfl rfl (det_load_agg rfl agg23 rfl (ptr_row 0 rfl) rfl) ?_
  refine rwp_det rfl rfl (det_call rfl ok7 (liveness_Overlap (⟨bs [97], 0, 2, 1⟩ : Lifetime) (⟨bs [98], 2, 3, 1⟩ : Lifetime)) ⟨VLe.refl _, rfl, VLe.refl _, rfl, trivial⟩) ?_
  refine rwp_det rfl rfl (det_move rfl rfl) ?_
  refine rwp_lazy [] rfl rfl rfl rfl gv1 trivial (fun g2_3 => det_load_agg rfl agg23 rfl (ptr_row 1 rfl) rfl) rfl ?_
  refine rwp_lazy [] rfl rfl rfl rfl gv1 trivial (fun g2_3 => det_load_agg rfl agg23 rfl (ptr_row 0 rfl) rfl) rfl ?_
  refine rwp_lazy [(9, _), (10, _)] rfl rfl rfl rfl gv1 ⟨rfl, rfl, rfl, rfl, trivial⟩ (fun g2_3 => det_bslice rfl el26 zr23 rfl rfl rfl rfl) rfl ?_
  refine rwp_lazy [(11, _)] rfl rfl rfl rfl gv1 ⟨rfl, rfl, trivial⟩ (fun g2_3 => det_call rfl ok10 (liveness_MaxLive [(⟨bs [97], 0, 2, 1⟩ : Lifetime), (⟨bs [98], 2, 3, 1⟩ : Lifetime)] (by decide)) ⟨VLe.refl _, rfl, trivial⟩) rfl ?_
  refine rwp_lazy [(12, _)] rfl rfl rfl rfl gv1 ⟨rfl, rfl, trivial⟩ (fun g2_3 => det_eql rfl rfl rfl) rfl ?_
  refine rwp_det rfl rfl (det_and rfl rfl rfl (fun h => h) rfl) ?_
  refine rwp_det rfl rfl (det_move rfl rfl) ?_
  refine rwp_lazy [] rfl rfl rfl rfl gv1 trivial (fun g2_10 => det_load_agg rfl agg23 rfl (ptr_row 1 rfl) rfl) rfl ?_
  refine rwp_lazy [] rfl rfl rfl rfl gv1 trivial (fun g2_10 => det_load_agg rfl agg23 rfl (ptr_row 1 rfl) rfl) rfl ?_
  refine rwp_lazy [(16, _), (17, _)] rfl rfl rfl rfl gv1 ⟨rfl, rfl, rfl, rfl, trivial⟩ (fun g2_10 => det_bslice rfl el26 zr23 rfl rfl rfl rfl) rfl ?_
  refine rwp_lazy [(18, _)] rfl rfl rfl rfl gv1 ⟨rfl, rfl, trivial⟩ (fun g2_10 => det_call rfl ok12 (liveness_Validate [(⟨bs [97], 0, 2, 1⟩ : Lifetime), (⟨bs [97], 0, 2, 1⟩ : Lifetime)] (by decide)) ⟨VLe.refl _, rfl, trivial⟩) rfl ?_
  refine rwp_lazy [(19, _)] rfl rfl rfl rfl gv1 ⟨rfl, rfl, trivial⟩ (fun g2_10 => det_eql rfl rfl rfl) rfl ?_
  refine rwp_det rfl rfl (det_and rfl rfl rfl (fun h => h) rfl) ?_
  refine rwp_det rfl rfl (det_assign rfl rfl) ?_
  refine rwp_nil ?_
  refine awp_ret ?_
  repeat (first | refine thenQ_ret ?_ | refine blockQ_ret ?_)
  refine fin1 (rs_c rfl) ?_
  exact congrArg vB (by decide +kernel)

theorem law_Overlaps (a b : Lifetime) :
    Pur cfg 3 [vL a, vL b] (vB true) := by
  refine con_intro Tryd.func3 rfl Tryd.ntmps3 Tryd.results3 rfl ?_
  intro z hz
  refine awp_seq ?_
  refine awp_region rfl ?_
  refine rwp_op rfl rfl (ope_box rfl rfl) ?_
  rintro _ _ ⟨b1, rfl, rfl⟩
  refine rwp_op rfl rfl (ope_box rfl rfl) ?_
  rintro _ _ ⟨b2, rfl, rfl⟩
  refine rwp_det rfl rfl (det_assign rfl rfl) ?_
  refine rwp_nil ?_
  refine awp_seq ?_
  refine awp_draw 20 mixed (by kernel_rfl) rfl rfl ?_
  refine td_det rfl rfl (det_load_agg rfl agg23 rfl (ptr_row 1 rfl) rfl) ?_
  refine td_det rfl rfl (det_load_agg rfl agg23 rfl (ptr_row 0 rfl) rfl) ?_
  refine td_det rfl rfl (det_call rfl ok7 (liveness_Overlap _ _) ⟨VLe.refl _, rfl, VLe.refl _, rfl, trivial⟩) ?_
  refine td_det rfl rfl (det_load_agg rfl agg23 rfl (ptr_row 1 rfl) rfl) ?_
  refine td_det rfl rfl (det_load_agg rfl agg23 rfl (ptr_row 0 rfl) rfl) ?_
  refine td_det rfl rfl (det_call rfl ok8 (ref41_Overlap _ _) ⟨VLe.refl _, rfl, VLe.refl _, rfl, trivial⟩) ?_
  refine td_det rfl rfl (det_beql rfl un4 rfl rfl) ?_
  refine td_det rfl rfl (det_move rfl rfl) ?_
  refine td_lazy [] rfl rfl rfl rfl gv1 trivial (fun g1_7 => det_load_agg rfl agg23 rfl (ptr_row 0 rfl) rfl) rfl ?_
  refine td_lazy [] rfl rfl rfl rfl gv1 trivial (fun g1_7 => det_load_agg rfl agg23 rfl (ptr_row 1 rfl) rfl) rfl ?_
  refine td_lazy [(13, _), (14, _)] rfl rfl rfl rfl gv1 ⟨rfl, rfl, rfl, rfl, trivial⟩ (fun g1_7 => det_call rfl ok7 (liveness_Overlap _ _) ⟨VLe.refl _, rfl, VLe.refl _, rfl, trivial⟩) rfl ?_
  refine td_lazy [] rfl rfl rfl rfl gv1 trivial (fun g1_7 => det_load_agg rfl agg23 rfl (ptr_row 1 rfl) rfl) rfl ?_
  refine td_lazy [] rfl rfl rfl rfl gv1 trivial (fun g1_7 => det_load_agg rfl agg23 rfl (ptr_row 0 rfl) rfl) rfl ?_
  refine td_lazy [(16, _), (17, _)] rfl rfl rfl rfl gv1 ⟨rfl, rfl, rfl, rfl, trivial⟩ (fun g1_7 => det_call rfl ok7 (liveness_Overlap _ _) ⟨VLe.refl _, rfl, VLe.refl _, rfl, trivial⟩) rfl ?_
  refine td_lazy [(15, _), (18, _)] rfl rfl rfl rfl gv1 ⟨rfl, rfl, rfl, rfl, trivial⟩ (fun g1_7 => det_beql rfl un4 rfl rfl) rfl ?_
  refine td_det rfl rfl (det_and rfl rfl rfl (fun h => h) rfl) ?_
  refine td_det rfl rfl (det_move rfl rfl) ?_
  refine td_lazy [] rfl rfl rfl rfl gv1 trivial (fun g1_16 => det_call rfl ok9 (law41_alive) trivial) rfl ?_
  refine td_det rfl rfl (det_and rfl rfl rfl (fun h => h) rfl) ?_
  refine td_det rfl rfl (det_assign rfl rfl) ?_
  refine td_nil ?_
  refine rwp_nil ?_
  refine awp_ret ?_
  repeat (first | refine thenQ_ret ?_ | refine blockQ_ret ?_)
  refine fin1 (rs_c rfl) ?_
  exact congrArg vB (overlaps_true a b)

theorem law_Counts (l : List Lifetime) :
    Pur cfg 4 [vLs l] (vB true) := by
  refine con_intro Tryd.func4 rfl Tryd.ntmps4 Tryd.results4 rfl ?_
  intro z hz
  refine awp_seq ?_
  refine awp_region rfl ?_
  refine rwp_det rfl rfl (det_assign rfl rfl) ?_
  refine rwp_nil ?_
  refine awp_seq ?_
  refine awp_seq ?_
  refine awp_region rfl ?_
  refine rwp_det rfl rfl (det_move rfl rfl) ?_
  refine rwp_det rfl rfl (det_len_sl rfl el26 rfl) ?_
  refine rwp_det rfl rfl (det_gtr rfl rfl rfl) ?_
  refine rwp_nil ?_
  refine awp_cond rfl (fun c1 => ?_) (fun c1 => ?_)
  · try simp only [decide_eq_true_eq, decide_eq_false_iff_not, Bool.not_eq_true', Bool.not_eq_false', Bool.and_eq_true, Bool.or_eq_true, Bool.and_eq_false_iff, Bool.or_eq_false_iff, Int.not_lt, Int.not_le, List.length_map] at c1
    refine awp_seq ?_
    refine awp_region rfl ?_
    refine rwp_det rfl rfl (det_call rfl ok9 (law41_alive) trivial) ?_
    refine rwp_det rfl rfl (det_assign rfl rfl) ?_
    refine rwp_nil ?_
    refine awp_ret ?_
    repeat (first | refine thenQ_ret ?_ | refine blockQ_ret ?_)
    refine fin1 (rs_c rfl) ?_
    exact rfl
  · try simp only [decide_eq_true_eq, decide_eq_false_iff_not, Bool.not_eq_true', Bool.not_eq_false', Bool.and_eq_true, Bool.or_eq_true, Bool.and_eq_false_iff, Bool.or_eq_false_iff, Int.not_lt, Int.not_le, List.length_map] at c1
    refine awp_skip ?_
    refine awp_seq ?_
    refine awp_region rfl ?_
    refine rwp_det rfl rfl (det_move rfl rfl) ?_
    refine rwp_det rfl rfl (det_call rfl ok10 (liveness_MaxLive l (by omega)) ⟨VLe.refl _, rfl, trivial⟩) ?_
    refine rwp_det rfl rfl (det_move rfl rfl) ?_
    refine rwp_det rfl rfl (det_call rfl ok11 (ref41_MaxLive l (by omega)) ⟨VLe.refl _, rfl, trivial⟩) ?_
    refine rwp_det rfl rfl (det_eql rfl rfl rfl) ?_
    refine rwp_det rfl rfl (det_move rfl rfl) ?_
    refine rwp_lazy [] rfl rfl rfl rfl gv1 trivial (fun g3_5 => det_call rfl ok9 (law41_alive) trivial) rfl ?_
    refine rwp_det rfl rfl (det_and rfl rfl rfl (fun h => h) rfl) ?_
    refine rwp_det rfl rfl (det_assign rfl rfl) ?_
    refine rwp_nil ?_
    refine awp_ret ?_
    repeat (first | refine thenQ_ret ?_ | refine blockQ_ret ?_)
    refine fin1 (rs_c rfl) ?_
    exact congrArg vB (counts_true l)

theorem law_Validates (l : List Lifetime) :
    Pur cfg 5 [vLs l] (vB true) := by
  refine con_intro Tryd.func5 rfl Tryd.ntmps5 Tryd.results5 rfl ?_
  intro z hz
  refine awp_seq ?_
  refine awp_region rfl ?_
  refine rwp_det rfl rfl (det_assign rfl rfl) ?_
  refine rwp_nil ?_
  refine awp_seq ?_
  refine awp_seq ?_
  refine awp_region rfl ?_
  refine rwp_det rfl rfl (det_move rfl rfl) ?_
  refine rwp_det rfl rfl (det_len_sl rfl el26 rfl) ?_
  refine rwp_det rfl rfl (det_gtr rfl rfl rfl) ?_
  refine rwp_nil ?_
  refine awp_cond rfl (fun c1 => ?_) (fun c1 => ?_)
  · try simp only [decide_eq_true_eq, decide_eq_false_iff_not, Bool.not_eq_true', Bool.not_eq_false', Bool.and_eq_true, Bool.or_eq_true, Bool.and_eq_false_iff, Bool.or_eq_false_iff, Int.not_lt, Int.not_le, List.length_map] at c1
    refine awp_seq ?_
    refine awp_region rfl ?_
    refine rwp_det rfl rfl (det_call rfl ok9 (law41_alive) trivial) ?_
    refine rwp_det rfl rfl (det_assign rfl rfl) ?_
    refine rwp_nil ?_
    refine awp_ret ?_
    repeat (first | refine thenQ_ret ?_ | refine blockQ_ret ?_)
    refine fin1 (rs_c rfl) ?_
    exact rfl
  · try simp only [decide_eq_true_eq, decide_eq_false_iff_not, Bool.not_eq_true', Bool.not_eq_false', Bool.and_eq_true, Bool.or_eq_true, Bool.and_eq_false_iff, Bool.or_eq_false_iff, Int.not_lt, Int.not_le, List.length_map] at c1
    refine awp_skip ?_
    refine awp_seq ?_
    refine awp_region rfl ?_
    refine rwp_det rfl rfl (det_move rfl rfl) ?_
    refine rwp_det rfl rfl (det_call rfl ok12 (liveness_Validate l (by omega)) ⟨VLe.refl _, rfl, trivial⟩) ?_
    refine rwp_det rfl rfl (det_move rfl rfl) ?_
    refine rwp_det rfl rfl (det_call rfl ok13 (ref41_Validate l (by omega)) ⟨VLe.refl _, rfl, trivial⟩) ?_
    refine rwp_det rfl rfl (det_eql rfl rfl rfl) ?_
    refine rwp_det rfl rfl (det_move rfl rfl) ?_
    refine rwp_lazy [] rfl rfl rfl rfl gv1 trivial (fun g3_5 => det_call rfl ok9 (law41_alive) trivial) rfl ?_
    refine rwp_det rfl rfl (det_and rfl rfl rfl (fun h => h) rfl) ?_
    refine rwp_det rfl rfl (det_assign rfl rfl) ?_
    refine rwp_nil ?_
    refine awp_ret ?_
    repeat (first | refine thenQ_ret ?_ | refine blockQ_ret ?_)
    refine fin1 (rs_c rfl) ?_
    exact congrArg vB (by simp)

theorem law_Extremes (l : List Lifetime) :
    Pur cfg 6 [vLs l] (vB true) := by
  refine con_intro Tryd.func6 rfl Tryd.ntmps6 Tryd.results6 rfl ?_
  intro z hz
  refine awp_seq ?_
  refine awp_region rfl ?_
  refine rwp_det rfl rfl (det_assign rfl rfl) ?_
  refine rwp_nil ?_
  refine awp_seq ?_
  refine awp_seq ?_
  refine awp_region rfl ?_
  refine rwp_det rfl rfl (det_move rfl rfl) ?_
  refine rwp_det rfl rfl (det_len_sl rfl el26 rfl) ?_
  refine rwp_det rfl rfl (det_gtr rfl rfl rfl) ?_
  refine rwp_det rfl rfl (det_move rfl rfl) ?_
  refine rwp_lazy [] rfl rfl rfl rfl gv1 trivial (fun g1_3 => det_move rfl rfl) rfl ?_
  refine rwp_lazy [(13, _)] rfl rfl rfl rfl gv1 ⟨rfl, rfl, trivial⟩ (fun g1_3 => det_call rfl ok13 (ref41_Validate l (by simp only [Lz, cond_false, Bool.not_eq_true', decide_eq_false_iff_not, List.length_map] at g1_3; omega)) ⟨VLe.refl _, rfl, trivial⟩) rfl ?_
  refine rwp_lazy [(14, _)] rfl rfl rfl rfl gv1 ⟨rfl, rfl, trivial⟩ (fun g1_3 => det_neq rfl rfl rfl) rfl ?_
  refine rwp_det rfl rfl (det_or rfl rfl rfl rfl (fun h => (lzf h))) ?_
  refine rwp_nil ?_
  refine awp_cond rfl (fun c1 => ?_) (fun c1 => ?_)
  · try simp only [decide_eq_true_eq, decide_eq_false_iff_not, Bool.not_eq_true', Bool.not_eq_false', Bool.and_eq_true, Bool.or_eq_true, Bool.and_eq_false_iff, Bool.or_eq_false_iff, Int.not_lt, Int.not_le, List.length_map] at c1
    refine awp_seq ?_
    refine awp_region rfl ?_
    refine rwp_det rfl rfl (det_call rfl ok9 (law41_alive) trivial) ?_
    refine rwp_det rfl rfl (det_assign rfl rfl) ?_
    refine rwp_nil ?_
    refine awp_ret ?_
    repeat (first | refine thenQ_ret ?_ | refine blockQ_ret ?_)
    refine fin1 (rs_c rfl) ?_
    exact rfl
  · try simp only [decide_eq_true_eq, decide_eq_false_iff_not, Bool.not_eq_true', Bool.not_eq_false', Bool.and_eq_true, Bool.or_eq_true, Bool.and_eq_false_iff, Bool.or_eq_false_iff, Int.not_lt, Int.not_le, List.length_map] at c1
    obtain ⟨hlen, hval⟩ := c1
    refine awp_skip ?_
    refine awp_seq ?_
    refine awp_region rfl ?_
    refine rwp_det rfl rfl (det_assign rfl rfl) ?_
    refine rwp_det rfl rfl (det_assign rfl rfl) ?_
    refine rwp_nil ?_
    refine awp_seq ?_
    refine awp_seq ?_
    refine awp_region rfl ?_
    refine rwp_det rfl rfl (det_assign rfl rfl) ?_
    refine rwp_nil ?_
    refine awp_block ?_
    refine awp_weak ⟨[(5, .c _), (3, .c _), (4, .c _), (0, .c _)], []⟩ (Weak.mk [] ⟨VLe.of_eq rfl, VLe.of_eq rfl, VLe.of_eq rfl, VLe.of_eq rfl, trivial⟩ rfl) ?_
    refine awp_loop_k 3 0 rfl rfl (Nat) (fun k => [(5, vI k), (3, vB (noneTo l k)), (4, vB (allTo l k))]) (fun k => []) (fun k => k ≤ l.length) (fun k => l.length - k) ⟨0, (by omega), Weak.mk [] ⟨VLe.refl _, VLe.of_eq (rfl), VLe.of_eq (rfl), VLe.refl _, trivial⟩ rfl⟩ ?_
    rintro k hk
    refine awp_seq ?_
    refine awp_seq ?_
    refine awp_region rfl ?_
    refine rwp_det rfl rfl (det_move rfl rfl) ?_
    refine rwp_det rfl rfl (det_move rfl rfl) ?_
    refine rwp_det rfl rfl (det_len_sl rfl el26 rfl) ?_
    refine rwp_det rfl rfl (det_lss rfl rfl rfl) ?_
    refine rwp_nil ?_
    refine awp_cond rfl (fun c2 => ?_) (fun c2 => ?_)
    · try simp only [decide_eq_true_eq, decide_eq_false_iff_not, Bool.not_eq_true', Bool.not_eq_false', Bool.and_eq_true, Bool.or_eq_true, Bool.and_eq_false_iff, Bool.or_eq_false_iff, Int.not_lt, Int.not_le, List.length_map] at c2
      obtain ⟨x, hx⟩ := ex_get l k (by omega)
      refine awp_skip ?_
      refine awp_seq ?_
      refine awp_block ?_
      refine awp_seq ?_
      refine awp_region rfl ?_
      refine rwp_det rfl rfl (det_assign rfl rfl) ?_
      refine rwp_nil ?_
      refine awp_block ?_
      refine awp_weak ⟨[(6, .c _), (3, .c _), (4, .c _), (0, .c _), (5, .c _)], []⟩ (Weak.mk [] ⟨VLe.of_eq rfl, VLe.of_eq rfl, VLe.of_eq rfl, VLe.of_eq rfl, VLe.of_eq rfl, trivial⟩ rfl) ?_
      refine awp_loop_k 3 0 rfl rfl (Nat) (fun j => [(6, vI j), (3, vB (noneTo l k && noneIn l x j)), (4, vB (allTo l k && allIn l x j))]) (fun j => []) (fun j => j ≤ k) (fun j => k - j) ⟨0, (by omega), Weak.mk [] ⟨VLe.refl _, VLe.of_eq (by rw [noneIn_zero, Bool.and_true]; rfl), VLe.of_eq (by rw [allIn_zero, Bool.and_true]; rfl), VLe.refl _, VLe.refl _, trivial⟩ rfl⟩ ?_
      rintro j hj
      refine awp_seq ?_
      refine awp_seq ?_
      refine awp_region rfl ?_
      refine rwp_det rfl rfl (det_move rfl rfl) ?_
      refine rwp_det rfl rfl (det_move rfl rfl) ?_
      refine rwp_det rfl rfl (det_lss rfl rfl rfl) ?_
      refine rwp_nil ?_
      refine awp_cond rfl (fun c3 => ?_) (fun c3 => ?_)
      · try simp only [decide_eq_true_eq, decide_eq_false_iff_not, Bool.not_eq_true', Bool.not_eq_false', Bool.and_eq_true, Bool.or_eq_true, Bool.and_eq_false_iff, Bool.or_eq_false_iff, Int.not_lt, Int.not_le, List.length_map] at c3
        obtain ⟨y, hy⟩ := ex_get l j (by omega)
        refine awp_skip ?_
        refine awp_seq ?_
        refine awp_block ?_
        refine awp_seq ?_
        refine awp_draw 10 mixed (by kernel_rfl) rfl rfl ?_
        refine td_det rfl rfl (det_move rfl rfl) ?_
        refine td_det rfl rfl (det_move rfl rfl) ?_
        refine td_det rfl rfl (det_index_sl rfl el26 rfl rfl (by omega) (getm hx)) ?_
        refine td_det rfl rfl (det_load_agg rfl agg23 rfl ptr_imm rfl) ?_
        refine td_det rfl rfl (det_move rfl rfl) ?_
        refine td_det rfl rfl (det_move rfl rfl) ?_
        refine td_det rfl rfl (det_index_sl rfl el26 rfl rfl (by omega) (getm hy)) ?_
        refine td_det rfl rfl (det_load_agg rfl agg23 rfl ptr_imm rfl) ?_
        refine td_det rfl rfl (det_call rfl ok7 (liveness_Overlap _ _) ⟨VLe.refl _, rfl, VLe.refl _, rfl, trivial⟩) ?_
        refine td_det rfl rfl (det_assign rfl rfl) ?_
        refine td_nil ?_
        refine rwp_nil ?_
        refine awp_seq ?_
        refine awp_region rfl ?_
        refine rwp_det rfl rfl (det_move rfl rfl) ?_
        refine rwp_det rfl rfl (det_move rfl rfl) ?_
        refine rwp_lazy [] rfl rfl rfl rfl gv1 trivial (fun g11_1 => det_move rfl rfl) rfl ?_
        refine rwp_lazy [(40, _)] rfl rfl rfl rfl gv1 ⟨rfl, rfl, trivial⟩ (fun g11_1 => det_not rfl rfl) rfl ?_
        refine rwp_det rfl rfl (det_and rfl rfl rfl (fun h => h) rfl) ?_
        refine rwp_det rfl rfl (det_assign rfl rfl) ?_
        refine rwp_nil ?_
        refine awp_region rfl ?_
        refine rwp_det rfl rfl (det_move rfl rfl) ?_
        refine rwp_det rfl rfl (det_move rfl rfl) ?_
        refine rwp_lazy [] rfl rfl rfl rfl gv1 trivial (fun g12_1 => det_move rfl rfl) rfl ?_
        refine rwp_det rfl rfl (det_and rfl rfl rfl (fun h => h) rfl) ?_
        refine rwp_det rfl rfl (det_assign rfl rfl) ?_
        refine rwp_nil ?_
        refine awp_region rfl ?_
        refine rwp_det rfl rfl (det_move rfl rfl) ?_
        refine rwp_det rfl rfl (det_add_nw rfl rfl rfl ⟨by omega, by omega⟩) ?_
        refine rwp_det rfl rfl (det_assign rfl rfl) ?_
        refine rwp_nil ?_
        refine ⟨j + 1, (by omega), (by omega), Weak.mk [] ⟨VLe.of_eq (rfl), VLe.of_eq (by rw [noneIn_next hy, ← Bool.and_assoc]; rfl), VLe.of_eq (by rw [allIn_next hy, ← Bool.and_assoc]; rfl), VLe.refl _, VLe.refl _, trivial⟩ rfl⟩
      · try simp only [decide_eq_true_eq, decide_eq_false_iff_not, Bool.not_eq_true', Bool.not_eq_false', Bool.and_eq_true, Bool.or_eq_true, Bool.and_eq_false_iff, Bool.or_eq_false_iff, Int.not_lt, Int.not_le, List.length_map] at c3
        rw [show j = k by omega]
        refine awp_exit ?_
        refine awp_region rfl ?_
        refine rwp_det rfl rfl (det_move rfl rfl) ?_
        refine rwp_det rfl rfl (det_add_nw rfl rfl rfl ⟨by omega, by omega⟩) ?_
        refine rwp_det rfl rfl (det_assign rfl rfl) ?_
        refine rwp_nil ?_
        refine ⟨k + 1, (by omega), (by omega), Weak.mk [] ⟨VLe.of_eq (rfl), VLe.of_eq (by rw [noneTo_next hx]; rfl), VLe.of_eq (by rw [allTo_next hx]; rfl), VLe.refl _, trivial⟩ rfl⟩
    · try simp only [decide_eq_true_eq, decide_eq_false_iff_not, Bool.not_eq_true', Bool.not_eq_false', Bool.and_eq_true, Bool.or_eq_true, Bool.and_eq_false_iff, Bool.or_eq_false_iff, Int.not_lt, Int.not_le, List.length_map] at c2
      rw [show k = l.length by omega]
      refine awp_exit ?_
      refine awp_seq ?_
      refine awp_region rfl ?_
      refine rwp_det rfl rfl (det_move rfl rfl) ?_
      refine rwp_det rfl rfl (det_call rfl ok10 (liveness_MaxLive l (by omega)) ⟨VLe.refl _, rfl, trivial⟩) ?_
      refine rwp_det rfl rfl (det_assign rfl rfl) ?_
      refine rwp_nil ?_
      refine awp_seq ?_
      refine awp_region rfl ?_
      refine rwp_det rfl rfl (det_move rfl rfl) ?_
      refine rwp_det rfl rfl (det_move rfl rfl) ?_
      refine rwp_det rfl rfl (det_len_sl rfl el26 rfl) ?_
      refine rwp_det rfl rfl (det_leq rfl rfl rfl) ?_
      refine rwp_det rfl rfl (det_move rfl rfl) ?_
      refine rwp_lazy [] rfl rfl rfl rfl gv1 trivial (fun g14_4 => det_move rfl rfl) rfl ?_
      refine rwp_lazy [(54, _)] rfl rfl rfl rfl gv1 ⟨rfl, rfl, trivial⟩ (fun g14_4 => det_not rfl rfl) rfl ?_
      refine rwp_lazy [(55, _)] rfl rfl rfl rfl gv1 ⟨rfl, rfl, trivial⟩ (fun g14_4 => det_move rfl rfl) rfl ?_
      refine rwp_lazy [] rfl rfl rfl rfl gv2 trivial (fun g14_7 => det_move rfl rfl) rfl ?_
      refine rwp_lazy [(57, _)] rfl rfl rfl rfl gv2 ⟨rfl, rfl, trivial⟩ (fun g14_7 => det_leq rfl rfl rfl) rfl ?_
      refine rwp_lazy [(56, _)] rfl rfl rfl rfl gv1 ⟨rfl, rfl, trivial⟩ (fun g14_4 => det_or rfl rfl rfl rfl (fun h => and_mk (by assumption) (lzf h))) rfl ?_
      refine rwp_det rfl rfl (det_and rfl rfl rfl (fun h => h) rfl) ?_
      refine rwp_det rfl rfl (det_move rfl rfl) ?_
      refine rwp_lazy [] rfl rfl rfl rfl gv1 trivial (fun g14_12 => det_move rfl rfl) rfl ?_
      refine rwp_lazy [(62, _)] rfl rfl rfl rfl gv1 ⟨rfl, rfl, trivial⟩ (fun g14_12 => det_not rfl rfl) rfl ?_
      refine rwp_lazy [(63, _)] rfl rfl rfl rfl gv1 ⟨rfl, rfl, trivial⟩ (fun g14_12 => det_move rfl rfl) rfl ?_
      refine rwp_lazy [] rfl rfl rfl rfl gv2 trivial (fun g14_15 => det_move rfl rfl) rfl ?_
      refine rwp_lazy [] rfl rfl rfl rfl gv2 trivial (fun g14_15 => det_move rfl rfl) rfl ?_
      refine rwp_lazy [(66, _)] rfl rfl rfl rfl gv2 ⟨rfl, rfl, trivial⟩ (fun g14_15 => det_len_sl rfl el26 rfl) rfl ?_
      refine rwp_lazy [(65, _), (67, _)] rfl rfl rfl rfl gv2 ⟨rfl, rfl, rfl, rfl, trivial⟩ (fun g14_15 => det_eql rfl rfl rfl) rfl ?_
      refine rwp_lazy [(64, _)] rfl rfl rfl rfl gv1 ⟨rfl, rfl, trivial⟩ (fun g14_12 => det_or rfl rfl rfl rfl (fun h => and_mk (by assumption) (lzf h))) rfl ?_
      refine rwp_det rfl rfl (det_and rfl rfl rfl (fun h => h) rfl) ?_
      refine rwp_det rfl rfl (det_move rfl rfl) ?_
      refine rwp_lazy [] rfl rfl rfl rfl gv1 trivial (fun g14_22 => det_call rfl ok9 (law41_alive) trivial) rfl ?_
      refine rwp_det rfl rfl (det_and rfl rfl rfl (fun h => h) rfl) ?_
      refine rwp_det rfl rfl (det_assign rfl rfl) ?_
      refine rwp_nil ?_
      refine awp_ret ?_
      repeat (first | refine thenQ_ret ?_ | refine blockQ_ret ?_)
      refine fin1 (rs_c rfl) ?_
      exact congrArg vB (by rw [List.length_map]; exact extremes_true l hval (by omega))

end Go.L41
