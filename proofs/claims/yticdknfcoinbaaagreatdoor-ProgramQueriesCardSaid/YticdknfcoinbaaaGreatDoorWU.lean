/-
  Walks: what functions of the program compute. Printed by wip/gen/mk2.py.
  Conditions: none.
-/
import Derived.Test.YticdknfcoinbaaaGreatDoorWT
import Derived.Test.YticdknfcoinbaaaGreatDoorWR
import Derived.Test.YticdknfcoinbaaaGreatDoorPlain
set_option linter.unusedSimpArgs false
set_option linter.unusedVariables false
namespace Go.W
open Go Go.Eng Go.Proofs Go.L41 Go.Br
attribute [local irreducible] AWP RWP TD
theorem fd75_1 : fieldT Tryz.prog 75 1 = some (2, 4) := by kernel_rfl
theorem ok20 : callOk Tryz.prog 20 = true := by kernel_rfl
theorem ok26 : callOk Tryz.prog 26 = true := by kernel_rfl
theorem ok27 : callOk Tryz.prog 27 = true := by kernel_rfl
theorem ok30 : callOk Tryz.prog 30 = true := by kernel_rfl
theorem ok36 : callOk Tryz.prog 36 = true := by kernel_rfl
theorem ok68 : callOk Tryz.prog 68 = true := by kernel_rfl
theorem ok73 : callOk Tryz.prog 73 = true := by kernel_rfl
theorem ok74 : callOk Tryz.prog 74 = true := by kernel_rfl
theorem ok75 : callOk Tryz.prog 75 = true := by kernel_rfl
theorem ok76 : callOk Tryz.prog 76 = true := by kernel_rfl
theorem ok77 : callOk Tryz.prog 77 = true := by kernel_rfl
theorem ok78 : callOk Tryz.prog 78 = true := by kernel_rfl
theorem ok79 : callOk Tryz.prog 79 = true := by kernel_rfl
theorem ok100 : callOk Tryz.prog 100 = true := by kernel_rfl
theorem ok130 : callOk Tryz.prog 130 = true := by kernel_rfl
theorem ok133 : callOk Tryz.prog 133 = true := by kernel_rfl
theorem ok134 : callOk Tryz.prog 134 = true := by kernel_rfl
theorem ok135 : callOk Tryz.prog 135 = true := by kernel_rfl
theorem ok136 : callOk Tryz.prog 136 = true := by kernel_rfl
theorem one4 : oneT Tryz.prog 4 = true := by kernel_rfl
theorem slices_EqualFunc_Cn (a b : List Cn) (c : C) (ha : a.length ≤ 4294967296) (hc : ∀ x, x ∈ a → ∀ y, y ∈ b → FnPur cfg c [vCn x, vCn y] (vB (decide (x = y)))) :
    Pur cfg 74 [.c (.sl 3 (a.map Cn.cells)), .c (.sl 3 (b.map Cn.cells)), .c c] (vB (decide (a = b))) := by
 refine con_intro Tryz.func74 rfl Tryz.ntmps74 Tryz.results74 rfl ?_
 intro z hz
 refine awp_seq ?_
 refine awp_region rfl ?_
 refine rwp_det rfl rfl (det_assign rfl rfl) ?_
 refine rwp_nil ?_
 refine awp_seq ?_
 refine awp_seq ?_
 refine awp_region rfl ?_
 refine rwp_det rfl rfl (det_move rfl rfl) ?_
 refine rwp_det rfl rfl (det_len_slm rfl el23 rfl) ?_
 refine rwp_det rfl rfl (det_move rfl rfl) ?_
 refine rwp_det rfl rfl (det_len_slm rfl el23 rfl) ?_
 refine rwp_det rfl rfl (det_neq rfl rfl rfl) ?_
 refine rwp_nil ?_
 refine awp_cond rfl (fun c1 => ?_) (fun c1 => ?_)
 ·try simp only [sx, List.length_map] at c1
  refine awp_seq ?_
  refine awp_region rfl ?_
  refine rwp_det rfl rfl (det_assign rfl rfl) ?_
  refine rwp_nil ?_
  refine awp_ret ?_
  repeat (first | refine thenQ_ret ?_ | refine blockQ_ret ?_)
  refine fin1 (rs_c rfl) ?_
  rw [dec_false (fun h => c1 (by rw [h]))]
 ·try simp only [sx, List.length_map] at c1
  refine awp_skip ?_
  refine awp_seq ?_
  refine awp_seq ?_
  refine awp_region rfl ?_
  refine rwp_det rfl rfl (det_move rfl rfl) ?_
  refine rwp_det rfl rfl (det_len_slm rfl el23 rfl) ?_
  refine rwp_det rfl rfl (det_move rfl rfl) ?_
  refine rwp_nil ?_
  refine awp_block ?_
  refine awp_weak ⟨[(17, .c _), (1, .c _), (2, .c _), (15, .c _), (16, .c _)], []⟩ (Weak.mk [] ⟨VLe.of_eq rfl, VLe.of_eq rfl, VLe.of_eq rfl, VLe.of_eq rfl, VLe.of_eq rfl, trivial⟩ rfl) ?_
  refine awp_loop_k 1 0 rfl rfl (Nat) (fun k => [(17, vI k)]) (fun k => []) (fun k => k ≤ a.length ∧ (a.take k = b.take k)) (fun k => a.length - k) ⟨0, ⟨by omega, rfl⟩, Weak.mk [] ⟨VLe.refl _, VLe.refl _, VLe.refl _, VLe.refl _, VLe.refl _, trivial⟩ rfl⟩ ?_
  rintro k ⟨hk, hp⟩
  refine awp_seq ?_
  refine awp_region rfl ?_
  refine rwp_det rfl rfl (det_lss rfl rfl rfl) ?_
  refine rwp_nil ?_
  refine awp_seq ?_
  refine awp_cond rfl (fun c2 => ?_) (fun c2 => ?_)
  ·try simp only [sx, List.length_map] at c2
   obtain ⟨x, hx⟩ := ex_get a k (by omega)
   obtain ⟨y, hy⟩ := ex_get b k (by omega)
   refine awp_skip ?_
   refine awp_seq ?_
   refine awp_block ?_
   refine awp_seq ?_
   refine awp_region rfl ?_
   refine rwp_det rfl rfl (det_move rfl rfl) ?_
   refine rwp_det rfl rfl (det_index_sl rfl el23 rfl rfl (by omega) (getm (by assumption))) ?_
   refine rwp_det rfl rfl (det_load_agg rfl agg75 rfl ptr_imm rfl) ?_
   refine rwp_op rfl rfl (ope_allocN [none, some 2, none] rfl zr75 rfl) ?_
   rintro _ _ ⟨b1, rfl, rfl⟩
   refine rwp_det rfl rfl (det_assign rfl rfl) ?_
   refine rwp_det0 rfl rfl (det_store rfl sz75 rfl rfl rfl (st_row 0 rfl rfl)) ?_
   refine rwp_nil ?_
   refine awp_seq ?_
   refine awp_region rfl ?_
   refine rwp_det rfl rfl (det_move rfl rfl) ?_
   refine rwp_det rfl rfl (det_move rfl rfl) ?_
   refine rwp_det rfl rfl (det_index_sl rfl el23 rfl rfl (by omega) (getm (by assumption))) ?_
   refine rwp_det rfl rfl (det_load_agg rfl agg75 rfl ptr_imm rfl) ?_
   refine rwp_op rfl rfl (ope_allocN [none, some 2, none] rfl zr75 rfl) ?_
   rintro _ _ ⟨b2, rfl, rfl⟩
   refine rwp_det0 rfl rfl (det_store rfl sz75 rfl rfl rfl (st_row 0 rfl rfl)) ?_
   refine rwp_nil ?_
   refine awp_seq ?_
   refine awp_region rfl ?_
   refine rwp_det rfl rfl (det_move rfl rfl) ?_
   refine rwp_det rfl rfl (det_load_agg rfl agg75 rfl (ptr_row 1 rfl) rfl) ?_
   refine rwp_det rfl rfl (det_load_agg rfl agg75 rfl (ptr_row 0 rfl) rfl) ?_
   refine rwp_det rfl rfl (det_call_val rfl rfl (hc _ (mem_of_get hx) _ (mem_of_get hy)) ⟨VLe.refl _, rfl, VLe.refl _, rfl, trivial⟩) ?_
   refine rwp_det rfl rfl (det_not rfl rfl) ?_
   refine rwp_nil ?_
   refine awp_cond rfl (fun c3 => ?_) (fun c3 => ?_)
   ·try simp only [sx, List.length_map] at c3
    refine awp_seq ?_
    refine awp_region rfl ?_
    refine rwp_det rfl rfl (det_assign rfl rfl) ?_
    refine rwp_nil ?_
    refine awp_ret ?_
    repeat (first | refine thenQ_ret ?_ | refine blockQ_ret ?_)
    refine fin1 (rs_c rfl) ?_
    rw [dec_false (ne_of_get hx hy c3)]
   ·try simp only [sx, List.length_map] at c3
    refine awp_skip ?_
    refine awp_region rfl ?_
    refine rwp_det rfl rfl (det_add_nw rfl rfl rfl ⟨by omega, by omega⟩) ?_
    refine rwp_det rfl rfl (det_move rfl rfl) ?_
    refine rwp_nil ?_
    refine ⟨k + 1, ⟨by omega, take_eq_next hx hy hp c3⟩, (by omega), Weak.mk [false, false] ⟨VLe.refl _, VLe.refl _, VLe.refl _, VLe.refl _, VLe.refl _, trivial⟩ rfl⟩
  ·try simp only [sx, List.length_map] at c2
   refine awp_exit ?_
   refine awp_seq ?_
   refine awp_region rfl ?_
   refine rwp_det rfl rfl (det_assign rfl rfl) ?_
   refine rwp_nil ?_
   refine awp_ret ?_
   repeat (first | refine thenQ_ret ?_ | refine blockQ_ret ?_)
   refine fin1 (rs_c rfl) ?_
   rw [dec_true (eq_of_take hp (by omega) (by omega))]

theorem slices_EqualFunc_Pm (a b : List Pm) (c : C) (ha : a.length ≤ 4294967296) (hc : ∀ x, x ∈ a → ∀ y, y ∈ b → FnPur cfg c [vPm x, vPm y] (vB (decide (x = y)))) :
    Pur cfg 76 [.c (.sl 7 (a.map Pm.cells)), .c (.sl 7 (b.map Pm.cells)), .c c] (vB (decide (a = b))) := by
 refine con_intro Tryz.func76 rfl Tryz.ntmps76 Tryz.results76 rfl ?_
 intro z hz
 refine awp_seq ?_
 refine awp_region rfl ?_
 refine rwp_det rfl rfl (det_assign rfl rfl) ?_
 refine rwp_nil ?_
 refine awp_seq ?_
 refine awp_seq ?_
 refine awp_region rfl ?_
 refine rwp_det rfl rfl (det_move rfl rfl) ?_
 refine rwp_det rfl rfl (det_len_slm rfl el24 rfl) ?_
 refine rwp_det rfl rfl (det_move rfl rfl) ?_
 refine rwp_det rfl rfl (det_len_slm rfl el24 rfl) ?_
 refine rwp_det rfl rfl (det_neq rfl rfl rfl) ?_
 refine rwp_nil ?_
 refine awp_cond rfl (fun c1 => ?_) (fun c1 => ?_)
 ·try simp only [sx, List.length_map] at c1
  refine awp_seq ?_
  refine awp_region rfl ?_
  refine rwp_det rfl rfl (det_assign rfl rfl) ?_
  refine rwp_nil ?_
  refine awp_ret ?_
  repeat (first | refine thenQ_ret ?_ | refine blockQ_ret ?_)
  refine fin1 (rs_c rfl) ?_
  rw [dec_false (fun h => c1 (by rw [h]))]
 ·try simp only [sx, List.length_map] at c1
  refine awp_skip ?_
  refine awp_seq ?_
  refine awp_seq ?_
  refine awp_region rfl ?_
  refine rwp_det rfl rfl (det_move rfl rfl) ?_
  refine rwp_det rfl rfl (det_len_slm rfl el24 rfl) ?_
  refine rwp_det rfl rfl (det_move rfl rfl) ?_
  refine rwp_nil ?_
  refine awp_block ?_
  refine awp_weak ⟨[(17, .c _), (1, .c _), (2, .c _), (15, .c _), (16, .c _)], []⟩ (Weak.mk [] ⟨VLe.of_eq rfl, VLe.of_eq rfl, VLe.of_eq rfl, VLe.of_eq rfl, VLe.of_eq rfl, trivial⟩ rfl) ?_
  refine awp_loop_k 1 0 rfl rfl (Nat) (fun k => [(17, vI k)]) (fun k => []) (fun k => k ≤ a.length ∧ (a.take k = b.take k)) (fun k => a.length - k) ⟨0, ⟨by omega, rfl⟩, Weak.mk [] ⟨VLe.refl _, VLe.refl _, VLe.refl _, VLe.refl _, VLe.refl _, trivial⟩ rfl⟩ ?_
  rintro k ⟨hk, hp⟩
  refine awp_seq ?_
  refine awp_region rfl ?_
  refine rwp_det rfl rfl (det_lss rfl rfl rfl) ?_
  refine rwp_nil ?_
  refine awp_seq ?_
  refine awp_cond rfl (fun c2 => ?_) (fun c2 => ?_)
  ·try simp only [sx, List.length_map] at c2
   obtain ⟨x, hx⟩ := ex_get a k (by omega)
   obtain ⟨y, hy⟩ := ex_get b k (by omega)
   refine awp_skip ?_
   refine awp_seq ?_
   refine awp_block ?_
   refine awp_seq ?_
   refine awp_region rfl ?_
   refine rwp_det rfl rfl (det_move rfl rfl) ?_
   refine rwp_det rfl rfl (det_index_sl rfl el24 rfl rfl (by omega) (getm (by assumption))) ?_
   refine rwp_det rfl rfl (det_load_agg rfl agg77 rfl ptr_imm rfl) ?_
   refine rwp_op rfl rfl (ope_allocN [none, none, none, none, none, none, some 2] rfl zr77 rfl) ?_
   rintro _ _ ⟨b1, rfl, rfl⟩
   refine rwp_det rfl rfl (det_assign rfl rfl) ?_
   refine rwp_det0 rfl rfl (det_store rfl sz77 rfl rfl rfl (st_row 0 rfl rfl)) ?_
   refine rwp_nil ?_
   refine awp_seq ?_
   refine awp_region rfl ?_
   refine rwp_det rfl rfl (det_move rfl rfl) ?_
   refine rwp_det rfl rfl (det_move rfl rfl) ?_
   refine rwp_det rfl rfl (det_index_sl rfl el24 rfl rfl (by omega) (getm (by assumption))) ?_
   refine rwp_det rfl rfl (det_load_agg rfl agg77 rfl ptr_imm rfl) ?_
   refine rwp_op rfl rfl (ope_allocN [none, none, none, none, none, none, some 2] rfl zr77 rfl) ?_
   rintro _ _ ⟨b2, rfl, rfl⟩
   refine rwp_det0 rfl rfl (det_store rfl sz77 rfl rfl rfl (st_row 0 rfl rfl)) ?_
   refine rwp_nil ?_
   refine awp_seq ?_
   refine awp_region rfl ?_
   refine rwp_det rfl rfl (det_move rfl rfl) ?_
   refine rwp_det rfl rfl (det_load_agg rfl agg77 rfl (ptr_row 1 rfl) rfl) ?_
   refine rwp_det rfl rfl (det_load_agg rfl agg77 rfl (ptr_row 0 rfl) rfl) ?_
   refine rwp_det rfl rfl (det_call_val rfl rfl (hc _ (mem_of_get hx) _ (mem_of_get hy)) ⟨VLe.refl _, rfl, VLe.refl _, rfl, trivial⟩) ?_
   refine rwp_det rfl rfl (det_not rfl rfl) ?_
   refine rwp_nil ?_
   refine awp_cond rfl (fun c3 => ?_) (fun c3 => ?_)
   ·try simp only [sx, List.length_map] at c3
    refine awp_seq ?_
    refine awp_region rfl ?_
    refine rwp_det rfl rfl (det_assign rfl rfl) ?_
    refine rwp_nil ?_
    refine awp_ret ?_
    repeat (first | refine thenQ_ret ?_ | refine blockQ_ret ?_)
    refine fin1 (rs_c rfl) ?_
    rw [dec_false (ne_of_get hx hy c3)]
   ·try simp only [sx, List.length_map] at c3
    refine awp_skip ?_
    refine awp_region rfl ?_
    refine rwp_det rfl rfl (det_add_nw rfl rfl rfl ⟨by omega, by omega⟩) ?_
    refine rwp_det rfl rfl (det_move rfl rfl) ?_
    refine rwp_nil ?_
    refine ⟨k + 1, ⟨by omega, take_eq_next hx hy hp c3⟩, (by omega), Weak.mk [false, false] ⟨VLe.refl _, VLe.refl _, VLe.refl _, VLe.refl _, VLe.refl _, trivial⟩ rfl⟩
  ·try simp only [sx, List.length_map] at c2
   refine awp_exit ?_
   refine awp_seq ?_
   refine awp_region rfl ?_
   refine rwp_det rfl rfl (det_assign rfl rfl) ?_
   refine rwp_nil ?_
   refine awp_ret ?_
   repeat (first | refine thenQ_ret ?_ | refine blockQ_ret ?_)
   refine fin1 (rs_c rfl) ?_
   rw [dec_true (eq_of_take hp (by omega) (by omega))]

theorem slices_EqualFunc_Df (a b : List Df) (c : C) (ha : a.length ≤ 4294967296) (hc : ∀ x, x ∈ a → ∀ y, y ∈ b → FnPur cfg c [vDf x, vDf y] (vB (decide (x = y)))) :
    Pur cfg 78 [.c (.sl 22 (a.map Df.cells)), .c (.sl 22 (b.map Df.cells)), .c c] (vB (decide (a = b))) := by
 refine con_intro Tryz.func78 rfl Tryz.ntmps78 Tryz.results78 rfl ?_
 intro z hz
 refine awp_seq ?_
 refine awp_region rfl ?_
 refine rwp_det rfl rfl (det_assign rfl rfl) ?_
 refine rwp_nil ?_
 refine awp_seq ?_
 refine awp_seq ?_
 refine awp_region rfl ?_
 refine rwp_det rfl rfl (det_move rfl rfl) ?_
 refine rwp_det rfl rfl (det_len_slm rfl el25 rfl) ?_
 refine rwp_det rfl rfl (det_move rfl rfl) ?_
 refine rwp_det rfl rfl (det_len_slm rfl el25 rfl) ?_
 refine rwp_det rfl rfl (det_neq rfl rfl rfl) ?_
 refine rwp_nil ?_
 refine awp_cond rfl (fun c1 => ?_) (fun c1 => ?_)
 ·try simp only [sx, List.length_map] at c1
  refine awp_seq ?_
  refine awp_region rfl ?_
  refine rwp_det rfl rfl (det_assign rfl rfl) ?_
  refine rwp_nil ?_
  refine awp_ret ?_
  repeat (first | refine thenQ_ret ?_ | refine blockQ_ret ?_)
  refine fin1 (rs_c rfl) ?_
  rw [dec_false (fun h => c1 (by rw [h]))]
 ·try simp only [sx, List.length_map] at c1
  refine awp_skip ?_
  refine awp_seq ?_
  refine awp_seq ?_
  refine awp_region rfl ?_
  refine rwp_det rfl rfl (det_move rfl rfl) ?_
  refine rwp_det rfl rfl (det_len_slm rfl el25 rfl) ?_
  refine rwp_det rfl rfl (det_move rfl rfl) ?_
  refine rwp_nil ?_
  refine awp_block ?_
  refine awp_weak ⟨[(17, .c _), (1, .c _), (2, .c _), (15, .c _), (16, .c _)], []⟩ (Weak.mk [] ⟨VLe.of_eq rfl, VLe.of_eq rfl, VLe.of_eq rfl, VLe.of_eq rfl, VLe.of_eq rfl, trivial⟩ rfl) ?_
  refine awp_loop_k 1 0 rfl rfl (Nat) (fun k => [(17, vI k)]) (fun k => []) (fun k => k ≤ a.length ∧ (a.take k = b.take k)) (fun k => a.length - k) ⟨0, ⟨by omega, rfl⟩, Weak.mk [] ⟨VLe.refl _, VLe.refl _, VLe.refl _, VLe.refl _, VLe.refl _, trivial⟩ rfl⟩ ?_
  rintro k ⟨hk, hp⟩
  refine awp_seq ?_
  refine awp_region rfl ?_
  refine rwp_det rfl rfl (det_lss rfl rfl rfl) ?_
  refine rwp_nil ?_
  refine awp_seq ?_
  refine awp_cond rfl (fun c2 => ?_) (fun c2 => ?_)
  ·try simp only [sx, List.length_map] at c2
   obtain ⟨x, hx⟩ := ex_get a k (by omega)
   obtain ⟨y, hy⟩ := ex_get b k (by omega)
   refine awp_skip ?_
   refine awp_seq ?_
   refine awp_block ?_
   refine awp_seq ?_
   refine awp_region rfl ?_
   refine rwp_det rfl rfl (det_move rfl rfl) ?_
   refine rwp_det rfl rfl (det_index_sl rfl el25 rfl rfl (by omega) (getm (by assumption))) ?_
   refine rwp_det rfl rfl (det_load_agg rfl agg63 rfl ptr_imm rfl) ?_
   refine rwp_op rfl rfl (ope_allocN [none, none, none, none, none, none, some 3, some 3, none, none, none, none, none, none, none, none, none, none, none, some 2, some 4, some 13] rfl zr63 rfl) ?_
   rintro _ _ ⟨b1, rfl, rfl⟩
   refine rwp_det rfl rfl (det_assign rfl rfl) ?_
   refine rwp_det0 rfl rfl (det_store rfl sz63 rfl rfl rfl (st_row 0 rfl rfl)) ?_
   refine rwp_nil ?_
   refine awp_seq ?_
   refine awp_region rfl ?_
   refine rwp_det rfl rfl (det_move rfl rfl) ?_
   refine rwp_det rfl rfl (det_move rfl rfl) ?_
   refine rwp_det rfl rfl (det_index_sl rfl el25 rfl rfl (by omega) (getm (by assumption))) ?_
   refine rwp_det rfl rfl (det_load_agg rfl agg63 rfl ptr_imm rfl) ?_
   refine rwp_op rfl rfl (ope_allocN [none, none, none, none, none, none, some 3, some 3, none, none, none, none, none, none, none, none, none, none, none, some 2, some 4, some 13] rfl zr63 rfl) ?_
   rintro _ _ ⟨b2, rfl, rfl⟩
   refine rwp_det0 rfl rfl (det_store rfl sz63 rfl rfl rfl (st_row 0 rfl rfl)) ?_
   refine rwp_nil ?_
   refine awp_seq ?_
   refine awp_region rfl ?_
   refine rwp_det rfl rfl (det_move rfl rfl) ?_
   refine rwp_det rfl rfl (det_load_agg rfl agg63 rfl (ptr_row 1 rfl) rfl) ?_
   refine rwp_det rfl rfl (det_load_agg rfl agg63 rfl (ptr_row 0 rfl) rfl) ?_
   refine rwp_det rfl rfl (det_call_val rfl rfl (hc _ (mem_of_get hx) _ (mem_of_get hy)) ⟨VLe.refl _, rfl, VLe.refl _, rfl, trivial⟩) ?_
   refine rwp_det rfl rfl (det_not rfl rfl) ?_
   refine rwp_nil ?_
   refine awp_cond rfl (fun c3 => ?_) (fun c3 => ?_)
   ·try simp only [sx, List.length_map] at c3
    refine awp_seq ?_
    refine awp_region rfl ?_
    refine rwp_det rfl rfl (det_assign rfl rfl) ?_
    refine rwp_nil ?_
    refine awp_ret ?_
    repeat (first | refine thenQ_ret ?_ | refine blockQ_ret ?_)
    refine fin1 (rs_c rfl) ?_
    rw [dec_false (ne_of_get hx hy c3)]
   ·try simp only [sx, List.length_map] at c3
    refine awp_skip ?_
    refine awp_region rfl ?_
    refine rwp_det rfl rfl (det_add_nw rfl rfl rfl ⟨by omega, by omega⟩) ?_
    refine rwp_det rfl rfl (det_move rfl rfl) ?_
    refine rwp_nil ?_
    refine ⟨k + 1, ⟨by omega, take_eq_next hx hy hp c3⟩, (by omega), Weak.mk [false, false] ⟨VLe.refl _, VLe.refl _, VLe.refl _, VLe.refl _, VLe.refl _, trivial⟩ rfl⟩
  ·try simp only [sx, List.length_map] at c2
   refine awp_exit ?_
   refine awp_seq ?_
   refine awp_region rfl ?_
   refine rwp_det rfl rfl (det_assign rfl rfl) ?_
   refine rwp_nil ?_
   refine awp_ret ?_
   repeat (first | refine thenQ_ret ?_ | refine blockQ_ret ?_)
   refine fin1 (rs_c rfl) ?_
   rw [dec_true (eq_of_take hp (by omega) (by omega))]

theorem slices_EqualFunc_Lf (a b : List Lf) (c : C) (ha : a.length ≤ 4294967296) (hc : ∀ x, x ∈ a → ∀ y, y ∈ b → FnPur cfg c [vLin x, vLin y] (vB (decide (x = y)))) :
    Pur cfg 133 [.c (.sl 2 (a.map Lf.cells)), .c (.sl 2 (b.map Lf.cells)), .c c] (vB (decide (a = b))) := by
 refine con_intro Tryz.func133 rfl Tryz.ntmps133 Tryz.results133 rfl ?_
 intro z hz
 refine awp_seq ?_
 refine awp_region rfl ?_
 refine rwp_det rfl rfl (det_assign rfl rfl) ?_
 refine rwp_nil ?_
 refine awp_seq ?_
 refine awp_seq ?_
 refine awp_region rfl ?_
 refine rwp_det rfl rfl (det_move rfl rfl) ?_
 refine rwp_det rfl rfl (det_len_slm rfl el54 rfl) ?_
 refine rwp_det rfl rfl (det_move rfl rfl) ?_
 refine rwp_det rfl rfl (det_len_slm rfl el54 rfl) ?_
 refine rwp_det rfl rfl (det_neq rfl rfl rfl) ?_
 refine rwp_nil ?_
 refine awp_cond rfl (fun c1 => ?_) (fun c1 => ?_)
 ·try simp only [sx, List.length_map] at c1
  refine awp_seq ?_
  refine awp_region rfl ?_
  refine rwp_det rfl rfl (det_assign rfl rfl) ?_
  refine rwp_nil ?_
  refine awp_ret ?_
  repeat (first | refine thenQ_ret ?_ | refine blockQ_ret ?_)
  refine fin1 (rs_c rfl) ?_
  rw [dec_false (fun h => c1 (by rw [h]))]
 ·try simp only [sx, List.length_map] at c1
  refine awp_skip ?_
  refine awp_seq ?_
  refine awp_seq ?_
  refine awp_region rfl ?_
  refine rwp_det rfl rfl (det_move rfl rfl) ?_
  refine rwp_det rfl rfl (det_len_slm rfl el54 rfl) ?_
  refine rwp_det rfl rfl (det_move rfl rfl) ?_
  refine rwp_nil ?_
  refine awp_block ?_
  refine awp_weak ⟨[(17, .c _), (1, .c _), (2, .c _), (15, .c _), (16, .c _)], []⟩ (Weak.mk [] ⟨VLe.of_eq rfl, VLe.of_eq rfl, VLe.of_eq rfl, VLe.of_eq rfl, VLe.of_eq rfl, trivial⟩ rfl) ?_
  refine awp_loop_k 1 0 rfl rfl (Nat) (fun k => [(17, vI k)]) (fun k => []) (fun k => k ≤ a.length ∧ (a.take k = b.take k)) (fun k => a.length - k) ⟨0, ⟨by omega, rfl⟩, Weak.mk [] ⟨VLe.refl _, VLe.refl _, VLe.refl _, VLe.refl _, VLe.refl _, trivial⟩ rfl⟩ ?_
  rintro k ⟨hk, hp⟩
  refine awp_seq ?_
  refine awp_region rfl ?_
  refine rwp_det rfl rfl (det_lss rfl rfl rfl) ?_
  refine rwp_nil ?_
  refine awp_seq ?_
  refine awp_cond rfl (fun c2 => ?_) (fun c2 => ?_)
  ·try simp only [sx, List.length_map] at c2
   obtain ⟨x, hx⟩ := ex_get a k (by omega)
   obtain ⟨y, hy⟩ := ex_get b k (by omega)
   refine awp_skip ?_
   refine awp_seq ?_
   refine awp_block ?_
   refine awp_seq ?_
   refine awp_region rfl ?_
   refine rwp_det rfl rfl (det_move rfl rfl) ?_
   refine rwp_det rfl rfl (det_index_sl rfl el54 rfl rfl (by omega) (getm (by assumption))) ?_
   refine rwp_det rfl rfl (det_load_agg rfl agg42 rfl ptr_imm rfl) ?_
   refine rwp_op rfl rfl (ope_allocN [none, some 2] rfl zr42 rfl) ?_
   rintro _ _ ⟨b1, rfl, rfl⟩
   refine rwp_det rfl rfl (det_assign rfl rfl) ?_
   refine rwp_det0 rfl rfl (det_store rfl sz42 rfl rfl rfl (st_row 0 rfl rfl)) ?_
   refine rwp_nil ?_
   refine awp_seq ?_
   refine awp_region rfl ?_
   refine rwp_det rfl rfl (det_move rfl rfl) ?_
   refine rwp_det rfl rfl (det_move rfl rfl) ?_
   refine rwp_det rfl rfl (det_index_sl rfl el54 rfl rfl (by omega) (getm (by assumption))) ?_
   refine rwp_det rfl rfl (det_load_agg rfl agg42 rfl ptr_imm rfl) ?_
   refine rwp_op rfl rfl (ope_allocN [none, some 2] rfl zr42 rfl) ?_
   rintro _ _ ⟨b2, rfl, rfl⟩
   refine rwp_det0 rfl rfl (det_store rfl sz42 rfl rfl rfl (st_row 0 rfl rfl)) ?_
   refine rwp_nil ?_
   refine awp_seq ?_
   refine awp_region rfl ?_
   refine rwp_det rfl rfl (det_move rfl rfl) ?_
   refine rwp_det rfl rfl (det_load_agg rfl agg42 rfl (ptr_row 1 rfl) rfl) ?_
   refine rwp_det rfl rfl (det_load_agg rfl agg42 rfl (ptr_row 0 rfl) rfl) ?_
   refine rwp_det rfl rfl (det_call_val rfl rfl (hc _ (mem_of_get hx) _ (mem_of_get hy)) ⟨VLe.refl _, rfl, VLe.refl _, rfl, trivial⟩) ?_
   refine rwp_det rfl rfl (det_not rfl rfl) ?_
   refine rwp_nil ?_
   refine awp_cond rfl (fun c3 => ?_) (fun c3 => ?_)
   ·try simp only [sx, List.length_map] at c3
    refine awp_seq ?_
    refine awp_region rfl ?_
    refine rwp_det rfl rfl (det_assign rfl rfl) ?_
    refine rwp_nil ?_
    refine awp_ret ?_
    repeat (first | refine thenQ_ret ?_ | refine blockQ_ret ?_)
    refine fin1 (rs_c rfl) ?_
    rw [dec_false (ne_of_get hx hy c3)]
   ·try simp only [sx, List.length_map] at c3
    refine awp_skip ?_
    refine awp_region rfl ?_
    refine rwp_det rfl rfl (det_add_nw rfl rfl rfl ⟨by omega, by omega⟩) ?_
    refine rwp_det rfl rfl (det_move rfl rfl) ?_
    refine rwp_nil ?_
    refine ⟨k + 1, ⟨by omega, take_eq_next hx hy hp c3⟩, (by omega), Weak.mk [false, false] ⟨VLe.refl _, VLe.refl _, VLe.refl _, VLe.refl _, VLe.refl _, trivial⟩ rfl⟩
  ·try simp only [sx, List.length_map] at c2
   refine awp_exit ?_
   refine awp_seq ?_
   refine awp_region rfl ?_
   refine rwp_det rfl rfl (det_assign rfl rfl) ?_
   refine rwp_nil ?_
   refine awp_ret ?_
   repeat (first | refine thenQ_ret ?_ | refine blockQ_ret ?_)
   refine fin1 (rs_c rfl) ?_
   rw [dec_true (eq_of_take hp (by omega) (by omega))]

theorem slices_EqualFunc_Ax (a b : List Ax) (c : C) (ha : a.length ≤ 4294967296) (hc : ∀ x, x ∈ a → ∀ y, y ∈ b → FnPur cfg c [vAx x, vAx y] (vB (decide (x = y)))) :
    Pur cfg 134 [.c (.sl 3 (a.map Ax.cells)), .c (.sl 3 (b.map Ax.cells)), .c c] (vB (decide (a = b))) := by
 refine con_intro Tryz.func134 rfl Tryz.ntmps134 Tryz.results134 rfl ?_
 intro z hz
 refine awp_seq ?_
 refine awp_region rfl ?_
 refine rwp_det rfl rfl (det_assign rfl rfl) ?_
 refine rwp_nil ?_
 refine awp_seq ?_
 refine awp_seq ?_
 refine awp_region rfl ?_
 refine rwp_det rfl rfl (det_move rfl rfl) ?_
 refine rwp_det rfl rfl (det_len_slm rfl el61 rfl) ?_
 refine rwp_det rfl rfl (det_move rfl rfl) ?_
 refine rwp_det rfl rfl (det_len_slm rfl el61 rfl) ?_
 refine rwp_det rfl rfl (det_neq rfl rfl rfl) ?_
 refine rwp_nil ?_
 refine awp_cond rfl (fun c1 => ?_) (fun c1 => ?_)
 ·try simp only [sx, List.length_map] at c1
  refine awp_seq ?_
  refine awp_region rfl ?_
  refine rwp_det rfl rfl (det_assign rfl rfl) ?_
  refine rwp_nil ?_
  refine awp_ret ?_
  repeat (first | refine thenQ_ret ?_ | refine blockQ_ret ?_)
  refine fin1 (rs_c rfl) ?_
  rw [dec_false (fun h => c1 (by rw [h]))]
 ·try simp only [sx, List.length_map] at c1
  refine awp_skip ?_
  refine awp_seq ?_
  refine awp_seq ?_
  refine awp_region rfl ?_
  refine rwp_det rfl rfl (det_move rfl rfl) ?_
  refine rwp_det rfl rfl (det_len_slm rfl el61 rfl) ?_
  refine rwp_det rfl rfl (det_move rfl rfl) ?_
  refine rwp_nil ?_
  refine awp_block ?_
  refine awp_weak ⟨[(17, .c _), (1, .c _), (2, .c _), (15, .c _), (16, .c _)], []⟩ (Weak.mk [] ⟨VLe.of_eq rfl, VLe.of_eq rfl, VLe.of_eq rfl, VLe.of_eq rfl, VLe.of_eq rfl, trivial⟩ rfl) ?_
  refine awp_loop_k 1 0 rfl rfl (Nat) (fun k => [(17, vI k)]) (fun k => []) (fun k => k ≤ a.length ∧ (a.take k = b.take k)) (fun k => a.length - k) ⟨0, ⟨by omega, rfl⟩, Weak.mk [] ⟨VLe.refl _, VLe.refl _, VLe.refl _, VLe.refl _, VLe.refl _, trivial⟩ rfl⟩ ?_
  rintro k ⟨hk, hp⟩
  refine awp_seq ?_
  refine awp_region rfl ?_
  refine rwp_det rfl rfl (det_lss rfl rfl rfl) ?_
  refine rwp_nil ?_
  refine awp_seq ?_
  refine awp_cond rfl (fun c2 => ?_) (fun c2 => ?_)
  ·try simp only [sx, List.length_map] at c2
   obtain ⟨x, hx⟩ := ex_get a k (by omega)
   obtain ⟨y, hy⟩ := ex_get b k (by omega)
   refine awp_skip ?_
   refine awp_seq ?_
   refine awp_block ?_
   refine awp_seq ?_
   refine awp_region rfl ?_
   refine rwp_det rfl rfl (det_move rfl rfl) ?_
   refine rwp_det rfl rfl (det_index_sl rfl el61 rfl rfl (by omega) (getm (by assumption))) ?_
   refine rwp_det rfl rfl (det_load_agg rfl agg80 rfl ptr_imm rfl) ?_
   refine rwp_op rfl rfl (ope_allocN [none, none, some 2] rfl zr80 rfl) ?_
   rintro _ _ ⟨b1, rfl, rfl⟩
   refine rwp_det rfl rfl (det_assign rfl rfl) ?_
   refine rwp_det0 rfl rfl (det_store rfl sz80 rfl rfl rfl (st_row 0 rfl rfl)) ?_
   refine rwp_nil ?_
   refine awp_seq ?_
   refine awp_region rfl ?_
   refine rwp_det rfl rfl (det_move rfl rfl) ?_
   refine rwp_det rfl rfl (det_move rfl rfl) ?_
   refine rwp_det rfl rfl (det_index_sl rfl el61 rfl rfl (by omega) (getm (by assumption))) ?_
   refine rwp_det rfl rfl (det_load_agg rfl agg80 rfl ptr_imm rfl) ?_
   refine rwp_op rfl rfl (ope_allocN [none, none, some 2] rfl zr80 rfl) ?_
   rintro _ _ ⟨b2, rfl, rfl⟩
   refine rwp_det0 rfl rfl (det_store rfl sz80 rfl rfl rfl (st_row 0 rfl rfl)) ?_
   refine rwp_nil ?_
   refine awp_seq ?_
   refine awp_region rfl ?_
   refine rwp_det rfl rfl (det_move rfl rfl) ?_
   refine rwp_det rfl rfl (det_load_agg rfl agg80 rfl (ptr_row 1 rfl) rfl) ?_
   refine rwp_det rfl rfl (det_load_agg rfl agg80 rfl (ptr_row 0 rfl) rfl) ?_
   refine rwp_det rfl rfl (det_call_val rfl rfl (hc _ (mem_of_get hx) _ (mem_of_get hy)) ⟨VLe.refl _, rfl, VLe.refl _, rfl, trivial⟩) ?_
   refine rwp_det rfl rfl (det_not rfl rfl) ?_
   refine rwp_nil ?_
   refine awp_cond rfl (fun c3 => ?_) (fun c3 => ?_)
   ·try simp only [sx, List.length_map] at c3
    refine awp_seq ?_
    refine awp_region rfl ?_
    refine rwp_det rfl rfl (det_assign rfl rfl) ?_
    refine rwp_nil ?_
    refine awp_ret ?_
    repeat (first | refine thenQ_ret ?_ | refine blockQ_ret ?_)
    refine fin1 (rs_c rfl) ?_
    rw [dec_false (ne_of_get hx hy c3)]
   ·try simp only [sx, List.length_map] at c3
    refine awp_skip ?_
    refine awp_region rfl ?_
    refine rwp_det rfl rfl (det_add_nw rfl rfl rfl ⟨by omega, by omega⟩) ?_
    refine rwp_det rfl rfl (det_move rfl rfl) ?_
    refine rwp_nil ?_
    refine ⟨k + 1, ⟨by omega, take_eq_next hx hy hp c3⟩, (by omega), Weak.mk [false, false] ⟨VLe.refl _, VLe.refl _, VLe.refl _, VLe.refl _, VLe.refl _, trivial⟩ rfl⟩
  ·try simp only [sx, List.length_map] at c2
   refine awp_exit ?_
   refine awp_seq ?_
   refine awp_region rfl ?_
   refine rwp_det rfl rfl (det_assign rfl rfl) ?_
   refine rwp_nil ?_
   refine awp_ret ?_
   repeat (first | refine thenQ_ret ?_ | refine blockQ_ret ?_)
   refine fin1 (rs_c rfl) ?_
   rw [dec_true (eq_of_take hp (by omega) (by omega))]

theorem slices_Equal_str (a b : List ByteArray) (ha : a.length ≤ 4294967296) :
    Pur cfg 73 [vSs a, vSs b] (vB (decide (a = b))) := by
 refine con_intro Tryz.func73 rfl Tryz.ntmps73 Tryz.results73 rfl ?_
 intro z hz
 refine awp_seq ?_
 refine awp_region rfl ?_
 refine rwp_det rfl rfl (det_assign rfl rfl) ?_
 refine rwp_nil ?_
 refine awp_seq ?_
 refine awp_seq ?_
 refine awp_region rfl ?_
 refine rwp_det rfl rfl (det_move rfl rfl) ?_
 refine rwp_det rfl rfl (det_len_slm rfl el22 rfl) ?_
 refine rwp_det rfl rfl (det_move rfl rfl) ?_
 refine rwp_det rfl rfl (det_len_slm rfl el22 rfl) ?_
 refine rwp_det rfl rfl (det_neq rfl rfl rfl) ?_
 refine rwp_nil ?_
 refine awp_cond rfl (fun c1 => ?_) (fun c1 => ?_)
 ·try simp only [sx, List.length_map] at c1
  refine awp_seq ?_
  refine awp_region rfl ?_
  refine rwp_det rfl rfl (det_assign rfl rfl) ?_
  refine rwp_nil ?_
  refine awp_ret ?_
  repeat (first | refine thenQ_ret ?_ | refine blockQ_ret ?_)
  refine fin1 (rs_c rfl) ?_
  rw [dec_false (fun h => c1 (by rw [h]))]
 ·try simp only [sx, List.length_map] at c1
  refine awp_skip ?_
  refine awp_seq ?_
  refine awp_seq ?_
  refine awp_region rfl ?_
  refine rwp_det rfl rfl (det_move rfl rfl) ?_
  refine rwp_det rfl rfl (det_len_slm rfl el22 rfl) ?_
  refine rwp_det rfl rfl (det_move rfl rfl) ?_
  refine rwp_nil ?_
  refine awp_block ?_
  refine awp_weak ⟨[(13, .c _), (0, .c _), (1, .c _), (12, .c _)], []⟩ (Weak.mk [] ⟨VLe.of_eq rfl, VLe.of_eq rfl, VLe.of_eq rfl, VLe.of_eq rfl, trivial⟩ rfl) ?_
  refine awp_loop_k 1 0 rfl rfl (Nat) (fun k => [(13, vI k)]) (fun k => []) (fun k => k ≤ a.length ∧ (a.take k = b.take k)) (fun k => a.length - k) ⟨0, ⟨by omega, rfl⟩, Weak.mk [] ⟨VLe.refl _, VLe.refl _, VLe.refl _, VLe.refl _, trivial⟩ rfl⟩ ?_
  rintro k ⟨hk, hp⟩
  refine awp_seq ?_
  refine awp_region rfl ?_
  refine rwp_det rfl rfl (det_lss rfl rfl rfl) ?_
  refine rwp_nil ?_
  refine awp_seq ?_
  refine awp_cond rfl (fun c2 => ?_) (fun c2 => ?_)
  ·try simp only [sx, List.length_map] at c2
   obtain ⟨x, hx⟩ := ex_get a k (by omega)
   obtain ⟨y, hy⟩ := ex_get b k (by omega)
   refine awp_skip ?_
   refine awp_seq ?_
   refine awp_block ?_
   refine awp_seq ?_
   refine awp_region rfl ?_
   refine rwp_det rfl rfl (det_move rfl rfl) ?_
   refine rwp_det rfl rfl (det_assign rfl rfl) ?_
   refine rwp_nil ?_
   refine awp_seq ?_
   refine awp_draw 9 mixed (by kernel_rfl) rfl rfl ?_
   refine td_det rfl rfl (det_move rfl rfl) ?_
   refine td_det rfl rfl (det_move rfl rfl) ?_
   refine td_det rfl rfl (det_index_sl rfl el22 rfl rfl (by omega) (getm (by assumption))) ?_
   refine td_det rfl rfl (det_load_one rfl one9 rfl ptr_imm rfl) ?_
   refine td_det rfl rfl (det_move rfl rfl) ?_
   refine td_det rfl rfl (det_move rfl rfl) ?_
   refine td_det rfl rfl (det_index_sl rfl el22 rfl rfl (by omega) (getm (by assumption))) ?_
   refine td_det rfl rfl (det_load_one rfl one9 rfl ptr_imm rfl) ?_
   refine td_det rfl rfl (det_sneq rfl rfl rfl) ?_
   refine td_nil ?_
   refine rwp_nil ?_
   refine awp_cond rfl (fun c3 => ?_) (fun c3 => ?_)
   ·try simp only [sx, List.length_map] at c3
    refine awp_seq ?_
    refine awp_region rfl ?_
    refine rwp_det rfl rfl (det_assign rfl rfl) ?_
    refine rwp_nil ?_
    refine awp_ret ?_
    repeat (first | refine thenQ_ret ?_ | refine blockQ_ret ?_)
    refine fin1 (rs_c rfl) ?_
    rw [dec_false (ne_of_get hx hy c3)]
   ·try simp only [sx, List.length_map] at c3
    refine awp_skip ?_
    refine awp_region rfl ?_
    refine rwp_det rfl rfl (det_add_nw rfl rfl rfl ⟨by omega, by omega⟩) ?_
    refine rwp_det rfl rfl (det_move rfl rfl) ?_
    refine rwp_nil ?_
    refine ⟨k + 1, ⟨by omega, take_eq_next hx hy hp c3⟩, (by omega), Weak.mk [] ⟨VLe.refl _, VLe.refl _, VLe.refl _, VLe.refl _, trivial⟩ rfl⟩
  ·try simp only [sx, List.length_map] at c2
   refine awp_exit ?_
   refine awp_seq ?_
   refine awp_region rfl ?_
   refine rwp_det rfl rfl (det_assign rfl rfl) ?_
   refine rwp_nil ?_
   refine awp_ret ?_
   repeat (first | refine thenQ_ret ?_ | refine blockQ_ret ?_)
   refine fin1 (rs_c rfl) ?_
   rw [dec_true (eq_of_take hp (by omega) (by omega))]

theorem constraint_Same (a b : Cn) (ha : a.Lin.L.length ≤ 4294967296) :
    Pur cfg 75 [vCn a, vCn b] (vB (decide (a = b))) := by
 refine con_intro Tryz.func75 rfl Tryz.ntmps75 Tryz.results75 rfl ?_
 intro z hz
 refine awp_seq ?_
 refine awp_region rfl ?_
 refine rwp_op rfl rfl (ope_box rfl rfl) ?_
 rintro _ _ ⟨b1, rfl, rfl⟩
 refine rwp_op rfl rfl (ope_box rfl rfl) ?_
 rintro _ _ ⟨b2, rfl, rfl⟩
 refine rwp_det rfl rfl (det_assign rfl rfl) ?_
 refine rwp_nil ?_
 refine awp_seq ?_
 refine awp_region rfl ?_
 refine rwp_det rfl rfl (det_field_lit rfl fd75_1 rfl) ?_
 refine rwp_det rfl rfl (det_load_one rfl one4 rfl (ptr_row 1 rfl) rfl) ?_
 refine rwp_det rfl rfl (det_field_lit rfl fd75_1 rfl) ?_
 refine rwp_det rfl rfl (det_load_one rfl one4 rfl (ptr_row 0 rfl) rfl) ?_
 refine rwp_det rfl rfl (det_beql rfl un4 rfl rfl) ?_
 refine rwp_det rfl rfl (det_move rfl rfl) ?_
 refine rwp_lazy [] rfl rfl rfl rfl gv1 trivial (fun g1_5 => det_field_lit rfl fd75_0 rfl) rfl ?_
 refine rwp_lazy [(11, _)] rfl rfl rfl rfl gv1 ⟨rfl, rfl, trivial⟩ (fun g1_5 => det_load_agg rfl agg42 rfl (ptr_row 1 rfl) rfl) rfl ?_
 refine rwp_lazy [] rfl rfl rfl rfl gv1 trivial (fun g1_5 => det_field_lit rfl fd75_0 rfl) rfl ?_
 refine rwp_lazy [(13, _)] rfl rfl rfl rfl gv1 ⟨rfl, rfl, trivial⟩ (fun g1_5 => det_load_agg rfl agg42 rfl (ptr_row 0 rfl) rfl) rfl ?_
 refine rwp_lazy [(12, _), (14, _)] rfl rfl rfl rfl gv1 ⟨rfl, rfl, rfl, rfl, trivial⟩ (fun g1_5 => det_call rfl ok132 (lin_Same a.Lin b.Lin ha) ⟨VLe.refl _, rfl, VLe.refl _, rfl, trivial⟩) rfl ?_
 refine rwp_det rfl rfl (det_and rfl rfl rfl (fun h => h) rfl) ?_
 refine rwp_det rfl rfl (det_assign rfl rfl) ?_
 refine rwp_nil ?_
 refine awp_ret ?_
 repeat (first | refine thenQ_ret ?_ | refine blockQ_ret ?_)
 refine fin1 (rs_c rfl) ?_
 exact congrArg vB (cn_eq a b)

theorem program_sameAxis (a b : Ax) (ha : a.Size.L.length ≤ 4294967296) :
    Pur cfg 135 [vAx a, vAx b] (vB (decide (a = b))) := by
 refine con_intro Tryz.func135 rfl Tryz.ntmps135 Tryz.results135 rfl ?_
 intro z hz
 refine awp_seq ?_
 refine awp_region rfl ?_
 refine rwp_op rfl rfl (ope_box rfl rfl) ?_
 rintro _ _ ⟨b1, rfl, rfl⟩
 refine rwp_op rfl rfl (ope_box rfl rfl) ?_
 rintro _ _ ⟨b2, rfl, rfl⟩
 refine rwp_det rfl rfl (det_assign rfl rfl) ?_
 refine rwp_nil ?_
 refine awp_seq ?_
 refine awp_region rfl ?_
 refine rwp_det rfl rfl (det_field_lit rfl fd80_0 rfl) ?_
 refine rwp_det rfl rfl (det_load_one rfl one9 rfl (ptr_row 1 rfl) rfl) ?_
 refine rwp_det rfl rfl (det_field_lit rfl fd80_0 rfl) ?_
 refine rwp_det rfl rfl (det_load_one rfl one9 rfl (ptr_row 0 rfl) rfl) ?_
 refine rwp_det rfl rfl (det_seql rfl rfl rfl) ?_
 refine rwp_det rfl rfl (det_move rfl rfl) ?_
 refine rwp_lazy [] rfl rfl rfl rfl gv1 trivial (fun g1_5 => det_field_lit rfl fd80_1 rfl) rfl ?_
 refine rwp_lazy [(11, _)] rfl rfl rfl rfl gv1 ⟨rfl, rfl, trivial⟩ (fun g1_5 => det_load_agg rfl agg42 rfl (ptr_row 1 rfl) rfl) rfl ?_
 refine rwp_lazy [] rfl rfl rfl rfl gv1 trivial (fun g1_5 => det_field_lit rfl fd80_1 rfl) rfl ?_
 refine rwp_lazy [(13, _)] rfl rfl rfl rfl gv1 ⟨rfl, rfl, trivial⟩ (fun g1_5 => det_load_agg rfl agg42 rfl (ptr_row 0 rfl) rfl) rfl ?_
 refine rwp_lazy [(12, _), (14, _)] rfl rfl rfl rfl gv1 ⟨rfl, rfl, rfl, rfl, trivial⟩ (fun g1_5 => det_call rfl ok132 (lin_Same a.Size b.Size ha) ⟨VLe.refl _, rfl, VLe.refl _, rfl, trivial⟩) rfl ?_
 refine rwp_det rfl rfl (det_and rfl rfl rfl (fun h => h) rfl) ?_
 refine rwp_det rfl rfl (det_assign rfl rfl) ?_
 refine rwp_nil ?_
 refine awp_ret ?_
 repeat (first | refine thenQ_ret ?_ | refine blockQ_ret ?_)
 refine fin1 (rs_c rfl) ?_
 exact congrArg vB (ax_eq a b)

theorem program_sameParam (a b : Pm) (h1 : a.Dims.length ≤ 4294967296) (h2 : ∀ l, l ∈ a.Dims → l.L.length ≤ 4294967296) :
    Pur cfg 77 [vPm a, vPm b] (vB (decide (a = b))) := by
 refine con_intro Tryz.func77 rfl Tryz.ntmps77 Tryz.results77 rfl ?_
 intro z hz
 refine awp_seq ?_
 refine awp_region rfl ?_
 refine rwp_op rfl rfl (ope_box rfl rfl) ?_
 rintro _ _ ⟨b1, rfl, rfl⟩
 refine rwp_op rfl rfl (ope_box rfl rfl) ?_
 rintro _ _ ⟨b2, rfl, rfl⟩
 refine rwp_det rfl rfl (det_assign rfl rfl) ?_
 refine rwp_nil ?_
 refine awp_seq ?_
 refine awp_region rfl ?_
 refine rwp_det rfl rfl (det_field_lit rfl fd77_0 rfl) ?_
 refine rwp_det rfl rfl (det_load_one rfl one9 rfl (ptr_row 1 rfl) rfl) ?_
 refine rwp_det rfl rfl (det_field_lit rfl fd77_0 rfl) ?_
 refine rwp_det rfl rfl (det_load_one rfl one9 rfl (ptr_row 0 rfl) rfl) ?_
 refine rwp_det rfl rfl (det_seql rfl rfl rfl) ?_
 refine rwp_det rfl rfl (det_move rfl rfl) ?_
 refine rwp_lazy [] rfl rfl rfl rfl gv1 trivial (fun g1_5 => det_field_lit rfl fd77_1 rfl) rfl ?_
 refine rwp_lazy [(11, _)] rfl rfl rfl rfl gv1 ⟨rfl, rfl, trivial⟩ (fun g1_5 => det_load_agg rfl agg39 rfl (ptr_row 1 rfl) rfl) rfl ?_
 refine rwp_lazy [] rfl rfl rfl rfl gv1 trivial (fun g1_5 => det_field_lit rfl fd77_1 rfl) rfl ?_
 refine rwp_lazy [(13, _)] rfl rfl rfl rfl gv1 ⟨rfl, rfl, trivial⟩ (fun g1_5 => det_load_agg rfl agg39 rfl (ptr_row 0 rfl) rfl) rfl ?_
 refine rwp_lazy [(12, _), (14, _)] rfl rfl rfl rfl gv1 ⟨rfl, rfl, rfl, rfl, trivial⟩ (fun g1_5 => det_aeql rfl fl39 rfl rfl rfl) rfl ?_
 refine rwp_det rfl rfl (det_and rfl rfl rfl (fun h => h) rfl) ?_
 refine rwp_det rfl rfl (det_move rfl rfl) ?_
 refine rwp_lazy [] rfl rfl rfl rfl gv1 trivial (fun g1_12 => det_field_lit rfl fd77_2 rfl) rfl ?_
 refine rwp_lazy [(18, _)] rfl rfl rfl rfl gv1 ⟨rfl, rfl, trivial⟩ (fun g1_12 => det_load_one rfl one54 rfl (ptr_row 1 rfl) rfl) rfl ?_
 refine rwp_lazy [] rfl rfl rfl rfl gv1 trivial (fun g1_12 => det_field_lit rfl fd77_2 rfl) rfl ?_
 refine rwp_lazy [(20, _)] rfl rfl rfl rfl gv1 ⟨rfl, rfl, trivial⟩ (fun g1_12 => det_load_one rfl one54 rfl (ptr_row 0 rfl) rfl) rfl ?_
 refine rwp_lazy [(19, _), (21, _)] rfl rfl rfl rfl gv1 ⟨rfl, rfl, rfl, rfl, trivial⟩ (fun g1_12 => det_call rfl ok133 (slices_EqualFunc_Lf a.Dims b.Dims _ h1 (fun x hx y _ => FnPur.of_pur (first := []) (cap := []) ok132 (lin_Same x y (h2 x hx)))) ⟨VLe.refl _, rfl, VLe.refl _, rfl, VLe.refl _, rfl, trivial⟩) rfl ?_
 refine rwp_det rfl rfl (det_and rfl rfl rfl (fun h => h) rfl) ?_
 refine rwp_det rfl rfl (det_assign rfl rfl) ?_
 refine rwp_nil ?_
 refine awp_ret ?_
 repeat (first | refine thenQ_ret ?_ | refine blockQ_ret ?_)
 refine fin1 (rs_c rfl) ?_
 exact congrArg vB (pm_eq a b)

theorem program_sameDef (a b : Df) (h1 : a.Dims.length ≤ 4294967296) (h2 : a.Red.length ≤ 4294967296) (h3 : ∀ x, x ∈ a.Dims → x.Size.L.length ≤ 4294967296) (h4 : ∀ x, x ∈ a.Red → x.Size.L.length ≤ 4294967296) (h5 : a.Body.wt ≤ 4294967296) (h6 : b.Body.wt ≤ 4294967296) :
    Pur cfg 79 [vDf a, vDf b] (vB (decide (a = b))) := by
 refine con_intro Tryz.func79 rfl Tryz.ntmps79 Tryz.results79 rfl ?_
 intro z hz
 refine awp_seq ?_
 refine awp_region rfl ?_
 refine rwp_op rfl rfl (ope_box rfl rfl) ?_
 rintro _ _ ⟨b1, rfl, rfl⟩
 refine rwp_op rfl rfl (ope_box rfl rfl) ?_
 rintro _ _ ⟨b2, rfl, rfl⟩
 refine rwp_det rfl rfl (det_assign rfl rfl) ?_
 refine rwp_nil ?_
 refine awp_seq ?_
 refine awp_region rfl ?_
 refine rwp_det rfl rfl (det_field_lit rfl fd63_0 rfl) ?_
 refine rwp_det rfl rfl (det_load_one rfl one9 rfl (ptr_row 1 rfl) rfl) ?_
 refine rwp_det rfl rfl (det_field_lit rfl fd63_0 rfl) ?_
 refine rwp_det rfl rfl (det_load_one rfl one9 rfl (ptr_row 0 rfl) rfl) ?_
 refine rwp_det rfl rfl (det_seql rfl rfl rfl) ?_
 refine rwp_det rfl rfl (det_move rfl rfl) ?_
 refine rwp_lazy [] rfl rfl rfl rfl gv1 trivial (fun g1_5 => det_field_lit rfl fd63_1 rfl) rfl ?_
 refine rwp_lazy [(11, _)] rfl rfl rfl rfl gv1 ⟨rfl, rfl, trivial⟩ (fun g1_5 => det_load_agg rfl agg39 rfl (ptr_row 1 rfl) rfl) rfl ?_
 refine rwp_lazy [] rfl rfl rfl rfl gv1 trivial (fun g1_5 => det_field_lit rfl fd63_1 rfl) rfl ?_
 refine rwp_lazy [(13, _)] rfl rfl rfl rfl gv1 ⟨rfl, rfl, trivial⟩ (fun g1_5 => det_load_agg rfl agg39 rfl (ptr_row 0 rfl) rfl) rfl ?_
 refine rwp_lazy [(12, _), (14, _)] rfl rfl rfl rfl gv1 ⟨rfl, rfl, rfl, rfl, trivial⟩ (fun g1_5 => det_aeql rfl fl39 rfl rfl rfl) rfl ?_
 refine rwp_det rfl rfl (det_and rfl rfl rfl (fun h => h) rfl) ?_
 refine rwp_det rfl rfl (det_move rfl rfl) ?_
 refine rwp_lazy [] rfl rfl rfl rfl gv1 trivial (fun g1_12 => det_field_lit rfl fd63_4 rfl) rfl ?_
 refine rwp_lazy [(18, _)] rfl rfl rfl rfl gv1 ⟨rfl, rfl, trivial⟩ (fun g1_12 => det_load_one rfl one3 rfl (ptr_row 1 rfl) rfl) rfl ?_
 refine rwp_lazy [] rfl rfl rfl rfl gv1 trivial (fun g1_12 => det_field_lit rfl fd63_4 rfl) rfl ?_
 refine rwp_lazy [(20, _)] rfl rfl rfl rfl gv1 ⟨rfl, rfl, trivial⟩ (fun g1_12 => det_load_one rfl one3 rfl (ptr_row 0 rfl) rfl) rfl ?_
 refine rwp_lazy [(19, _), (21, _)] rfl rfl rfl rfl gv1 ⟨rfl, rfl, rfl, rfl, trivial⟩ (fun g1_12 => det_eql rfl rfl rfl) rfl ?_
 refine rwp_det rfl rfl (det_and rfl rfl rfl (fun h => h) rfl) ?_
 refine rwp_det rfl rfl (det_move rfl rfl) ?_
 refine rwp_lazy [] rfl rfl rfl rfl gv1 trivial (fun g1_19 => det_field_lit rfl fd63_2 rfl) rfl ?_
 refine rwp_lazy [(25, _)] rfl rfl rfl rfl gv1 ⟨rfl, rfl, trivial⟩ (fun g1_19 => det_load_one rfl one61 rfl (ptr_row 1 rfl) rfl) rfl ?_
 refine rwp_lazy [] rfl rfl rfl rfl gv1 trivial (fun g1_19 => det_field_lit rfl fd63_2 rfl) rfl ?_
 refine rwp_lazy [(27, _)] rfl rfl rfl rfl gv1 ⟨rfl, rfl, trivial⟩ (fun g1_19 => det_load_one rfl one61 rfl (ptr_row 0 rfl) rfl) rfl ?_
 refine rwp_lazy [(26, _), (28, _)] rfl rfl rfl rfl gv1 ⟨rfl, rfl, rfl, rfl, trivial⟩ (fun g1_19 => det_call rfl ok134 (slices_EqualFunc_Ax a.Dims b.Dims _ h1 (fun x hx y _ => FnPur.of_pur (first := []) (cap := []) ok135 (program_sameAxis x y (h3 x hx)))) ⟨VLe.refl _, rfl, VLe.refl _, rfl, VLe.refl _, rfl, trivial⟩) rfl ?_
 refine rwp_det rfl rfl (det_and rfl rfl rfl (fun h => h) rfl) ?_
 refine rwp_det rfl rfl (det_move rfl rfl) ?_
 refine rwp_lazy [] rfl rfl rfl rfl gv1 trivial (fun g1_26 => det_field_lit rfl fd63_3 rfl) rfl ?_
 refine rwp_lazy [(32, _)] rfl rfl rfl rfl gv1 ⟨rfl, rfl, trivial⟩ (fun g1_26 => det_load_one rfl one61 rfl (ptr_row 1 rfl) rfl) rfl ?_
 refine rwp_lazy [] rfl rfl rfl rfl gv1 trivial (fun g1_26 => det_field_lit rfl fd63_3 rfl) rfl ?_
 refine rwp_lazy [(34, _)] rfl rfl rfl rfl gv1 ⟨rfl, rfl, trivial⟩ (fun g1_26 => det_load_one rfl one61 rfl (ptr_row 0 rfl) rfl) rfl ?_
 refine rwp_lazy [(33, _), (35, _)] rfl rfl rfl rfl gv1 ⟨rfl, rfl, rfl, rfl, trivial⟩ (fun g1_26 => det_call rfl ok134 (slices_EqualFunc_Ax a.Red b.Red _ h2 (fun x hx y _ => FnPur.of_pur (first := []) (cap := []) ok135 (program_sameAxis x y (h4 x hx)))) ⟨VLe.refl _, rfl, VLe.refl _, rfl, VLe.refl _, rfl, trivial⟩) rfl ?_
 refine rwp_det rfl rfl (det_and rfl rfl rfl (fun h => h) rfl) ?_
 refine rwp_det rfl rfl (det_move rfl rfl) ?_
 refine rwp_lazy [] rfl rfl rfl rfl gv1 trivial (fun g1_33 => det_field_lit rfl fd63_5 rfl) rfl ?_
 refine rwp_lazy [(39, _)] rfl rfl rfl rfl gv1 ⟨rfl, rfl, trivial⟩ (fun g1_33 => det_load_agg rfl agg46 rfl (ptr_row 1 rfl) rfl) rfl ?_
 refine rwp_lazy [] rfl rfl rfl rfl gv1 trivial (fun g1_33 => det_field_lit rfl fd63_5 rfl) rfl ?_
 refine rwp_lazy [(41, _)] rfl rfl rfl rfl gv1 ⟨rfl, rfl, trivial⟩ (fun g1_33 => det_load_agg rfl agg46 rfl (ptr_row 0 rfl) rfl) rfl ?_
 refine rwp_lazy [(40, _), (42, _)] rfl rfl rfl rfl gv1 ⟨rfl, rfl, rfl, rfl, trivial⟩ (fun g1_33 => det_call rfl ok136 (expr_Same a.Body b.Body h5 h6) ⟨VLe.refl _, rfl, VLe.refl _, rfl, trivial⟩) rfl ?_
 refine rwp_det rfl rfl (det_and rfl rfl rfl (fun h => h) rfl) ?_
 refine rwp_det rfl rfl (det_assign rfl rfl) ?_
 refine rwp_nil ?_
 refine awp_ret ?_
 repeat (first | refine thenQ_ret ?_ | refine blockQ_ret ?_)
 refine fin1 (rs_c rfl) ?_
 exact congrArg vB (df_eq a b)

theorem program_Same (p q : Pg) (hP : p.Ok) (hQ : q.Ok) :
    Pur cfg 30 [vPg p, vPg q] (vB (decide (p = q))) := by
 refine con_intro Tryz.func30 rfl Tryz.ntmps30 Tryz.results30 rfl ?_
 intro z hz
 refine awp_seq ?_
 refine awp_region rfl ?_
 refine rwp_op rfl rfl (ope_box rfl rfl) ?_
 rintro _ _ ⟨b1, rfl, rfl⟩
 refine rwp_op rfl rfl (ope_box rfl rfl) ?_
 rintro _ _ ⟨b2, rfl, rfl⟩
 refine rwp_det rfl rfl (det_assign rfl rfl) ?_
 refine rwp_nil ?_
 refine awp_seq ?_
 refine awp_region rfl ?_
 refine rwp_det rfl rfl (det_field_lit rfl fd27_0 rfl) ?_
 refine rwp_det rfl rfl (det_load_one rfl one22 rfl (ptr_row 1 rfl) rfl) ?_
 refine rwp_det rfl rfl (det_field_lit rfl fd27_0 rfl) ?_
 refine rwp_det rfl rfl (det_load_one rfl one22 rfl (ptr_row 0 rfl) rfl) ?_
 refine rwp_det rfl rfl (det_call rfl ok73 (slices_Equal_str p.Sizes q.Sizes hP.sizes) ⟨VLe.refl _, rfl, VLe.refl _, rfl, trivial⟩) ?_
 refine rwp_det rfl rfl (det_move rfl rfl) ?_
 refine rwp_lazy [] rfl rfl rfl rfl gv1 trivial (fun g1_5 => det_field_lit rfl fd27_4 rfl) rfl ?_
 refine rwp_lazy [(11, _)] rfl rfl rfl rfl gv1 ⟨rfl, rfl, trivial⟩ (fun g1_5 => det_load_one rfl one22 rfl (ptr_row 1 rfl) rfl) rfl ?_
 refine rwp_lazy [] rfl rfl rfl rfl gv1 trivial (fun g1_5 => det_field_lit rfl fd27_4 rfl) rfl ?_
 refine rwp_lazy [(13, _)] rfl rfl rfl rfl gv1 ⟨rfl, rfl, trivial⟩ (fun g1_5 => det_load_one rfl one22 rfl (ptr_row 0 rfl) rfl) rfl ?_
 refine rwp_lazy [(12, _), (14, _)] rfl rfl rfl rfl gv1 ⟨rfl, rfl, rfl, rfl, trivial⟩ (fun g1_5 => det_call rfl ok73 (slices_Equal_str p.Outs q.Outs hP.outs) ⟨VLe.refl _, rfl, VLe.refl _, rfl, trivial⟩) rfl ?_
 refine rwp_det rfl rfl (det_and rfl rfl rfl (fun h => h) rfl) ?_
 refine rwp_det rfl rfl (det_move rfl rfl) ?_
 refine rwp_lazy [] rfl rfl rfl rfl gv1 trivial (fun g1_12 => det_field_lit rfl fd27_1 rfl) rfl ?_
 refine rwp_lazy [(18, _)] rfl rfl rfl rfl gv1 ⟨rfl, rfl, trivial⟩ (fun g1_12 => det_load_one rfl one23 rfl (ptr_row 1 rfl) rfl) rfl ?_
 refine rwp_lazy [] rfl rfl rfl rfl gv1 trivial (fun g1_12 => det_field_lit rfl fd27_1 rfl) rfl ?_
 refine rwp_lazy [(20, _)] rfl rfl rfl rfl gv1 ⟨rfl, rfl, trivial⟩ (fun g1_12 => det_load_one rfl one23 rfl (ptr_row 0 rfl) rfl) rfl ?_
 refine rwp_lazy [(19, _), (21, _)] rfl rfl rfl rfl gv1 ⟨rfl, rfl, rfl, rfl, trivial⟩ (fun g1_12 => det_call rfl ok74 (slices_EqualFunc_Cn p.Where q.Where _ hP.wh (fun x hx y _ => FnPur.of_pur (first := []) (cap := []) ok75 (constraint_Same x y (hP.whs x hx)))) ⟨VLe.refl _, rfl, VLe.refl _, rfl, VLe.refl _, rfl, trivial⟩) rfl ?_
 refine rwp_det rfl rfl (det_and rfl rfl rfl (fun h => h) rfl) ?_
 refine rwp_det rfl rfl (det_move rfl rfl) ?_
 refine rwp_lazy [] rfl rfl rfl rfl gv1 trivial (fun g1_19 => det_field_lit rfl fd27_2 rfl) rfl ?_
 refine rwp_lazy [(25, _)] rfl rfl rfl rfl gv1 ⟨rfl, rfl, trivial⟩ (fun g1_19 => det_load_one rfl one24 rfl (ptr_row 1 rfl) rfl) rfl ?_
 refine rwp_lazy [] rfl rfl rfl rfl gv1 trivial (fun g1_19 => det_field_lit rfl fd27_2 rfl) rfl ?_
 refine rwp_lazy [(27, _)] rfl rfl rfl rfl gv1 ⟨rfl, rfl, trivial⟩ (fun g1_19 => det_load_one rfl one24 rfl (ptr_row 0 rfl) rfl) rfl ?_
 refine rwp_lazy [(26, _), (28, _)] rfl rfl rfl rfl gv1 ⟨rfl, rfl, rfl, rfl, trivial⟩ (fun g1_19 => det_call rfl ok76 (slices_EqualFunc_Pm p.Params q.Params _ hP.params (fun x hx y _ => FnPur.of_pur (first := []) (cap := []) ok77 (program_sameParam x y (hP.ps x hx).1 (hP.ps x hx).2))) ⟨VLe.refl _, rfl, VLe.refl _, rfl, VLe.refl _, rfl, trivial⟩) rfl ?_
 refine rwp_det rfl rfl (det_and rfl rfl rfl (fun h => h) rfl) ?_
 refine rwp_det rfl rfl (det_move rfl rfl) ?_
 refine rwp_lazy [] rfl rfl rfl rfl gv1 trivial (fun g1_26 => det_field_lit rfl fd27_3 rfl) rfl ?_
 refine rwp_lazy [(32, _)] rfl rfl rfl rfl gv1 ⟨rfl, rfl, trivial⟩ (fun g1_26 => det_load_one rfl one25 rfl (ptr_row 1 rfl) rfl) rfl ?_
 refine rwp_lazy [] rfl rfl rfl rfl gv1 trivial (fun g1_26 => det_field_lit rfl fd27_3 rfl) rfl ?_
 refine rwp_lazy [(34, _)] rfl rfl rfl rfl gv1 ⟨rfl, rfl, trivial⟩ (fun g1_26 => det_load_one rfl one25 rfl (ptr_row 0 rfl) rfl) rfl ?_
 refine rwp_lazy [(33, _), (35, _)] rfl rfl rfl rfl gv1 ⟨rfl, rfl, rfl, rfl, trivial⟩ (fun g1_26 => det_call rfl ok78 (slices_EqualFunc_Df p.Defs q.Defs _ hP.defs (fun x hx y hy => FnPur.of_pur (first := []) (cap := []) ok79 (program_sameDef x y (by have := (hP.ds x hx).1; omega) (by have := (hP.ds x hx).2.1; omega) (hP.ds x hx).2.2.1 (hP.ds x hx).2.2.2.1 (hP.ds x hx).2.2.2.2 (hQ.ds y hy).2.2.2.2))) ⟨VLe.refl _, rfl, VLe.refl _, rfl, VLe.refl _, rfl, trivial⟩) rfl ?_
 refine rwp_det rfl rfl (det_and rfl rfl rfl (fun h => h) rfl) ?_
 refine rwp_det rfl rfl (det_assign rfl rfl) ?_
 refine rwp_nil ?_
 refine awp_ret ?_
 repeat (first | refine thenQ_ret ?_ | refine blockQ_ret ?_)
 refine fin1 (rs_c rfl) ?_
 exact congrArg vB (pg_eq p q)

theorem base_Con (a b : Cn) (ha : a.Lin.L.length ≤ 4294967296) :
    Pur cfg 130 [vCn a, vCn b] (vB (decide (a = b))) := by
 refine con_intro Tryz.func130 rfl Tryz.ntmps130 Tryz.results130 rfl ?_
 intro z hz
 refine awp_seq ?_
 refine awp_region rfl ?_
 refine rwp_op rfl rfl (ope_box rfl rfl) ?_
 rintro _ _ ⟨b1, rfl, rfl⟩
 refine rwp_op rfl rfl (ope_box rfl rfl) ?_
 rintro _ _ ⟨b2, rfl, rfl⟩
 refine rwp_det rfl rfl (det_assign rfl rfl) ?_
 refine rwp_nil ?_
 refine awp_seq ?_
 refine awp_region rfl ?_
 refine rwp_det rfl rfl (det_field_lit rfl fd75_1 rfl) ?_
 refine rwp_det rfl rfl (det_load_one rfl one4 rfl (ptr_row 1 rfl) rfl) ?_
 refine rwp_det rfl rfl (det_field_lit rfl fd75_1 rfl) ?_
 refine rwp_det rfl rfl (det_load_one rfl one4 rfl (ptr_row 0 rfl) rfl) ?_
 refine rwp_det rfl rfl (det_beql rfl un4 rfl rfl) ?_
 refine rwp_det rfl rfl (det_move rfl rfl) ?_
 refine rwp_lazy [] rfl rfl rfl rfl gv1 trivial (fun g1_5 => det_field_lit rfl fd75_0 rfl) rfl ?_
 refine rwp_lazy [(11, _)] rfl rfl rfl rfl gv1 ⟨rfl, rfl, trivial⟩ (fun g1_5 => det_load_agg rfl agg42 rfl (ptr_row 1 rfl) rfl) rfl ?_
 refine rwp_lazy [] rfl rfl rfl rfl gv1 trivial (fun g1_5 => det_field_lit rfl fd75_0 rfl) rfl ?_
 refine rwp_lazy [(13, _)] rfl rfl rfl rfl gv1 ⟨rfl, rfl, trivial⟩ (fun g1_5 => det_load_agg rfl agg42 rfl (ptr_row 0 rfl) rfl) rfl ?_
 refine rwp_lazy [(12, _), (14, _)] rfl rfl rfl rfl gv1 ⟨rfl, rfl, rfl, rfl, trivial⟩ (fun g1_5 => det_call rfl ok69 (base_Lin a.Lin b.Lin ha) ⟨VLe.refl _, rfl, VLe.refl _, rfl, trivial⟩) rfl ?_
 refine rwp_det rfl rfl (det_and rfl rfl rfl (fun h => h) rfl) ?_
 refine rwp_det rfl rfl (det_assign rfl rfl) ?_
 refine rwp_nil ?_
 refine awp_ret ?_
 repeat (first | refine thenQ_ret ?_ | refine blockQ_ret ?_)
 refine fin1 (rs_c rfl) ?_
 exact congrArg vB (cn_eq a b)

theorem base_Cons (a b : List Cn) (ha : a.length ≤ 4294967296) (hx0 : ∀ x, x ∈ a → x.Lin.L.length ≤ 4294967296) :
    Pur cfg 68 [.c (.sl 3 (a.map Cn.cells)), .c (.sl 3 (b.map Cn.cells))] (vB (decide (a = b))) := by
 refine con_intro Tryz.func68 rfl Tryz.ntmps68 Tryz.results68 rfl ?_
 intro z hz
 refine awp_seq ?_
 refine awp_region rfl ?_
 refine rwp_det rfl rfl (det_assign rfl rfl) ?_
 refine rwp_nil ?_
 refine awp_seq ?_
 refine awp_seq ?_
 refine awp_region rfl ?_
 refine rwp_det rfl rfl (det_move rfl rfl) ?_
 refine rwp_det rfl rfl (det_len_slm rfl el23 rfl) ?_
 refine rwp_det rfl rfl (det_move rfl rfl) ?_
 refine rwp_det rfl rfl (det_len_slm rfl el23 rfl) ?_
 refine rwp_det rfl rfl (det_neq rfl rfl rfl) ?_
 refine rwp_nil ?_
 refine awp_cond rfl (fun c1 => ?_) (fun c1 => ?_)
 ·try simp only [sx, List.length_map] at c1
  refine awp_seq ?_
  refine awp_region rfl ?_
  refine rwp_det rfl rfl (det_assign rfl rfl) ?_
  refine rwp_nil ?_
  refine awp_ret ?_
  repeat (first | refine thenQ_ret ?_ | refine blockQ_ret ?_)
  refine fin1 (rs_c rfl) ?_
  rw [dec_false (fun h => c1 (by rw [h]))]
 ·try simp only [sx, List.length_map] at c1
  refine awp_skip ?_
  refine awp_seq ?_
  refine awp_seq ?_
  refine awp_region rfl ?_
  refine rwp_det rfl rfl (det_assign rfl rfl) ?_
  refine rwp_nil ?_
  refine awp_block ?_
  refine awp_weak ⟨[(5, .c _), (0, .c _), (1, .c _)], []⟩ (Weak.mk [] ⟨VLe.of_eq rfl, VLe.of_eq rfl, VLe.of_eq rfl, trivial⟩ rfl) ?_
  refine awp_loop_k 1 0 rfl rfl (Nat) (fun k => [(5, vI k)]) (fun k => []) (fun k => k ≤ a.length ∧ (a.take k = b.take k)) (fun k => a.length - k) ⟨0, ⟨by omega, rfl⟩, Weak.mk [] ⟨VLe.refl _, VLe.refl _, VLe.refl _, trivial⟩ rfl⟩ ?_
  rintro k ⟨hk, hp⟩
  refine awp_seq ?_
  refine awp_seq ?_
  refine awp_region rfl ?_
  refine rwp_det rfl rfl (det_move rfl rfl) ?_
  refine rwp_det rfl rfl (det_move rfl rfl) ?_
  refine rwp_det rfl rfl (det_len_slm rfl el23 rfl) ?_
  refine rwp_det rfl rfl (det_lss rfl rfl rfl) ?_
  refine rwp_nil ?_
  refine awp_cond rfl (fun c2 => ?_) (fun c2 => ?_)
  ·try simp only [sx, List.length_map] at c2
   obtain ⟨x, hx⟩ := ex_get a k (by omega)
   obtain ⟨y, hy⟩ := ex_get b k (by omega)
   refine awp_skip ?_
   refine awp_seq ?_
   refine awp_block ?_
   refine awp_seq ?_
   refine awp_draw 10 mixed (by kernel_rfl) rfl rfl ?_
   refine td_det rfl rfl (det_move rfl rfl) ?_
   refine td_det rfl rfl (det_move rfl rfl) ?_
   refine td_det rfl rfl (det_index_sl rfl el23 rfl rfl (by omega) (getm (by assumption))) ?_
   refine td_det rfl rfl (det_load_agg rfl agg75 rfl ptr_imm rfl) ?_
   refine td_det rfl rfl (det_move rfl rfl) ?_
   refine td_det rfl rfl (det_move rfl rfl) ?_
   refine td_det rfl rfl (det_index_sl rfl el23 rfl rfl (by omega) (getm (by assumption))) ?_
   refine td_det rfl rfl (det_load_agg rfl agg75 rfl ptr_imm rfl) ?_
   refine td_det rfl rfl (det_call rfl ok130 (base_Con x y (hx0 x (mem_of_get hx))) ⟨VLe.refl _, rfl, VLe.refl _, rfl, trivial⟩) ?_
   refine td_det rfl rfl (det_not rfl rfl) ?_
   refine td_nil ?_
   refine rwp_nil ?_
   refine awp_cond rfl (fun c3 => ?_) (fun c3 => ?_)
   ·try simp only [sx, List.length_map] at c3
    refine awp_seq ?_
    refine awp_region rfl ?_
    refine rwp_det rfl rfl (det_assign rfl rfl) ?_
    refine rwp_nil ?_
    refine awp_ret ?_
    repeat (first | refine thenQ_ret ?_ | refine blockQ_ret ?_)
    refine fin1 (rs_c rfl) ?_
    rw [dec_false (ne_of_get hx hy c3)]
   ·try simp only [sx, List.length_map] at c3
    refine awp_skip ?_
    refine awp_region rfl ?_
    refine rwp_det rfl rfl (det_move rfl rfl) ?_
    refine rwp_det rfl rfl (det_add_nw rfl rfl rfl ⟨by omega, by omega⟩) ?_
    refine rwp_det rfl rfl (det_assign rfl rfl) ?_
    refine rwp_nil ?_
    refine ⟨k + 1, ⟨by omega, take_eq_next hx hy hp c3⟩, (by omega), Weak.mk [] ⟨VLe.refl _, VLe.refl _, VLe.refl _, trivial⟩ rfl⟩
  ·try simp only [sx, List.length_map] at c2
   refine awp_exit ?_
   refine awp_seq ?_
   refine awp_region rfl ?_
   refine rwp_det rfl rfl (det_assign rfl rfl) ?_
   refine rwp_nil ?_
   refine awp_ret ?_
   repeat (first | refine thenQ_ret ?_ | refine blockQ_ret ?_)
   refine fin1 (rs_c rfl) ?_
   rw [dec_true (eq_of_take hp (by omega) (by omega))]

theorem base_Axes (a b : List Ax) (ha : a.length ≤ 4294967296) (hx0 : ∀ x, x ∈ a → x.Size.L.length ≤ 4294967296) :
    Pur cfg 100 [.c (.sl 3 (a.map Ax.cells)), .c (.sl 3 (b.map Ax.cells))] (vB (decide (a = b))) := by
 refine con_intro Tryz.func100 rfl Tryz.ntmps100 Tryz.results100 rfl ?_
 intro z hz
 refine awp_seq ?_
 refine awp_region rfl ?_
 refine rwp_det rfl rfl (det_assign rfl rfl) ?_
 refine rwp_nil ?_
 refine awp_seq ?_
 refine awp_seq ?_
 refine awp_region rfl ?_
 refine rwp_det rfl rfl (det_move rfl rfl) ?_
 refine rwp_det rfl rfl (det_len_slm rfl el61 rfl) ?_
 refine rwp_det rfl rfl (det_move rfl rfl) ?_
 refine rwp_det rfl rfl (det_len_slm rfl el61 rfl) ?_
 refine rwp_det rfl rfl (det_neq rfl rfl rfl) ?_
 refine rwp_nil ?_
 refine awp_cond rfl (fun c1 => ?_) (fun c1 => ?_)
 ·try simp only [sx, List.length_map] at c1
  refine awp_seq ?_
  refine awp_region rfl ?_
  refine rwp_det rfl rfl (det_assign rfl rfl) ?_
  refine rwp_nil ?_
  refine awp_ret ?_
  repeat (first | refine thenQ_ret ?_ | refine blockQ_ret ?_)
  refine fin1 (rs_c rfl) ?_
  rw [dec_false (fun h => c1 (by rw [h]))]
 ·try simp only [sx, List.length_map] at c1
  refine awp_skip ?_
  refine awp_seq ?_
  refine awp_seq ?_
  refine awp_region rfl ?_
  refine rwp_det rfl rfl (det_assign rfl rfl) ?_
  refine rwp_nil ?_
  refine awp_block ?_
  refine awp_weak ⟨[(5, .c _), (0, .c _), (1, .c _)], []⟩ (Weak.mk [] ⟨VLe.of_eq rfl, VLe.of_eq rfl, VLe.of_eq rfl, trivial⟩ rfl) ?_
  refine awp_loop_k 1 0 rfl rfl (Nat) (fun k => [(5, vI k)]) (fun k => []) (fun k => k ≤ a.length ∧ (a.take k = b.take k)) (fun k => a.length - k) ⟨0, ⟨by omega, rfl⟩, Weak.mk [] ⟨VLe.refl _, VLe.refl _, VLe.refl _, trivial⟩ rfl⟩ ?_
  rintro k ⟨hk, hp⟩
  refine awp_seq ?_
  refine awp_seq ?_
  refine awp_region rfl ?_
  refine rwp_det rfl rfl (det_move rfl rfl) ?_
  refine rwp_det rfl rfl (det_move rfl rfl) ?_
  refine rwp_det rfl rfl (det_len_slm rfl el61 rfl) ?_
  refine rwp_det rfl rfl (det_lss rfl rfl rfl) ?_
  refine rwp_nil ?_
  refine awp_cond rfl (fun c2 => ?_) (fun c2 => ?_)
  ·try simp only [sx, List.length_map] at c2
   obtain ⟨x, hx⟩ := ex_get a k (by omega)
   obtain ⟨y, hy⟩ := ex_get b k (by omega)
   refine awp_skip ?_
   refine awp_seq ?_
   refine awp_block ?_
   refine awp_seq ?_
   refine awp_draw 25 mixed (by kernel_rfl) rfl rfl ?_
   refine td_det rfl rfl (det_move rfl rfl) ?_
   refine td_det rfl rfl (det_move rfl rfl) ?_
   refine td_det rfl rfl (det_index_sl rfl el61 rfl rfl (by omega) (getm hx)) ?_
   refine td_det rfl rfl (det_field_imm rfl fd80_0 rfl) ?_
   refine td_det rfl rfl (det_load_one rfl one9 rfl ptr_imm rfl) ?_
   refine td_det rfl rfl (det_move rfl rfl) ?_
   refine td_det rfl rfl (det_move rfl rfl) ?_
   refine td_det rfl rfl (det_index_sl rfl el61 rfl rfl (by omega) (getm hy)) ?_
   refine td_det rfl rfl (det_field_imm rfl fd80_0 rfl) ?_
   refine td_det rfl rfl (det_load_one rfl one9 rfl ptr_imm rfl) ?_
   refine td_det rfl rfl (det_sneq rfl rfl rfl) ?_
   refine td_det rfl rfl (det_move rfl rfl) ?_
   refine td_lazy [] rfl rfl rfl rfl gv1 trivial (fun g6_11 => det_move rfl rfl) rfl ?_
   refine td_lazy [] rfl rfl rfl rfl gv1 trivial (fun g6_11 => det_move rfl rfl) rfl ?_
   refine td_lazy [(29, _), (30, _)] rfl rfl rfl rfl gv1 ⟨rfl, rfl, rfl, rfl, trivial⟩ (fun g6_11 => det_index_sl rfl el61 rfl rfl (by omega) (getm hx)) rfl ?_
   refine td_lazy [(31, _)] rfl rfl rfl rfl gv1 ⟨rfl, rfl, trivial⟩ (fun g6_11 => det_field_imm rfl fd80_1 rfl) rfl ?_
   refine td_lazy [(32, _)] rfl rfl rfl rfl gv1 ⟨rfl, rfl, trivial⟩ (fun g6_11 => det_load_agg rfl agg42 rfl ptr_imm rfl) rfl ?_
   refine td_lazy [] rfl rfl rfl rfl gv1 trivial (fun g6_11 => det_move rfl rfl) rfl ?_
   refine td_lazy [] rfl rfl rfl rfl gv1 trivial (fun g6_11 => det_move rfl rfl) rfl ?_
   refine td_lazy [(34, _), (35, _)] rfl rfl rfl rfl gv1 ⟨rfl, rfl, rfl, rfl, trivial⟩ (fun g6_11 => det_index_sl rfl el61 rfl rfl (by omega) (getm hy)) rfl ?_
   refine td_lazy [(36, _)] rfl rfl rfl rfl gv1 ⟨rfl, rfl, trivial⟩ (fun g6_11 => det_field_imm rfl fd80_1 rfl) rfl ?_
   refine td_lazy [(37, _)] rfl rfl rfl rfl gv1 ⟨rfl, rfl, trivial⟩ (fun g6_11 => det_load_agg rfl agg42 rfl ptr_imm rfl) rfl ?_
   refine td_lazy [(33, _), (38, _)] rfl rfl rfl rfl gv1 ⟨rfl, rfl, rfl, rfl, trivial⟩ (fun g6_11 => det_call rfl ok69 (base_Lin x.Size y.Size (hx0 x (mem_of_get hx))) ⟨VLe.refl _, rfl, VLe.refl _, rfl, trivial⟩) rfl ?_
   refine td_lazy [(39, _)] rfl rfl rfl rfl gv1 ⟨rfl, rfl, trivial⟩ (fun g6_11 => det_not rfl rfl) rfl ?_
   refine td_det rfl rfl (det_or rfl rfl rfl rfl (fun h => (lzf h))) ?_
   refine td_nil ?_
   refine rwp_nil ?_
   refine awp_cond rfl (fun c3 => ?_) (fun c3 => ?_)
   ·have hne := ax_ne c3
    refine awp_seq ?_
    refine awp_region rfl ?_
    refine rwp_det rfl rfl (det_assign rfl rfl) ?_
    refine rwp_nil ?_
    refine awp_ret ?_
    repeat (first | refine thenQ_ret ?_ | refine blockQ_ret ?_)
    refine fin1 (rs_c rfl) ?_
    rw [dec_false (ne_of_get hx hy hne)]
   ·have heq := ax_yes' c3
    refine awp_skip ?_
    refine awp_region rfl ?_
    refine rwp_det rfl rfl (det_move rfl rfl) ?_
    refine rwp_det rfl rfl (det_add_nw rfl rfl rfl ⟨by omega, by omega⟩) ?_
    refine rwp_det rfl rfl (det_assign rfl rfl) ?_
    refine rwp_nil ?_
    refine ⟨k + 1, ⟨by omega, take_eq_next hx hy hp heq⟩, (by omega), Weak.mk [] ⟨VLe.refl _, VLe.refl _, VLe.refl _, trivial⟩ rfl⟩
  ·try simp only [sx, List.length_map] at c2
   refine awp_exit ?_
   refine awp_seq ?_
   refine awp_region rfl ?_
   refine rwp_det rfl rfl (det_assign rfl rfl) ?_
   refine rwp_nil ?_
   refine awp_ret ?_
   repeat (first | refine thenQ_ret ?_ | refine blockQ_ret ?_)
   refine fin1 (rs_c rfl) ?_
   rw [dec_true (eq_of_take hp (by omega) (by omega))]

theorem base_Def (a b : Df) (h1 : a.Dims.length ≤ 4294967296) (h2 : a.Red.length ≤ 4294967296) (h3 : ∀ x, x ∈ a.Dims → x.Size.L.length ≤ 4294967296) (h4 : ∀ x, x ∈ a.Red → x.Size.L.length ≤ 4294967296) (h5 : a.Body.wt ≤ 4294967296) :
    Pur cfg 36 [vDf a, vDf b] (vB (decide (a = b))) := by
 refine con_intro Tryz.func36 rfl Tryz.ntmps36 Tryz.results36 rfl ?_
 intro z hz
 refine awp_seq ?_
 refine awp_region rfl ?_
 refine rwp_op rfl rfl (ope_box rfl rfl) ?_
 rintro _ _ ⟨b1, rfl, rfl⟩
 refine rwp_op rfl rfl (ope_box rfl rfl) ?_
 rintro _ _ ⟨b2, rfl, rfl⟩
 refine rwp_det rfl rfl (det_assign rfl rfl) ?_
 refine rwp_nil ?_
 refine awp_seq ?_
 refine awp_region rfl ?_
 refine rwp_det rfl rfl (det_field_lit rfl fd63_0 rfl) ?_
 refine rwp_det rfl rfl (det_load_one rfl one9 rfl (ptr_row 1 rfl) rfl) ?_
 refine rwp_det rfl rfl (det_field_lit rfl fd63_0 rfl) ?_
 refine rwp_det rfl rfl (det_load_one rfl one9 rfl (ptr_row 0 rfl) rfl) ?_
 refine rwp_det rfl rfl (det_seql rfl rfl rfl) ?_
 refine rwp_det rfl rfl (det_move rfl rfl) ?_
 refine rwp_lazy [] rfl rfl rfl rfl gv1 trivial (fun g1_5 => det_field_lit rfl fd63_1 rfl) rfl ?_
 refine rwp_lazy [(11, _)] rfl rfl rfl rfl gv1 ⟨rfl, rfl, trivial⟩ (fun g1_5 => det_load_agg rfl agg39 rfl (ptr_row 1 rfl) rfl) rfl ?_
 refine rwp_lazy [] rfl rfl rfl rfl gv1 trivial (fun g1_5 => det_field_lit rfl fd63_1 rfl) rfl ?_
 refine rwp_lazy [(13, _)] rfl rfl rfl rfl gv1 ⟨rfl, rfl, trivial⟩ (fun g1_5 => det_load_agg rfl agg39 rfl (ptr_row 0 rfl) rfl) rfl ?_
 refine rwp_lazy [(12, _), (14, _)] rfl rfl rfl rfl gv1 ⟨rfl, rfl, rfl, rfl, trivial⟩ (fun g1_5 => det_aeql rfl fl39 rfl rfl rfl) rfl ?_
 refine rwp_det rfl rfl (det_and rfl rfl rfl (fun h => h) rfl) ?_
 refine rwp_det rfl rfl (det_move rfl rfl) ?_
 refine rwp_lazy [] rfl rfl rfl rfl gv1 trivial (fun g1_12 => det_field_lit rfl fd63_4 rfl) rfl ?_
 refine rwp_lazy [(18, _)] rfl rfl rfl rfl gv1 ⟨rfl, rfl, trivial⟩ (fun g1_12 => det_load_one rfl one3 rfl (ptr_row 1 rfl) rfl) rfl ?_
 refine rwp_lazy [] rfl rfl rfl rfl gv1 trivial (fun g1_12 => det_field_lit rfl fd63_4 rfl) rfl ?_
 refine rwp_lazy [(20, _)] rfl rfl rfl rfl gv1 ⟨rfl, rfl, trivial⟩ (fun g1_12 => det_load_one rfl one3 rfl (ptr_row 0 rfl) rfl) rfl ?_
 refine rwp_lazy [(19, _), (21, _)] rfl rfl rfl rfl gv1 ⟨rfl, rfl, rfl, rfl, trivial⟩ (fun g1_12 => det_eql rfl rfl rfl) rfl ?_
 refine rwp_det rfl rfl (det_and rfl rfl rfl (fun h => h) rfl) ?_
 refine rwp_det rfl rfl (det_move rfl rfl) ?_
 refine rwp_lazy [] rfl rfl rfl rfl gv1 trivial (fun g1_19 => det_field_lit rfl fd63_2 rfl) rfl ?_
 refine rwp_lazy [(25, _)] rfl rfl rfl rfl gv1 ⟨rfl, rfl, trivial⟩ (fun g1_19 => det_load_one rfl one61 rfl (ptr_row 1 rfl) rfl) rfl ?_
 refine rwp_lazy [] rfl rfl rfl rfl gv1 trivial (fun g1_19 => det_field_lit rfl fd63_2 rfl) rfl ?_
 refine rwp_lazy [(27, _)] rfl rfl rfl rfl gv1 ⟨rfl, rfl, trivial⟩ (fun g1_19 => det_load_one rfl one61 rfl (ptr_row 0 rfl) rfl) rfl ?_
 refine rwp_lazy [(26, _), (28, _)] rfl rfl rfl rfl gv1 ⟨rfl, rfl, rfl, rfl, trivial⟩ (fun g1_19 => det_call rfl ok100 (base_Axes a.Dims b.Dims h1 h3) ⟨VLe.refl _, rfl, VLe.refl _, rfl, trivial⟩) rfl ?_
 refine rwp_det rfl rfl (det_and rfl rfl rfl (fun h => h) rfl) ?_
 refine rwp_det rfl rfl (det_move rfl rfl) ?_
 refine rwp_lazy [] rfl rfl rfl rfl gv1 trivial (fun g1_26 => det_field_lit rfl fd63_3 rfl) rfl ?_
 refine rwp_lazy [(32, _)] rfl rfl rfl rfl gv1 ⟨rfl, rfl, trivial⟩ (fun g1_26 => det_load_one rfl one61 rfl (ptr_row 1 rfl) rfl) rfl ?_
 refine rwp_lazy [] rfl rfl rfl rfl gv1 trivial (fun g1_26 => det_field_lit rfl fd63_3 rfl) rfl ?_
 refine rwp_lazy [(34, _)] rfl rfl rfl rfl gv1 ⟨rfl, rfl, trivial⟩ (fun g1_26 => det_load_one rfl one61 rfl (ptr_row 0 rfl) rfl) rfl ?_
 refine rwp_lazy [(33, _), (35, _)] rfl rfl rfl rfl gv1 ⟨rfl, rfl, rfl, rfl, trivial⟩ (fun g1_26 => det_call rfl ok100 (base_Axes a.Red b.Red h2 h4) ⟨VLe.refl _, rfl, VLe.refl _, rfl, trivial⟩) rfl ?_
 refine rwp_det rfl rfl (det_and rfl rfl rfl (fun h => h) rfl) ?_
 refine rwp_det rfl rfl (det_move rfl rfl) ?_
 refine rwp_lazy [] rfl rfl rfl rfl gv1 trivial (fun g1_33 => det_field_lit rfl fd63_5 rfl) rfl ?_
 refine rwp_lazy [(39, _)] rfl rfl rfl rfl gv1 ⟨rfl, rfl, trivial⟩ (fun g1_33 => det_load_agg rfl agg46 rfl (ptr_row 1 rfl) rfl) rfl ?_
 refine rwp_lazy [] rfl rfl rfl rfl gv1 trivial (fun g1_33 => det_field_lit rfl fd63_5 rfl) rfl ?_
 refine rwp_lazy [(41, _)] rfl rfl rfl rfl gv1 ⟨rfl, rfl, trivial⟩ (fun g1_33 => det_load_agg rfl agg46 rfl (ptr_row 0 rfl) rfl) rfl ?_
 refine rwp_lazy [(40, _), (42, _)] rfl rfl rfl rfl gv1 ⟨rfl, rfl, rfl, rfl, trivial⟩ (fun g1_33 => det_call rfl ok101 (base_Expr a.Body b.Body h5) ⟨VLe.refl _, rfl, VLe.refl _, rfl, trivial⟩) rfl ?_
 refine rwp_det rfl rfl (det_and rfl rfl rfl (fun h => h) rfl) ?_
 refine rwp_det rfl rfl (det_assign rfl rfl) ?_
 refine rwp_nil ?_
 refine awp_ret ?_
 repeat (first | refine thenQ_ret ?_ | refine blockQ_ret ?_)
 refine fin1 (rs_c rfl) ?_
 exact congrArg vB (df_eq a b)

theorem base_Prog (p q : Pg) (hP : p.Ok) (hW : ∀ x, x ∈ p.Params → linsWt x.Dims ≤ 4294967296) :
    Pur cfg 20 [vPg p, vPg q] (vB (decide (p = q))) := by
 refine con_intro Tryz.func20 rfl Tryz.ntmps20 Tryz.results20 rfl ?_
 intro z hz
 have hpp := hP.params
 have hpd := hP.defs
 refine awp_seq ?_
 refine awp_region rfl ?_
 refine rwp_op rfl rfl (ope_box rfl rfl) ?_
 rintro _ _ ⟨b1, rfl, rfl⟩
 refine rwp_op rfl rfl (ope_box rfl rfl) ?_
 rintro _ _ ⟨b2, rfl, rfl⟩
 refine rwp_det rfl rfl (det_assign rfl rfl) ?_
 refine rwp_nil ?_
 refine awp_seq ?_
 refine awp_seq ?_
 refine awp_region rfl ?_
 refine rwp_det rfl rfl (det_field_lit rfl fd27_0 rfl) ?_
 refine rwp_det rfl rfl (det_load_one rfl one22 rfl (ptr_row 1 rfl) rfl) ?_
 refine rwp_det rfl rfl (det_field_lit rfl fd27_0 rfl) ?_
 refine rwp_det rfl rfl (det_load_one rfl one22 rfl (ptr_row 0 rfl) rfl) ?_
 refine rwp_det rfl rfl (det_call rfl ok27 (base_Strings p.Sizes q.Sizes hP.sizes) ⟨VLe.refl _, rfl, VLe.refl _, rfl, trivial⟩) ?_
 refine rwp_det rfl rfl (det_not rfl rfl) ?_
 refine rwp_det rfl rfl (det_move rfl rfl) ?_
 refine rwp_lazy [] rfl rfl rfl rfl gv1 trivial (fun g1_6 => det_field_lit rfl fd27_1 rfl) rfl ?_
 refine rwp_lazy [(14, _)] rfl rfl rfl rfl gv1 ⟨rfl, rfl, trivial⟩ (fun g1_6 => det_load_one rfl one23 rfl (ptr_row 1 rfl) rfl) rfl ?_
 refine rwp_lazy [] rfl rfl rfl rfl gv1 trivial (fun g1_6 => det_field_lit rfl fd27_1 rfl) rfl ?_
 refine rwp_lazy [(16, _)] rfl rfl rfl rfl gv1 ⟨rfl, rfl, trivial⟩ (fun g1_6 => det_load_one rfl one23 rfl (ptr_row 0 rfl) rfl) rfl ?_
 refine rwp_lazy [(15, _), (17, _)] rfl rfl rfl rfl gv1 ⟨rfl, rfl, rfl, rfl, trivial⟩ (fun g1_6 => det_call rfl ok68 (base_Cons p.Where q.Where hP.wh hP.whs) ⟨VLe.refl _, rfl, VLe.refl _, rfl, trivial⟩) rfl ?_
 refine rwp_lazy [(18, _)] rfl rfl rfl rfl gv1 ⟨rfl, rfl, trivial⟩ (fun g1_6 => det_not rfl rfl) rfl ?_
 refine rwp_det rfl rfl (det_or rfl rfl rfl rfl (fun h => (lzf h))) ?_
 refine rwp_det rfl rfl (det_move rfl rfl) ?_
 refine rwp_lazy [] rfl rfl rfl rfl gv1 trivial (fun g1_14 => det_field_lit rfl fd27_4 rfl) rfl ?_
 refine rwp_lazy [(22, _)] rfl rfl rfl rfl gv1 ⟨rfl, rfl, trivial⟩ (fun g1_14 => det_load_one rfl one22 rfl (ptr_row 1 rfl) rfl) rfl ?_
 refine rwp_lazy [] rfl rfl rfl rfl gv1 trivial (fun g1_14 => det_field_lit rfl fd27_4 rfl) rfl ?_
 refine rwp_lazy [(24, _)] rfl rfl rfl rfl gv1 ⟨rfl, rfl, trivial⟩ (fun g1_14 => det_load_one rfl one22 rfl (ptr_row 0 rfl) rfl) rfl ?_
 refine rwp_lazy [(23, _), (25, _)] rfl rfl rfl rfl gv1 ⟨rfl, rfl, rfl, rfl, trivial⟩ (fun g1_14 => det_call rfl ok27 (base_Strings p.Outs q.Outs hP.outs) ⟨VLe.refl _, rfl, VLe.refl _, rfl, trivial⟩) rfl ?_
 refine rwp_lazy [(26, _)] rfl rfl rfl rfl gv1 ⟨rfl, rfl, trivial⟩ (fun g1_14 => det_not rfl rfl) rfl ?_
 refine rwp_det rfl rfl (det_or rfl rfl rfl rfl (fun h => (lzf h))) ?_
 refine rwp_det rfl rfl (det_move rfl rfl) ?_
 refine rwp_lazy [] rfl rfl rfl rfl gv1 trivial (fun g1_22 => det_field_lit rfl fd27_2 rfl) rfl ?_
 refine rwp_lazy [(30, _)] rfl rfl rfl rfl gv1 ⟨rfl, rfl, trivial⟩ (fun g1_22 => det_load_one rfl one24 rfl (ptr_row 1 rfl) rfl) rfl ?_
 refine rwp_lazy [(31, _)] rfl rfl rfl rfl gv1 ⟨rfl, rfl, trivial⟩ (fun g1_22 => det_len_slm rfl el24 rfl) rfl ?_
 refine rwp_lazy [] rfl rfl rfl rfl gv1 trivial (fun g1_22 => det_field_lit rfl fd27_2 rfl) rfl ?_
 refine rwp_lazy [(33, _)] rfl rfl rfl rfl gv1 ⟨rfl, rfl, trivial⟩ (fun g1_22 => det_load_one rfl one24 rfl (ptr_row 0 rfl) rfl) rfl ?_
 refine rwp_lazy [(34, _)] rfl rfl rfl rfl gv1 ⟨rfl, rfl, trivial⟩ (fun g1_22 => det_len_slm rfl el24 rfl) rfl ?_
 refine rwp_lazy [(32, _), (35, _)] rfl rfl rfl rfl gv1 ⟨rfl, rfl, rfl, rfl, trivial⟩ (fun g1_22 => det_neq rfl rfl rfl) rfl ?_
 refine rwp_det rfl rfl (det_or rfl rfl rfl rfl (fun h => (lzf h))) ?_
 refine rwp_det rfl rfl (det_move rfl rfl) ?_
 refine rwp_lazy [] rfl rfl rfl rfl gv1 trivial (fun g1_31 => det_field_lit rfl fd27_3 rfl) rfl ?_
 refine rwp_lazy [(39, _)] rfl rfl rfl rfl gv1 ⟨rfl, rfl, trivial⟩ (fun g1_31 => det_load_one rfl one25 rfl (ptr_row 1 rfl) rfl) rfl ?_
 refine rwp_lazy [(40, _)] rfl rfl rfl rfl gv1 ⟨rfl, rfl, trivial⟩ (fun g1_31 => det_len_slm rfl el25 rfl) rfl ?_
 refine rwp_lazy [] rfl rfl rfl rfl gv1 trivial (fun g1_31 => det_field_lit rfl fd27_3 rfl) rfl ?_
 refine rwp_lazy [(42, _)] rfl rfl rfl rfl gv1 ⟨rfl, rfl, trivial⟩ (fun g1_31 => det_load_one rfl one25 rfl (ptr_row 0 rfl) rfl) rfl ?_
 refine rwp_lazy [(43, _)] rfl rfl rfl rfl gv1 ⟨rfl, rfl, trivial⟩ (fun g1_31 => det_len_slm rfl el25 rfl) rfl ?_
 refine rwp_lazy [(41, _), (44, _)] rfl rfl rfl rfl gv1 ⟨rfl, rfl, rfl, rfl, trivial⟩ (fun g1_31 => det_neq rfl rfl rfl) rfl ?_
 refine rwp_det rfl rfl (det_or rfl rfl rfl rfl (fun h => (lzf h))) ?_
 refine rwp_nil ?_
 refine awp_cond rfl (fun c1 => ?_) (fun c1 => ?_)
 ·have hne := pr_t c1
  refine awp_seq ?_
  refine awp_region rfl ?_
  refine rwp_det rfl rfl (det_assign rfl rfl) ?_
  refine rwp_nil ?_
  refine awp_ret ?_
  repeat (first | refine thenQ_ret ?_ | refine blockQ_ret ?_)
  refine fin1 (rs_c rfl) ?_
  rw [dec_false hne]
 ·obtain ⟨k1, k2, k3, k4, k5⟩ := pr_f c1
  refine awp_skip ?_
  refine awp_seq ?_
  refine awp_seq ?_
  refine awp_region rfl ?_
  refine rwp_det rfl rfl (det_assign rfl rfl) ?_
  refine rwp_nil ?_
  refine awp_block ?_
  refine awp_weak ⟨[(5, .c _), (2, .c _), (3, .c _)], [_, _]⟩ (Weak.mk [true, true] ⟨VLe.of_eq rfl, VLe.of_eq rfl, VLe.of_eq rfl, trivial⟩ rfl) ?_
  refine awp_loop_k 1 0 rfl rfl (Nat) (fun k => [(5, vI k)]) (fun k => []) (fun k => k ≤ p.Params.length ∧ (p.Params.take k = q.Params.take k)) (fun k => p.Params.length - k) ⟨0, ⟨by omega, rfl⟩, Weak.mk [true, true] ⟨VLe.refl _, VLe.refl _, VLe.refl _, trivial⟩ rfl⟩ ?_
  rintro k ⟨hk, hp⟩
  refine awp_seq ?_
  refine awp_seq ?_
  refine awp_region rfl ?_
  refine rwp_det rfl rfl (det_move rfl rfl) ?_
  refine rwp_det rfl rfl (det_field_lit rfl fd27_2 rfl) ?_
  refine rwp_det rfl rfl (det_load_one rfl one24 rfl (ptr_row 1 rfl) rfl) ?_
  refine rwp_det rfl rfl (det_len_slm rfl el24 rfl) ?_
  refine rwp_det rfl rfl (det_lss rfl rfl rfl) ?_
  refine rwp_nil ?_
  refine awp_cond rfl (fun c2 => ?_) (fun c2 => ?_)
  ·try simp only [sx, List.length_map] at c2
   obtain ⟨x, hx⟩ := ex_get p.Params k (by omega)
   obtain ⟨y, hy⟩ := ex_get q.Params k (by omega)
   refine awp_skip ?_
   refine awp_seq ?_
   refine awp_block ?_
   refine awp_seq ?_
   refine awp_draw 44 mixed (by kernel_rfl) rfl rfl ?_
   refine td_det rfl rfl (det_field_lit rfl fd27_2 rfl) ?_
   refine td_det rfl rfl (det_load_one rfl one24 rfl (ptr_row 1 rfl) rfl) ?_
   refine td_det rfl rfl (det_move rfl rfl) ?_
   refine td_det rfl rfl (det_index_sl rfl el24 rfl rfl (by omega) (getm hx)) ?_
   refine td_det rfl rfl (det_field_imm rfl fd77_0 rfl) ?_
   refine td_det rfl rfl (det_load_one rfl one9 rfl ptr_imm rfl) ?_
   refine td_det rfl rfl (det_field_lit rfl fd27_2 rfl) ?_
   refine td_det rfl rfl (det_load_one rfl one24 rfl (ptr_row 0 rfl) rfl) ?_
   refine td_det rfl rfl (det_move rfl rfl) ?_
   refine td_det rfl rfl (det_index_sl rfl el24 rfl rfl (by omega) (getm hy)) ?_
   refine td_det rfl rfl (det_field_imm rfl fd77_0 rfl) ?_
   refine td_det rfl rfl (det_load_one rfl one9 rfl ptr_imm rfl) ?_
   refine td_det rfl rfl (det_sneq rfl rfl rfl) ?_
   refine td_det rfl rfl (det_move rfl rfl) ?_
   refine td_lazy [] rfl rfl rfl rfl gv1 trivial (fun g6_13 => det_field_lit rfl fd27_2 rfl) rfl ?_
   refine td_lazy [(68, _)] rfl rfl rfl rfl gv1 ⟨rfl, rfl, trivial⟩ (fun g6_13 => det_load_one rfl one24 rfl (ptr_row 1 rfl) rfl) rfl ?_
   refine td_lazy [] rfl rfl rfl rfl gv1 trivial (fun g6_13 => det_move rfl rfl) rfl ?_
   refine td_lazy [(69, _), (70, _)] rfl rfl rfl rfl gv1 ⟨rfl, rfl, rfl, rfl, trivial⟩ (fun g6_13 => det_index_sl rfl el24 rfl rfl (by omega) (getm hx)) rfl ?_
   refine td_lazy [(71, _)] rfl rfl rfl rfl gv1 ⟨rfl, rfl, trivial⟩ (fun g6_13 => det_field_imm rfl fd77_1 rfl) rfl ?_
   refine td_lazy [(72, _)] rfl rfl rfl rfl gv1 ⟨rfl, rfl, trivial⟩ (fun g6_13 => det_load_agg rfl agg39 rfl ptr_imm rfl) rfl ?_
   refine td_lazy [] rfl rfl rfl rfl gv1 trivial (fun g6_13 => det_field_lit rfl fd27_2 rfl) rfl ?_
   refine td_lazy [(74, _)] rfl rfl rfl rfl gv1 ⟨rfl, rfl, trivial⟩ (fun g6_13 => det_load_one rfl one24 rfl (ptr_row 0 rfl) rfl) rfl ?_
   refine td_lazy [] rfl rfl rfl rfl gv1 trivial (fun g6_13 => det_move rfl rfl) rfl ?_
   refine td_lazy [(75, _), (76, _)] rfl rfl rfl rfl gv1 ⟨rfl, rfl, rfl, rfl, trivial⟩ (fun g6_13 => det_index_sl rfl el24 rfl rfl (by omega) (getm hy)) rfl ?_
   refine td_lazy [(77, _)] rfl rfl rfl rfl gv1 ⟨rfl, rfl, trivial⟩ (fun g6_13 => det_field_imm rfl fd77_1 rfl) rfl ?_
   refine td_lazy [(78, _)] rfl rfl rfl rfl gv1 ⟨rfl, rfl, trivial⟩ (fun g6_13 => det_load_agg rfl agg39 rfl ptr_imm rfl) rfl ?_
   refine td_lazy [(73, _), (79, _)] rfl rfl rfl rfl gv1 ⟨rfl, rfl, rfl, rfl, trivial⟩ (fun g6_13 => det_aneq rfl fl39 rfl rfl rfl) rfl ?_
   refine td_det rfl rfl (det_or rfl rfl rfl rfl (fun h => (lzf h))) ?_
   refine td_det rfl rfl (det_move rfl rfl) ?_
   refine td_lazy [] rfl rfl rfl rfl gv1 trivial (fun g6_28 => det_field_lit rfl fd27_2 rfl) rfl ?_
   refine td_lazy [(83, _)] rfl rfl rfl rfl gv1 ⟨rfl, rfl, trivial⟩ (fun g6_28 => det_load_one rfl one24 rfl (ptr_row 1 rfl) rfl) rfl ?_
   refine td_lazy [] rfl rfl rfl rfl gv1 trivial (fun g6_28 => det_move rfl rfl) rfl ?_
   refine td_lazy [(84, _), (85, _)] rfl rfl rfl rfl gv1 ⟨rfl, rfl, rfl, rfl, trivial⟩ (fun g6_28 => det_index_sl rfl el24 rfl rfl (by omega) (getm hx)) rfl ?_
   refine td_lazy [(86, _)] rfl rfl rfl rfl gv1 ⟨rfl, rfl, trivial⟩ (fun g6_28 => det_field_imm rfl fd77_2 rfl) rfl ?_
   refine td_lazy [(87, _)] rfl rfl rfl rfl gv1 ⟨rfl, rfl, trivial⟩ (fun g6_28 => det_load_one rfl one54 rfl ptr_imm rfl) rfl ?_
   refine td_lazy [] rfl rfl rfl rfl gv1 trivial (fun g6_28 => det_field_lit rfl fd27_2 rfl) rfl ?_
   refine td_lazy [(89, _)] rfl rfl rfl rfl gv1 ⟨rfl, rfl, trivial⟩ (fun g6_28 => det_load_one rfl one24 rfl (ptr_row 0 rfl) rfl) rfl ?_
   refine td_lazy [] rfl rfl rfl rfl gv1 trivial (fun g6_28 => det_move rfl rfl) rfl ?_
   refine td_lazy [(90, _), (91, _)] rfl rfl rfl rfl gv1 ⟨rfl, rfl, rfl, rfl, trivial⟩ (fun g6_28 => det_index_sl rfl el24 rfl rfl (by omega) (getm hy)) rfl ?_
   refine td_lazy [(92, _)] rfl rfl rfl rfl gv1 ⟨rfl, rfl, trivial⟩ (fun g6_28 => det_field_imm rfl fd77_2 rfl) rfl ?_
   refine td_lazy [(93, _)] rfl rfl rfl rfl gv1 ⟨rfl, rfl, trivial⟩ (fun g6_28 => det_load_one rfl one54 rfl ptr_imm rfl) rfl ?_
   refine td_lazy [(88, _), (94, _)] rfl rfl rfl rfl gv1 ⟨rfl, rfl, rfl, rfl, trivial⟩ (fun g6_28 => det_call rfl ok24 (base_Lins x.Dims y.Dims (hP.ps x (mem_of_get hx)).1 (hW x (mem_of_get hx))) ⟨VLe.refl _, rfl, VLe.refl _, rfl, trivial⟩) rfl ?_
   refine td_lazy [(95, _)] rfl rfl rfl rfl gv1 ⟨rfl, rfl, trivial⟩ (fun g6_28 => det_not rfl rfl) rfl ?_
   refine td_det rfl rfl (det_or rfl rfl rfl rfl (fun h => (lzf h))) ?_
   refine td_nil ?_
   refine rwp_nil ?_
   refine awp_cond rfl (fun c3 => ?_) (fun c3 => ?_)
   ·have hne := pm_t c3
    refine awp_seq ?_
    refine awp_region rfl ?_
    refine rwp_det rfl rfl (det_assign rfl rfl) ?_
    refine rwp_nil ?_
    refine awp_ret ?_
    repeat (first | refine thenQ_ret ?_ | refine blockQ_ret ?_)
    refine fin1 (rs_c rfl) ?_
    rw [dec_false (fun h => ne_of_get hx hy hne (by rw [h]))]
   ·have heq := pm_f c3
    refine awp_skip ?_
    refine awp_region rfl ?_
    refine rwp_det rfl rfl (det_move rfl rfl) ?_
    refine rwp_det rfl rfl (det_add_nw rfl rfl rfl ⟨by omega, by omega⟩) ?_
    refine rwp_det rfl rfl (det_assign rfl rfl) ?_
    refine rwp_nil ?_
    refine ⟨k + 1, ⟨by omega, take_eq_next hx hy hp heq⟩, (by omega), Weak.mk [true, true] ⟨VLe.refl _, VLe.refl _, VLe.refl _, trivial⟩ rfl⟩
  ·try simp only [sx, List.length_map] at c2
   have hPe := eq_of_take hp (by omega) k4
   refine awp_exit ?_
   refine awp_seq ?_
   refine awp_seq ?_
   refine awp_region rfl ?_
   refine rwp_det rfl rfl (det_assign rfl rfl) ?_
   refine rwp_nil ?_
   refine awp_block ?_
   refine awp_weak ⟨[(6, .c _), (2, .c _), (3, .c _)], [_, _]⟩ (Weak.mk [true, true] ⟨VLe.of_eq rfl, VLe.of_eq rfl, VLe.of_eq rfl, trivial⟩ rfl) ?_
   refine awp_loop_k 1 0 rfl rfl (Nat) (fun k => [(6, vI k)]) (fun k => []) (fun k => k ≤ p.Defs.length ∧ (p.Defs.take k = q.Defs.take k)) (fun k => p.Defs.length - k) ⟨0, ⟨by omega, rfl⟩, Weak.mk [true, true] ⟨VLe.refl _, VLe.refl _, VLe.refl _, trivial⟩ rfl⟩ ?_
   rintro k ⟨hk, hq⟩
   refine awp_seq ?_
   refine awp_seq ?_
   refine awp_region rfl ?_
   refine rwp_det rfl rfl (det_move rfl rfl) ?_
   refine rwp_det rfl rfl (det_field_lit rfl fd27_3 rfl) ?_
   refine rwp_det rfl rfl (det_load_one rfl one25 rfl (ptr_row 1 rfl) rfl) ?_
   refine rwp_det rfl rfl (det_len_slm rfl el25 rfl) ?_
   refine rwp_det rfl rfl (det_lss rfl rfl rfl) ?_
   refine rwp_nil ?_
   refine awp_cond rfl (fun c4 => ?_) (fun c4 => ?_)
   ·try simp only [sx, List.length_map] at c4
    obtain ⟨x, hx⟩ := ex_get p.Defs k (by omega)
    obtain ⟨y, hy⟩ := ex_get q.Defs k (by omega)
    refine awp_skip ?_
    refine awp_seq ?_
    refine awp_block ?_
    refine awp_seq ?_
    refine awp_draw 12 mixed (by kernel_rfl) rfl rfl ?_
    refine td_det rfl rfl (det_field_lit rfl fd27_3 rfl) ?_
    refine td_det rfl rfl (det_load_one rfl one25 rfl (ptr_row 1 rfl) rfl) ?_
    refine td_det rfl rfl (det_move rfl rfl) ?_
    refine td_det rfl rfl (det_index_sl rfl el25 rfl rfl (by omega) (getm hx)) ?_
    refine td_det rfl rfl (det_load_agg rfl agg63 rfl ptr_imm rfl) ?_
    refine td_det rfl rfl (det_field_lit rfl fd27_3 rfl) ?_
    refine td_det rfl rfl (det_load_one rfl one25 rfl (ptr_row 0 rfl) rfl) ?_
    refine td_det rfl rfl (det_move rfl rfl) ?_
    refine td_det rfl rfl (det_index_sl rfl el25 rfl rfl (by omega) (getm hy)) ?_
    refine td_det rfl rfl (det_load_agg rfl agg63 rfl ptr_imm rfl) ?_
    refine td_det rfl rfl (det_call rfl ok36 (base_Def x y (by have := (hP.ds x (mem_of_get hx)).1; omega) (by have := (hP.ds x (mem_of_get hx)).2.1; omega) (hP.ds x (mem_of_get hx)).2.2.1 (hP.ds x (mem_of_get hx)).2.2.2.1 (hP.ds x (mem_of_get hx)).2.2.2.2) ⟨VLe.refl _, rfl, VLe.refl _, rfl, trivial⟩) ?_
    refine td_det rfl rfl (det_not rfl rfl) ?_
    refine td_nil ?_
    refine rwp_nil ?_
    refine awp_cond rfl (fun c5 => ?_) (fun c5 => ?_)
    ·try simp only [sx, List.length_map] at c5
     refine awp_seq ?_
     refine awp_region rfl ?_
     refine rwp_det rfl rfl (det_assign rfl rfl) ?_
     refine rwp_nil ?_
     refine awp_ret ?_
     repeat (first | refine thenQ_ret ?_ | refine blockQ_ret ?_)
     refine fin1 (rs_c rfl) ?_
     rw [dec_false (fun h => ne_of_get hx hy c5 (by rw [h]))]
    ·try simp only [sx, List.length_map] at c5
     refine awp_skip ?_
     refine awp_region rfl ?_
     refine rwp_det rfl rfl (det_move rfl rfl) ?_
     refine rwp_det rfl rfl (det_add_nw rfl rfl rfl ⟨by omega, by omega⟩) ?_
     refine rwp_det rfl rfl (det_assign rfl rfl) ?_
     refine rwp_nil ?_
     refine ⟨k + 1, ⟨by omega, take_eq_next hx hy hq c5⟩, (by omega), Weak.mk [true, true] ⟨VLe.refl _, VLe.refl _, VLe.refl _, trivial⟩ rfl⟩
   ·try simp only [sx, List.length_map] at c4
    refine awp_exit ?_
    refine awp_seq ?_
    refine awp_region rfl ?_
    refine rwp_det rfl rfl (det_assign rfl rfl) ?_
    refine rwp_nil ?_
    refine awp_ret ?_
    repeat (first | refine thenQ_ret ?_ | refine blockQ_ret ?_)
    refine fin1 (rs_c rfl) ?_
    rw [dec_true (pg_yes k1 k2 k3 hPe (eq_of_take hq (by omega) k5))]

theorem law_ProgramQueries (p q : Pg) (s : ByteArray) (hF : p.Fit) (hG : q.Fit) :
    Pur cfg 7 [vPg p, vPg q, vS s] (vB true) := by
 refine con_intro Tryz.func7 rfl Tryz.ntmps7 Tryz.results7 rfl ?_
 intro z hz
 refine awp_seq ?_
 refine awp_region rfl ?_
 refine rwp_op rfl rfl (ope_box rfl rfl) ?_
 rintro _ _ ⟨b1, rfl, rfl⟩
 refine rwp_op rfl rfl (ope_box rfl rfl) ?_
 rintro _ _ ⟨b2, rfl, rfl⟩
 refine rwp_det rfl rfl (det_assign rfl rfl) ?_
 refine rwp_nil ?_
 refine awp_seq ?_
 refine awp_seq ?_
 refine awp_region rfl ?_
 refine rwp_det rfl rfl (det_load_agg rfl agg27 rfl (ptr_row 1 rfl) rfl) ?_
 refine rwp_det rfl rfl (det_call rfl ok11 (ref17_Long p 300 hF (by omega)) ⟨VLe.refl _, rfl, VLe.refl _, rfl, trivial⟩) ?_
 refine rwp_det rfl rfl (det_move rfl rfl) ?_
 refine rwp_lazy [] rfl rfl rfl rfl gv1 trivial (fun g1_2 => det_load_agg rfl agg27 rfl (ptr_row 0 rfl) rfl) rfl ?_
 refine rwp_lazy [(17, _)] rfl rfl rfl rfl gv1 ⟨rfl, rfl, trivial⟩ (fun g1_2 => det_call rfl ok11 (ref17_Long q 300 hG (by omega)) ⟨VLe.refl _, rfl, VLe.refl _, rfl, trivial⟩) rfl ?_
 refine rwp_det rfl rfl (det_or rfl rfl rfl rfl (fun h => (lzf h))) ?_
 refine rwp_det rfl rfl (det_move rfl rfl) ?_
 refine rwp_lazy [] rfl rfl rfl rfl gv1 trivial (fun g1_6 => det_move rfl rfl) rfl ?_
 refine rwp_lazy [(21, _)] rfl rfl rfl rfl gv1 ⟨rfl, rfl, trivial⟩ (fun g1_6 => det_len_str rfl un9 rfl) rfl ?_
 refine rwp_lazy [(22, _)] rfl rfl rfl rfl gv1 ⟨rfl, rfl, trivial⟩ (fun g1_6 => det_gtr rfl rfl rfl) rfl ?_
 refine rwp_det rfl rfl (det_or rfl rfl rfl rfl (fun h => (lzf h))) ?_
 refine rwp_nil ?_
 refine awp_cond rfl (fun c1 => ?_) (fun c1 => ?_)
 ·refine awp_seq ?_
  refine awp_region rfl ?_
  refine rwp_det rfl rfl (det_call rfl ok12 law17_examples trivial) ?_
  refine rwp_det rfl rfl (det_assign rfl rfl) ?_
  refine rwp_nil ?_
  refine awp_ret ?_
  repeat (first | refine thenQ_ret ?_ | refine blockQ_ret ?_)
  refine fin1 (rs_c rfl) ?_
  rfl
 ·obtain ⟨k1, k2⟩ := q_f c1
  have hS1 := long_short k1
  have hP := hS1.ok
  have hQ := (long_short k2).ok
  obtain ⟨hf1, hf2⟩ := hS1.find s
  have hd12 := hS1.defs
  have hWt : ∀ x, x ∈ p.Params → linsWt x.Dims ≤ 4294967296 := fun x hx => by obtain ⟨h1, h2⟩ := hS1.ps x hx; have := linsWt_le h2; omega
  refine awp_skip ?_
  refine awp_seq ?_
  refine awp_region rfl ?_
  refine rwp_det rfl rfl (det_load_agg rfl agg27 rfl (ptr_row 1 rfl) rfl) ?_
  refine rwp_det rfl rfl (det_move rfl rfl) ?_
  refine rwp_det rfl rfl (det_call rfl ok22 (program_Find p s hP) ⟨VLe.refl _, rfl, VLe.refl _, rfl, trivial⟩) ?_
  refine rwp_det rfl rfl (det_move_tup rfl rfl) ?_
  refine rwp_det rfl rfl (det_ex_agg rfl rfl rfl) ?_
  refine rwp_det rfl rfl (det_ex_c rfl rfl rfl) ?_
  refine rwp_det rfl rfl (det_ex_c rfl rfl rfl) ?_
  refine rwp_op rfl rfl (ope_alloc rfl zr39) ?_
  rintro _ _ ⟨b3, rfl, rfl⟩
  refine rwp_det0 rfl rfl (det_store rfl sz39 rfl rfl rfl (st_row 0 rfl rfl)) ?_
  refine rwp_det rfl rfl (det_assign rfl rfl) ?_
  refine rwp_det rfl rfl (det_assign rfl rfl) ?_
  refine rwp_nil ?_
  refine awp_seq ?_
  refine awp_region rfl ?_
  refine rwp_det rfl rfl (det_load_agg rfl agg27 rfl (ptr_row 2 rfl) rfl) ?_
  refine rwp_det rfl rfl (det_move rfl rfl) ?_
  refine rwp_det rfl rfl (det_call rfl ok23 (ref17_Find p s hP) ⟨VLe.refl _, rfl, VLe.refl _, rfl, trivial⟩) ?_
  refine rwp_det rfl rfl (det_move_tup rfl rfl) ?_
  refine rwp_det rfl rfl (det_ex_agg rfl rfl rfl) ?_
  refine rwp_det rfl rfl (det_ex_c rfl rfl rfl) ?_
  refine rwp_det rfl rfl (det_ex_c rfl rfl rfl) ?_
  refine rwp_op rfl rfl (ope_alloc rfl zr39) ?_
  rintro _ _ ⟨b4, rfl, rfl⟩
  refine rwp_det0 rfl rfl (det_store rfl sz39 rfl rfl rfl (st_row 0 rfl rfl)) ?_
  refine rwp_det rfl rfl (det_assign rfl rfl) ?_
  refine rwp_det rfl rfl (det_assign rfl rfl) ?_
  refine rwp_nil ?_
  refine awp_seq ?_
  refine awp_seq ?_
  refine awp_draw 23 mixed (by kernel_rfl) rfl rfl ?_
  refine td_det rfl rfl (det_load_agg rfl agg39 rfl (ptr_row 1 rfl) rfl) ?_
  refine td_det rfl rfl (det_load_agg rfl agg39 rfl (ptr_row 0 rfl) rfl) ?_
  refine td_det rfl rfl (det_aneq rfl fl39 rfl rfl rfl) ?_
  refine td_det rfl rfl (det_move rfl rfl) ?_
  refine td_lazy [] rfl rfl rfl rfl gv1 trivial (fun g5_3 => det_move rfl rfl) rfl ?_
  refine td_lazy [] rfl rfl rfl rfl gv1 trivial (fun g5_3 => det_move rfl rfl) rfl ?_
  refine td_lazy [(44, _), (45, _)] rfl rfl rfl rfl gv1 ⟨rfl, rfl, rfl, rfl, trivial⟩ (fun g5_3 => det_call rfl ok24 (base_Lins _ _ (by omega) (by omega)) ⟨VLe.refl _, rfl, VLe.refl _, rfl, trivial⟩) rfl ?_
  refine td_lazy [(46, _)] rfl rfl rfl rfl gv1 ⟨rfl, rfl, trivial⟩ (fun g5_3 => det_not rfl rfl) rfl ?_
  refine td_det rfl rfl (det_or rfl rfl rfl rfl (fun h => (lzf h))) ?_
  refine td_det rfl rfl (det_move rfl rfl) ?_
  refine td_lazy [] rfl rfl rfl rfl gv1 trivial (fun g5_9 => det_move rfl rfl) rfl ?_
  refine td_lazy [] rfl rfl rfl rfl gv1 trivial (fun g5_9 => det_move rfl rfl) rfl ?_
  refine td_lazy [(50, _), (51, _)] rfl rfl rfl rfl gv1 ⟨rfl, rfl, rfl, rfl, trivial⟩ (fun g5_9 => det_bneq rfl un4 rfl rfl) rfl ?_
  refine td_det rfl rfl (det_or rfl rfl rfl rfl (fun h => (lzf h))) ?_
  refine td_det rfl rfl (det_move rfl rfl) ?_
  refine td_lazy [] rfl rfl rfl rfl gv1 trivial (fun g5_14 => det_load_agg rfl agg27 rfl (ptr_row 3 rfl) rfl) rfl ?_
  refine td_lazy [] rfl rfl rfl rfl gv1 trivial (fun g5_14 => det_move rfl rfl) rfl ?_
  refine td_lazy [(55, _), (56, _)] rfl rfl rfl rfl gv1 ⟨rfl, rfl, rfl, rfl, trivial⟩ (fun g5_14 => det_call rfl ok25 (program_IndexOf p s hP.defs) ⟨VLe.refl _, rfl, VLe.refl _, rfl, trivial⟩) rfl ?_
  refine td_lazy [] rfl rfl rfl rfl gv1 trivial (fun g5_14 => det_load_agg rfl agg27 rfl (ptr_row 3 rfl) rfl) rfl ?_
  refine td_lazy [] rfl rfl rfl rfl gv1 trivial (fun g5_14 => det_move rfl rfl) rfl ?_
  refine td_lazy [(58, _), (59, _)] rfl rfl rfl rfl gv1 ⟨rfl, rfl, rfl, rfl, trivial⟩ (fun g5_14 => det_call rfl ok26 (ref17_IndexOf p s hP.defs) ⟨VLe.refl _, rfl, VLe.refl _, rfl, trivial⟩) rfl ?_
  refine td_lazy [(57, _), (60, _)] rfl rfl rfl rfl gv1 ⟨rfl, rfl, rfl, rfl, trivial⟩ (fun g5_14 => det_neq rfl rfl rfl) rfl ?_
  refine td_det rfl rfl (det_or rfl rfl rfl rfl (fun h => (lzf h))) ?_
  refine td_nil ?_
  refine rwp_nil ?_
  refine awp_cond rfl (fun c2 => ?_) (fun c2 => ?_)
  ·exact (q_no c2).elim
  ·refine awp_skip ?_
   refine awp_seq ?_
   refine awp_seq ?_
   refine awp_region rfl ?_
   refine rwp_det rfl rfl (det_assign rfl rfl) ?_
   refine rwp_nil ?_
   refine awp_block ?_
   refine awp_weak ⟨[(13, .c _), (3, .c _), (4, .c _)], [_, _]⟩ (Weak.mk [false, false, true, true] ⟨VLe.of_eq rfl, VLe.of_eq rfl, VLe.of_eq rfl, trivial⟩ rfl) ?_
   refine awp_loop_k 1 0 rfl rfl (Nat) (fun k => [(13, vI k)]) (fun k => []) (fun k => k ≤ p.Defs.length) (fun k => p.Defs.length - k) ⟨0, (by omega), Weak.mk [true, true] ⟨VLe.refl _, VLe.refl _, VLe.refl _, trivial⟩ rfl⟩ ?_
   rintro k hk
   refine awp_seq ?_
   refine awp_seq ?_
   refine awp_region rfl ?_
   refine rwp_det rfl rfl (det_move rfl rfl) ?_
   refine rwp_det rfl rfl (det_field_lit rfl fd27_3 rfl) ?_
   refine rwp_det rfl rfl (det_load_one rfl one25 rfl (ptr_row 1 rfl) rfl) ?_
   refine rwp_det rfl rfl (det_len_slm rfl el25 rfl) ?_
   refine rwp_det rfl rfl (det_lss rfl rfl rfl) ?_
   refine rwp_nil ?_
   refine awp_cond rfl (fun c3 => ?_) (fun c3 => ?_)
   ·try simp only [sx, List.length_map] at c3
    obtain ⟨x, hx⟩ := ex_get p.Defs k (by omega)
    obtain ⟨hd1, hd2, _⟩ := hS1.ds x (mem_of_get hx)
    have hnl : (namesD x).length ≤ 24 := by rw [namesD, List.length_append, List.length_map, List.length_map]; omega
    refine awp_skip ?_
    refine awp_seq ?_
    refine awp_block ?_
    refine awp_seq ?_
    refine awp_draw 14 mixed (by kernel_rfl) rfl rfl ?_
    refine td_det rfl rfl (det_field_lit rfl fd27_3 rfl) ?_
    refine td_det rfl rfl (det_load_one rfl one25 rfl (ptr_row 1 rfl) rfl) ?_
    refine td_det rfl rfl (det_move rfl rfl) ?_
    refine td_det rfl rfl (det_index_sl rfl el25 rfl rfl (by omega) (getm hx)) ?_
    refine td_det rfl rfl (det_load_agg rfl agg63 rfl ptr_imm rfl) ?_
    refine td_det rfl rfl (det_call rfl ok28 (OwnR.pur (program_IndexNames x (by omega) (by omega))) ⟨VLe.refl _, rfl, trivial⟩) ?_
    refine td_det rfl rfl (det_field_lit rfl fd27_3 rfl) ?_
    refine td_det rfl rfl (det_load_one rfl one25 rfl (ptr_row 1 rfl) rfl) ?_
    refine td_det rfl rfl (det_move rfl rfl) ?_
    refine td_det rfl rfl (det_index_sl rfl el25 rfl rfl (by omega) (getm hx)) ?_
    refine td_det rfl rfl (det_load_agg rfl agg63 rfl ptr_imm rfl) ?_
    refine td_det rfl rfl (det_call rfl ok29 (OwnR.pur (ref17_IndexNames x (by omega) (by omega))) ⟨VLe.refl _, rfl, trivial⟩) ?_
    refine td_det rfl rfl (det_call rfl ok27 (base_Strings _ _ (by omega)) ⟨VLe.refl _, rfl, VLe.refl _, rfl, trivial⟩) ?_
    refine td_det rfl rfl (det_not rfl rfl) ?_
    refine td_nil ?_
    refine rwp_nil ?_
    refine awp_cond rfl (fun c4 => ?_) (fun c4 => ?_)
    ·try simp only [sx, List.length_map] at c4
     exact (c4 trivial).elim
    ·try simp only [sx, List.length_map] at c4
     refine awp_skip ?_
     refine awp_region rfl ?_
     refine rwp_det rfl rfl (det_move rfl rfl) ?_
     refine rwp_det rfl rfl (det_add_nw rfl rfl rfl ⟨by omega, by omega⟩) ?_
     refine rwp_det rfl rfl (det_assign rfl rfl) ?_
     refine rwp_nil ?_
     refine ⟨k + 1, (by omega), (by omega), Weak.mk [true, true] ⟨VLe.refl _, VLe.refl _, VLe.refl _, trivial⟩ rfl⟩
   ·try simp only [sx, List.length_map] at c3
    refine awp_exit ?_
    refine awp_seq ?_
    refine awp_draw 16 mixed (by kernel_rfl) rfl rfl ?_
    refine td_det rfl rfl (det_load_agg rfl agg27 rfl (ptr_row 1 rfl) rfl) ?_
    refine td_det rfl rfl (det_load_agg rfl agg27 rfl (ptr_row 0 rfl) rfl) ?_
    refine td_det rfl rfl (det_call rfl ok30 (program_Same p q hP hQ) ⟨VLe.refl _, rfl, VLe.refl _, rfl, trivial⟩) ?_
    refine td_det rfl rfl (det_load_agg rfl agg27 rfl (ptr_row 1 rfl) rfl) ?_
    refine td_det rfl rfl (det_load_agg rfl agg27 rfl (ptr_row 0 rfl) rfl) ?_
    refine td_det rfl rfl (det_call rfl ok20 (base_Prog p q hP hWt) ⟨VLe.refl _, rfl, VLe.refl _, rfl, trivial⟩) ?_
    refine td_det rfl rfl (det_beql rfl un4 rfl rfl) ?_
    refine td_det rfl rfl (det_move rfl rfl) ?_
    refine td_lazy [] rfl rfl rfl rfl gv1 trivial (fun g12_7 => det_load_agg rfl agg27 rfl (ptr_row 1 rfl) rfl) rfl ?_
    refine td_lazy [] rfl rfl rfl rfl gv1 trivial (fun g12_7 => det_load_agg rfl agg27 rfl (ptr_row 1 rfl) rfl) rfl ?_
    refine td_lazy [(92, _), (93, _)] rfl rfl rfl rfl gv1 ⟨rfl, rfl, rfl, rfl, trivial⟩ (fun g12_7 => det_call rfl ok30 (program_Same p p hP hP) ⟨VLe.refl _, rfl, VLe.refl _, rfl, trivial⟩) rfl ?_
    refine td_det rfl rfl (det_and rfl rfl rfl (fun h => h) rfl) ?_
    refine td_det rfl rfl (det_move rfl rfl) ?_
    refine td_lazy [] rfl rfl rfl rfl gv1 trivial (fun g12_12 => det_call rfl ok12 law17_examples trivial) rfl ?_
    refine td_det rfl rfl (det_and rfl rfl rfl (fun h => h) rfl) ?_
    refine td_det rfl rfl (det_assign rfl rfl) ?_
    refine td_nil ?_
    refine rwp_nil ?_
    refine awp_ret ?_
    repeat (first | refine thenQ_ret ?_ | refine blockQ_ret ?_)
    refine fin1 (rs_c rfl) ?_
    simp

end Go.W
