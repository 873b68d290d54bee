/-
  Walks: what functions of the program compute. Printed by wip/gen/mk2.py.
  Conditions: none.
-/
import Derived.Test.YtdbflnlalkfeeaaGreatDoorND
set_option linter.unusedSimpArgs false
set_option linter.unusedVariables false
set_option maxRecDepth 10000
namespace Go.W
open Go Go.Eng Go.Proofs Go.L41 Go.Br
attribute [local irreducible] AWP RWP TD finQ
theorem agg100 : aggT Tryz.prog 100 = some 2 := by kernel_rfl
theorem fd100_0 : fieldT Tryz.prog 100 0 = some (0, 3) := by kernel_rfl
theorem fd100_1 : fieldT Tryz.prog 100 1 = some (1, 3) := by kernel_rfl
theorem ok12 : callOk Tryz.prog 12 = true := by kernel_rfl
theorem ok13 : callOk Tryz.prog 13 = true := by kernel_rfl
theorem ok14 : callOk Tryz.prog 14 = true := by kernel_rfl
theorem ok17 : callOk Tryz.prog 17 = true := by kernel_rfl
theorem ok22 : callOk Tryz.prog 22 = true := by kernel_rfl
theorem ok58 : callOk Tryz.prog 58 = true := by kernel_rfl
theorem ok59 : callOk Tryz.prog 59 = true := by kernel_rfl
theorem ok60 : callOk Tryz.prog 60 = true := by kernel_rfl
theorem ok110 : callOk Tryz.prog 110 = true := by kernel_rfl
theorem one97 : oneT Tryz.prog 97 = true := by kernel_rfl
theorem sm97 : smapT Tryz.prog 97 = some (Value.agg #[(Value.int IntKind.i64 0), (Value.int IntKind.i64 0)]) := by kernel_rfl
theorem sz97 : (Tryz.prog.info? 97).map (·.size) = some 1 := by kernel_rfl
theorem sz100 : (Tryz.prog.info? 100).map (·.size) = some 2 := by kernel_rfl
theorem zr97 : zeroT Tryz.prog 97 = some [(Value.map none)] := by kernel_rfl
theorem zr100 : zeroT Tryz.prog 100 = some [(Value.int IntKind.i64 0), (Value.int IntKind.i64 0)] := by kernel_rfl
theorem touch_step (y : C) (J : List ByteArray → List E → Prop) (hy : ∀ (pre : List ByteArray) (t : ByteArray) (μ : List E), J pre μ → FnCon cfg y [vS t] μ fun r μ' => r = .tup [] ∧ J (pre ++ [t]) μ') (l : List St) (hl : stsWt l ≤ 900000) (ih : ∀ s, s ∈ l → ∀ (pre0 : List ByteArray) (μ : List E), J pre0 μ → Con cfg 58 [vSts s.Body, .c y] μ fun r μ' => r = .tup [] ∧ J (pre0 ++ tchL s.Body) μ') (pre0 : List ByteArray) (μ : List E) (h0 : J pre0 μ) :
    Con cfg 58 [vSts l, .c y] μ fun r μ' => r = .tup [] ∧ J (pre0 ++ tchL l) μ' := by
 refine con_intro Tryz.func58 rfl Tryz.ntmps58 Tryz.results58 rfl ?_
 intro z hz
 have hll := stsWt_len l
 refine sReg rfl <|
  rMv rfl <|
  rwp_det rfl rfl (det_len_slm rfl el23 rfl) <|
  rMv rfl <|
  rwp_nil <|
  awp_block <|
  awp_weak ⟨[(12, .c _), (1, .c _), (10, .c _), (11, .c _)], _⟩ (Weak.regs ⟨VLe.of_eq rfl, VLe.of_eq rfl, VLe.of_eq rfl, VLe.of_eq rfl, trivial⟩) <|
  awp_loop_m 1 rfl (Nat × List E) (fun ⟨k, m⟩ => [(12, vI k)]) (fun ⟨k, m⟩ => m) (fun ⟨k, m⟩ => k ≤ l.length ∧ (J (pre0 ++ tchL (l.take k)) m)) (fun ⟨k, m⟩ => l.length - k) ⟨⟨0, μ⟩, ⟨by omega, by simpa [tchL] using h0⟩, Weak.regs ⟨VLe.refl _, VLe.refl _, VLe.refl _, VLe.refl _, trivial⟩⟩ ?_
 rintro ⟨k, m⟩ ⟨hk, hJ⟩
 refine sReg rfl <|
  rwp_det rfl rfl (det_lss rfl rfl rfl) <|
  rwp_nil <|
  awp_seq <|
  awp_cond rfl (fun c1 => ?_) (fun c1 => ?_)
 ·try simp only [sx] at c1
  obtain ⟨s, hs⟩ := ex_get l k (by omega)
  have hsw := stsWt_mem (mem_of_get hs)
  have hse := St.wt_eq s
  have hrl := thin_len (sortB (readsA (nodes s.E)))
  have hrs := sortB_len (readsA (nodes s.E))
  have hra := readsA_len s.E
  have hrt : (readsT s.E).length ≤ 2 * s.E.wt := by unfold readsT; omega
  refine awp_skip <|
   awp_seq <|
   awp_block <|
   sReg rfl <|
   rwp_det rfl rfl (det_index_sl rfl el23 rfl rfl (by omega) (getmS (by assumption))) <|
   rwp_det rfl rfl (det_load_agg rfl agg54 rfl ptr_imm rfl) <|
   rwp_op rfl rfl (ope_allocN [none, none, none, none, none, some 4, none, none, none, none, none, none, none, none, none, none, some 2, some 4, some 13, some 20] rfl zr54 rfl) ?_
  rintro _ _ ⟨b1, rfl, rfl⟩
  refine rwp_det0 rfl rfl (det_store rfl sz54 rfl rfl rfl (st_row 0 rfl rfl)) <|
   rwp_weak _ (weak_freeze_row 0 rfl 5 _ PLe.ptr) <|
   rwp_nil <|
   awp_seq <|
   sReg rfl <|
   rwp_det rfl rfl (det_field_imm rfl fd54_0 rfl) <|
   rwp_det rfl rfl (det_load_one rfl one3 rfl ptr_imm rfl) <|
   rwp_det rfl rfl (det_eql rfl rfl rfl) <|
   rMv rfl <|
   rLz [] rfl gv1 trivial (fun g3_3 => det_field_imm rfl fd54_0 rfl) rfl <|
   rLz [(20, _)] rfl gv1 ⟨rfl, rfl, trivial⟩ (fun g3_3 => det_load_one rfl one3 rfl ptr_imm rfl) rfl <|
   rLz [(21, _)] rfl gv1 ⟨rfl, rfl, trivial⟩ (fun g3_3 => det_eql rfl rfl rfl) rfl <|
   rwp_det rfl rfl (det_or rfl rfl rfl rfl (fun h => (lzf h))) <|
   rwp_nil <|
   awp_cond rfl (fun c2 => ?_) (fun c2 => ?_)
  ·have hP0 : tchP s = [s.Name] := tch_sto c2
   refine awp_region rfl <|
    rMv rfl <|
    rwp_det rfl rfl (det_field_imm rfl fd54_1 rfl) <|
    rwp_det rfl rfl (det_load_one rfl one9 rfl ptr_imm rfl) <|
    rwp_op rfl rfl (ope_call_val rfl rfl (hy _ s.Name _ hJ) ⟨VLe.refl _, rfl, trivial⟩) ?_
   rintro _ m1 ⟨rfl, g1⟩
   refine rwp_nil <|
    awp_seq <|
    sReg rfl <|
    rwp_det rfl rfl (det_field_imm rfl fd54_5 rfl) <|
    rwp_det rfl rfl (det_load_one rfl one44 rfl ptr_imm rfl) <|
    rwp_det rfl rfl (det_len_slm rfl el44 rfl) <|
    rMv rfl <|
    rwp_nil <|
    awp_block <|
    awp_weak ⟨[(31, .c _), (1, .c _), (5, .c _), (10, .c _), (11, .c _), (12, .c _), (29, .c _), (30, .c _)], _⟩ (Weak.regs ⟨VLe.of_eq rfl, VLe.of_eq rfl, VLe.of_eq rfl, VLe.of_eq rfl, VLe.of_eq rfl, VLe.of_eq rfl, VLe.of_eq rfl, VLe.of_eq rfl, trivial⟩) <|
    awp_loop_m 1 rfl (Nat × List E) (fun ⟨j, m2⟩ => [(31, vI j)]) (fun ⟨j, m2⟩ => m2) (fun ⟨j, m2⟩ => j ≤ s.Idx.length ∧ (J (pre0 ++ tchL (l.take k) ++ tchP s ++ readsI (s.Idx.take j)) m2)) (fun ⟨j, m2⟩ => s.Idx.length - j) ⟨⟨0, _⟩, ⟨by omega, by rw [hP0]; simp only [List.take_zero, readsI, List.flatMap_nil, List.append_nil]; first | exact g1 | exact hJ⟩, Weak.regs ⟨VLe.refl _, VLe.refl _, VLe.refl _, VLe.refl _, VLe.refl _, VLe.refl _, VLe.refl _, VLe.refl _, trivial⟩⟩ ?_
   rintro ⟨j, m2⟩ ⟨hj, hJ2⟩
   refine sReg rfl <|
    rwp_det rfl rfl (det_lss rfl rfl rfl) <|
    rwp_nil <|
    awp_seq <|
    awp_cond rfl (fun c3 => ?_) (fun c3 => ?_)
   ·try simp only [sx] at c3
    obtain ⟨i, hi⟩ := ex_get s.Idx j (by omega)
    refine awp_skip <|
     awp_seq <|
     awp_block <|
     sReg rfl <|
     rwp_det rfl rfl (det_index_sl rfl el44 rfl rfl (by omega) (getm (by assumption))) <|
     rwp_det rfl rfl (det_load_agg rfl agg114 rfl ptr_imm rfl) <|
     rwp_op rfl rfl (ope_allocN [none, some 2, none, some 2] rfl zr114 rfl) ?_
    rintro _ _ ⟨b2, rfl, rfl⟩
    refine rwp_det0 rfl rfl (det_store rfl sz114 rfl rfl rfl (st_row 0 rfl rfl)) <|
     rwp_weak _ (weak_freeze_row 0 rfl 7 _ PLe.ptr) <|
     rwp_nil <|
     sReg rfl <|
     rwp_det rfl rfl (det_field_imm rfl fd114_1 rfl) <|
     rwp_det rfl rfl (det_load_one rfl one9 rfl ptr_imm rfl) <|
     rwp_det rfl rfl (det_sneq rfl rfl rfl) <|
     rwp_nil <|
     awp_cond rfl (fun c4 => ?_) (fun c4 => ?_)
    ·try simp only [sx] at c4
     refine awp_region rfl <|
      rMv rfl <|
      rwp_det rfl rfl (det_field_imm rfl fd114_1 rfl) <|
      rwp_det rfl rfl (det_load_one rfl one9 rfl ptr_imm rfl) <|
      rwp_op rfl rfl (ope_call_val rfl rfl (hy _ i.From _ hJ2) ⟨VLe.refl _, rfl, trivial⟩) ?_
     rintro _ m3 ⟨rfl, g3⟩
     refine rwp_nil <|
      awp_region rfl <|
      rwp_det rfl rfl (det_add_nw rfl rfl rfl ⟨by omega, by omega⟩) <|
      rMv rfl <|
      rwp_nil ?_
     refine ⟨⟨j + 1, _⟩, ⟨by omega, by rw [readsI_next hi, ← List.append_assoc, fromX]; first | (rw [if_neg c4]; exact g3) | (rw [if_pos c4, List.append_nil]; exact hJ2)⟩, (by show s.Idx.length - (j + 1) < s.Idx.length - j; omega), Weak.regs ⟨VLe.refl _, VLe.refl _, VLe.refl _, VLe.refl _, VLe.refl _, VLe.refl _, VLe.refl _, VLe.refl _, trivial⟩⟩
    ·try simp only [sx] at c4
     refine awp_skip <|
      awp_region rfl <|
      rwp_det rfl rfl (det_add_nw rfl rfl rfl ⟨by omega, by omega⟩) <|
      rMv rfl <|
      rwp_nil ?_
     refine ⟨⟨j + 1, _⟩, ⟨by omega, by rw [readsI_next hi, ← List.append_assoc, fromX]; first | (rw [if_neg c4]; exact g3) | (rw [if_pos c4, List.append_nil]; exact hJ2)⟩, (by show s.Idx.length - (j + 1) < s.Idx.length - j; omega), Weak.regs ⟨VLe.refl _, VLe.refl _, VLe.refl _, VLe.refl _, VLe.refl _, VLe.refl _, VLe.refl _, VLe.refl _, trivial⟩⟩
   ·try simp only [sx] at c3
    rw [take_all (l := s.Idx) (k := j) (by omega)] at hJ2
    refine awp_exit <|
     awp_seq <|
     sReg rfl <|
     rwp_det rfl rfl (det_field_imm rfl fd54_6 rfl) <|
     rwp_det rfl rfl (det_load_agg rfl agg52 rfl ptr_imm rfl) <|
     rwp_det rfl rfl (det_call rfl ok110 (OwnR.pur (expr_Reads s.E (by have := stsWt_mem (mem_of_get hs); have := St.wt_eq s; omega))) ⟨VLe.refl _, rfl, trivial⟩) <|
     rwp_det rfl rfl (det_len_slm rfl el72 rfl) <|
     rMv rfl <|
     rwp_nil <|
     awp_block <|
     awp_weak ⟨[(47, .c _), (1, .c _), (5, .c _), (10, .c _), (11, .c _), (12, .c _), (45, .c _), (46, .c _)], _⟩ (Weak.regs ⟨VLe.of_eq rfl, VLe.of_eq rfl, VLe.of_eq rfl, VLe.of_eq rfl, VLe.of_eq rfl, VLe.of_eq rfl, VLe.of_eq rfl, VLe.of_eq rfl, trivial⟩) <|
     awp_loop_m 1 rfl (Nat × List E) (fun ⟨i, m4⟩ => [(47, vI i)]) (fun ⟨i, m4⟩ => m4) (fun ⟨i, m4⟩ => i ≤ (readsT s.E).length ∧ (J (pre0 ++ tchL (l.take k) ++ tchP s ++ readsI s.Idx ++ (readsT s.E).take i) m4)) (fun ⟨i, m4⟩ => (readsT s.E).length - i) ⟨⟨0, m2⟩, ⟨by omega, by simpa using hJ2⟩, Weak.regs ⟨VLe.refl _, VLe.refl _, VLe.refl _, VLe.refl _, VLe.refl _, VLe.refl _, VLe.refl _, VLe.refl _, trivial⟩⟩ ?_
    rintro ⟨i, m4⟩ ⟨hi3, hJ3⟩
    refine sReg rfl <|
     rwp_det rfl rfl (det_lss rfl rfl rfl) <|
     rwp_nil <|
     awp_seq <|
     awp_cond rfl (fun c5 => ?_) (fun c5 => ?_)
    ·try simp only [sx] at c5
     obtain ⟨t, ht⟩ := ex_get (readsT s.E) i (by omega)
     refine awp_skip <|
      awp_seq <|
      awp_block <|
      sReg rfl <|
      rwp_det rfl rfl (det_index_sl rfl el72 rfl rfl (by omega) (getm ht)) <|
      rwp_det rfl rfl (det_load_one rfl one9 rfl ptr_imm rfl) <|
      rMv rfl <|
      rwp_nil <|
      awp_region rfl <|
      rMv rfl <|
      rMv rfl <|
      rwp_op rfl rfl (ope_call_val rfl rfl (hy _ t _ hJ3) ⟨VLe.refl _, rfl, trivial⟩) ?_
     rintro _ m5 ⟨rfl, g5⟩
     refine rwp_nil <|
      awp_region rfl <|
      rwp_det rfl rfl (det_add_nw rfl rfl rfl ⟨by omega, by omega⟩) <|
      rMv rfl <|
      rwp_nil ?_
     refine ⟨⟨i + 1, m5⟩, ⟨by omega, by rw [take_next ht, ← List.append_assoc]; exact g5⟩, (by show (readsT s.E).length - (i + 1) < (readsT s.E).length - i; omega), Weak.regs ⟨VLe.refl _, VLe.refl _, VLe.refl _, VLe.refl _, VLe.refl _, VLe.refl _, VLe.refl _, VLe.refl _, trivial⟩⟩
    ·try simp only [sx] at c5
     rw [take_all (l := readsT s.E) (k := i) (by omega)] at hJ3
     refine awp_exit <|
      awp_region rfl <|
      rwp_det rfl rfl (det_field_imm rfl fd54_7 rfl) <|
      rwp_det rfl rfl (det_load_one rfl one23 rfl ptr_imm rfl) <|
      rMv rfl <|
      rwp_op rfl rfl (ope_call rfl ok58 (ih s (mem_of_get hs) _ _ hJ3) ⟨VLe.refl _, rfl, VLe.refl _, rfl, trivial⟩) ?_
     rintro _ m6 ⟨rfl, g6⟩
     refine rwp_nil <|
      awp_region rfl <|
      rwp_det rfl rfl (det_add_nw rfl rfl rfl ⟨by omega, by omega⟩) <|
      rMv rfl <|
      rwp_nil ?_
     refine ⟨⟨k + 1, m6⟩, ⟨by omega, by rw [tchL_next hs, ← List.append_assoc, ← tch_end]; exact g6⟩, (by show l.length - (k + 1) < l.length - k; omega), Weak.regs ⟨VLe.refl _, VLe.refl _, VLe.refl _, VLe.refl _, trivial⟩⟩
  ·have hP0 : tchP s = [] := tch_no c2
   refine awp_skip <|
    awp_seq <|
    sReg rfl <|
    rwp_det rfl rfl (det_field_imm rfl fd54_5 rfl) <|
    rwp_det rfl rfl (det_load_one rfl one44 rfl ptr_imm rfl) <|
    rwp_det rfl rfl (det_len_slm rfl el44 rfl) <|
    rMv rfl <|
    rwp_nil <|
    awp_block <|
    awp_weak ⟨[(31, .c _), (1, .c _), (5, .c _), (10, .c _), (11, .c _), (12, .c _), (29, .c _), (30, .c _)], _⟩ (Weak.regs ⟨VLe.of_eq rfl, VLe.of_eq rfl, VLe.of_eq rfl, VLe.of_eq rfl, VLe.of_eq rfl, VLe.of_eq rfl, VLe.of_eq rfl, VLe.of_eq rfl, trivial⟩) <|
    awp_loop_m 1 rfl (Nat × List E) (fun ⟨j, m2⟩ => [(31, vI j)]) (fun ⟨j, m2⟩ => m2) (fun ⟨j, m2⟩ => j ≤ s.Idx.length ∧ (J (pre0 ++ tchL (l.take k) ++ tchP s ++ readsI (s.Idx.take j)) m2)) (fun ⟨j, m2⟩ => s.Idx.length - j) ⟨⟨0, _⟩, ⟨by omega, by rw [hP0]; simp only [List.take_zero, readsI, List.flatMap_nil, List.append_nil]; first | exact g1 | exact hJ⟩, Weak.regs ⟨VLe.refl _, VLe.refl _, VLe.refl _, VLe.refl _, VLe.refl _, VLe.refl _, VLe.refl _, VLe.refl _, trivial⟩⟩ ?_
   rintro ⟨j, m2⟩ ⟨hj, hJ2⟩
   refine sReg rfl <|
    rwp_det rfl rfl (det_lss rfl rfl rfl) <|
    rwp_nil <|
    awp_seq <|
    awp_cond rfl (fun c3 => ?_) (fun c3 => ?_)
   ·try simp only [sx] at c3
    obtain ⟨i, hi⟩ := ex_get s.Idx j (by omega)
    refine awp_skip <|
     awp_seq <|
     awp_block <|
     sReg rfl <|
     rwp_det rfl rfl (det_index_sl rfl el44 rfl rfl (by omega) (getm (by assumption))) <|
     rwp_det rfl rfl (det_load_agg rfl agg114 rfl ptr_imm rfl) <|
     rwp_op rfl rfl (ope_allocN [none, some 2, none, some 2] rfl zr114 rfl) ?_
    rintro _ _ ⟨b3, rfl, rfl⟩
    refine rwp_det0 rfl rfl (det_store rfl sz114 rfl rfl rfl (st_row 0 rfl rfl)) <|
     rwp_weak _ (weak_freeze_row 0 rfl 7 _ PLe.ptr) <|
     rwp_nil <|
     sReg rfl <|
     rwp_det rfl rfl (det_field_imm rfl fd114_1 rfl) <|
     rwp_det rfl rfl (det_load_one rfl one9 rfl ptr_imm rfl) <|
     rwp_det rfl rfl (det_sneq rfl rfl rfl) <|
     rwp_nil <|
     awp_cond rfl (fun c4 => ?_) (fun c4 => ?_)
    ·try simp only [sx] at c4
     refine awp_region rfl <|
      rMv rfl <|
      rwp_det rfl rfl (det_field_imm rfl fd114_1 rfl) <|
      rwp_det rfl rfl (det_load_one rfl one9 rfl ptr_imm rfl) <|
      rwp_op rfl rfl (ope_call_val rfl rfl (hy _ i.From _ hJ2) ⟨VLe.refl _, rfl, trivial⟩) ?_
     rintro _ m3 ⟨rfl, g3⟩
     refine rwp_nil <|
      awp_region rfl <|
      rwp_det rfl rfl (det_add_nw rfl rfl rfl ⟨by omega, by omega⟩) <|
      rMv rfl <|
      rwp_nil ?_
     refine ⟨⟨j + 1, _⟩, ⟨by omega, by rw [readsI_next hi, ← List.append_assoc, fromX]; first | (rw [if_neg c4]; exact g3) | (rw [if_pos c4, List.append_nil]; exact hJ2)⟩, (by show s.Idx.length - (j + 1) < s.Idx.length - j; omega), Weak.regs ⟨VLe.refl _, VLe.refl _, VLe.refl _, VLe.refl _, VLe.refl _, VLe.refl _, VLe.refl _, VLe.refl _, trivial⟩⟩
    ·try simp only [sx] at c4
     refine awp_skip <|
      awp_region rfl <|
      rwp_det rfl rfl (det_add_nw rfl rfl rfl ⟨by omega, by omega⟩) <|
      rMv rfl <|
      rwp_nil ?_
     refine ⟨⟨j + 1, _⟩, ⟨by omega, by rw [readsI_next hi, ← List.append_assoc, fromX]; first | (rw [if_neg c4]; exact g3) | (rw [if_pos c4, List.append_nil]; exact hJ2)⟩, (by show s.Idx.length - (j + 1) < s.Idx.length - j; omega), Weak.regs ⟨VLe.refl _, VLe.refl _, VLe.refl _, VLe.refl _, VLe.refl _, VLe.refl _, VLe.refl _, VLe.refl _, trivial⟩⟩
   ·try simp only [sx] at c3
    rw [take_all (l := s.Idx) (k := j) (by omega)] at hJ2
    refine awp_exit <|
     awp_seq <|
     sReg rfl <|
     rwp_det rfl rfl (det_field_imm rfl fd54_6 rfl) <|
     rwp_det rfl rfl (det_load_agg rfl agg52 rfl ptr_imm rfl) <|
     rwp_det rfl rfl (det_call rfl ok110 (OwnR.pur (expr_Reads s.E (by have := stsWt_mem (mem_of_get hs); have := St.wt_eq s; omega))) ⟨VLe.refl _, rfl, trivial⟩) <|
     rwp_det rfl rfl (det_len_slm rfl el72 rfl) <|
     rMv rfl <|
     rwp_nil <|
     awp_block <|
     awp_weak ⟨[(47, .c _), (1, .c _), (5, .c _), (10, .c _), (11, .c _), (12, .c _), (45, .c _), (46, .c _)], _⟩ (Weak.regs ⟨VLe.of_eq rfl, VLe.of_eq rfl, VLe.of_eq rfl, VLe.of_eq rfl, VLe.of_eq rfl, VLe.of_eq rfl, VLe.of_eq rfl, VLe.of_eq rfl, trivial⟩) <|
     awp_loop_m 1 rfl (Nat × List E) (fun ⟨i, m4⟩ => [(47, vI i)]) (fun ⟨i, m4⟩ => m4) (fun ⟨i, m4⟩ => i ≤ (readsT s.E).length ∧ (J (pre0 ++ tchL (l.take k) ++ tchP s ++ readsI s.Idx ++ (readsT s.E).take i) m4)) (fun ⟨i, m4⟩ => (readsT s.E).length - i) ⟨⟨0, m2⟩, ⟨by omega, by simpa using hJ2⟩, Weak.regs ⟨VLe.refl _, VLe.refl _, VLe.refl _, VLe.refl _, VLe.refl _, VLe.refl _, VLe.refl _, VLe.refl _, trivial⟩⟩ ?_
    rintro ⟨i, m4⟩ ⟨hi3, hJ3⟩
    refine sReg rfl <|
     rwp_det rfl rfl (det_lss rfl rfl rfl) <|
     rwp_nil <|
     awp_seq <|
     awp_cond rfl (fun c5 => ?_) (fun c5 => ?_)
    ·try simp only [sx] at c5
     obtain ⟨t, ht⟩ := ex_get (readsT s.E) i (by omega)
     refine awp_skip <|
      awp_seq <|
      awp_block <|
      sReg rfl <|
      rwp_det rfl rfl (det_index_sl rfl el72 rfl rfl (by omega) (getm ht)) <|
      rwp_det rfl rfl (det_load_one rfl one9 rfl ptr_imm rfl) <|
      rMv rfl <|
      rwp_nil <|
      awp_region rfl <|
      rMv rfl <|
      rMv rfl <|
      rwp_op rfl rfl (ope_call_val rfl rfl (hy _ t _ hJ3) ⟨VLe.refl _, rfl, trivial⟩) ?_
     rintro _ m5 ⟨rfl, g5⟩
     refine rwp_nil <|
      awp_region rfl <|
      rwp_det rfl rfl (det_add_nw rfl rfl rfl ⟨by omega, by omega⟩) <|
      rMv rfl <|
      rwp_nil ?_
     refine ⟨⟨i + 1, m5⟩, ⟨by omega, by rw [take_next ht, ← List.append_assoc]; exact g5⟩, (by show (readsT s.E).length - (i + 1) < (readsT s.E).length - i; omega), Weak.regs ⟨VLe.refl _, VLe.refl _, VLe.refl _, VLe.refl _, VLe.refl _, VLe.refl _, VLe.refl _, VLe.refl _, trivial⟩⟩
    ·try simp only [sx] at c5
     rw [take_all (l := readsT s.E) (k := i) (by omega)] at hJ3
     refine awp_exit <|
      awp_region rfl <|
      rwp_det rfl rfl (det_field_imm rfl fd54_7 rfl) <|
      rwp_det rfl rfl (det_load_one rfl one23 rfl ptr_imm rfl) <|
      rMv rfl <|
      rwp_op rfl rfl (ope_call rfl ok58 (ih s (mem_of_get hs) _ _ hJ3) ⟨VLe.refl _, rfl, VLe.refl _, rfl, trivial⟩) ?_
     rintro _ m6 ⟨rfl, g6⟩
     refine rwp_nil <|
      awp_region rfl <|
      rwp_det rfl rfl (det_add_nw rfl rfl rfl ⟨by omega, by omega⟩) <|
      rMv rfl <|
      rwp_nil ?_
     refine ⟨⟨k + 1, m6⟩, ⟨by omega, by rw [tchL_next hs, ← List.append_assoc, ← tch_end]; exact g6⟩, (by show l.length - (k + 1) < l.length - k; omega), Weak.regs ⟨VLe.refl _, VLe.refl _, VLe.refl _, VLe.refl _, trivial⟩⟩
 ·try simp only [sx] at c1
  rw [take_all (l := l) (k := k) (by omega)] at hJ
  refine awp_exit ?_
  repeat (first | refine then_exit ?_ | refine block_exit ?_)
  refine fin_end <| fin0 ?_
  exact ⟨rfl, hJ⟩

theorem touch_body (y : C) (J : List ByteArray → List E → Prop) (hy : ∀ (pre : List ByteArray) (t : ByteArray) (μ : List E), J pre μ → FnCon cfg y [vS t] μ fun r μ' => r = .tup [] ∧ J (pre ++ [t]) μ') (s : St) (hl : stsWt s.Body ≤ 900000) : ∀ (pre0 : List ByteArray) (μ : List E), J pre0 μ → Con cfg 58 [vSts s.Body, .c y] μ fun r μ' => r = .tup [] ∧ J (pre0 ++ tchL s.Body) μ' := by
  induction s using St.ind with
  | _ s ih => exact fun pre0 μ h0 => touch_step y J hy s.Body hl (fun a ha => ih a ha (by have := stsWt_mem ha; have := St.body_wt a; omega)) pre0 μ h0
theorem touch_con (y : C) (J : List ByteArray → List E → Prop) (hy : ∀ (pre : List ByteArray) (t : ByteArray) (μ : List E), J pre μ → FnCon cfg y [vS t] μ fun r μ' => r = .tup [] ∧ J (pre ++ [t]) μ') (l : List St) (hl : stsWt l ≤ 900000) (pre0 : List ByteArray) (μ : List E) (h0 : J pre0 μ) : Con cfg 58 [vSts l, .c y] μ fun r μ' => r = .tup [] ∧ J (pre0 ++ tchL l) μ' :=
  touch_step y J hy l hl (fun s hs => touch_body y J hy s (by have := stsWt_mem hs; have := St.body_wt s; omega)) pre0 μ h0

theorem analyze_1 (mb : Nat) (m : SpM) (t : ByteArray) (i : Int) :
    Con cfg 59 [vS t, .c (.iptr [.lit (.map (some mb))]), .c (.iptr [cI i])] [E.blk mb (MapR vSp m)] fun r μ' => r = .tup [] ∧ μ' = [E.blk mb (MapR vSp (putSp i m t))] := by
 refine Con.drop <|
  con_intro Tryz.func59 rfl Tryz.ntmps59 Tryz.results59 rfl ?_
 intro z hz
 refine sReg rfl <|
  rwp_det rfl rfl (det_load_one rfl one97 rfl ptr_imm rfl) <|
  rMv rfl <|
  rwp_det rfl rfl (det_lookup_ok 0 (⟨0, 0⟩ : Sp) rfl sm97 rfl rfl rfl (fun _ _ => ⟨_, rfl, .cons (.lit _ rfl) (.cons (.lit _ rfl) .nil)⟩)) <|
  rwp_det rfl rfl (det_move_tup rfl rfl) <|
  rwp_det rfl rfl (det_ex_agg rfl rfl rfl) <|
  rwp_det rfl rfl (det_ex_c rfl rfl rfl) <|
  rwp_op rfl rfl (ope_alloc rfl zr100) ?_
 rintro _ _ ⟨b1, rfl, rfl⟩
 refine rwp_det0 rfl rfl (det_store rfl sz100 rfl rfl rfl (st_row 0 rfl rfl)) <|
  rMv rfl <|
  rwp_nil <|
  awp_seq <|
  sReg rfl <|
  rMv rfl <|
  rwp_det rfl rfl (det_not rfl rfl) <|
  rwp_nil <|
  awp_cond rfl (fun c1 => ?_) (fun c1 => ?_)
 ·try simp only [sx] at c1
  have hsp := putSp_new (i := i) c1
  refine awp_region rfl <|
   rwp_det rfl rfl (det_load_one rfl one3 rfl ptr_imm rfl) <|
   rwp_det rfl rfl (det_field_lit rfl fd100_0 rfl) <|
   rwp_det0 rfl rfl (det_store rfl sz3 rfl rfl rfl (st_row 0 rfl rfl)) <|
   rwp_nil <|
   sReg rfl <|
   rwp_det rfl rfl (det_load_one rfl one3 rfl ptr_imm rfl) <|
   rwp_det rfl rfl (det_field_lit rfl fd100_1 rfl) <|
   rwp_det0 rfl rfl (det_store rfl sz3 rfl rfl rfl (st_row 0 rfl rfl)) <|
   rwp_nil <|
   awp_region rfl <|
   rwp_det rfl rfl (det_load_one rfl one97 rfl ptr_imm rfl) <|
   rMv rfl <|
   rwp_det rfl rfl (det_load_agg rfl agg100 rfl (ptr_row 0 rfl) rfl) <|
   rwp_det0 rfl rfl (det_mapput 1 ⟨i, i⟩ rfl sm97 rfl rfl rfl (VLe.refl _) rfl) <|
   rwp_nil ?_
  repeat (first | refine then_exit ?_ | refine block_exit ?_)
  refine fin_end <| fin0 ?_
  exact ⟨rfl, [_], by rw [← hsp]; rfl⟩
 ·try simp only [sx] at c1
  have hsp := putSp_old (i := i) c1
  refine awp_skip <|
   sReg rfl <|
   rwp_det rfl rfl (det_load_one rfl one3 rfl ptr_imm rfl) <|
   rwp_det rfl rfl (det_field_lit rfl fd100_1 rfl) <|
   rwp_det0 rfl rfl (det_store rfl sz3 rfl rfl rfl (st_row 0 rfl rfl)) <|
   rwp_nil <|
   awp_region rfl <|
   rwp_det rfl rfl (det_load_one rfl one97 rfl ptr_imm rfl) <|
   rMv rfl <|
   rwp_det rfl rfl (det_load_agg rfl agg100 rfl (ptr_row 0 rfl) rfl) <|
   rwp_det0 rfl rfl (det_mapput 1 ⟨((mget m t).getD ⟨0, 0⟩).From, i⟩ rfl sm97 rfl rfl rfl (VLe.refl _) rfl) <|
   rwp_nil ?_
  repeat (first | refine then_exit ?_ | refine block_exit ?_)
  refine fin_end <| fin0 ?_
  exact ⟨rfl, [_], by rw [← hsp]; rfl⟩

set_option maxRecDepth 100000 in
theorem analyze_touch (s : St) (i : Int) (mb : Nat) (m : SpM) (hs : s.wt ≤ 800000) : Con cfg 58 [.c (.sl 20 [s.cs]), .c (.fn (.func 59) [] [.iptr [.lit (.map (some mb))], .iptr [cI i]])] [E.blk mb (MapR vSp m)] fun r μ' => r = .tup [] ∧ μ' = [E.blk mb (MapR vSp ((tchS s).foldl (putSp i) m))] := by
  have h := touch_con (.fn (.func 59) [] [.iptr [.lit (.map (some mb))], .iptr [cI i]]) (fun pre μ => μ = [E.blk mb (MapR vSp (pre.foldl (putSp i) m))]) (fun pre t μ hJ => by
    subst hJ
    refine (FnCon.of_con (first := []) (cap := [.iptr [.lit (.map (some mb))], .iptr [cI i]]) ok59 (analyze_1 mb (pre.foldl (putSp i) m) t i)).mono ?_
    rintro r μ' ⟨h1, h2⟩
    exact ⟨h1, by rw [h2, List.foldl_append]; rfl⟩) [s] (by simp only [stsWt]; omega) [] [E.blk mb (MapR vSp m)] rfl
  rw [cells_one] at h
  refine h.mono ?_
  rintro r μ' ⟨h1, h2⟩
  exact ⟨h1, by rw [h2, List.nil_append, tchL_one]⟩

theorem liveness_Analyze (n : Ns) (hn : n.Ok) (hw : stsWt n.Body ≤ 800000) :
    Pur cfg 14 [vNs n] (.tup [vLs (analyzeT n).1, vI (analyzeT n).2]) := by
 refine con_intro Tryz.func14 rfl Tryz.ntmps14 Tryz.results14 rfl ?_
 intro z hz
 have hnb := hn.bufs
 have hll := stsWt_len n.Body
 refine sReg rfl <|
  rwp_op rfl rfl (ope_box rfl rfl) ?_
 rintro _ _ ⟨b1, rfl, rfl⟩
 refine rMv rfl <|
  rMv rfl <|
  rwp_nil <|
  awp_seq <|
  sReg rfl <|
  rwp_det rfl rfl (det_load_agg rfl agg25 rfl (ptr_row 0 rfl) rfl) <|
  rwp_det rfl rfl (det_call rfl ok22 (loopnest_Validate n hn) ⟨VLe.refl _, rfl, trivial⟩) <|
  rwp_det rfl rfl (det_move_tup rfl rfl) <|
  rwp_det rfl rfl (det_ex_c rfl rfl rfl) <|
  rwp_det rfl rfl (det_ex_c rfl rfl rfl) <|
  rMv rfl <|
  rMv rfl <|
  rwp_nil <|
  sReg rfl <|
  rMv rfl <|
  rwp_det rfl rfl (det_neq rfl rfl rfl) <|
  rwp_nil <|
  awp_cond rfl (fun c1 => ?_) (fun c1 => ?_)
 ·try simp only [sx] at c1
  have ha := analyze_no c1
  refine sReg rfl <|
   rMv rfl <|
   rwp_det rfl rfl (det_assignN 4 rfl rfl) <|
   rMv rfl <|
   rwp_nil <|
   awp_ret <|
   fin2 (rs_c rfl) (rs_c rfl) ?_
  rw [ha]; rfl
 ·try simp only [sx] at c1
  have ha := analyze_ok c1
  refine awp_skip <|
   sReg rfl <|
   rwp_op rfl rfl (ope_mkmap vSp rfl rfl) ?_
  rintro _ _ ⟨b2, rfl, rfl⟩
  refine rwp_op rfl rfl (ope_alloc rfl zr97) ?_
  rintro _ _ ⟨b3, rfl, rfl⟩
  refine rwp_det0 rfl rfl (det_store rfl sz97 rfl rfl rfl (st_row 0 rfl rfl)) <|
   rwp_weak _ (weak_freeze_row 0 rfl 6 _ PLe.ptr) <|
   rwp_nil <|
   awp_seq <|
   sReg rfl <|
   rwp_det rfl rfl (det_field_lit rfl fd25_1 rfl) <|
   rwp_det rfl rfl (det_load_one rfl one23 rfl (ptr_row 1 rfl) rfl) <|
   rwp_det rfl rfl (det_len_slm rfl el23 rfl) <|
   rMv rfl <|
   rwp_nil <|
   awp_block <|
   awp_weak ⟨[(25, .c _), (1, .c _), (6, .c _), (23, .c _), (24, .c _)], [_, _]⟩ (Weak.mk [true, true] ⟨VLe.of_eq rfl, VLe.of_eq rfl, VLe.of_eq rfl, VLe.of_eq rfl, VLe.of_eq rfl, trivial⟩ rfl) <|
   awp_loop_k 1 1 rfl rfl (Nat) (fun k => [(25, vI k)]) (fun k => [E.blk b2 (MapR vSp (spFrom [] 0 (n.Body.take k)))]) (fun k => k ≤ n.Body.length) (fun k => n.Body.length - k) ⟨0, (by omega), Weak.mk [true, true] ⟨VLe.refl _, VLe.refl _, VLe.refl _, VLe.refl _, VLe.refl _, trivial⟩ rfl⟩ ?_
  rintro k hk
  refine sReg rfl <|
   rwp_det rfl rfl (det_lss rfl rfl rfl) <|
   rwp_nil <|
   awp_seq <|
   awp_cond rfl (fun c2 => ?_) (fun c2 => ?_)
  ·try simp only [sx] at c2
   obtain ⟨s, hs⟩ := ex_get n.Body k (by omega)
   refine awp_skip <|
    awp_seq <|
    awp_block <|
    sReg rfl <|
    rMv rfl <|
    rwp_det rfl rfl (det_index_sl rfl el23 rfl rfl (by omega) (getmS (by assumption))) <|
    rwp_det rfl rfl (det_load_agg rfl agg54 rfl ptr_imm rfl) <|
    rwp_op rfl rfl (ope_alloc rfl zr3) ?_
   rintro _ _ ⟨b4, rfl, rfl⟩
   refine rwp_op rfl rfl (ope_allocN [none, none, none, none, none, some 4, none, none, none, none, none, none, none, none, none, none, some 2, some 4, some 13, some 20] rfl zr54 rfl) ?_
   rintro _ _ ⟨b5, rfl, rfl⟩
   refine rwp_det0 rfl rfl (det_store rfl sz3 rfl rfl rfl (st_row 1 rfl rfl)) <|
    rwp_weak _ (weak_freeze_row 1 rfl 7 _ PLe.ptr) <|
    rwp_det0 rfl rfl (det_store rfl sz54 rfl rfl rfl (st_row 0 rfl rfl)) <|
    rwp_nil <|
    awp_region rfl <|
    rwp_det rfl rfl (det_load_agg rfl agg54 rfl (ptr_row 0 rfl) rfl) <|
    rwp_det rfl rfl (det_bslice rfl el23 zr54 rfl rfl rfl rfl) <|
    rwp_det rfl rfl (det_func rfl rfl rfl rfl rfl) <|
    rwp_op rfl rfl (ope_call_reg 1 rfl rfl ok58 (analyze_touch s k _ _ (by have := stsWt_mem (mem_of_get hs); omega)) ⟨VLe.refl _, rfl, VLe.refl _, rfl, trivial⟩) ?_
   rintro _ _ ⟨rfl, rfl⟩
   refine rwp_nil <|
    awp_region rfl <|
    rwp_det rfl rfl (det_add_nw rfl rfl rfl ⟨by omega, by omega⟩) <|
    rMv rfl <|
    rwp_nil ?_
   refine ⟨k + 1, (by omega), (by omega), Weak.mk [false, true, true] ⟨VLe.refl _, VLe.refl _, VLe.refl _, VLe.refl _, VLe.refl _, trivial⟩ (by show _ = [E.blk b2 (MapR vSp (spFrom [] 0 (n.Body.take (k + 1))))] ++ _; rw [sp_next hs]; rfl)⟩
  ·try simp only [sx] at c2
   rw [take_all (l := n.Body) (k := k) (by omega)]
   refine awp_exit <|
    sReg rfl <|
    rMv rfl <|
    rwp_weak _ (weak_own 38 4) <|
    rwp_nil <|
    awp_seq <|
    sReg rfl <|
    rwp_det rfl rfl (det_field_lit rfl fd25_0 rfl) <|
    rwp_det rfl rfl (det_load_one rfl one22 rfl (ptr_row 2 rfl) rfl) <|
    rwp_det rfl rfl (det_len_slm rfl el22 rfl) <|
    rMv rfl <|
    rwp_nil <|
    awp_block <|
    awp_weak ⟨[(38, .c _), (9, .c _), (1, .c _), (6, .c _), (36, .c _), (37, .c _)], [_, _, _]⟩ (Weak.mk [true, true, true] ⟨VLe.of_eq rfl, VLe.of_eq rfl, VLe.of_eq rfl, VLe.of_eq rfl, VLe.of_eq rfl, VLe.of_eq rfl, trivial⟩ rfl) <|
    awp_loop_k 2 1 rfl rfl (Nat × Value) (fun ⟨j, sv⟩ => [(38, vI j), (9, .c (.lit sv))]) (fun ⟨j, sv⟩ => [E.vec sv 38 4 ((n.Bufs.take j).map fun b => (lifeOf n.Body b).cells)]) (fun ⟨j, sv⟩ => j ≤ n.Bufs.length) (fun ⟨j, sv⟩ => n.Bufs.length - j) ⟨⟨0, (.slice none 0 0)⟩, (by omega), Weak.mk [true, true, true] ⟨VLe.refl _, VLe.refl _, VLe.refl _, VLe.refl _, VLe.refl _, VLe.refl _, trivial⟩ rfl⟩ ?_
   rintro ⟨j, sv⟩ hj
   show AWP _ _ _ _ _ ⟨[(38, vI j), (9, .c (.lit sv))] ++ _, [E.vec sv 38 4 ((n.Bufs.take j).map fun b => (lifeOf n.Body b).cells)] ++ _⟩
   refine sReg rfl <|
    rwp_det rfl rfl (det_lss rfl rfl rfl) <|
    rwp_nil <|
    awp_seq <|
    awp_cond rfl (fun c3 => ?_) (fun c3 => ?_)
   ·try simp only [sx] at c3
    obtain ⟨b, hb⟩ := ex_get n.Bufs j (by omega)
    refine awp_skip <|
     awp_seq <|
     awp_block <|
     sReg rfl <|
     rwp_det rfl rfl (det_index_sl rfl el22 rfl rfl (by omega) (getm (by assumption))) <|
     rwp_det rfl rfl (det_load_agg rfl agg42 rfl ptr_imm rfl) <|
     rwp_op rfl rfl (ope_allocN [none, none, none, none, none, none, some 1, none] rfl zr42 rfl) ?_
    rintro _ _ ⟨b7, rfl, rfl⟩
    refine rwp_det0 rfl rfl (det_store rfl sz42 rfl rfl rfl (st_row 0 rfl rfl)) <|
     rwp_nil <|
     sReg rfl <|
     rwp_det rfl rfl (det_load_one rfl one97 rfl ptr_imm rfl) <|
     rwp_det rfl rfl (det_field_lit rfl fd42_0 rfl) <|
     rwp_det rfl rfl (det_load_one rfl one9 rfl (ptr_row 0 rfl) rfl) <|
     rwp_det rfl rfl (det_lookup 2 (⟨0, 0⟩ : Sp) rfl sm97 rfl rfl rfl (fun _ _ => ⟨_, rfl, .cons (.lit _ rfl) (.cons (.lit _ rfl) .nil)⟩)) <|
     rwp_op rfl rfl (ope_alloc rfl zr100) ?_
    rintro _ _ ⟨b8, rfl, rfl⟩
    refine rwp_det0 rfl rfl (det_store rfl sz100 rfl rfl rfl (st_row 0 rfl rfl)) <|
     rwp_nil <|
     awp_seq <|
     sReg rfl <|
     rwp_det rfl rfl (det_field_lit rfl fd42_3 rfl) <|
     rwp_det rfl rfl (det_load_one rfl one3 rfl (ptr_row 1 rfl) rfl) <|
     rwp_nil <|
     awp_block <|
     sReg rfl <|
     rwp_det rfl rfl (det_eql rfl rfl rfl) <|
     rMv rfl <|
     rwp_nil <|
     awp_cond rfl (fun c4 => ?_) (fun c4 => ?_)
    ·try simp only [sx] at c4
     refine awp_region rfl <|
      rwp_det rfl rfl (det_field_lit rfl fd100_0 rfl) <|
      rwp_det0 rfl rfl (det_store rfl sz3 rfl rfl rfl (st_row 0 rfl rfl)) <|
      rwp_nil <|
      awp_draw 12 mixed (by kernel_rfl) rfl rfl <|
      td_det rfl rfl (det_move rfl rfl) <|
      td_det rfl rfl (det_field_lit rfl fd42_0 rfl) <|
      td_det rfl rfl (det_load_one rfl one9 rfl (ptr_row 1 rfl) rfl) <|
      td_det rfl rfl (det_field_lit rfl fd100_0 rfl) <|
      td_det rfl rfl (det_load_one rfl one3 rfl (ptr_row 0 rfl) rfl) <|
      td_det rfl rfl (det_field_lit rfl fd100_1 rfl) <|
      td_det rfl rfl (det_load_one rfl one3 rfl (ptr_row 0 rfl) rfl) <|
      td_det rfl rfl (det_field_lit rfl fd42_2 rfl) <|
      td_det rfl rfl (det_load_one rfl one33 rfl (ptr_row 1 rfl) rfl) <|
      td_det rfl rfl (det_call rfl ok60 (shape_Size b.Dims (hn.dims b (mem_of_get hb))) ⟨VLe.refl _, rfl, trivial⟩) <|
      td_det rfl rfl (det_build rfl zr38 pl38 rfl) <|
      td_det rfl rfl (det_bslice rfl el28 zr38 rfl rfl rfl rfl) <|
      td_nil <|
      rwp_op rfl rfl (ope_append 2 rfl el28 rfl rfl rfl (by simp only [List.length_map, List.length_append, List.length_cons, List.length_nil, List.length_take, List.length_drop]; omega) (by simp only [List.length_map, List.length_append, List.length_cons, List.length_nil, List.length_take, List.length_drop]; omega)) ?_
     rintro _ _ ⟨sv9, rfl, rfl⟩
     refine rMv rfl <|
      rwp_nil <|
      awp_region rfl <|
      rwp_det rfl rfl (det_add_nw rfl rfl rfl ⟨by omega, by omega⟩) <|
      rMv rfl <|
      rwp_nil ?_
     refine ⟨⟨j + 1, sv9⟩, (by omega), (by show n.Bufs.length - (j + 1) < n.Bufs.length - j; omega), Weak.mk [false, false, true, true, true] ⟨VLe.refl _, VLe.refl _, VLe.refl _, VLe.refl _, VLe.refl _, VLe.refl _, trivial⟩ (by exact mem1_eq (by rw [lives_next hb]; unfold lifeOf; rw [← span_get]; first | (rw [if_pos c4, if_neg (by omega)]; rfl) | (rw [if_neg c4, if_pos c5]; rfl) | (rw [if_neg c4, if_neg c5]; rfl)))⟩
    ·try simp only [sx] at c4
     refine sReg rfl <|
      rwp_det rfl rfl (det_eql rfl rfl rfl) <|
      rMv rfl <|
      rwp_nil <|
      awp_cond rfl (fun c5 => ?_) (fun c5 => ?_)
     ·try simp only [sx] at c5
      refine awp_region rfl <|
       rwp_det rfl rfl (det_field_lit rfl fd25_1 rfl) <|
       rwp_det rfl rfl (det_load_one rfl one23 rfl (ptr_row 4 rfl) rfl) <|
       rwp_det rfl rfl (det_len_slm rfl el23 rfl) <|
       rwp_det rfl rfl (det_sub_nw rfl rfl rfl ⟨by omega, by omega⟩) <|
       rwp_det rfl rfl (det_max rfl rfl rfl) <|
       rwp_det rfl rfl (det_field_lit rfl fd100_1 rfl) <|
       rwp_det0 rfl rfl (det_store rfl sz3 rfl rfl rfl (st_row 0 rfl rfl)) <|
       rwp_nil <|
       awp_draw 12 mixed (by kernel_rfl) rfl rfl <|
       td_det rfl rfl (det_move rfl rfl) <|
       td_det rfl rfl (det_field_lit rfl fd42_0 rfl) <|
       td_det rfl rfl (det_load_one rfl one9 rfl (ptr_row 1 rfl) rfl) <|
       td_det rfl rfl (det_field_lit rfl fd100_0 rfl) <|
       td_det rfl rfl (det_load_one rfl one3 rfl (ptr_row 0 rfl) rfl) <|
       td_det rfl rfl (det_field_lit rfl fd100_1 rfl) <|
       td_det rfl rfl (det_load_one rfl one3 rfl (ptr_row 0 rfl) rfl) <|
       td_det rfl rfl (det_field_lit rfl fd42_2 rfl) <|
       td_det rfl rfl (det_load_one rfl one33 rfl (ptr_row 1 rfl) rfl) <|
       td_det rfl rfl (det_call rfl ok60 (shape_Size b.Dims (hn.dims b (mem_of_get hb))) ⟨VLe.refl _, rfl, trivial⟩) <|
       td_det rfl rfl (det_build rfl zr38 pl38 rfl) <|
       td_det rfl rfl (det_bslice rfl el28 zr38 rfl rfl rfl rfl) <|
       td_nil <|
       rwp_op rfl rfl (ope_append 2 rfl el28 rfl rfl rfl (by simp only [List.length_map, List.length_append, List.length_cons, List.length_nil, List.length_take, List.length_drop]; omega) (by simp only [List.length_map, List.length_append, List.length_cons, List.length_nil, List.length_take, List.length_drop]; omega)) ?_
      rintro _ _ ⟨sv10, rfl, rfl⟩
      refine rMv rfl <|
       rwp_nil <|
       awp_region rfl <|
       rwp_det rfl rfl (det_add_nw rfl rfl rfl ⟨by omega, by omega⟩) <|
       rMv rfl <|
       rwp_nil ?_
      refine ⟨⟨j + 1, sv10⟩, (by omega), (by show n.Bufs.length - (j + 1) < n.Bufs.length - j; omega), Weak.mk [false, false, true, true, true] ⟨VLe.refl _, VLe.refl _, VLe.refl _, VLe.refl _, VLe.refl _, VLe.refl _, trivial⟩ (by exact mem1_eq (by rw [lives_next hb]; unfold lifeOf; rw [← span_get]; first | (rw [if_pos c4, if_neg (by omega)]; rfl) | (rw [if_neg c4, if_pos c5]; rfl) | (rw [if_neg c4, if_neg c5]; rfl)))⟩
     ·try simp only [sx] at c5
      refine awp_skip <|
       awp_draw 12 mixed (by kernel_rfl) rfl rfl <|
       td_det rfl rfl (det_move rfl rfl) <|
       td_det rfl rfl (det_field_lit rfl fd42_0 rfl) <|
       td_det rfl rfl (det_load_one rfl one9 rfl (ptr_row 1 rfl) rfl) <|
       td_det rfl rfl (det_field_lit rfl fd100_0 rfl) <|
       td_det rfl rfl (det_load_one rfl one3 rfl (ptr_row 0 rfl) rfl) <|
       td_det rfl rfl (det_field_lit rfl fd100_1 rfl) <|
       td_det rfl rfl (det_load_one rfl one3 rfl (ptr_row 0 rfl) rfl) <|
       td_det rfl rfl (det_field_lit rfl fd42_2 rfl) <|
       td_det rfl rfl (det_load_one rfl one33 rfl (ptr_row 1 rfl) rfl) <|
       td_det rfl rfl (det_call rfl ok60 (shape_Size b.Dims (hn.dims b (mem_of_get hb))) ⟨VLe.refl _, rfl, trivial⟩) <|
       td_det rfl rfl (det_build rfl zr38 pl38 rfl) <|
       td_det rfl rfl (det_bslice rfl el28 zr38 rfl rfl rfl rfl) <|
       td_nil <|
       rwp_op rfl rfl (ope_append 2 rfl el28 rfl rfl rfl (by simp only [List.length_map, List.length_append, List.length_cons, List.length_nil, List.length_take, List.length_drop]; omega) (by simp only [List.length_map, List.length_append, List.length_cons, List.length_nil, List.length_take, List.length_drop]; omega)) ?_
      rintro _ _ ⟨sv11, rfl, rfl⟩
      refine rMv rfl <|
       rwp_nil <|
       awp_region rfl <|
       rwp_det rfl rfl (det_add_nw rfl rfl rfl ⟨by omega, by omega⟩) <|
       rMv rfl <|
       rwp_nil ?_
      refine ⟨⟨j + 1, sv11⟩, (by omega), (by show n.Bufs.length - (j + 1) < n.Bufs.length - j; omega), Weak.mk [false, false, true, true, true] ⟨VLe.refl _, VLe.refl _, VLe.refl _, VLe.refl _, VLe.refl _, VLe.refl _, trivial⟩ (by exact mem1_eq (by rw [lives_next hb]; unfold lifeOf; rw [← span_get]; first | (rw [if_pos c4, if_neg (by omega)]; rfl) | (rw [if_neg c4, if_pos c5]; rfl) | (rw [if_neg c4, if_neg c5]; rfl)))⟩
   ·try simp only [sx] at c3
    refine awp_exit <|
     awp_seq <|
     awp_weak _ (weak_freezeM 0 rfl (regs' := [(9, _)]) (μ' := [_, _]) ⟨FLe.sl, trivial⟩ ⟨EFle.refl _, EFle.refl _, trivial⟩) <|
     awp_region rfl <|
     rMv rfl <|
     rMv rfl <|
     rMv rfl <|
     rwp_nil <|
     awp_ret <|
     fin2 (rs_c rfl) (rs_c rfl) ?_
    rw [ha, take_all (l := n.Bufs) (k := j) (by omega)]; simp only [lives, vLs, List.map_map]; rfl

theorem law_LivenessCovers (n : Ns) (hf : n.Fit) :
    Pur cfg 4 [vNs n] (vB true) := by
 refine con_intro Tryz.func4 rfl Tryz.ntmps4 Tryz.results4 rfl ?_
 intro z hz
 refine sReg rfl <|
  rwp_op rfl rfl (ope_box rfl rfl) ?_
 rintro _ _ ⟨b1, rfl, rfl⟩
 refine rMv rfl <|
  rwp_nil <|
  awp_seq <|
  sReg rfl <|
  rwp_det rfl rfl (det_load_agg rfl agg25 rfl (ptr_row 0 rfl) rfl) <|
  rwp_det rfl rfl (det_call rfl ok12 (ref41_Small n hf) ⟨VLe.refl _, rfl, trivial⟩) <|
  rwp_det rfl rfl (det_not rfl rfl) <|
  rwp_nil <|
  awp_cond rfl (fun c1 => ?_) (fun c1 => ?_)
 ·refine sReg rfl <|
   rwp_det rfl rfl (det_call rfl ok13 law41_alive trivial) <|
   rMv rfl <|
   rwp_nil <|
   awp_ret <|
   fin1 (rs_c rfl) ?_
  rfl
 ·obtain ⟨k1, k2⟩ := small_t c1
  have hok := Ns.Fit.ok hf (m := 400) (by omega) (by omega) k2
  have hw := weighB_wt k2
  have hlv := lives_len n
  have hbl := stsWt_len n.Body
  refine awp_skip <|
   awp_seq <|
   sReg rfl <|
   rwp_det rfl rfl (det_load_agg rfl agg25 rfl (ptr_row 0 rfl) rfl) <|
   rwp_det rfl rfl (det_call rfl ok17 (ref30_Validate n hok (by omega)) ⟨VLe.refl _, rfl, trivial⟩) <|
   rwp_det rfl rfl (det_move_tup rfl rfl) <|
   rwp_det rfl rfl (det_ex_c rfl rfl rfl) <|
   rwp_det rfl rfl (det_ex_c rfl rfl rfl) <|
   rMv rfl <|
   rMv rfl <|
   rwp_nil <|
   sReg rfl <|
   rMv rfl <|
   rwp_det rfl rfl (det_neq rfl rfl rfl) <|
   rwp_nil <|
   awp_cond rfl (fun c2 => ?_) (fun c2 => ?_)
  ·try simp only [sx] at c2
   refine sReg rfl <|
    rwp_det rfl rfl (det_call rfl ok13 law41_alive trivial) <|
    rMv rfl <|
    rwp_nil <|
    awp_ret <|
    fin1 (rs_c rfl) ?_
   rfl
  ·try simp only [sx] at c2
   refine awp_skip <|
    sReg rfl <|
    rwp_det rfl rfl (det_load_agg rfl agg25 rfl (ptr_row 0 rfl) rfl) <|
    rwp_det rfl rfl (det_call rfl ok14 (show Pur cfg 14 [vNs n] (.tup [vLs (lives n), vI 0]) by have h := liveness_Analyze n hok (by omega); rw [analyze_ok c2] at h; exact h) ⟨VLe.refl _, rfl, trivial⟩) <|
    rwp_det rfl rfl (det_move_tup rfl rfl) <|
    rwp_det rfl rfl (det_ex_c rfl rfl rfl) <|
    rwp_det rfl rfl (det_ex_c rfl rfl rfl) <|
    rMv rfl <|
    rMv rfl <|
    rwp_nil <|
    awp_seq <|
    sReg rfl <|
    rMv rfl <|
    rwp_det rfl rfl (det_neq rfl rfl rfl) <|
    rMv rfl <|
    rLz [] rfl gv1 trivial (fun g7_2 => det_move rfl rfl) rfl <|
    rLz [(29, _)] rfl gv1 ⟨rfl, rfl, trivial⟩ (fun g7_2 => det_len_slm rfl el28 rfl) rfl <|
    rLz [] rfl gv1 trivial (fun g7_2 => det_field_lit rfl fd25_0 rfl) rfl <|
    rLz [(31, _)] rfl gv1 ⟨rfl, rfl, trivial⟩ (fun g7_2 => det_load_one rfl one22 rfl (ptr_row 0 rfl) rfl) rfl <|
    rLz [(32, _)] rfl gv1 ⟨rfl, rfl, trivial⟩ (fun g7_2 => det_len_slm rfl el22 rfl) rfl <|
    rLz [(30, _), (33, _)] rfl gv1 ⟨rfl, rfl, rfl, rfl, trivial⟩ (fun g7_2 => det_neq rfl rfl rfl) rfl <|
    rwp_det rfl rfl (det_or rfl rfl rfl rfl (fun h => (lzf h))) <|
    rMv rfl <|
    rLz [] rfl gv1 trivial (fun g7_10 => det_move rfl rfl) rfl <|
    rLz [(37, _)] rfl gv1 ⟨rfl, rfl, trivial⟩ (fun g7_10 => det_call rfl ok18 (liveness_Validate (lives n) (by omega)) ⟨VLe.refl _, rfl, trivial⟩) rfl <|
    rLz [(38, _)] rfl gv1 ⟨rfl, rfl, trivial⟩ (fun g7_10 => det_neq rfl rfl rfl) rfl <|
    rwp_det rfl rfl (det_or rfl rfl rfl rfl (fun h => (lzf h))) <|
    rwp_nil <|
    awp_cond rfl (fun c3 => ?_) (fun c3 => ?_)
   ·exact absurd c3 (by rw [lives_valid c2]; simp [lives])
   ·refine awp_skip <|
     awp_seq <|
     sReg rfl <|
     rMv rfl <|
     rwp_nil <|
     awp_block <|
     awp_weak ⟨[(7, .c _), (1, .c _), (5, .c _)], [_]⟩ (Weak.mk [true] ⟨VLe.of_eq rfl, VLe.of_eq rfl, VLe.of_eq rfl, trivial⟩ rfl) <|
     awp_loop_k 1 0 rfl rfl (Nat) (fun k => [(7, vI k)]) (fun k => []) (fun k => k ≤ (lives n).length) (fun k => (lives n).length - k) ⟨0, (by omega), Weak.mk [true] ⟨VLe.refl _, VLe.refl _, VLe.refl _, trivial⟩ rfl⟩ ?_
    rintro k hk
    refine awp_seq <|
     sReg rfl <|
     rMv rfl <|
     rMv rfl <|
     rwp_det rfl rfl (det_len_slm rfl el28 rfl) <|
     rwp_det rfl rfl (det_lss rfl rfl rfl) <|
     rwp_nil <|
     awp_cond rfl (fun c4 => ?_) (fun c4 => ?_)
    ·try simp only [sx] at c4
     obtain ⟨y, hy⟩ := ex_get (lives n) k (by omega)
     obtain ⟨b, hb⟩ := ex_get n.Bufs k (by omega)
     have hyb := lives_get hy hb
     subst hyb
     refine awp_skip <|
      awp_seq <|
      awp_block <|
      awp_seq <|
      awp_seq <|
      awp_draw 12 mixed (by kernel_rfl) rfl rfl <|
      td_det rfl rfl (det_move rfl rfl) <|
      td_det rfl rfl (det_move rfl rfl) <|
      td_det rfl rfl (det_index_sl rfl el28 rfl rfl (by omega) (getm hy)) <|
      td_det rfl rfl (det_field_imm rfl fd38_0 rfl) <|
      td_det rfl rfl (det_load_one rfl one9 rfl ptr_imm rfl) <|
      td_det rfl rfl (det_field_lit rfl fd25_0 rfl) <|
      td_det rfl rfl (det_load_one rfl one22 rfl (ptr_row 0 rfl) rfl) <|
      td_det rfl rfl (det_move rfl rfl) <|
      td_det rfl rfl (det_index_sl rfl el22 rfl rfl (by omega) (getm hb)) <|
      td_det rfl rfl (det_field_imm rfl fd42_0 rfl) <|
      td_det rfl rfl (det_load_one rfl one9 rfl ptr_imm rfl) <|
      td_det rfl rfl (det_sneq rfl rfl rfl) <|
      td_nil <|
      rwp_nil <|
      awp_cond rfl (fun c5 => ?_) (fun c5 => ?_)
     ·exact absurd c5 (by simp [lifeOf])
     ·refine awp_skip <|
       sReg rfl <|
       rMv rfl <|
       rwp_nil <|
       awp_block <|
       awp_weak ⟨[(8, .c _), (1, .c _), (5, .c _), (7, .c _)], [_]⟩ (Weak.mk [true] ⟨VLe.of_eq rfl, VLe.of_eq rfl, VLe.of_eq rfl, VLe.of_eq rfl, trivial⟩ rfl) <|
       awp_loop_k 1 0 rfl rfl (Nat) (fun j => [(8, vI j)]) (fun j => []) (fun j => j ≤ n.Body.length) (fun j => n.Body.length - j) ⟨0, (by omega), Weak.mk [true] ⟨VLe.refl _, VLe.refl _, VLe.refl _, VLe.refl _, trivial⟩ rfl⟩ ?_
      rintro j hj
      refine awp_seq <|
       sReg rfl <|
       rMv rfl <|
       rwp_det rfl rfl (det_field_lit rfl fd25_1 rfl) <|
       rwp_det rfl rfl (det_load_one rfl one23 rfl (ptr_row 0 rfl) rfl) <|
       rwp_det rfl rfl (det_len_slm rfl el23 rfl) <|
       rwp_det rfl rfl (det_lss rfl rfl rfl) <|
       rwp_nil <|
       awp_cond rfl (fun c6 => ?_) (fun c6 => ?_)
      ·try simp only [sx] at c6
       obtain ⟨s, hs⟩ := ex_get n.Body j (by omega)
       refine awp_skip <|
        awp_seq <|
        awp_block <|
        awp_seq <|
        awp_draw 29 mixed (by kernel_rfl) rfl rfl <|
        td_det rfl rfl (det_field_lit rfl fd25_1 rfl) <|
        td_det rfl rfl (det_load_one rfl one23 rfl (ptr_row 0 rfl) rfl) <|
        td_det rfl rfl (det_move rfl rfl) <|
        td_det rfl rfl (det_index_sl rfl el23 rfl rfl (by omega) (getmS hs)) <|
        td_det rfl rfl (det_load_agg rfl agg54 rfl ptr_imm rfl) <|
        td_det rfl rfl (det_move rfl rfl) <|
        td_det rfl rfl (det_move rfl rfl) <|
        td_det rfl rfl (det_index_sl rfl el28 rfl rfl (by omega) (getm hy)) <|
        td_det rfl rfl (det_field_imm rfl fd38_0 rfl) <|
        td_det rfl rfl (det_load_one rfl one9 rfl ptr_imm rfl) <|
        td_det rfl rfl (det_call rfl ok19 (ref41_Accesses s (lifeOf n.Body b).Name (by have := stsWt_mem (mem_of_get hs); omega)) ⟨VLe.refl _, rfl, VLe.refl _, rfl, trivial⟩) <|
        td_det rfl rfl (det_move rfl rfl) <|
        td_lazy [] rfl rfl rfl rfl gv1 trivial (fun g17_11 => det_move rfl rfl) rfl <|
        td_lazy [] rfl rfl rfl rfl gv1 trivial (fun g17_11 => det_move rfl rfl) rfl <|
        td_lazy [] rfl rfl rfl rfl gv1 trivial (fun g17_11 => det_move rfl rfl) rfl <|
        td_lazy [(79, _), (80, _)] rfl rfl rfl rfl gv1 ⟨rfl, rfl, rfl, rfl, trivial⟩ (fun g17_11 => det_index_sl rfl el28 rfl rfl (by omega) (getm hy)) rfl <|
        td_lazy [(81, _)] rfl rfl rfl rfl gv1 ⟨rfl, rfl, trivial⟩ (fun g17_11 => det_field_imm rfl fd38_1 rfl) rfl <|
        td_lazy [(82, _)] rfl rfl rfl rfl gv1 ⟨rfl, rfl, trivial⟩ (fun g17_11 => det_load_one rfl one3 rfl ptr_imm rfl) rfl <|
        td_lazy [(78, _), (83, _)] rfl rfl rfl rfl gv1 ⟨rfl, rfl, rfl, rfl, trivial⟩ (fun g17_11 => det_lss rfl rfl rfl) rfl <|
        td_lazy [(84, _)] rfl rfl rfl rfl gv1 ⟨rfl, rfl, trivial⟩ (fun g17_11 => det_move rfl rfl) rfl <|
        td_lazy [] rfl rfl rfl rfl gv2 trivial (fun g17_19 => det_move rfl rfl) rfl <|
        td_lazy [] rfl rfl rfl rfl gv2 trivial (fun g17_19 => det_move rfl rfl) rfl <|
        td_lazy [] rfl rfl rfl rfl gv2 trivial (fun g17_19 => det_move rfl rfl) rfl <|
        td_lazy [(87, _), (88, _)] rfl rfl rfl rfl gv2 ⟨rfl, rfl, rfl, rfl, trivial⟩ (fun g17_19 => det_index_sl rfl el28 rfl rfl (by omega) (getm hy)) rfl <|
        td_lazy [(89, _)] rfl rfl rfl rfl gv2 ⟨rfl, rfl, trivial⟩ (fun g17_19 => det_field_imm rfl fd38_2 rfl) rfl <|
        td_lazy [(90, _)] rfl rfl rfl rfl gv2 ⟨rfl, rfl, trivial⟩ (fun g17_19 => det_load_one rfl one3 rfl ptr_imm rfl) rfl <|
        td_lazy [(86, _), (91, _)] rfl rfl rfl rfl gv2 ⟨rfl, rfl, rfl, rfl, trivial⟩ (fun g17_19 => det_gtr rfl rfl rfl) rfl <|
        td_lazy [(85, _)] rfl rfl rfl rfl gv1 ⟨rfl, rfl, trivial⟩ (fun g17_11 => det_or rfl rfl rfl rfl (fun h => and_mk (by assumption) (lzf h))) rfl <|
        td_det rfl rfl (det_and rfl rfl rfl (fun h => h) rfl) <|
        td_nil <|
        rwp_nil <|
        awp_cond rfl (fun c7 => ?_) (fun c7 => ?_)
       ·exact absurd c7 (by rw [show (accS (lifeOf n.Body b).Name s && _) = false from cover_no (b := b) hs]; simp)
       ·refine awp_skip <|
         awp_region rfl <|
         rMv rfl <|
         rwp_det rfl rfl (det_add_nw rfl rfl rfl ⟨by omega, by omega⟩) <|
         rMv rfl <|
         rwp_nil ?_
        refine ⟨j + 1, (by omega), (by omega), Weak.mk [true] ⟨VLe.refl _, VLe.refl _, VLe.refl _, VLe.refl _, trivial⟩ rfl⟩
      ·try simp only [sx] at c6
       refine awp_exit <|
        awp_region rfl <|
        rMv rfl <|
        rwp_det rfl rfl (det_add_nw rfl rfl rfl ⟨by omega, by omega⟩) <|
        rMv rfl <|
        rwp_nil ?_
       refine ⟨k + 1, (by omega), (by omega), Weak.mk [true] ⟨VLe.refl _, VLe.refl _, VLe.refl _, trivial⟩ rfl⟩
    ·try simp only [sx] at c4
     refine awp_exit <|
      sReg rfl <|
      rwp_det rfl rfl (det_call rfl ok13 law41_alive trivial) <|
      rMv rfl <|
      rwp_nil <|
      awp_ret <|
      fin1 (rs_c rfl) ?_
     rfl

end Go.W
