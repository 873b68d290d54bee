/-
  Walks: what functions of the program compute. Printed by wip/gen/mk2.py.
  Conditions: none.
-/
import Derived.Test.YtlfjpejkoccibaaGreatDoorWD
import Derived.Test.YtlfjpejkoccibaaGreatDoorPlain
set_option linter.unusedSimpArgs false
set_option linter.unusedVariables false
set_option maxRecDepth 10000
namespace Go.W
open Go Go.Eng Go.Proofs Go.L41 Go.Br
attribute [local irreducible] AWP RWP TD finQ
theorem ok77 : callOk Tryz.prog 77 = true := by kernel_rfl
theorem ok140 : callOk Tryz.prog 140 = true := by kernel_rfl
theorem ok141 : callOk Tryz.prog 141 = true := by kernel_rfl
theorem ok174 : callOk Tryz.prog 174 = true := by kernel_rfl
theorem ok175 : callOk Tryz.prog 175 = true := by kernel_rfl
theorem ok176 : callOk Tryz.prog 176 = true := by kernel_rfl
theorem ok197 : callOk Tryz.prog 197 = true := by kernel_rfl
theorem base_Lins (a b : List Lf) (ha : a.length ≤ 6000000000000) (hw : linsWt a ≤ 6000000000000) :
    Pur cfg 197 [vLins a, vLins b] (vB (decide (a = b))) := by
 refine con_intro Tryz.func197 rfl Tryz.ntmps197 Tryz.results197 rfl ?_
 intro z hz
 refine sReg rfl <|
  rMv rfl <|
  rwp_nil <|
  awp_seq <|
  sReg rfl <|
  rMv rfl <|
  rwp_det rfl rfl (det_len_slm rfl el70 rfl) <|
  rMv rfl <|
  rwp_det rfl rfl (det_len_slm rfl el70 rfl) <|
  rwp_det rfl rfl (det_neq rfl rfl rfl) <|
  rwp_nil <|
  awp_cond rfl (fun c1 => ?_) (fun c1 => ?_)
 ·try simp only [sx] at c1
  refine sReg rfl <|
   rMv rfl <|
   rwp_nil <|
   awp_ret <|
   fin1 (rs_c rfl) ?_
  rw [dec_false (fun h => c1 (by rw [h]))]
 ·try simp only [sx] at c1
  refine awp_skip <|
   awp_seq <|
   sReg rfl <|
   rMv rfl <|
   rwp_nil <|
   awp_block <|
   awp_weak ⟨[(5, .c _), (0, .c _), (1, .c _)], []⟩ (Weak.mk [] ⟨VLe.of_eq rfl, VLe.of_eq rfl, VLe.of_eq rfl, trivial⟩ rfl) <|
   awp_loop_k 1 0 rfl rfl (Nat) (fun k => [(5, vI k)]) (fun k => []) (fun k => k ≤ a.length ∧ (a.take k = b.take k)) (fun k => a.length - k) ⟨0, ⟨by omega, rfl⟩, Weak.mk [] ⟨VLe.refl _, VLe.refl _, VLe.refl _, trivial⟩ rfl⟩ ?_
  rintro k ⟨hk, hp⟩
  refine awp_seq <|
   sReg rfl <|
   rMv rfl <|
   rMv rfl <|
   rwp_det rfl rfl (det_len_slm rfl el70 rfl) <|
   rwp_det rfl rfl (det_lss rfl rfl rfl) <|
   rwp_nil <|
   awp_cond rfl (fun c2 => ?_) (fun c2 => ?_)
  ·try simp only [sx] at c2
   obtain ⟨x, hx⟩ := ex_get a k (by omega)
   obtain ⟨y, hy⟩ := ex_get b k (by omega)
   have hxw := linsWt_mem (mem_of_get hx)
   refine awp_skip <|
    awp_seq <|
    awp_block <|
    awp_seq <|
    awp_draw 10 mixed (by kernel_rfl) rfl rfl <|
    td_det rfl rfl (det_move rfl rfl) <|
    td_det rfl rfl (det_move rfl rfl) <|
    td_det rfl rfl (det_index_sl rfl el70 rfl rfl (by omega) (getm (by assumption))) <|
    td_det rfl rfl (det_load_agg rfl agg41 rfl ptr_imm rfl) <|
    td_det rfl rfl (det_move rfl rfl) <|
    td_det rfl rfl (det_move rfl rfl) <|
    td_det rfl rfl (det_index_sl rfl el70 rfl rfl (by omega) (getm (by assumption))) <|
    td_det rfl rfl (det_load_agg rfl agg41 rfl ptr_imm rfl) <|
    td_det rfl rfl (det_call rfl ok175 (base_Lin x y (by omega)) ⟨VLe.refl _, rfl, VLe.refl _, rfl, trivial⟩) <|
    td_det rfl rfl (det_not rfl rfl) <|
    td_nil <|
    rwp_nil <|
    awp_cond rfl (fun c3 => ?_) (fun c3 => ?_)
   ·try simp only [sx] at c3
    refine sReg rfl <|
     rMv rfl <|
     rwp_nil <|
     awp_ret <|
     fin1 (rs_c rfl) ?_
    rw [dec_false (ne_of_get hx hy c3)]
   ·try simp only [sx] at c3
    refine awp_skip <|
     awp_region rfl <|
     rMv rfl <|
     rwp_det rfl rfl (det_add_nw rfl rfl rfl ⟨by omega, by omega⟩) <|
     rMv rfl <|
     rwp_nil ?_
    refine ⟨k + 1, ⟨by omega, take_eq_next hx hy hp c3⟩, (by omega), Weak.mk [] ⟨VLe.refl _, VLe.refl _, VLe.refl _, trivial⟩ rfl⟩
  ·try simp only [sx] at c2
   refine awp_exit <|
    sReg rfl <|
    rMv rfl <|
    rwp_nil <|
    awp_ret <|
    fin1 (rs_c rfl) ?_
   rw [dec_true (eq_of_take hp (by omega) (by omega))]

theorem base_Index (a b : Ix) (ha : a.wt ≤ 6000000000000) :
    Pur cfg 174 [vIndex a, vIndex b] (vB (decide (a = b))) := by
 refine con_intro Tryz.func174 rfl Tryz.ntmps174 Tryz.results174 rfl ?_
 intro z hz
 have hw := ha
 unfold Ix.wt at hw
 refine sReg rfl <|
  rwp_op rfl rfl (ope_box rfl rfl) ?_
 rintro _ _ ⟨b1, rfl, rfl⟩
 refine rwp_op rfl rfl (ope_box rfl rfl) ?_
 rintro _ _ ⟨b2, rfl, rfl⟩
 refine rMv rfl <|
  rwp_nil <|
  sReg rfl <|
  rwp_det rfl rfl (det_field_lit rfl fd72_1 rfl) <|
  rwp_det rfl rfl (det_load_one rfl one9 rfl (ptr_row 1 rfl) rfl) <|
  rwp_det rfl rfl (det_field_lit rfl fd72_1 rfl) <|
  rwp_det rfl rfl (det_load_one rfl one9 rfl (ptr_row 0 rfl) rfl) <|
  rwp_det rfl rfl (det_seql rfl rfl rfl) <|
  rMv rfl <|
  rLz [] rfl gv1 trivial (fun g1_5 => det_field_lit rfl fd72_0 rfl) rfl <|
  rLz [(11, _)] rfl gv1 ⟨rfl, rfl, trivial⟩ (fun g1_5 => det_load_agg rfl agg41 rfl (ptr_row 1 rfl) rfl) rfl <|
  rLz [] rfl gv1 trivial (fun g1_5 => det_field_lit rfl fd72_0 rfl) rfl <|
  rLz [(13, _)] rfl gv1 ⟨rfl, rfl, trivial⟩ (fun g1_5 => det_load_agg rfl agg41 rfl (ptr_row 0 rfl) rfl) rfl <|
  rLz [(12, _), (14, _)] rfl gv1 ⟨rfl, rfl, rfl, rfl, trivial⟩ (fun g1_5 => det_call rfl ok175 (base_Lin a.Lin b.Lin (by omega)) ⟨VLe.refl _, rfl, VLe.refl _, rfl, trivial⟩) rfl <|
  rwp_det rfl rfl (det_and rfl rfl rfl (fun h => h) rfl) <|
  rMv rfl <|
  rLz [] rfl gv1 trivial (fun g1_12 => det_field_lit rfl fd72_2 rfl) rfl <|
  rLz [(18, _)] rfl gv1 ⟨rfl, rfl, trivial⟩ (fun g1_12 => det_load_one rfl one70 rfl (ptr_row 1 rfl) rfl) rfl <|
  rLz [] rfl gv1 trivial (fun g1_12 => det_field_lit rfl fd72_2 rfl) rfl <|
  rLz [(20, _)] rfl gv1 ⟨rfl, rfl, trivial⟩ (fun g1_12 => det_load_one rfl one70 rfl (ptr_row 0 rfl) rfl) rfl <|
  rLz [(19, _), (21, _)] rfl gv1 ⟨rfl, rfl, rfl, rfl, trivial⟩ (fun g1_12 => det_call rfl ok197 (base_Lins a.At b.At (by omega) (by omega)) ⟨VLe.refl _, rfl, VLe.refl _, rfl, trivial⟩) rfl <|
  rwp_det rfl rfl (det_and rfl rfl rfl (fun h => h) rfl) <|
  rMv rfl <|
  rwp_nil <|
  awp_ret <|
  fin1 (rs_c rfl) ?_
 exact congrArg vB (ix_eq a b)

theorem base_Indices (a b : List Ix) (ha : a.length ≤ 6000000000000) (hw : idxWt a ≤ 6000000000000) :
    Pur cfg 140 [vIndices a, vIndices b] (vB (decide (a = b))) := by
 refine con_intro Tryz.func140 rfl Tryz.ntmps140 Tryz.results140 rfl ?_
 intro z hz
 refine sReg rfl <|
  rMv rfl <|
  rwp_nil <|
  awp_seq <|
  sReg rfl <|
  rMv rfl <|
  rwp_det rfl rfl (det_len_slm rfl el34 rfl) <|
  rMv rfl <|
  rwp_det rfl rfl (det_len_slm rfl el34 rfl) <|
  rwp_det rfl rfl (det_neq rfl rfl rfl) <|
  rwp_nil <|
  awp_cond rfl (fun c1 => ?_) (fun c1 => ?_)
 ·try simp only [sx] at c1
  refine sReg rfl <|
   rMv rfl <|
   rwp_nil <|
   awp_ret <|
   fin1 (rs_c rfl) ?_
  rw [dec_false (fun h => c1 (by rw [h]))]
 ·try simp only [sx] at c1
  refine awp_skip <|
   awp_seq <|
   sReg rfl <|
   rMv rfl <|
   rwp_nil <|
   awp_block <|
   awp_weak ⟨[(5, .c _), (0, .c _), (1, .c _)], []⟩ (Weak.mk [] ⟨VLe.of_eq rfl, VLe.of_eq rfl, VLe.of_eq rfl, trivial⟩ rfl) <|
   awp_loop_k 1 0 rfl rfl (Nat) (fun k => [(5, vI k)]) (fun k => []) (fun k => k ≤ a.length ∧ (a.take k = b.take k)) (fun k => a.length - k) ⟨0, ⟨by omega, rfl⟩, Weak.mk [] ⟨VLe.refl _, VLe.refl _, VLe.refl _, trivial⟩ rfl⟩ ?_
  rintro k ⟨hk, hp⟩
  refine awp_seq <|
   sReg rfl <|
   rMv rfl <|
   rMv rfl <|
   rwp_det rfl rfl (det_len_slm rfl el34 rfl) <|
   rwp_det rfl rfl (det_lss rfl rfl rfl) <|
   rwp_nil <|
   awp_cond rfl (fun c2 => ?_) (fun c2 => ?_)
  ·try simp only [sx] at c2
   obtain ⟨x, hx⟩ := ex_get a k (by omega)
   obtain ⟨y, hy⟩ := ex_get b k (by omega)
   have hxw := idxWt_mem (mem_of_get hx)
   refine awp_skip <|
    awp_seq <|
    awp_block <|
    awp_seq <|
    awp_draw 10 mixed (by kernel_rfl) rfl rfl <|
    td_det rfl rfl (det_move rfl rfl) <|
    td_det rfl rfl (det_move rfl rfl) <|
    td_det rfl rfl (det_index_sl rfl el34 rfl rfl (by omega) (getm (by assumption))) <|
    td_det rfl rfl (det_load_agg rfl agg72 rfl ptr_imm rfl) <|
    td_det rfl rfl (det_move rfl rfl) <|
    td_det rfl rfl (det_move rfl rfl) <|
    td_det rfl rfl (det_index_sl rfl el34 rfl rfl (by omega) (getm (by assumption))) <|
    td_det rfl rfl (det_load_agg rfl agg72 rfl ptr_imm rfl) <|
    td_det rfl rfl (det_call rfl ok174 (base_Index x y (by omega)) ⟨VLe.refl _, rfl, VLe.refl _, rfl, trivial⟩) <|
    td_det rfl rfl (det_not rfl rfl) <|
    td_nil <|
    rwp_nil <|
    awp_cond rfl (fun c3 => ?_) (fun c3 => ?_)
   ·try simp only [sx] at c3
    refine sReg rfl <|
     rMv rfl <|
     rwp_nil <|
     awp_ret <|
     fin1 (rs_c rfl) ?_
    rw [dec_false (ne_of_get hx hy c3)]
   ·try simp only [sx] at c3
    refine awp_skip <|
     awp_region rfl <|
     rMv rfl <|
     rwp_det rfl rfl (det_add_nw rfl rfl rfl ⟨by omega, by omega⟩) <|
     rMv rfl <|
     rwp_nil ?_
    refine ⟨k + 1, ⟨by omega, take_eq_next hx hy hp c3⟩, (by omega), Weak.mk [] ⟨VLe.refl _, VLe.refl _, VLe.refl _, trivial⟩ rfl⟩
  ·try simp only [sx] at c2
   refine awp_exit <|
    sReg rfl <|
    rMv rfl <|
    rwp_nil <|
    awp_ret <|
    fin1 (rs_c rfl) ?_
   rw [dec_true (eq_of_take hp (by omega) (by omega))]

theorem base_Exprs_of (a b : List Ex) (hE : ∀ x, x ∈ a → ∀ y, Pur cfg 141 [vE x, vE y] (vB (decide (x = y)))) (ha : a.length ≤ 6000000000000) :
    Pur cfg 176 [vEs a, vEs b] (vB (decide (a = b))) := by
 refine con_intro Tryz.func176 rfl Tryz.ntmps176 Tryz.results176 rfl ?_
 intro z hz
 refine sReg rfl <|
  rMv rfl <|
  rwp_nil <|
  awp_seq <|
  sReg rfl <|
  rMv rfl <|
  rwp_det rfl rfl (det_len_slm rfl el42 rfl) <|
  rMv rfl <|
  rwp_det rfl rfl (det_len_slm rfl el42 rfl) <|
  rwp_det rfl rfl (det_neq rfl rfl rfl) <|
  rwp_nil <|
  awp_cond rfl (fun c1 => ?_) (fun c1 => ?_)
 ·try simp only [sx] at c1
  refine sReg rfl <|
   rMv rfl <|
   rwp_nil <|
   awp_ret <|
   fin1 (rs_c rfl) ?_
  rw [dec_false (fun h => c1 (by rw [h]))]
 ·try simp only [sx] at c1
  refine awp_skip <|
   awp_seq <|
   sReg rfl <|
   rMv rfl <|
   rwp_nil <|
   awp_block <|
   awp_weak ⟨[(5, .c _), (0, .c _), (1, .c _)], []⟩ (Weak.mk [] ⟨VLe.of_eq rfl, VLe.of_eq rfl, VLe.of_eq rfl, trivial⟩ rfl) <|
   awp_loop_k 1 0 rfl rfl (Nat) (fun k => [(5, vI k)]) (fun k => []) (fun k => k ≤ a.length ∧ (a.take k = b.take k)) (fun k => a.length - k) ⟨0, ⟨by omega, rfl⟩, Weak.mk [] ⟨VLe.refl _, VLe.refl _, VLe.refl _, trivial⟩ rfl⟩ ?_
  rintro k ⟨hk, hp⟩
  refine awp_seq <|
   sReg rfl <|
   rMv rfl <|
   rMv rfl <|
   rwp_det rfl rfl (det_len_slm rfl el42 rfl) <|
   rwp_det rfl rfl (det_lss rfl rfl rfl) <|
   rwp_nil <|
   awp_cond rfl (fun c2 => ?_) (fun c2 => ?_)
  ·try simp only [sx] at c2
   obtain ⟨x, hx⟩ := ex_get a k (by omega)
   obtain ⟨y, hy⟩ := ex_get b k (by omega)
   refine awp_skip <|
    awp_seq <|
    awp_block <|
    awp_seq <|
    awp_draw 10 mixed (by kernel_rfl) rfl rfl <|
    td_det rfl rfl (det_move rfl rfl) <|
    td_det rfl rfl (det_move rfl rfl) <|
    td_det rfl rfl (det_index_sl rfl el42 rfl rfl (by omega) (getmE (by assumption))) <|
    td_det rfl rfl (det_load_agg rfl agg44 rfl ptr_imm rfl) <|
    td_det rfl rfl (det_move rfl rfl) <|
    td_det rfl rfl (det_move rfl rfl) <|
    td_det rfl rfl (det_index_sl rfl el42 rfl rfl (by omega) (getmE (by assumption))) <|
    td_det rfl rfl (det_load_agg rfl agg44 rfl ptr_imm rfl) <|
    td_det rfl rfl (det_call rfl ok141 (hE x (mem_of_get hx) y) ⟨VLe.refl _, rfl, VLe.refl _, rfl, trivial⟩) <|
    td_det rfl rfl (det_not rfl rfl) <|
    td_nil <|
    rwp_nil <|
    awp_cond rfl (fun c3 => ?_) (fun c3 => ?_)
   ·try simp only [sx] at c3
    refine sReg rfl <|
     rMv rfl <|
     rwp_nil <|
     awp_ret <|
     fin1 (rs_c rfl) ?_
    rw [dec_false (ne_of_get hx hy c3)]
   ·try simp only [sx] at c3
    refine awp_skip <|
     awp_region rfl <|
     rMv rfl <|
     rwp_det rfl rfl (det_add_nw rfl rfl rfl ⟨by omega, by omega⟩) <|
     rMv rfl <|
     rwp_nil ?_
    refine ⟨k + 1, ⟨by omega, take_eq_next hx hy hp c3⟩, (by omega), Weak.mk [] ⟨VLe.refl _, VLe.refl _, VLe.refl _, trivial⟩ rfl⟩
  ·try simp only [sx] at c2
   refine awp_exit <|
    sReg rfl <|
    rMv rfl <|
    rwp_nil <|
    awp_ret <|
    fin1 (rs_c rfl) ?_
   rw [dec_true (eq_of_take hp (by omega) (by omega))]

theorem base_Expr_step (a : Ex) (ih : ∀ x, x ∈ a.Args → x.wt ≤ 6000000000000 → ∀ y, Pur cfg 141 [vE x, vE y] (vB (decide (x = y)))) (ha : a.wt ≤ 6000000000000) (b : Ex) :
    Pur cfg 141 [vE a, vE b] (vB (decide (a = b))) := by
 refine con_intro Tryz.func141 rfl Tryz.ntmps141 Tryz.results141 rfl ?_
 intro z hz
 obtain ⟨hL, hI, hA⟩ := a.parts ha
 have hw := Ex.wt_eq a
 refine sReg rfl <|
  rwp_op rfl rfl (ope_box rfl rfl) ?_
 rintro _ _ ⟨b1, rfl, rfl⟩
 refine rwp_op rfl rfl (ope_box rfl rfl) ?_
 rintro _ _ ⟨b2, rfl, rfl⟩
 refine rMv rfl <|
  rwp_nil <|
  sReg rfl <|
  rwp_det rfl rfl (det_field_lit rfl fd44_0 rfl) <|
  rwp_det rfl rfl (det_load_one rfl one3 rfl (ptr_row 1 rfl) rfl) <|
  rwp_det rfl rfl (det_field_lit rfl fd44_0 rfl) <|
  rwp_det rfl rfl (det_load_one rfl one3 rfl (ptr_row 0 rfl) rfl) <|
  rwp_det rfl rfl (det_eql rfl rfl rfl) <|
  rMv rfl <|
  rLz [] rfl gv1 trivial (fun g1_5 => det_field_lit rfl fd44_1 rfl) rfl <|
  rLz [(11, _)] rfl gv1 ⟨rfl, rfl, trivial⟩ (fun g1_5 => det_load_one rfl one9 rfl (ptr_row 1 rfl) rfl) rfl <|
  rLz [] rfl gv1 trivial (fun g1_5 => det_field_lit rfl fd44_1 rfl) rfl <|
  rLz [(13, _)] rfl gv1 ⟨rfl, rfl, trivial⟩ (fun g1_5 => det_load_one rfl one9 rfl (ptr_row 0 rfl) rfl) rfl <|
  rLz [(12, _), (14, _)] rfl gv1 ⟨rfl, rfl, rfl, rfl, trivial⟩ (fun g1_5 => det_seql rfl rfl rfl) rfl <|
  rwp_det rfl rfl (det_and rfl rfl rfl (fun h => h) rfl) <|
  rMv rfl <|
  rLz [] rfl gv1 trivial (fun g1_12 => det_field_lit rfl fd44_2 rfl) rfl <|
  rLz [(18, _)] rfl gv1 ⟨rfl, rfl, trivial⟩ (fun g1_12 => det_load_agg rfl agg36 rfl (ptr_row 1 rfl) rfl) rfl <|
  rLz [] rfl gv1 trivial (fun g1_12 => det_field_lit rfl fd44_2 rfl) rfl <|
  rLz [(20, _)] rfl gv1 ⟨rfl, rfl, trivial⟩ (fun g1_12 => det_load_agg rfl agg36 rfl (ptr_row 0 rfl) rfl) rfl <|
  rLz [(19, _), (21, _)] rfl gv1 ⟨rfl, rfl, rfl, rfl, trivial⟩ (fun g1_12 => det_aeql rfl fl36 rfl rfl rfl) rfl <|
  rwp_det rfl rfl (det_and rfl rfl rfl (fun h => h) rfl) <|
  rMv rfl <|
  rLz [] rfl gv1 trivial (fun g1_19 => det_field_lit rfl fd44_3 rfl) rfl <|
  rLz [(25, _)] rfl gv1 ⟨rfl, rfl, trivial⟩ (fun g1_19 => det_load_agg rfl agg38 rfl (ptr_row 1 rfl) rfl) rfl <|
  rLz [] rfl gv1 trivial (fun g1_19 => det_field_lit rfl fd44_3 rfl) rfl <|
  rLz [(27, _)] rfl gv1 ⟨rfl, rfl, trivial⟩ (fun g1_19 => det_load_agg rfl agg38 rfl (ptr_row 0 rfl) rfl) rfl <|
  rLz [(26, _), (28, _)] rfl gv1 ⟨rfl, rfl, rfl, rfl, trivial⟩ (fun g1_19 => det_aeql rfl fl38 rfl rfl rfl) rfl <|
  rwp_det rfl rfl (det_and rfl rfl rfl (fun h => h) rfl) <|
  rMv rfl <|
  rLz [] rfl gv1 trivial (fun g1_26 => det_field_lit rfl fd44_4 rfl) rfl <|
  rLz [(32, _)] rfl gv1 ⟨rfl, rfl, trivial⟩ (fun g1_26 => det_load_agg rfl agg41 rfl (ptr_row 1 rfl) rfl) rfl <|
  rLz [] rfl gv1 trivial (fun g1_26 => det_field_lit rfl fd44_4 rfl) rfl <|
  rLz [(34, _)] rfl gv1 ⟨rfl, rfl, trivial⟩ (fun g1_26 => det_load_agg rfl agg41 rfl (ptr_row 0 rfl) rfl) rfl <|
  rLz [(33, _), (35, _)] rfl gv1 ⟨rfl, rfl, rfl, rfl, trivial⟩ (fun g1_26 => det_call rfl ok175 (base_Lin a.Lin b.Lin hL) ⟨VLe.refl _, rfl, VLe.refl _, rfl, trivial⟩) rfl <|
  rwp_det rfl rfl (det_and rfl rfl rfl (fun h => h) rfl) <|
  rMv rfl <|
  rLz [] rfl gv1 trivial (fun g1_33 => det_field_lit rfl fd44_5 rfl) rfl <|
  rLz [(39, _)] rfl gv1 ⟨rfl, rfl, trivial⟩ (fun g1_33 => det_load_one rfl one34 rfl (ptr_row 1 rfl) rfl) rfl <|
  rLz [] rfl gv1 trivial (fun g1_33 => det_field_lit rfl fd44_5 rfl) rfl <|
  rLz [(41, _)] rfl gv1 ⟨rfl, rfl, trivial⟩ (fun g1_33 => det_load_one rfl one34 rfl (ptr_row 0 rfl) rfl) rfl <|
  rLz [(40, _), (42, _)] rfl gv1 ⟨rfl, rfl, rfl, rfl, trivial⟩ (fun g1_33 => det_call rfl ok140 (base_Indices a.Idx b.Idx hI (by omega)) ⟨VLe.refl _, rfl, VLe.refl _, rfl, trivial⟩) rfl <|
  rwp_det rfl rfl (det_and rfl rfl rfl (fun h => h) rfl) <|
  rMv rfl <|
  rLz [] rfl gv1 trivial (fun g1_40 => det_field_lit rfl fd44_6 rfl) rfl <|
  rLz [(46, _)] rfl gv1 ⟨rfl, rfl, trivial⟩ (fun g1_40 => det_load_one rfl one42 rfl (ptr_row 1 rfl) rfl) rfl <|
  rLz [] rfl gv1 trivial (fun g1_40 => det_field_lit rfl fd44_6 rfl) rfl <|
  rLz [(48, _)] rfl gv1 ⟨rfl, rfl, trivial⟩ (fun g1_40 => det_load_one rfl one42 rfl (ptr_row 0 rfl) rfl) rfl <|
  rLz [(47, _), (49, _)] rfl gv1 ⟨rfl, rfl, rfl, rfl, trivial⟩ (fun g1_40 => det_call rfl ok176 (base_Exprs_of a.Args b.Args (fun x hx y => ih x hx (by have := Ex.arg_wt hx; omega) y) hA) ⟨VLe.refl _, rfl, VLe.refl _, rfl, trivial⟩) rfl <|
  rwp_det rfl rfl (det_and rfl rfl rfl (fun h => h) rfl) <|
  rMv rfl <|
  rwp_nil <|
  awp_ret <|
  fin1 (rs_c rfl) ?_
 exact congrArg vB (ex_eq a b)

theorem base_Expr (a b : Ex) (ha : a.wt ≤ 6000000000000) : Pur cfg 141 [vE a, vE b] (vB (decide (a = b))) := by
  induction a using Ex.ind generalizing b with
  | _ a ih => exact base_Expr_step a (fun x hx h y => ih x hx y h) ha b

theorem base_Weigh_step (e : Ex) (ih : ∀ a, a ∈ e.Args → ∀ (m : Nat) (x : Int), a.fit → m ≤ 1000000 → x = m → Pur cfg 77 [vE a, vI x] (vI (weighE a m))) (m : Nat) (x : Int) (hf : e.fit) (hm : m ≤ 1000000) (hx : x = m) :
    Pur cfg 77 [vE e, vI x] (vI (weighE e m)) := by
 refine con_intro Tryz.func77 rfl Tryz.ntmps77 Tryz.results77 rfl ?_
 intro z hz
 obtain ⟨f1, f2, f3, f4, f5⟩ := Ex.fit_eq hf
 have hW := weighE_eq e m
 refine sReg rfl <|
  rwp_op rfl rfl (ope_box rfl rfl) ?_
 rintro _ _ ⟨b1, rfl, rfl⟩
 refine rMv rfl <|
  rwp_nil <|
  sReg rfl <|
  rwp_det rfl rfl (det_field_lit rfl fd44_4 rfl) <|
  rwp_det rfl rfl (det_field_lit rfl fd41_1 rfl) <|
  rwp_det rfl rfl (det_load_one rfl one39 rfl (ptr_row 0 rfl) rfl) <|
  rwp_det rfl rfl (det_len_slm rfl el39 rfl) <|
  rwp_det rfl rfl (det_add_nw rfl rfl rfl ⟨by omega, by omega⟩) <|
  rwp_det rfl rfl (det_field_lit rfl fd44_5 rfl) <|
  rwp_det rfl rfl (det_load_one rfl one34 rfl (ptr_row 0 rfl) rfl) <|
  rwp_det rfl rfl (det_len_slm rfl el34 rfl) <|
  rwp_det rfl rfl (det_add_nw rfl rfl rfl ⟨by omega, by omega⟩) <|
  rMv rfl <|
  rwp_nil <|
  awp_seq <|
  sReg rfl <|
  rMv rfl <|
  rwp_nil <|
  awp_block <|
  awp_weak ⟨[(6, .c _), (5, .c _), (1, .c _), (2, .c _)], [_]⟩ (Weak.mk [true] ⟨VLe.of_eq rfl, VLe.of_eq rfl, VLe.of_eq rfl, VLe.of_eq rfl, trivial⟩ rfl) <|
  awp_loop_k 2 0 rfl rfl (Nat × Nat) (fun ⟨k, n⟩ => [(6, vI k), (5, vI n)]) (fun ⟨k, n⟩ => []) (fun ⟨k, n⟩ => k ≤ e.Idx.length ∧ (n ≤ m + 4 * 140737488355328) ∧ (weighIdx m (1 + e.Lin.L.length + e.Idx.length) e.Idx = weighIdx m n (e.Idx.drop k))) (fun ⟨k, n⟩ => e.Idx.length - k) ⟨⟨0, 1 + e.Lin.L.length + e.Idx.length⟩, ⟨by omega, by omega, rfl⟩, Weak.mk [true] ⟨VLe.refl _, VLe.of_eq (congrArg vI (by omega)), VLe.refl _, VLe.refl _, trivial⟩ rfl⟩ ?_
 rintro ⟨k, n⟩ ⟨hk, hn1, hn2⟩
 show AWP _ _ _ _ _ ⟨[(6, vI k), (5, vI n)] ++ _, [] ++ _⟩
 refine awp_seq <|
  sReg rfl <|
  rMv rfl <|
  rwp_det rfl rfl (det_field_lit rfl fd44_5 rfl) <|
  rwp_det rfl rfl (det_load_one rfl one34 rfl (ptr_row 0 rfl) rfl) <|
  rwp_det rfl rfl (det_len_slm rfl el34 rfl) <|
  rwp_det rfl rfl (det_lss rfl rfl rfl) <|
  rMv rfl <|
  rLz [] rfl gv1 trivial (fun g3_5 => det_move rfl rfl) rfl <|
  rLz [] rfl gv1 trivial (fun g3_5 => det_move rfl rfl) rfl <|
  rLz [(24, _), (25, _)] rfl gv1 ⟨rfl, rfl, rfl, rfl, trivial⟩ (fun g3_5 => det_leq rfl rfl rfl) rfl <|
  rwp_det rfl rfl (det_and rfl rfl rfl (fun h => h) rfl) <|
  rwp_nil <|
  awp_cond rfl (fun c1 => ?_) (fun c1 => ?_)
 ·try simp only [sx] at c1
  obtain ⟨y, hy⟩ := ex_get e.Idx k (by omega)
  obtain ⟨i1, i2, i3⟩ := f4 y (mem_of_get hy)
  refine awp_skip <|
   awp_seq <|
   awp_block <|
   awp_seq <|
   awp_draw 19 mixed (by kernel_rfl) rfl rfl <|
   td_det rfl rfl (det_move rfl rfl) <|
   td_det rfl rfl (det_field_lit rfl fd44_5 rfl) <|
   td_det rfl rfl (det_load_one rfl one34 rfl (ptr_row 0 rfl) rfl) <|
   td_det rfl rfl (det_move rfl rfl) <|
   td_det rfl rfl (det_index_sl rfl el34 rfl rfl (by omega) (getm (by assumption))) <|
   td_det rfl rfl (det_field_imm rfl fd72_0 rfl) <|
   td_det rfl rfl (det_field_imm rfl fd41_1 rfl) <|
   td_det rfl rfl (det_load_one rfl one39 rfl ptr_imm rfl) <|
   td_det rfl rfl (det_len_slm rfl el39 rfl) <|
   td_det rfl rfl (det_add_nw rfl rfl rfl ⟨by omega, by omega⟩) <|
   td_det rfl rfl (det_field_lit rfl fd44_5 rfl) <|
   td_det rfl rfl (det_load_one rfl one34 rfl (ptr_row 0 rfl) rfl) <|
   td_det rfl rfl (det_move rfl rfl) <|
   td_det rfl rfl (det_index_sl rfl el34 rfl rfl (by omega) (getm (by assumption))) <|
   td_det rfl rfl (det_field_imm rfl fd72_2 rfl) <|
   td_det rfl rfl (det_load_one rfl one70 rfl ptr_imm rfl) <|
   td_det rfl rfl (det_len_slm rfl el70 rfl) <|
   td_det rfl rfl (det_add_nw rfl rfl rfl ⟨by omega, by omega⟩) <|
   td_det rfl rfl (det_assign rfl rfl) <|
   td_nil <|
   rwp_nil <|
   sReg rfl <|
   rMv rfl <|
   rwp_nil <|
   awp_block <|
   awp_weak ⟨[(7, .c _), (5, .c _), (1, .c _), (2, .c _), (6, .c _)], [_]⟩ (Weak.mk [true] ⟨VLe.of_eq rfl, VLe.of_eq rfl, VLe.of_eq rfl, VLe.of_eq rfl, VLe.of_eq rfl, trivial⟩ rfl) <|
   awp_loop_k 2 0 rfl rfl (Nat × Nat) (fun ⟨j, p⟩ => [(7, vI j), (5, vI p)]) (fun ⟨j, p⟩ => []) (fun ⟨j, p⟩ => j ≤ y.At.length ∧ (p ≤ m + 4 * 140737488355328) ∧ (weighAt m (n + y.Lin.L.length + y.At.length) y.At = weighAt m p (y.At.drop j))) (fun ⟨j, p⟩ => y.At.length - j) ⟨⟨0, n + y.Lin.L.length + y.At.length⟩, ⟨by omega, by omega, rfl⟩, Weak.mk [true] ⟨VLe.refl _, VLe.of_eq (congrArg vI (by omega)), VLe.refl _, VLe.refl _, VLe.refl _, trivial⟩ rfl⟩ ?_
  rintro ⟨j, p⟩ ⟨hj, hp1, hp2⟩
  show AWP _ _ _ _ _ ⟨[(7, vI j), (5, vI p)] ++ _, [] ++ _⟩
  refine awp_seq <|
   sReg rfl <|
   rMv rfl <|
   rwp_det rfl rfl (det_field_lit rfl fd44_5 rfl) <|
   rwp_det rfl rfl (det_load_one rfl one34 rfl (ptr_row 0 rfl) rfl) <|
   rMv rfl <|
   rwp_det rfl rfl (det_index_sl rfl el34 rfl rfl (by omega) (getm (by assumption))) <|
   rwp_det rfl rfl (det_field_imm rfl fd72_2 rfl) <|
   rwp_det rfl rfl (det_load_one rfl one70 rfl ptr_imm rfl) <|
   rwp_det rfl rfl (det_len_slm rfl el70 rfl) <|
   rwp_det rfl rfl (det_lss rfl rfl rfl) <|
   rMv rfl <|
   rLz [] rfl gv1 trivial (fun g7_9 => det_move rfl rfl) rfl <|
   rLz [] rfl gv1 trivial (fun g7_9 => det_move rfl rfl) rfl <|
   rLz [(58, _), (59, _)] rfl gv1 ⟨rfl, rfl, rfl, rfl, trivial⟩ (fun g7_9 => det_leq rfl rfl rfl) rfl <|
   rwp_det rfl rfl (det_and rfl rfl rfl (fun h => h) rfl) <|
   rwp_nil <|
   awp_cond rfl (fun c2 => ?_) (fun c2 => ?_)
  ·try simp only [sx] at c2
   obtain ⟨l, hl⟩ := ex_get y.At j (by omega)
   have hl2 := i3 l (mem_of_get hl)
   refine awp_skip <|
    awp_seq <|
    awp_block <|
    awp_region rfl <|
    rMv rfl <|
    rwp_det rfl rfl (det_field_lit rfl fd44_5 rfl) <|
    rwp_det rfl rfl (det_load_one rfl one34 rfl (ptr_row 0 rfl) rfl) <|
    rMv rfl <|
    rwp_det rfl rfl (det_index_sl rfl el34 rfl rfl (by omega) (getm (by assumption))) <|
    rwp_det rfl rfl (det_field_imm rfl fd72_2 rfl) <|
    rwp_det rfl rfl (det_load_one rfl one70 rfl ptr_imm rfl) <|
    rMv rfl <|
    rwp_det rfl rfl (det_index_sl rfl el70 rfl rfl (by omega) (getm (by assumption))) <|
    rwp_det rfl rfl (det_field_imm rfl fd41_1 rfl) <|
    rwp_det rfl rfl (det_load_one rfl one39 rfl ptr_imm rfl) <|
    rwp_det rfl rfl (det_len_slm rfl el39 rfl) <|
    rwp_det rfl rfl (det_add_nw rfl rfl rfl ⟨by omega, by omega⟩) <|
    rMv rfl <|
    rwp_nil <|
    awp_region rfl <|
    rMv rfl <|
    rwp_det rfl rfl (det_add_nw rfl rfl rfl ⟨by omega, by omega⟩) <|
    rMv rfl <|
    rwp_nil ?_
   refine ⟨⟨j + 1, p + l.L.length⟩, ⟨by omega, by omega, by rw [hp2, drop_cons hl, weighAt, if_pos (by omega)]⟩, (by show y.At.length - (j + 1) < y.At.length - j; omega), Weak.mk [true] ⟨VLe.refl _, VLe.of_eq (congrArg vI (by omega)), VLe.refl _, VLe.refl _, VLe.refl _, trivial⟩ rfl⟩
  ·try simp only [sx] at c2
   have hN2 := weighAt_end (l := y.At) (k := j) (n := p) hx (by omega)
   refine awp_exit <|
    awp_region rfl <|
    rMv rfl <|
    rwp_det rfl rfl (det_add_nw rfl rfl rfl ⟨by omega, by omega⟩) <|
    rMv rfl <|
    rwp_nil ?_
   refine ⟨⟨k + 1, p⟩, ⟨by omega, hp1, by rw [hn2, drop_cons hy, weighIdx, if_pos (by omega), hp2, ← hN2]⟩, (by show e.Idx.length - (k + 1) < e.Idx.length - k; omega), Weak.mk [true] ⟨VLe.refl _, VLe.refl _, VLe.refl _, VLe.refl _, trivial⟩ rfl⟩
 ·try simp only [sx] at c1
  have hN := weighIdx_end (l := e.Idx) (k := k) (n := n) hx (by omega)
  refine awp_exit <|
   awp_seq <|
   sReg rfl <|
   rMv rfl <|
   rwp_nil <|
   awp_block <|
   awp_weak ⟨[(8, .c _), (5, .c _), (1, .c _), (2, .c _)], [_]⟩ (Weak.mk [true] ⟨VLe.of_eq rfl, VLe.of_eq rfl, VLe.of_eq rfl, VLe.of_eq rfl, trivial⟩ rfl) <|
   awp_loop_k 2 0 rfl rfl (Nat × Nat) (fun ⟨k, n⟩ => [(8, vI k), (5, vI n)]) (fun ⟨k, n⟩ => []) (fun ⟨k, n⟩ => k ≤ e.Args.length ∧ (n ≤ m + 4 * 140737488355328) ∧ (weighE e m = weighL (e.Args.drop k) m n)) (fun ⟨k, n⟩ => e.Args.length - k) ⟨⟨0, n⟩, ⟨by omega, hn1, by rw [hW, hn2, ← hN]; rfl⟩, Weak.mk [true] ⟨VLe.refl _, VLe.refl _, VLe.refl _, VLe.refl _, trivial⟩ rfl⟩ ?_
  rintro ⟨k, n⟩ ⟨hk3, hn3, hn4⟩
  show AWP _ _ _ _ _ ⟨[(8, vI k), (5, vI n)] ++ _, [] ++ _⟩
  refine awp_seq <|
   sReg rfl <|
   rMv rfl <|
   rwp_det rfl rfl (det_field_lit rfl fd44_6 rfl) <|
   rwp_det rfl rfl (det_load_one rfl one42 rfl (ptr_row 0 rfl) rfl) <|
   rwp_det rfl rfl (det_len_slm rfl el42 rfl) <|
   rwp_det rfl rfl (det_lss rfl rfl rfl) <|
   rMv rfl <|
   rLz [] rfl gv1 trivial (fun g11_5 => det_move rfl rfl) rfl <|
   rLz [] rfl gv1 trivial (fun g11_5 => det_move rfl rfl) rfl <|
   rLz [(83, _), (84, _)] rfl gv1 ⟨rfl, rfl, rfl, rfl, trivial⟩ (fun g11_5 => det_leq rfl rfl rfl) rfl <|
   rwp_det rfl rfl (det_and rfl rfl rfl (fun h => h) rfl) <|
   rwp_nil <|
   awp_cond rfl (fun c3 => ?_) (fun c3 => ?_)
  ·try simp only [sx] at c3
   obtain ⟨a, ha⟩ := ex_get e.Args k (by omega)
   have hwa := weighE_le a (m - n) (f5 a (mem_of_get ha))
   refine awp_skip <|
    awp_seq <|
    awp_block <|
    awp_region rfl <|
    rMv rfl <|
    rwp_det rfl rfl (det_field_lit rfl fd44_6 rfl) <|
    rwp_det rfl rfl (det_load_one rfl one42 rfl (ptr_row 0 rfl) rfl) <|
    rMv rfl <|
    rwp_det rfl rfl (det_index_sl rfl el42 rfl rfl (by omega) (getmE (by assumption))) <|
    rwp_det rfl rfl (det_load_agg rfl agg44 rfl ptr_imm rfl) <|
    rMv rfl <|
    rMv rfl <|
    rwp_det rfl rfl (det_sub_nw rfl rfl rfl ⟨by omega, by omega⟩) <|
    rwp_det rfl rfl (det_call rfl ok77 (ih a (mem_of_get ha) (m - n) _ (f5 a (mem_of_get ha)) (by omega) (by omega)) ⟨VLe.refl _, rfl, VLe.refl _, rfl, trivial⟩) <|
    rwp_det rfl rfl (det_add_nw rfl rfl rfl ⟨by omega, by omega⟩) <|
    rMv rfl <|
    rwp_nil <|
    awp_region rfl <|
    rMv rfl <|
    rwp_det rfl rfl (det_add_nw rfl rfl rfl ⟨by omega, by omega⟩) <|
    rMv rfl <|
    rwp_nil ?_
   refine ⟨⟨k + 1, n + weighE a (m - n)⟩, ⟨by omega, by omega, by rw [hn4, drop_cons ha, weighL, if_pos (by omega)]⟩, (by show e.Args.length - (k + 1) < e.Args.length - k; omega), Weak.mk [true] ⟨VLe.refl _, VLe.of_eq (congrArg vI (by omega)), VLe.refl _, VLe.refl _, trivial⟩ rfl⟩
  ·try simp only [sx] at c3
   refine awp_exit <|
    sReg rfl <|
    rMv rfl <|
    rMv rfl <|
    rwp_nil <|
    awp_ret <|
    fin1 (rs_c rfl) ?_
   exact congrArg vI (by rw [hn4, ← weighL_end hx (by omega)])

theorem base_Weigh (e : Ex) (m : Nat) (x : Int) (hf : e.fit) (hm : m ≤ 1000000) (hx : x = m) : Pur cfg 77 [vE e, vI x] (vI (weighE e m)) := by
  induction e using Ex.ind generalizing m x with
  | _ e ih => exact base_Weigh_step e (fun a ha m x h1 h2 h3 => ih a ha m x h1 h2 h3) m x hf hm hx

theorem slices_Clone_mono (l : List Mono) (hl : l.length ≤ 5864062014805) :
    OwnR cfg 139 [vMonos l] 69 2 (l.map Mono.cells) := by
 refine con_intro Tryz.func139 rfl Tryz.ntmps139 Tryz.results139 rfl ?_
 intro z hz
 refine sReg rfl <|
  rwp_det rfl rfl (det_assignN 2 rfl rfl) <|
  rwp_nil <|
  awp_seq <|
  sReg rfl <|
  rMv rfl <|
  rwp_op rfl rfl (ope_nileq rfl el39 rfl rfl) ?_
 rintro _ _ ⟨nb1, rfl, hnil1, rfl⟩
 refine rwp_nil <|
  awp_cond rfl (fun c1 => ?_) (fun c1 => ?_)
 ·try simp only [sx] at c1
  refine sReg rfl <|
   rMv rfl <|
   rwp_weak _ (weak_own 69 2) <|
   rwp_nil <|
   awp_ret <|
   fin1 (rs_c rfl) ?_
  exact ⟨_, rfl, by rw [hnil1 c1]⟩
 ·try simp only [sx] at c1
  refine awp_skip <|
   sReg rfl <|
   rwp_op rfl rfl (ope_bslice rfl el39 zr69 rfl rfl rfl rfl) ?_
  rintro _ _ ⟨sv3, rfl, rfl⟩
  refine rMv rfl <|
   rwp_op rfl rfl (ope_append 0 rfl el39 rfl rfl rfl (by simp only [List.length_map, List.length_nil, Nat.zero_add]; omega) (by simp only [List.length_map, List.length_nil, Nat.zero_add]; omega)) ?_
  rintro _ _ ⟨sv4, rfl, rfl⟩
  refine rMv rfl <|
   rwp_nil <|
   awp_ret <|
   fin1 (rs_c rfl) ?_
  exact ⟨_, rfl, rfl⟩

theorem slices_Clone_lin (l : List Lf) (hl : l.length ≤ 4294967296) :
    OwnR cfg 134 [vLins l] 41 2 (l.map Lf.cells) := by
 refine con_intro Tryz.func134 rfl Tryz.ntmps134 Tryz.results134 rfl ?_
 intro z hz
 refine sReg rfl <|
  rwp_det rfl rfl (det_assignN 2 rfl rfl) <|
  rwp_nil <|
  awp_seq <|
  sReg rfl <|
  rMv rfl <|
  rwp_op rfl rfl (ope_nileq rfl el70 rfl rfl) ?_
 rintro _ _ ⟨nb1, rfl, hnil1, rfl⟩
 refine rwp_nil <|
  awp_cond rfl (fun c1 => ?_) (fun c1 => ?_)
 ·try simp only [sx] at c1
  refine sReg rfl <|
   rMv rfl <|
   rwp_weak _ (weak_own 41 2) <|
   rwp_nil <|
   awp_ret <|
   fin1 (rs_c rfl) ?_
  exact ⟨_, rfl, by rw [hnil1 c1]⟩
 ·try simp only [sx] at c1
  refine awp_skip <|
   sReg rfl <|
   rwp_op rfl rfl (ope_bslice rfl el70 zr41 rfl rfl rfl rfl) ?_
  rintro _ _ ⟨sv3, rfl, rfl⟩
  refine rMv rfl <|
   rwp_op rfl rfl (ope_append 0 rfl el70 rfl rfl rfl (by simp only [List.length_map, List.length_nil, Nat.zero_add]; omega) (by simp only [List.length_map, List.length_nil, Nat.zero_add]; omega)) ?_
  rintro _ _ ⟨sv4, rfl, rfl⟩
  refine rMv rfl <|
   rwp_nil <|
   awp_ret <|
   fin1 (rs_c rfl) ?_
  exact ⟨_, rfl, rfl⟩

theorem slices_Clone_ix (l : List Ix) (hl : l.length ≤ 4294967296) :
    OwnR cfg 133 [vIndices l] 72 4 (l.map Ix.cells) := by
 refine con_intro Tryz.func133 rfl Tryz.ntmps133 Tryz.results133 rfl ?_
 intro z hz
 refine sReg rfl <|
  rwp_det rfl rfl (det_assignN 4 rfl rfl) <|
  rwp_nil <|
  awp_seq <|
  sReg rfl <|
  rMv rfl <|
  rwp_op rfl rfl (ope_nileq rfl el34 rfl rfl) ?_
 rintro _ _ ⟨nb1, rfl, hnil1, rfl⟩
 refine rwp_nil <|
  awp_cond rfl (fun c1 => ?_) (fun c1 => ?_)
 ·try simp only [sx] at c1
  refine sReg rfl <|
   rMv rfl <|
   rwp_weak _ (weak_own 72 4) <|
   rwp_nil <|
   awp_ret <|
   fin1 (rs_c rfl) ?_
  exact ⟨_, rfl, by rw [hnil1 c1]⟩
 ·try simp only [sx] at c1
  refine awp_skip <|
   sReg rfl <|
   rwp_op rfl rfl (ope_bslice rfl el34 zr72 rfl rfl rfl rfl) ?_
  rintro _ _ ⟨sv3, rfl, rfl⟩
  refine rMv rfl <|
   rwp_op rfl rfl (ope_append 0 rfl el34 rfl rfl rfl (by simp only [List.length_map, List.length_nil, Nat.zero_add]; omega) (by simp only [List.length_map, List.length_nil, Nat.zero_add]; omega)) ?_
  rintro _ _ ⟨sv4, rfl, rfl⟩
  refine rMv rfl <|
   rwp_nil <|
   awp_ret <|
   fin1 (rs_c rfl) ?_
  exact ⟨_, rfl, rfl⟩

theorem slices_Clone_ex (l : List Ex) (hl : l.length ≤ 4294967296) :
    OwnR cfg 173 [vEs l] 44 13 (l.map Ex.cells) := by
 refine con_intro Tryz.func173 rfl Tryz.ntmps173 Tryz.results173 rfl ?_
 intro z hz
 refine sReg rfl <|
  rwp_det rfl rfl (det_assignN 13 rfl rfl) <|
  rwp_nil <|
  awp_seq <|
  sReg rfl <|
  rMv rfl <|
  rwp_op rfl rfl (ope_nileq rfl el42 rfl rfl) ?_
 rintro _ _ ⟨nb1, rfl, hnil1, rfl⟩
 refine rwp_nil <|
  awp_cond rfl (fun c1 => ?_) (fun c1 => ?_)
 ·try simp only [sx] at c1
  refine sReg rfl <|
   rMv rfl <|
   rwp_weak _ (weak_own 44 13) <|
   rwp_nil <|
   awp_ret <|
   fin1 (rs_c rfl) ?_
  exact ⟨_, rfl, by rw [hnil1 c1]⟩
 ·try simp only [sx] at c1
  refine awp_skip <|
   sReg rfl <|
   rwp_op rfl rfl (ope_bslice rfl el42 zr44 rfl rfl rfl rfl) ?_
  rintro _ _ ⟨sv3, rfl, rfl⟩
  refine rMv rfl <|
   rwp_op rfl rfl (ope_append 0 rfl el42 rfl rfl rfl (by simp only [List.length_map, List.length_nil, Nat.zero_add]; omega) (by simp only [List.length_map, List.length_nil, Nat.zero_add]; omega)) ?_
  rintro _ _ ⟨sv4, rfl, rfl⟩
  refine rMv rfl <|
   rwp_nil <|
   awp_ret <|
   fin1 (rs_c rfl) ?_
  exact ⟨_, rfl, rfl⟩

end Go.W
