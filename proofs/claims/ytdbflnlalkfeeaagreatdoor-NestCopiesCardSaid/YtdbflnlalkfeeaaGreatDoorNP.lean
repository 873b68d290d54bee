/-
  Walks: what functions of the program compute. Printed by wip/gen/mk2.py.
  Conditions: none.
-/
import Derived.Test.YtdbflnlalkfeeaaGreatDoorNO
import Derived.Test.YtdbflnlalkfeeaaGreatDoorWT
set_option linter.unusedSimpArgs false
set_option linter.unusedVariables false
set_option maxRecDepth 10000
namespace Go.W
open Go Go.Eng Go.Proofs Go.L41 Go.Br
attribute [local irreducible] AWP RWP TD finQ
theorem rdZ_inj {i j : List Ix} : rdZ i = rdZ j ↔ i = j := by simp [rdZ]
theorem same_st {a b : St} (c : (((a.Op = b.Op ∧ a.Name = b.Name) ∧ a.Many = b.Many) ∧ a.Mark = b.Mark) ∧ a.Fold = b.Fold) : ((decide (rdZ a.Idx = rdZ b.Idx) && decide (a.E = b.E)) && decide (a.Body = b.Body)) = decide (a = b) := by
  rw [Bool.eq_iff_iff]
  simp only [Bool.and_eq_true, decide_eq_true_eq, rdZ_inj, St.eq_iff]
  obtain ⟨⟨⟨⟨p1, p2⟩, p3⟩, p4⟩, p5⟩ := c
  constructor
  · rintro ⟨⟨h1, h2⟩, h3⟩; exact ⟨p1, p2, p3, p4, p5, h1, h2, h3⟩
  · rintro ⟨_, _, _, _, _, h1, h2, h3⟩; exact ⟨⟨h1, h2⟩, h3⟩
theorem same_bf (x y : Bf) : (((decide (x.Name = y.Name) && litsEq [cI x.T.Kind, cI x.T.Bits, cI x.T.Frac, cI x.T.Round, cI x.T.Over] [cI y.T.Kind, cI y.T.Bits, cI y.T.Frac, cI y.T.Round, cI y.T.Over]) && decide (x.Use = y.Use)) && decide (x.Dims = y.Dims)) = decide (x = y) := by
  have h := bf_ne x y
  rw [← Bool.not_and, ← Bool.not_and, ← Bool.not_and] at h
  exact Bool.not_inj h
theorem same_ns (a b : Ns) : (decide (a.Bufs = b.Bufs) && decide (a.Body = b.Body)) = decide (a = b) := by
  rw [Bool.eq_iff_iff]
  simp only [Bool.and_eq_true, decide_eq_true_eq, Ns.eq_iff]
theorem ok105 : callOk Tryz.prog 105 = true := by kernel_rfl
theorem ok106 : callOk Tryz.prog 106 = true := by kernel_rfl
theorem ok107 : callOk Tryz.prog 107 = true := by kernel_rfl
theorem ok108 : callOk Tryz.prog 108 = true := by kernel_rfl
theorem ok149 : callOk Tryz.prog 149 = true := by kernel_rfl
theorem slices_EqualFunc_St (a b : List St) (c : C) (ha : a.length ≤ 4294967296) (hc : ∀ x, x ∈ a → ∀ y, y ∈ b → FnPur cfg c [vSt x, vSt y] (vB (decide (x = y)))) :
    Pur cfg 107 [.c (.sl 20 (a.map St.cells)), .c (.sl 20 (b.map St.cells)), .c c] (vB (decide (a = b))) := by
 refine con_intro Tryz.func107 rfl Tryz.ntmps107 Tryz.results107 rfl ?_
 intro z hz
 refine sReg rfl <|
  rMv rfl <|
  rwp_nil <|
  awp_seq <|
  sReg rfl <|
  rMv rfl <|
  rwp_det rfl rfl (det_len_slm rfl el23 rfl) <|
  rMv rfl <|
  rwp_det rfl rfl (det_len_slm rfl el23 rfl) <|
  rwp_det rfl rfl (det_neq rfl rfl rfl) <|
  rwp_nil <|
  awp_cond rfl (fun c1 => ?_) (fun c1 => ?_)
 ·try simp only [sx] at c1
  refine sReg rfl <|
   rMv rfl <|
   rwp_nil <|
   awp_ret <|
   fin1 (rs_c rfl) ?_
  rw [dec_false (fun h => c1 (by rw [h]))]
 ·try simp only [sx] at c1
  refine awp_skip <|
   awp_seq <|
   sReg rfl <|
   rMv rfl <|
   rwp_det rfl rfl (det_len_slm rfl el23 rfl) <|
   rMv rfl <|
   rwp_nil <|
   awp_block <|
   awp_weak ⟨[(17, .c _), (1, .c _), (2, .c _), (15, .c _), (16, .c _)], []⟩ (Weak.mk [] ⟨VLe.of_eq rfl, VLe.of_eq rfl, VLe.of_eq rfl, VLe.of_eq rfl, VLe.of_eq rfl, trivial⟩ rfl) <|
   awp_loop_k 1 0 rfl rfl (Nat) (fun k => [(17, vI k)]) (fun k => []) (fun k => k ≤ a.length ∧ (a.take k = b.take k)) (fun k => a.length - k) ⟨0, ⟨by omega, rfl⟩, Weak.mk [] ⟨VLe.refl _, VLe.refl _, VLe.refl _, VLe.refl _, VLe.refl _, trivial⟩ rfl⟩ ?_
  rintro k ⟨hk, hp⟩
  refine sReg rfl <|
   rwp_det rfl rfl (det_lss rfl rfl rfl) <|
   rwp_nil <|
   awp_seq <|
   awp_cond rfl (fun c2 => ?_) (fun c2 => ?_)
  ·try simp only [sx] at c2
   obtain ⟨x, hx⟩ := ex_get a k (by omega)
   obtain ⟨y, hy⟩ := ex_get b k (by omega)
   refine awp_skip <|
    awp_seq <|
    awp_block <|
    sReg rfl <|
    rMv rfl <|
    rwp_det rfl rfl (det_index_sl rfl el23 rfl rfl (by omega) (getmS hx)) <|
    rwp_det rfl rfl (det_load_agg rfl agg54 rfl ptr_imm rfl) <|
    rwp_op rfl rfl (ope_allocN [none, none, none, none, none, some 4, none, none, none, none, none, none, none, none, none, none, some 2, some 4, some 13, some 20] rfl zr54 rfl) ?_
   rintro _ _ ⟨b1, rfl, rfl⟩
   refine rMv rfl <|
    rwp_det0 rfl rfl (det_store rfl sz54 rfl rfl rfl (st_row 0 rfl rfl)) <|
    rwp_nil <|
    sReg rfl <|
    rMv rfl <|
    rMv rfl <|
    rwp_det rfl rfl (det_index_sl rfl el23 rfl rfl (by omega) (getmS hy)) <|
    rwp_det rfl rfl (det_load_agg rfl agg54 rfl ptr_imm rfl) <|
    rwp_op rfl rfl (ope_allocN [none, none, none, none, none, some 4, none, none, none, none, none, none, none, none, none, none, some 2, some 4, some 13, some 20] rfl zr54 rfl) ?_
   rintro _ _ ⟨b2, rfl, rfl⟩
   refine rwp_det0 rfl rfl (det_store rfl sz54 rfl rfl rfl (st_row 0 rfl rfl)) <|
    rwp_nil <|
    sReg rfl <|
    rMv rfl <|
    rwp_det rfl rfl (det_load_agg rfl agg54 rfl (ptr_row 1 rfl) rfl) <|
    rwp_det rfl rfl (det_load_agg rfl agg54 rfl (ptr_row 0 rfl) rfl) <|
    rwp_det rfl rfl (det_call_val rfl rfl (hc _ (mem_of_get hx) _ (mem_of_get hy)) ⟨VLe.refl _, rfl, VLe.refl _, rfl, trivial⟩) <|
    rwp_det rfl rfl (det_not rfl rfl) <|
    rwp_nil <|
    awp_cond rfl (fun c3 => ?_) (fun c3 => ?_)
   ·try simp only [sx] at c3
    refine sReg rfl <|
     rMv rfl <|
     rwp_nil <|
     awp_ret <|
     fin1 (rs_c rfl) ?_
    rw [dec_false (ne_of_get hx hy c3)]
   ·try simp only [sx] at c3
    refine awp_skip <|
     awp_region rfl <|
     rwp_det rfl rfl (det_add_nw rfl rfl rfl ⟨by omega, by omega⟩) <|
     rMv rfl <|
     rwp_nil ?_
    refine ⟨k + 1, ⟨by omega, take_eq_next hx hy hp c3⟩, (by omega), Weak.mk [false, false] ⟨VLe.refl _, VLe.refl _, VLe.refl _, VLe.refl _, VLe.refl _, trivial⟩ rfl⟩
  ·try simp only [sx] at c2
   refine awp_exit <|
    sReg rfl <|
    rMv rfl <|
    rwp_nil <|
    awp_ret <|
    fin1 (rs_c rfl) ?_
   rw [dec_true (eq_of_take hp (by omega) (by omega))]

theorem slices_EqualFunc_Bf (a b : List Bf) (c : C) (ha : a.length ≤ 4294967296) (hc : ∀ x, x ∈ a → ∀ y, y ∈ b → FnPur cfg c [vBf x, vBf y] (vB (decide (x = y)))) :
    Pur cfg 105 [.c (.sl 8 (a.map Bf.cells)), .c (.sl 8 (b.map Bf.cells)), .c c] (vB (decide (a = b))) := by
 refine con_intro Tryz.func105 rfl Tryz.ntmps105 Tryz.results105 rfl ?_
 intro z hz
 refine sReg rfl <|
  rMv rfl <|
  rwp_nil <|
  awp_seq <|
  sReg rfl <|
  rMv rfl <|
  rwp_det rfl rfl (det_len_slm rfl el22 rfl) <|
  rMv rfl <|
  rwp_det rfl rfl (det_len_slm rfl el22 rfl) <|
  rwp_det rfl rfl (det_neq rfl rfl rfl) <|
  rwp_nil <|
  awp_cond rfl (fun c1 => ?_) (fun c1 => ?_)
 ·try simp only [sx] at c1
  refine sReg rfl <|
   rMv rfl <|
   rwp_nil <|
   awp_ret <|
   fin1 (rs_c rfl) ?_
  rw [dec_false (fun h => c1 (by rw [h]))]
 ·try simp only [sx] at c1
  refine awp_skip <|
   awp_seq <|
   sReg rfl <|
   rMv rfl <|
   rwp_det rfl rfl (det_len_slm rfl el22 rfl) <|
   rMv rfl <|
   rwp_nil <|
   awp_block <|
   awp_weak ⟨[(17, .c _), (1, .c _), (2, .c _), (15, .c _), (16, .c _)], []⟩ (Weak.mk [] ⟨VLe.of_eq rfl, VLe.of_eq rfl, VLe.of_eq rfl, VLe.of_eq rfl, VLe.of_eq rfl, trivial⟩ rfl) <|
   awp_loop_k 1 0 rfl rfl (Nat) (fun k => [(17, vI k)]) (fun k => []) (fun k => k ≤ a.length ∧ (a.take k = b.take k)) (fun k => a.length - k) ⟨0, ⟨by omega, rfl⟩, Weak.mk [] ⟨VLe.refl _, VLe.refl _, VLe.refl _, VLe.refl _, VLe.refl _, trivial⟩ rfl⟩ ?_
  rintro k ⟨hk, hp⟩
  refine sReg rfl <|
   rwp_det rfl rfl (det_lss rfl rfl rfl) <|
   rwp_nil <|
   awp_seq <|
   awp_cond rfl (fun c2 => ?_) (fun c2 => ?_)
  ·try simp only [sx] at c2
   obtain ⟨x, hx⟩ := ex_get a k (by omega)
   obtain ⟨y, hy⟩ := ex_get b k (by omega)
   refine awp_skip <|
    awp_seq <|
    awp_block <|
    sReg rfl <|
    rMv rfl <|
    rwp_det rfl rfl (det_index_sl rfl el22 rfl rfl (by omega) (getm (by assumption))) <|
    rwp_det rfl rfl (det_load_agg rfl agg42 rfl ptr_imm rfl) <|
    rwp_op rfl rfl (ope_allocN [none, none, none, none, none, none, some 1, none] rfl zr42 rfl) ?_
   rintro _ _ ⟨b1, rfl, rfl⟩
   refine rMv rfl <|
    rwp_det0 rfl rfl (det_store rfl sz42 rfl rfl rfl (st_row 0 rfl rfl)) <|
    rwp_nil <|
    sReg rfl <|
    rMv rfl <|
    rMv rfl <|
    rwp_det rfl rfl (det_index_sl rfl el22 rfl rfl (by omega) (getm (by assumption))) <|
    rwp_det rfl rfl (det_load_agg rfl agg42 rfl ptr_imm rfl) <|
    rwp_op rfl rfl (ope_allocN [none, none, none, none, none, none, some 1, none] rfl zr42 rfl) ?_
   rintro _ _ ⟨b2, rfl, rfl⟩
   refine rwp_det0 rfl rfl (det_store rfl sz42 rfl rfl rfl (st_row 0 rfl rfl)) <|
    rwp_nil <|
    sReg rfl <|
    rMv rfl <|
    rwp_det rfl rfl (det_load_agg rfl agg42 rfl (ptr_row 1 rfl) rfl) <|
    rwp_det rfl rfl (det_load_agg rfl agg42 rfl (ptr_row 0 rfl) rfl) <|
    rwp_det rfl rfl (det_call_val rfl rfl (hc _ (mem_of_get hx) _ (mem_of_get hy)) ⟨VLe.refl _, rfl, VLe.refl _, rfl, trivial⟩) <|
    rwp_det rfl rfl (det_not rfl rfl) <|
    rwp_nil <|
    awp_cond rfl (fun c3 => ?_) (fun c3 => ?_)
   ·try simp only [sx] at c3
    refine sReg rfl <|
     rMv rfl <|
     rwp_nil <|
     awp_ret <|
     fin1 (rs_c rfl) ?_
    rw [dec_false (ne_of_get hx hy c3)]
   ·try simp only [sx] at c3
    refine awp_skip <|
     awp_region rfl <|
     rwp_det rfl rfl (det_add_nw rfl rfl rfl ⟨by omega, by omega⟩) <|
     rMv rfl <|
     rwp_nil ?_
    refine ⟨k + 1, ⟨by omega, take_eq_next hx hy hp c3⟩, (by omega), Weak.mk [false, false] ⟨VLe.refl _, VLe.refl _, VLe.refl _, VLe.refl _, VLe.refl _, trivial⟩ rfl⟩
  ·try simp only [sx] at c2
   refine awp_exit <|
    sReg rfl <|
    rMv rfl <|
    rwp_nil <|
    awp_ret <|
    fin1 (rs_c rfl) ?_
   rw [dec_true (eq_of_take hp (by omega) (by omega))]

theorem slices_Equal_int (a b : List Int) (ha : a.length ≤ 17592186044416) :
    Pur cfg 149 [vIs a, vIs b] (vB (decide (a = b))) := by
 refine con_intro Tryz.func149 rfl Tryz.ntmps149 Tryz.results149 rfl ?_
 intro z hz
 refine sReg rfl <|
  rMv rfl <|
  rwp_nil <|
  awp_seq <|
  sReg rfl <|
  rMv rfl <|
  rwp_det rfl rfl (det_len_slm rfl el33 rfl) <|
  rMv rfl <|
  rwp_det rfl rfl (det_len_slm rfl el33 rfl) <|
  rwp_det rfl rfl (det_neq rfl rfl rfl) <|
  rwp_nil <|
  awp_cond rfl (fun c1 => ?_) (fun c1 => ?_)
 ·try simp only [sx] at c1
  refine sReg rfl <|
   rMv rfl <|
   rwp_nil <|
   awp_ret <|
   fin1 (rs_c rfl) ?_
  rw [dec_false (fun h => c1 (by rw [h]))]
 ·try simp only [sx] at c1
  refine awp_skip <|
   awp_seq <|
   sReg rfl <|
   rMv rfl <|
   rwp_det rfl rfl (det_len_slm rfl el33 rfl) <|
   rMv rfl <|
   rwp_nil <|
   awp_block <|
   awp_weak ⟨[(13, .c _), (0, .c _), (1, .c _), (12, .c _)], []⟩ (Weak.mk [] ⟨VLe.of_eq rfl, VLe.of_eq rfl, VLe.of_eq rfl, VLe.of_eq rfl, trivial⟩ rfl) <|
   awp_loop_k 1 0 rfl rfl (Nat) (fun k => [(13, vI k)]) (fun k => []) (fun k => k ≤ a.length ∧ (a.take k = b.take k)) (fun k => a.length - k) ⟨0, ⟨by omega, rfl⟩, Weak.mk [] ⟨VLe.refl _, VLe.refl _, VLe.refl _, VLe.refl _, trivial⟩ rfl⟩ ?_
  rintro k ⟨hk, hp⟩
  refine sReg rfl <|
   rwp_det rfl rfl (det_lss rfl rfl rfl) <|
   rwp_nil <|
   awp_seq <|
   awp_cond rfl (fun c2 => ?_) (fun c2 => ?_)
  ·try simp only [sx] at c2
   obtain ⟨x, hx⟩ := ex_get a k (by omega)
   obtain ⟨y, hy⟩ := ex_get b k (by omega)
   refine awp_skip <|
    awp_seq <|
    awp_block <|
    sReg rfl <|
    rMv rfl <|
    rMv rfl <|
    rwp_nil <|
    awp_seq <|
    awp_draw 9 mixed (by kernel_rfl) rfl rfl <|
    td_det rfl rfl (det_move rfl rfl) <|
    td_det rfl rfl (det_move rfl rfl) <|
    td_det rfl rfl (det_index_sl rfl el33 rfl rfl (by omega) (getm (by assumption))) <|
    td_det rfl rfl (det_load_one rfl one3 rfl ptr_imm rfl) <|
    td_det rfl rfl (det_move rfl rfl) <|
    td_det rfl rfl (det_move rfl rfl) <|
    td_det rfl rfl (det_index_sl rfl el33 rfl rfl (by omega) (getm (by assumption))) <|
    td_det rfl rfl (det_load_one rfl one3 rfl ptr_imm rfl) <|
    td_det rfl rfl (det_neq rfl rfl rfl) <|
    td_nil <|
    rwp_nil <|
    awp_cond rfl (fun c3 => ?_) (fun c3 => ?_)
   ·try simp only [sx] at c3
    refine sReg rfl <|
     rMv rfl <|
     rwp_nil <|
     awp_ret <|
     fin1 (rs_c rfl) ?_
    rw [dec_false (ne_of_get hx hy c3)]
   ·try simp only [sx] at c3
    refine awp_skip <|
     awp_region rfl <|
     rwp_det rfl rfl (det_add_nw rfl rfl rfl ⟨by omega, by omega⟩) <|
     rMv rfl <|
     rwp_nil ?_
    refine ⟨k + 1, ⟨by omega, take_eq_next hx hy hp c3⟩, (by omega), Weak.mk [] ⟨VLe.refl _, VLe.refl _, VLe.refl _, VLe.refl _, trivial⟩ rfl⟩
  ·try simp only [sx] at c2
   refine awp_exit <|
    sReg rfl <|
    rMv rfl <|
    rwp_nil <|
    awp_ret <|
    fin1 (rs_c rfl) ?_
   rw [dec_true (eq_of_take hp (by omega) (by omega))]

theorem loopnest_sameBuffer (a b : Bf) (ha : a.Dims.length ≤ 17592186044416) :
    Pur cfg 106 [vBf a, vBf b] (vB (decide (a = b))) := by
 refine con_intro Tryz.func106 rfl Tryz.ntmps106 Tryz.results106 rfl ?_
 intro z hz
 refine sReg rfl <|
  rwp_op rfl rfl (ope_box rfl rfl) ?_
 rintro _ _ ⟨b1, rfl, rfl⟩
 refine rwp_op rfl rfl (ope_box rfl rfl) ?_
 rintro _ _ ⟨b2, rfl, rfl⟩
 refine rMv rfl <|
  rwp_nil <|
  sReg rfl <|
  rwp_det rfl rfl (det_field_lit rfl fd42_0 rfl) <|
  rwp_det rfl rfl (det_load_one rfl one9 rfl (ptr_row 1 rfl) rfl) <|
  rwp_det rfl rfl (det_field_lit rfl fd42_0 rfl) <|
  rwp_det rfl rfl (det_load_one rfl one9 rfl (ptr_row 0 rfl) rfl) <|
  rwp_det rfl rfl (det_seql rfl rfl rfl) <|
  rMv rfl <|
  rLz [] rfl gv1 trivial (fun g1_5 => det_field_lit rfl fd42_1 rfl) rfl <|
  rLz [(11, _)] rfl gv1 ⟨rfl, rfl, trivial⟩ (fun g1_5 => det_load_agg rfl agg40 rfl (ptr_row 1 rfl) rfl) rfl <|
  rLz [] rfl gv1 trivial (fun g1_5 => det_field_lit rfl fd42_1 rfl) rfl <|
  rLz [(13, _)] rfl gv1 ⟨rfl, rfl, trivial⟩ (fun g1_5 => det_load_agg rfl agg40 rfl (ptr_row 0 rfl) rfl) rfl <|
  rLz [(12, _), (14, _)] rfl gv1 ⟨rfl, rfl, rfl, rfl, trivial⟩ (fun g1_5 => det_aeql rfl fl40 rfl rfl rfl) rfl <|
  rwp_det rfl rfl (det_and rfl rfl rfl (fun h => h) rfl) <|
  rMv rfl <|
  rLz [] rfl gv1 trivial (fun g1_12 => det_field_lit rfl fd42_3 rfl) rfl <|
  rLz [(18, _)] rfl gv1 ⟨rfl, rfl, trivial⟩ (fun g1_12 => det_load_one rfl one3 rfl (ptr_row 1 rfl) rfl) rfl <|
  rLz [] rfl gv1 trivial (fun g1_12 => det_field_lit rfl fd42_3 rfl) rfl <|
  rLz [(20, _)] rfl gv1 ⟨rfl, rfl, trivial⟩ (fun g1_12 => det_load_one rfl one3 rfl (ptr_row 0 rfl) rfl) rfl <|
  rLz [(19, _), (21, _)] rfl gv1 ⟨rfl, rfl, rfl, rfl, trivial⟩ (fun g1_12 => det_eql rfl rfl rfl) rfl <|
  rwp_det rfl rfl (det_and rfl rfl rfl (fun h => h) rfl) <|
  rMv rfl <|
  rLz [] rfl gv1 trivial (fun g1_19 => det_field_lit rfl fd42_2 rfl) rfl <|
  rLz [(25, _)] rfl gv1 ⟨rfl, rfl, trivial⟩ (fun g1_19 => det_load_one rfl one33 rfl (ptr_row 1 rfl) rfl) rfl <|
  rLz [] rfl gv1 trivial (fun g1_19 => det_field_lit rfl fd42_2 rfl) rfl <|
  rLz [(27, _)] rfl gv1 ⟨rfl, rfl, trivial⟩ (fun g1_19 => det_load_one rfl one33 rfl (ptr_row 0 rfl) rfl) rfl <|
  rLz [(26, _), (28, _)] rfl gv1 ⟨rfl, rfl, rfl, rfl, trivial⟩ (fun g1_19 => det_call rfl ok149 (slices_Equal_int a.Dims b.Dims ha) ⟨VLe.refl _, rfl, VLe.refl _, rfl, trivial⟩) rfl <|
  rwp_det rfl rfl (det_and rfl rfl rfl (fun h => h) rfl) <|
  rMv rfl <|
  rwp_nil <|
  awp_ret <|
  fin1 (rs_c rfl) ?_
 exact congrArg vB (same_bf a b)

theorem loopnest_sameStmt_step (a b : St) (ih : ∀ x, x ∈ a.Body → x.wt ≤ 4294967296 → ∀ y, y.wt ≤ 4294967296 → Pur cfg 108 [vSt x, vSt y] (vB (decide (x = y)))) (ha : a.wt ≤ 4294967296) (hb : b.wt ≤ 4294967296) :
    Pur cfg 108 [vSt a, vSt b] (vB (decide (a = b))) := by
 refine con_intro Tryz.func108 rfl Tryz.ntmps108 Tryz.results108 rfl ?_
 intro z hz
 have hwa := St.wt_eq a
 have hwb := St.wt_eq b
 have hla := stsWt_len a.Body
 refine sReg rfl <|
  rwp_op rfl rfl (ope_box rfl rfl) ?_
 rintro _ _ ⟨b1, rfl, rfl⟩
 refine rwp_op rfl rfl (ope_box rfl rfl) ?_
 rintro _ _ ⟨b2, rfl, rfl⟩
 refine rMv rfl <|
  rwp_nil <|
  awp_seq <|
  sReg rfl <|
  rwp_det rfl rfl (det_field_lit rfl fd54_0 rfl) <|
  rwp_det rfl rfl (det_load_one rfl one3 rfl (ptr_row 1 rfl) rfl) <|
  rwp_det rfl rfl (det_field_lit rfl fd54_0 rfl) <|
  rwp_det rfl rfl (det_load_one rfl one3 rfl (ptr_row 0 rfl) rfl) <|
  rwp_det rfl rfl (det_neq rfl rfl rfl) <|
  rMv rfl <|
  rLz [] rfl gv1 trivial (fun g1_5 => det_field_lit rfl fd54_1 rfl) rfl <|
  rLz [(11, _)] rfl gv1 ⟨rfl, rfl, trivial⟩ (fun g1_5 => det_load_one rfl one9 rfl (ptr_row 1 rfl) rfl) rfl <|
  rLz [] rfl gv1 trivial (fun g1_5 => det_field_lit rfl fd54_1 rfl) rfl <|
  rLz [(13, _)] rfl gv1 ⟨rfl, rfl, trivial⟩ (fun g1_5 => det_load_one rfl one9 rfl (ptr_row 0 rfl) rfl) rfl <|
  rLz [(12, _), (14, _)] rfl gv1 ⟨rfl, rfl, rfl, rfl, trivial⟩ (fun g1_5 => det_sneq rfl rfl rfl) rfl <|
  rwp_det rfl rfl (det_or rfl rfl rfl rfl (fun h => (lzf h))) <|
  rMv rfl <|
  rLz [] rfl gv1 trivial (fun g1_12 => det_field_lit rfl fd54_2 rfl) rfl <|
  rLz [(18, _)] rfl gv1 ⟨rfl, rfl, trivial⟩ (fun g1_12 => det_load_one rfl one3 rfl (ptr_row 1 rfl) rfl) rfl <|
  rLz [] rfl gv1 trivial (fun g1_12 => det_field_lit rfl fd54_2 rfl) rfl <|
  rLz [(20, _)] rfl gv1 ⟨rfl, rfl, trivial⟩ (fun g1_12 => det_load_one rfl one3 rfl (ptr_row 0 rfl) rfl) rfl <|
  rLz [(19, _), (21, _)] rfl gv1 ⟨rfl, rfl, rfl, rfl, trivial⟩ (fun g1_12 => det_neq rfl rfl rfl) rfl <|
  rwp_det rfl rfl (det_or rfl rfl rfl rfl (fun h => (lzf h))) <|
  rMv rfl <|
  rLz [] rfl gv1 trivial (fun g1_19 => det_field_lit rfl fd54_3 rfl) rfl <|
  rLz [(25, _)] rfl gv1 ⟨rfl, rfl, trivial⟩ (fun g1_19 => det_load_one rfl one3 rfl (ptr_row 1 rfl) rfl) rfl <|
  rLz [] rfl gv1 trivial (fun g1_19 => det_field_lit rfl fd54_3 rfl) rfl <|
  rLz [(27, _)] rfl gv1 ⟨rfl, rfl, trivial⟩ (fun g1_19 => det_load_one rfl one3 rfl (ptr_row 0 rfl) rfl) rfl <|
  rLz [(26, _), (28, _)] rfl gv1 ⟨rfl, rfl, rfl, rfl, trivial⟩ (fun g1_19 => det_neq rfl rfl rfl) rfl <|
  rwp_det rfl rfl (det_or rfl rfl rfl rfl (fun h => (lzf h))) <|
  rMv rfl <|
  rLz [] rfl gv1 trivial (fun g1_26 => det_field_lit rfl fd54_4 rfl) rfl <|
  rLz [(32, _)] rfl gv1 ⟨rfl, rfl, trivial⟩ (fun g1_26 => det_load_one rfl one3 rfl (ptr_row 1 rfl) rfl) rfl <|
  rLz [] rfl gv1 trivial (fun g1_26 => det_field_lit rfl fd54_4 rfl) rfl <|
  rLz [(34, _)] rfl gv1 ⟨rfl, rfl, trivial⟩ (fun g1_26 => det_load_one rfl one3 rfl (ptr_row 0 rfl) rfl) rfl <|
  rLz [(33, _), (35, _)] rfl gv1 ⟨rfl, rfl, rfl, rfl, trivial⟩ (fun g1_26 => det_neq rfl rfl rfl) rfl <|
  rwp_det rfl rfl (det_or rfl rfl rfl rfl (fun h => (lzf h))) <|
  rwp_nil <|
  awp_cond rfl (fun c1 => ?_) (fun c1 => ?_)
 ·try simp only [sx] at c1
  refine sReg rfl <|
   rMv rfl <|
   rwp_nil <|
   awp_ret <|
   fin1 (rs_c rfl) ?_
  rw [dec_false (fun h => by subst h; simp at c1)]
 ·try simp only [sx] at c1
  refine awp_skip <|
   sReg rfl <|
   rwp_det rfl rfl (det_field_lit rfl fd54_5 rfl) <|
   rwp_det rfl rfl (det_load_one rfl one44 rfl (ptr_row 1 rfl) rfl) <|
   rwp_det rfl rfl (det_buildN [none, none, none, none, none, none, none, none, none, none, some 2, none, some 13] rfl zr52 pl52 rfl rfl) <|
   rwp_det rfl rfl (det_field_lit rfl fd54_5 rfl) <|
   rwp_det rfl rfl (det_load_one rfl one44 rfl (ptr_row 0 rfl) rfl) <|
   rwp_det rfl rfl (det_buildN [none, none, none, none, none, none, none, none, none, none, some 2, none, some 13] rfl zr52 pl52 rfl rfl) <|
   rwp_det rfl rfl (det_call rfl ok150 (expr_Same (rdZ a.Idx) (rdZ b.Idx) (by rw [rdZ_wt]; omega) (by rw [rdZ_wt]; omega)) ⟨VLe.refl _, rfl, VLe.refl _, rfl, trivial⟩) <|
   rMv rfl <|
   rLz [] rfl gv1 trivial (fun g3_7 => det_field_lit rfl fd54_6 rfl) rfl <|
   rLz [(46, _)] rfl gv1 ⟨rfl, rfl, trivial⟩ (fun g3_7 => det_load_agg rfl agg52 rfl (ptr_row 1 rfl) rfl) rfl <|
   rLz [] rfl gv1 trivial (fun g3_7 => det_field_lit rfl fd54_6 rfl) rfl <|
   rLz [(48, _)] rfl gv1 ⟨rfl, rfl, trivial⟩ (fun g3_7 => det_load_agg rfl agg52 rfl (ptr_row 0 rfl) rfl) rfl <|
   rLz [(47, _), (49, _)] rfl gv1 ⟨rfl, rfl, rfl, rfl, trivial⟩ (fun g3_7 => det_call rfl ok150 (expr_Same a.E b.E (by omega) (by omega)) ⟨VLe.refl _, rfl, VLe.refl _, rfl, trivial⟩) rfl <|
   rwp_det rfl rfl (det_and rfl rfl rfl (fun h => h) rfl) <|
   rMv rfl <|
   rLz [] rfl gv1 trivial (fun g3_14 => det_field_lit rfl fd54_7 rfl) rfl <|
   rLz [(53, _)] rfl gv1 ⟨rfl, rfl, trivial⟩ (fun g3_14 => det_load_one rfl one23 rfl (ptr_row 1 rfl) rfl) rfl <|
   rLz [] rfl gv1 trivial (fun g3_14 => det_field_lit rfl fd54_7 rfl) rfl <|
   rLz [(55, _)] rfl gv1 ⟨rfl, rfl, trivial⟩ (fun g3_14 => det_load_one rfl one23 rfl (ptr_row 0 rfl) rfl) rfl <|
   rLz [(54, _), (56, _)] rfl gv1 ⟨rfl, rfl, rfl, rfl, trivial⟩ (fun g3_14 => det_call rfl ok107 (slices_EqualFunc_St a.Body b.Body _ (by omega) (fun x hx y hy => FnPur.of_pur (first := []) (cap := []) ok108 (ih x hx (by have := stsWt_mem hx; omega) y (by have := stsWt_mem hy; omega)))) ⟨VLe.refl _, rfl, VLe.refl _, rfl, VLe.refl _, rfl, trivial⟩) rfl <|
   rwp_det rfl rfl (det_and rfl rfl rfl (fun h => h) rfl) <|
   rMv rfl <|
   rwp_nil <|
   awp_ret <|
   fin1 (rs_c rfl) ?_
  exact congrArg vB (same_st c1)

theorem loopnest_sameStmt (a b : St) (ha : a.wt ≤ 4294967296) (hb : b.wt ≤ 4294967296) : Pur cfg 108 [vSt a, vSt b] (vB (decide (a = b))) := by
  induction a using St.ind generalizing b with
  | _ a ih => exact loopnest_sameStmt_step a b (fun x hx h y hy => ih x hx y h hy) ha hb

theorem loopnest_Same (a b : Ns) (ha : a.Ok) (hb : b.Ok) :
    Pur cfg 53 [vNs a, vNs b] (vB (decide (a = b))) := by
 refine con_intro Tryz.func53 rfl Tryz.ntmps53 Tryz.results53 rfl ?_
 intro z hz
 have h1 := ha.bufs
 have h2 := ha.body
 have h3 := hb.body
 have h4 := stsWt_len a.Body
 refine sReg rfl <|
  rwp_op rfl rfl (ope_box rfl rfl) ?_
 rintro _ _ ⟨b1, rfl, rfl⟩
 refine rwp_op rfl rfl (ope_box rfl rfl) ?_
 rintro _ _ ⟨b2, rfl, rfl⟩
 refine rMv rfl <|
  rwp_nil <|
  sReg rfl <|
  rwp_det rfl rfl (det_field_lit rfl fd25_0 rfl) <|
  rwp_det rfl rfl (det_load_one rfl one22 rfl (ptr_row 1 rfl) rfl) <|
  rwp_det rfl rfl (det_field_lit rfl fd25_0 rfl) <|
  rwp_det rfl rfl (det_load_one rfl one22 rfl (ptr_row 0 rfl) rfl) <|
  rwp_det rfl rfl (det_call rfl ok105 (slices_EqualFunc_Bf a.Bufs b.Bufs _ h1 (fun x hx y hy => FnPur.of_pur (first := []) (cap := []) ok106 (loopnest_sameBuffer x y (ha.dims x hx)))) ⟨VLe.refl _, rfl, VLe.refl _, rfl, VLe.refl _, rfl, trivial⟩) <|
  rMv rfl <|
  rLz [] rfl gv1 trivial (fun g1_5 => det_field_lit rfl fd25_1 rfl) rfl <|
  rLz [(11, _)] rfl gv1 ⟨rfl, rfl, trivial⟩ (fun g1_5 => det_load_one rfl one23 rfl (ptr_row 1 rfl) rfl) rfl <|
  rLz [] rfl gv1 trivial (fun g1_5 => det_field_lit rfl fd25_1 rfl) rfl <|
  rLz [(13, _)] rfl gv1 ⟨rfl, rfl, trivial⟩ (fun g1_5 => det_load_one rfl one23 rfl (ptr_row 0 rfl) rfl) rfl <|
  rLz [(12, _), (14, _)] rfl gv1 ⟨rfl, rfl, rfl, rfl, trivial⟩ (fun g1_5 => det_call rfl ok107 (slices_EqualFunc_St a.Body b.Body _ (by omega) (fun x hx y hy => FnPur.of_pur (first := []) (cap := []) ok108 (loopnest_sameStmt x y (by have := stsWt_mem hx; omega) (by have := stsWt_mem hy; omega)))) ⟨VLe.refl _, rfl, VLe.refl _, rfl, VLe.refl _, rfl, trivial⟩) rfl <|
  rwp_det rfl rfl (det_and rfl rfl rfl (fun h => h) rfl) <|
  rMv rfl <|
  rwp_nil <|
  awp_ret <|
  fin1 (rs_c rfl) ?_
 exact congrArg vB (same_ns a b)

end Go.W
