/-
  Walks: what functions of the program compute. Printed by wip/gen/mk2.py.
  Conditions: none.
-/
import Derived.Test.YtlfjpejkoccibaaGreatDoorNJ
set_option linter.unusedSimpArgs false
set_option linter.unusedVariables false
set_option maxRecDepth 10000
namespace Go.W
open Go Go.Eng Go.Proofs Go.L41 Go.Br
attribute [local irreducible] AWP RWP TD finQ
theorem ok43 : callOk Tryz.prog 43 = true := by kernel_rfl
theorem ok95 : callOk Tryz.prog 95 = true := by kernel_rfl
theorem base_Stmts_of (a b : List St) (hE : ∀ x, x ∈ a → ∀ y, Pur cfg 95 [vSt x, vSt y] (vB (decide (x = y)))) (ha : a.length ≤ 4294967296) :
    Pur cfg 43 [vSts a, vSts b] (vB (decide (a = b))) := by
 refine con_intro Tryz.func43 rfl Tryz.ntmps43 Tryz.results43 rfl ?_
 intro z hz
 refine sReg rfl <|
  rMv rfl <|
  rwp_nil <|
  awp_seq <|
  sReg rfl <|
  rMv rfl <|
  rwp_det rfl rfl (det_len_slm rfl el23 rfl) <|
  rMv rfl <|
  rwp_det rfl rfl (det_len_slm rfl el23 rfl) <|
  rwp_det rfl rfl (det_neq rfl rfl rfl) <|
  rwp_nil <|
  awp_cond rfl (fun c1 => ?_) (fun c1 => ?_)
 ·try simp only [sx] at c1
  refine sReg rfl <|
   rMv rfl <|
   rwp_nil <|
   awp_ret <|
   fin1 (rs_c rfl) ?_
  rw [dec_false (fun h => c1 (by rw [h]))]
 ·try simp only [sx] at c1
  refine awp_skip <|
   awp_seq <|
   sReg rfl <|
   rMv rfl <|
   rwp_nil <|
   awp_block <|
   awp_weak ⟨[(5, .c _), (0, .c _), (1, .c _)], []⟩ (Weak.mk [] ⟨VLe.of_eq rfl, VLe.of_eq rfl, VLe.of_eq rfl, trivial⟩ rfl) <|
   awp_loop_k 1 0 rfl rfl (Nat) (fun k => [(5, vI k)]) (fun k => []) (fun k => k ≤ a.length ∧ (a.take k = b.take k)) (fun k => a.length - k) ⟨0, ⟨by omega, rfl⟩, Weak.mk [] ⟨VLe.refl _, VLe.refl _, VLe.refl _, trivial⟩ rfl⟩ ?_
  rintro k ⟨hk, hp⟩
  refine awp_seq <|
   sReg rfl <|
   rMv rfl <|
   rMv rfl <|
   rwp_det rfl rfl (det_len_slm rfl el23 rfl) <|
   rwp_det rfl rfl (det_lss rfl rfl rfl) <|
   rwp_nil <|
   awp_cond rfl (fun c2 => ?_) (fun c2 => ?_)
  ·try simp only [sx] at c2
   obtain ⟨x, hx⟩ := ex_get a k (by omega)
   obtain ⟨y, hy⟩ := ex_get b k (by omega)
   refine awp_skip <|
    awp_seq <|
    awp_block <|
    awp_seq <|
    awp_draw 10 mixed (by kernel_rfl) rfl rfl <|
    td_det rfl rfl (det_move rfl rfl) <|
    td_det rfl rfl (det_move rfl rfl) <|
    td_det rfl rfl (det_index_sl rfl el23 rfl rfl (by omega) (getmS hx)) <|
    td_det rfl rfl (det_load_agg rfl agg46 rfl ptr_imm rfl) <|
    td_det rfl rfl (det_move rfl rfl) <|
    td_det rfl rfl (det_move rfl rfl) <|
    td_det rfl rfl (det_index_sl rfl el23 rfl rfl (by omega) (getmS hy)) <|
    td_det rfl rfl (det_load_agg rfl agg46 rfl ptr_imm rfl) <|
    td_det rfl rfl (det_call rfl ok95 (hE x (mem_of_get hx) y) ⟨VLe.refl _, rfl, VLe.refl _, rfl, trivial⟩) <|
    td_det rfl rfl (det_not rfl rfl) <|
    td_nil <|
    rwp_nil <|
    awp_cond rfl (fun c3 => ?_) (fun c3 => ?_)
   ·try simp only [sx] at c3
    refine sReg rfl <|
     rMv rfl <|
     rwp_nil <|
     awp_ret <|
     fin1 (rs_c rfl) ?_
    rw [dec_false (ne_of_get hx hy c3)]
   ·try simp only [sx] at c3
    refine awp_skip <|
     awp_region rfl <|
     rMv rfl <|
     rwp_det rfl rfl (det_add_nw rfl rfl rfl ⟨by omega, by omega⟩) <|
     rMv rfl <|
     rwp_nil ?_
    refine ⟨k + 1, ⟨by omega, take_eq_next hx hy hp c3⟩, (by omega), Weak.mk [] ⟨VLe.refl _, VLe.refl _, VLe.refl _, trivial⟩ rfl⟩
  ·try simp only [sx] at c2
   refine awp_exit <|
    sReg rfl <|
    rMv rfl <|
    rwp_nil <|
    awp_ret <|
    fin1 (rs_c rfl) ?_
   rw [dec_true (eq_of_take hp (by omega) (by omega))]

theorem base_Stmt_step (a : St) (ih : ∀ x, x ∈ a.Body → x.wt ≤ 4294967296 → ∀ y, Pur cfg 95 [vSt x, vSt y] (vB (decide (x = y)))) (ha : a.wt ≤ 4294967296) (b : St) :
    Pur cfg 95 [vSt a, vSt b] (vB (decide (a = b))) := by
 refine con_intro Tryz.func95 rfl Tryz.ntmps95 Tryz.results95 rfl ?_
 intro z hz
 have hw := St.wt_eq a
 have hbl := stsWt_len a.Body
 refine sReg rfl <|
  rwp_op rfl rfl (ope_box rfl rfl) ?_
 rintro _ _ ⟨b1, rfl, rfl⟩
 refine rwp_op rfl rfl (ope_box rfl rfl) ?_
 rintro _ _ ⟨b2, rfl, rfl⟩
 refine rMv rfl <|
  rwp_nil <|
  sReg rfl <|
  rwp_det rfl rfl (det_field_lit rfl fd46_0 rfl) <|
  rwp_det rfl rfl (det_load_one rfl one3 rfl (ptr_row 1 rfl) rfl) <|
  rwp_det rfl rfl (det_field_lit rfl fd46_0 rfl) <|
  rwp_det rfl rfl (det_load_one rfl one3 rfl (ptr_row 0 rfl) rfl) <|
  rwp_det rfl rfl (det_eql rfl rfl rfl) <|
  rMv rfl <|
  rLz [] rfl gv1 trivial (fun g1_5 => det_field_lit rfl fd46_1 rfl) rfl <|
  rLz [(11, _)] rfl gv1 ⟨rfl, rfl, trivial⟩ (fun g1_5 => det_load_one rfl one9 rfl (ptr_row 1 rfl) rfl) rfl <|
  rLz [] rfl gv1 trivial (fun g1_5 => det_field_lit rfl fd46_1 rfl) rfl <|
  rLz [(13, _)] rfl gv1 ⟨rfl, rfl, trivial⟩ (fun g1_5 => det_load_one rfl one9 rfl (ptr_row 0 rfl) rfl) rfl <|
  rLz [(12, _), (14, _)] rfl gv1 ⟨rfl, rfl, rfl, rfl, trivial⟩ (fun g1_5 => det_seql rfl rfl rfl) rfl <|
  rwp_det rfl rfl (det_and rfl rfl rfl (fun h => h) rfl) <|
  rMv rfl <|
  rLz [] rfl gv1 trivial (fun g1_12 => det_field_lit rfl fd46_2 rfl) rfl <|
  rLz [(18, _)] rfl gv1 ⟨rfl, rfl, trivial⟩ (fun g1_12 => det_load_one rfl one3 rfl (ptr_row 1 rfl) rfl) rfl <|
  rLz [] rfl gv1 trivial (fun g1_12 => det_field_lit rfl fd46_2 rfl) rfl <|
  rLz [(20, _)] rfl gv1 ⟨rfl, rfl, trivial⟩ (fun g1_12 => det_load_one rfl one3 rfl (ptr_row 0 rfl) rfl) rfl <|
  rLz [(19, _), (21, _)] rfl gv1 ⟨rfl, rfl, rfl, rfl, trivial⟩ (fun g1_12 => det_eql rfl rfl rfl) rfl <|
  rwp_det rfl rfl (det_and rfl rfl rfl (fun h => h) rfl) <|
  rMv rfl <|
  rLz [] rfl gv1 trivial (fun g1_19 => det_field_lit rfl fd46_3 rfl) rfl <|
  rLz [(25, _)] rfl gv1 ⟨rfl, rfl, trivial⟩ (fun g1_19 => det_load_one rfl one3 rfl (ptr_row 1 rfl) rfl) rfl <|
  rLz [] rfl gv1 trivial (fun g1_19 => det_field_lit rfl fd46_3 rfl) rfl <|
  rLz [(27, _)] rfl gv1 ⟨rfl, rfl, trivial⟩ (fun g1_19 => det_load_one rfl one3 rfl (ptr_row 0 rfl) rfl) rfl <|
  rLz [(26, _), (28, _)] rfl gv1 ⟨rfl, rfl, rfl, rfl, trivial⟩ (fun g1_19 => det_eql rfl rfl rfl) rfl <|
  rwp_det rfl rfl (det_and rfl rfl rfl (fun h => h) rfl) <|
  rMv rfl <|
  rLz [] rfl gv1 trivial (fun g1_26 => det_field_lit rfl fd46_4 rfl) rfl <|
  rLz [(32, _)] rfl gv1 ⟨rfl, rfl, trivial⟩ (fun g1_26 => det_load_one rfl one3 rfl (ptr_row 1 rfl) rfl) rfl <|
  rLz [] rfl gv1 trivial (fun g1_26 => det_field_lit rfl fd46_4 rfl) rfl <|
  rLz [(34, _)] rfl gv1 ⟨rfl, rfl, trivial⟩ (fun g1_26 => det_load_one rfl one3 rfl (ptr_row 0 rfl) rfl) rfl <|
  rLz [(33, _), (35, _)] rfl gv1 ⟨rfl, rfl, rfl, rfl, trivial⟩ (fun g1_26 => det_eql rfl rfl rfl) rfl <|
  rwp_det rfl rfl (det_and rfl rfl rfl (fun h => h) rfl) <|
  rMv rfl <|
  rLz [] rfl gv1 trivial (fun g1_33 => det_field_lit rfl fd46_5 rfl) rfl <|
  rLz [(39, _)] rfl gv1 ⟨rfl, rfl, trivial⟩ (fun g1_33 => det_load_one rfl one34 rfl (ptr_row 1 rfl) rfl) rfl <|
  rLz [] rfl gv1 trivial (fun g1_33 => det_field_lit rfl fd46_5 rfl) rfl <|
  rLz [(41, _)] rfl gv1 ⟨rfl, rfl, trivial⟩ (fun g1_33 => det_load_one rfl one34 rfl (ptr_row 0 rfl) rfl) rfl <|
  rLz [(40, _), (42, _)] rfl gv1 ⟨rfl, rfl, rfl, rfl, trivial⟩ (fun g1_33 => det_call rfl ok140 (base_Indices a.Idx b.Idx (by omega) (by omega)) ⟨VLe.refl _, rfl, VLe.refl _, rfl, trivial⟩) rfl <|
  rwp_det rfl rfl (det_and rfl rfl rfl (fun h => h) rfl) <|
  rMv rfl <|
  rLz [] rfl gv1 trivial (fun g1_40 => det_field_lit rfl fd46_6 rfl) rfl <|
  rLz [(46, _)] rfl gv1 ⟨rfl, rfl, trivial⟩ (fun g1_40 => det_load_agg rfl agg44 rfl (ptr_row 1 rfl) rfl) rfl <|
  rLz [] rfl gv1 trivial (fun g1_40 => det_field_lit rfl fd46_6 rfl) rfl <|
  rLz [(48, _)] rfl gv1 ⟨rfl, rfl, trivial⟩ (fun g1_40 => det_load_agg rfl agg44 rfl (ptr_row 0 rfl) rfl) rfl <|
  rLz [(47, _), (49, _)] rfl gv1 ⟨rfl, rfl, rfl, rfl, trivial⟩ (fun g1_40 => det_call rfl ok141 (base_Expr a.E b.E (by omega)) ⟨VLe.refl _, rfl, VLe.refl _, rfl, trivial⟩) rfl <|
  rwp_det rfl rfl (det_and rfl rfl rfl (fun h => h) rfl) <|
  rMv rfl <|
  rLz [] rfl gv1 trivial (fun g1_47 => det_field_lit rfl fd46_7 rfl) rfl <|
  rLz [(53, _)] rfl gv1 ⟨rfl, rfl, trivial⟩ (fun g1_47 => det_load_one rfl one23 rfl (ptr_row 1 rfl) rfl) rfl <|
  rLz [] rfl gv1 trivial (fun g1_47 => det_field_lit rfl fd46_7 rfl) rfl <|
  rLz [(55, _)] rfl gv1 ⟨rfl, rfl, trivial⟩ (fun g1_47 => det_load_one rfl one23 rfl (ptr_row 0 rfl) rfl) rfl <|
  rLz [(54, _), (56, _)] rfl gv1 ⟨rfl, rfl, rfl, rfl, trivial⟩ (fun g1_47 => det_call rfl ok43 (base_Stmts_of a.Body b.Body (fun x hx y => ih x hx (by have := stsWt_mem hx; omega) y) (by omega)) ⟨VLe.refl _, rfl, VLe.refl _, rfl, trivial⟩) rfl <|
  rwp_det rfl rfl (det_and rfl rfl rfl (fun h => h) rfl) <|
  rMv rfl <|
  rwp_nil <|
  awp_ret <|
  fin1 (rs_c rfl) ?_
 exact congrArg vB (st_eq a b)

theorem base_Stmt (a b : St) (ha : a.wt ≤ 4294967296) : Pur cfg 95 [vSt a, vSt b] (vB (decide (a = b))) := by
  induction a using St.ind generalizing b with
  | _ a ih => exact base_Stmt_step a (fun x hx h y => ih x hx y h) ha b
theorem base_Stmts (a b : List St) (ha : stsWt a ≤ 4294967296) : Pur cfg 43 [vSts a, vSts b] (vB (decide (a = b))) :=
  base_Stmts_of a b (fun x hx y => base_Stmt x y (by have := stsWt_mem hx; omega)) (by have := stsWt_len a; omega)

theorem base_Nest (a b : Ns) (ha : a.Ok) :
    Pur cfg 14 [vNs a, vNs b] (vB (decide (a = b))) := by
 refine con_intro Tryz.func14 rfl Tryz.ntmps14 Tryz.results14 rfl ?_
 intro z hz
 have hab := ha.bufs
 have hbw := ha.body
 refine sReg rfl <|
  rwp_op rfl rfl (ope_box rfl rfl) ?_
 rintro _ _ ⟨b1, rfl, rfl⟩
 refine rwp_op rfl rfl (ope_box rfl rfl) ?_
 rintro _ _ ⟨b2, rfl, rfl⟩
 refine rMv rfl <|
  rwp_nil <|
  awp_seq <|
  sReg rfl <|
  rwp_det rfl rfl (det_field_lit rfl fd25_0 rfl) <|
  rwp_det rfl rfl (det_load_one rfl one22 rfl (ptr_row 1 rfl) rfl) <|
  rwp_det rfl rfl (det_len_slm rfl el22 rfl) <|
  rwp_det rfl rfl (det_field_lit rfl fd25_0 rfl) <|
  rwp_det rfl rfl (det_load_one rfl one22 rfl (ptr_row 0 rfl) rfl) <|
  rwp_det rfl rfl (det_len_slm rfl el22 rfl) <|
  rwp_det rfl rfl (det_neq rfl rfl rfl) <|
  rwp_nil <|
  awp_cond rfl (fun c1 => ?_) (fun c1 => ?_)
 ·try simp only [sx] at c1
  refine sReg rfl <|
   rMv rfl <|
   rwp_nil <|
   awp_ret <|
   fin1 (rs_c rfl) ?_
  rw [dec_false (fun h => c1 (by rw [h]))]
 ·try simp only [sx] at c1
  refine awp_skip <|
   awp_seq <|
   sReg rfl <|
   rMv rfl <|
   rwp_nil <|
   awp_block <|
   awp_weak ⟨[(5, .c _), (2, .c _), (3, .c _)], [_, _]⟩ (Weak.mk [true, true] ⟨VLe.of_eq rfl, VLe.of_eq rfl, VLe.of_eq rfl, trivial⟩ rfl) <|
   awp_loop_k 1 0 rfl rfl (Nat) (fun k => [(5, vI k)]) (fun k => []) (fun k => k ≤ a.Bufs.length ∧ (a.Bufs.take k = b.Bufs.take k)) (fun k => a.Bufs.length - k) ⟨0, ⟨by omega, rfl⟩, Weak.mk [true, true] ⟨VLe.refl _, VLe.refl _, VLe.refl _, trivial⟩ rfl⟩ ?_
  rintro k ⟨hk, hp⟩
  refine awp_seq <|
   sReg rfl <|
   rMv rfl <|
   rwp_det rfl rfl (det_field_lit rfl fd25_0 rfl) <|
   rwp_det rfl rfl (det_load_one rfl one22 rfl (ptr_row 1 rfl) rfl) <|
   rwp_det rfl rfl (det_len_slm rfl el22 rfl) <|
   rwp_det rfl rfl (det_lss rfl rfl rfl) <|
   rwp_nil <|
   awp_cond rfl (fun c2 => ?_) (fun c2 => ?_)
  ·try simp only [sx] at c2
   obtain ⟨x, hx⟩ := ex_get a.Bufs k (by omega)
   obtain ⟨y, hy⟩ := ex_get b.Bufs k (by omega)
   refine awp_skip <|
    awp_seq <|
    awp_block <|
    awp_seq <|
    awp_draw_c 13 2 [⟨0, .q []⟩, ⟨1, .q [3]⟩, ⟨2, .q []⟩, ⟨3, .q []⟩, ⟨4, .q []⟩, ⟨5, .q []⟩, ⟨6, .q [2]⟩, ⟨7, .q []⟩, ⟨8, .q []⟩, ⟨9, .q []⟩, ⟨10, .f 1⟩, ⟨11, .f 0⟩, ⟨12, .g 1 []⟩] mixed (by kernel_rfl) (by kernel_rfl) rfl rfl rfl <|
    fx_skip rfl <|
    fx_skip rfl <|
    fx_skip rfl <|
    fx_skip rfl <|
    fx_skip rfl <|
    fx_skip rfl <|
    fx_skip rfl <|
    fx_skip rfl <|
    fx_skip rfl <|
    fx_skip rfl <|
    fx_fresh rfl rfl (fresh_alloc' (ope_allocN [none, none, none, none, none, none, some 1, none] rfl zr65 rfl)) ⟨_, _, 0, rfl, rfl⟩ <|
    fx_fresh rfl rfl (fresh_alloc' (ope_allocN [none, none, none, none, none, none, some 1, none] rfl zr65 rfl)) ⟨_, _, 0, rfl, rfl⟩ <|
    fx_skip rfl <|
    fx_nil <|
    sq_det rfl (by decide) rfl rfl (det_field_lit rfl fd25_0 rfl) <|
    sq_det rfl (by decide) rfl rfl (det_load_one rfl one22 rfl (ptr_row 0 rfl) rfl) <|
    sq_det rfl (by decide) rfl rfl (det_move rfl rfl) <|
    sq_det rfl (by decide) rfl rfl (det_index_sl rfl el22 rfl rfl (by omega) (getm (by assumption))) <|
    sq_det rfl (by decide) rfl rfl (det_load_agg rfl agg65 rfl ptr_imm rfl) <|
    sq_det rfl (by decide) rfl rfl (det_field_lit rfl fd25_0 rfl) <|
    sq_det rfl (by decide) rfl rfl (det_load_one rfl one22 rfl (ptr_row 0 rfl) rfl) <|
    sq_det rfl (by decide) rfl rfl (det_move rfl rfl) <|
    sq_det rfl (by decide) rfl rfl (det_index_sl rfl el22 rfl rfl (by omega) (getm (by assumption))) <|
    sq_det rfl (by decide) rfl rfl (det_load_agg rfl agg65 rfl ptr_imm rfl) <|
    sq_fresh rfl rfl ?_
   rintro _ _ ⟨b3, rfl, rfl⟩
   refine sq_fresh rfl rfl ?_
   rintro _ _ ⟨b4, rfl, rfl⟩
   refine sq_v0 rfl rfl (by decide) rfl rfl rfl (det_store rfl sz65 rfl rfl rfl (st_row 0 rfl rfl)) rfl <|
    sq_nil rfl <|
    rwp_det0 rfl rfl (det_store rfl sz65 rfl rfl rfl (st_row 0 rfl rfl)) <|
    rwp_nil <|
    sReg rfl <|
    rwp_det rfl rfl (det_field_lit rfl fd65_0 rfl) <|
    rwp_det rfl rfl (det_load_one rfl one9 rfl (ptr_row 1 rfl) rfl) <|
    rwp_det rfl rfl (det_field_lit rfl fd65_0 rfl) <|
    rwp_det rfl rfl (det_load_one rfl one9 rfl (ptr_row 0 rfl) rfl) <|
    rwp_det rfl rfl (det_sneq rfl rfl rfl) <|
    rMv rfl <|
    rLz [] rfl gv1 trivial (fun g7_5 => det_field_lit rfl fd65_1 rfl) rfl <|
    rLz [(38, _)] rfl gv1 ⟨rfl, rfl, trivial⟩ (fun g7_5 => det_load_agg rfl agg38 rfl (ptr_row 1 rfl) rfl) rfl <|
    rLz [] rfl gv1 trivial (fun g7_5 => det_field_lit rfl fd65_1 rfl) rfl <|
    rLz [(40, _)] rfl gv1 ⟨rfl, rfl, trivial⟩ (fun g7_5 => det_load_agg rfl agg38 rfl (ptr_row 0 rfl) rfl) rfl <|
    rLz [(39, _), (41, _)] rfl gv1 ⟨rfl, rfl, rfl, rfl, trivial⟩ (fun g7_5 => det_aneq rfl fl38 rfl rfl rfl) rfl <|
    rwp_det rfl rfl (det_or rfl rfl rfl rfl (fun h => (lzf h))) <|
    rMv rfl <|
    rLz [] rfl gv1 trivial (fun g7_12 => det_field_lit rfl fd65_3 rfl) rfl <|
    rLz [(45, _)] rfl gv1 ⟨rfl, rfl, trivial⟩ (fun g7_12 => det_load_one rfl one3 rfl (ptr_row 1 rfl) rfl) rfl <|
    rLz [] rfl gv1 trivial (fun g7_12 => det_field_lit rfl fd65_3 rfl) rfl <|
    rLz [(47, _)] rfl gv1 ⟨rfl, rfl, trivial⟩ (fun g7_12 => det_load_one rfl one3 rfl (ptr_row 0 rfl) rfl) rfl <|
    rLz [(46, _), (48, _)] rfl gv1 ⟨rfl, rfl, rfl, rfl, trivial⟩ (fun g7_12 => det_neq rfl rfl rfl) rfl <|
    rwp_det rfl rfl (det_or rfl rfl rfl rfl (fun h => (lzf h))) <|
    rMv rfl <|
    rLz [] rfl gv1 trivial (fun g7_19 => det_field_lit rfl fd65_2 rfl) rfl <|
    rLz [(52, _)] rfl gv1 ⟨rfl, rfl, trivial⟩ (fun g7_19 => det_load_one rfl one26 rfl (ptr_row 1 rfl) rfl) rfl <|
    rLz [] rfl gv1 trivial (fun g7_19 => det_field_lit rfl fd65_2 rfl) rfl <|
    rLz [(54, _)] rfl gv1 ⟨rfl, rfl, trivial⟩ (fun g7_19 => det_load_one rfl one26 rfl (ptr_row 0 rfl) rfl) rfl <|
    rLz [(53, _), (55, _)] rfl gv1 ⟨rfl, rfl, rfl, rfl, trivial⟩ (fun g7_19 => det_call rfl ok36 (base_Ints x.Dims y.Dims (ha.dims x (mem_of_get hx))) ⟨VLe.refl _, rfl, VLe.refl _, rfl, trivial⟩) rfl <|
    rLz [(56, _)] rfl gv1 ⟨rfl, rfl, trivial⟩ (fun g7_19 => det_not rfl rfl) rfl <|
    rwp_det rfl rfl (det_or rfl rfl rfl rfl (fun h => (lzf h))) <|
    rwp_nil <|
    awp_cond rfl (fun c3 => ?_) (fun c3 => ?_)
   ·have c3 : (!decide (x.Name = y.Name) || !litsEq [cI x.T.Kind, cI x.T.Bits, cI x.T.Frac, cI x.T.Round, cI x.T.Over] [cI y.T.Kind, cI y.T.Bits, cI y.T.Frac, cI y.T.Round, cI y.T.Over] || !decide (x.Use = y.Use) || !decide (x.Dims = y.Dims)) = true := c3
    rw [bf_ne] at c3
    have c3 : ¬ x = y := by simpa using c3
    refine sReg rfl <|
     rMv rfl <|
     rwp_nil <|
     awp_ret <|
     fin1 (rs_c rfl) ?_
    rw [dec_false (fun h => ne_of_get hx hy c3 (by rw [h]))]
   ·have c3 : (!decide (x.Name = y.Name) || !litsEq [cI x.T.Kind, cI x.T.Bits, cI x.T.Frac, cI x.T.Round, cI x.T.Over] [cI y.T.Kind, cI y.T.Bits, cI y.T.Frac, cI y.T.Round, cI y.T.Over] || !decide (x.Use = y.Use) || !decide (x.Dims = y.Dims)) = false := by first | exact c3 | simpa using c3
    rw [bf_ne] at c3
    have c3 : x = y := by simpa using c3
    refine awp_skip <|
     awp_region rfl <|
     rMv rfl <|
     rwp_det rfl rfl (det_add_nw rfl rfl rfl ⟨by omega, by omega⟩) <|
     rMv rfl <|
     rwp_nil ?_
    refine ⟨k + 1, ⟨by omega, take_eq_next hx hy hp c3⟩, (by omega), Weak.mk [false, false, true, true] ⟨VLe.refl _, VLe.refl _, VLe.refl _, trivial⟩ rfl⟩
  ·try simp only [sx] at c2
   refine awp_exit <|
    sReg rfl <|
    rwp_det rfl rfl (det_field_lit rfl fd25_1 rfl) <|
    rwp_det rfl rfl (det_load_one rfl one23 rfl (ptr_row 1 rfl) rfl) <|
    rwp_det rfl rfl (det_field_lit rfl fd25_1 rfl) <|
    rwp_det rfl rfl (det_load_one rfl one23 rfl (ptr_row 0 rfl) rfl) <|
    rwp_det rfl rfl (det_call rfl ok43 (base_Stmts a.Body b.Body (by omega)) ⟨VLe.refl _, rfl, VLe.refl _, rfl, trivial⟩) <|
    rMv rfl <|
    rwp_nil <|
    awp_ret <|
    fin1 (rs_c rfl) ?_
   have hbe := eq_of_take hp (by omega) (by omega)
   exact congrArg vB (decide_eq_decide.2 (by rw [Ns.eq_iff]; simp [hbe]))

end Go.W
