/-
  Walks: what functions of the program compute. Printed by wip/gen/mk2.py.
  Conditions: none.
-/
import Derived.Test.YtmmiedgoamlhpaaGreatDoorYH
import Derived.Test.YtmmiedgoamlhpaaGreatDoorPlainM
set_option linter.unusedSimpArgs false
set_option linter.unusedVariables false
set_option maxRecDepth 10000
namespace Go.W
open Go Go.Eng Go.Proofs Go.L41 Go.Br
attribute [local irreducible] AWP RWP TD finQ
theorem el24 : elemT Tryz.prog 24 = some (61, 3, 32) := by kernel_rfl
theorem el27 : elemT Tryz.prog 27 = some (45, 4, 48) := by kernel_rfl
theorem fd26_0 : fieldT Tryz.prog 26 0 = some (0, 22) := by kernel_rfl
theorem fd26_1 : fieldT Tryz.prog 26 1 = some (1, 23) := by kernel_rfl
theorem fd26_2 : fieldT Tryz.prog 26 2 = some (2, 24) := by kernel_rfl
theorem fd26_3 : fieldT Tryz.prog 26 3 = some (3, 3) := by kernel_rfl
theorem fd45_2 : fieldT Tryz.prog 45 2 = some (2, 3) := by kernel_rfl
theorem fd45_3 : fieldT Tryz.prog 45 3 = some (3, 36) := by kernel_rfl
theorem fd61_0 : fieldT Tryz.prog 61 0 = some (0, 9) := by kernel_rfl
theorem ok22 : callOk Tryz.prog 22 = true := by kernel_rfl
theorem ok23 : callOk Tryz.prog 23 = true := by kernel_rfl
theorem ok24 : callOk Tryz.prog 24 = true := by kernel_rfl
theorem ok25 : callOk Tryz.prog 25 = true := by kernel_rfl
theorem ok26 : callOk Tryz.prog 26 = true := by kernel_rfl
theorem one24 : oneT Tryz.prog 24 = true := by kernel_rfl
theorem pl80 : placesT Tryz.prog 80 = some [(0, 1), (1, 1), (2, 1), (3, 1), (4, 256), (260, 512), (772, 1), (773, 1)] := by kernel_rfl
theorem base_Vals (l : List Vl) (hl : l.length ≤ 140737488355328) :
    Pur cfg 13 [vVals l, vVals l] (vB true) := by
 refine con_intro Tryz.func13 rfl Tryz.ntmps13 Tryz.results13 rfl ?_
 intro z hz
 refine sReg rfl <|
  rMv rfl <|
  rwp_nil <|
  awp_seq <|
  sReg rfl <|
  rMv rfl <|
  rwp_det rfl rfl (det_len_slm rfl el36 rfl) <|
  rMv rfl <|
  rwp_det rfl rfl (det_len_slm rfl el36 rfl) <|
  rwp_det rfl rfl (det_neq rfl rfl rfl) <|
  rwp_nil <|
  awp_cond rfl (fun c1 => ?_) (fun c1 => ?_)
 ·try simp only [sx] at c1
  exact absurd c1 (by simp)
 ·try simp only [sx] at c1
  refine awp_skip <|
   awp_seq <|
   sReg rfl <|
   rMv rfl <|
   rwp_nil <|
   awp_block <|
   awp_weak ⟨[(5, .c _), (0, .c _), (1, .c _)], []⟩ (Weak.mk [] ⟨VLe.of_eq rfl, VLe.of_eq rfl, VLe.of_eq rfl, trivial⟩ rfl) <|
   awp_loop_k 1 0 rfl rfl (Nat) (fun k => [(5, vI k)]) (fun k => []) (fun k => k ≤ l.length) (fun k => l.length - k) ⟨0, (by omega), Weak.mk [] ⟨VLe.refl _, VLe.refl _, VLe.refl _, trivial⟩ rfl⟩ ?_
  rintro k hk
  refine awp_seq <|
   sReg rfl <|
   rMv rfl <|
   rMv rfl <|
   rwp_det rfl rfl (det_len_slm rfl el36 rfl) <|
   rwp_det rfl rfl (det_lss rfl rfl rfl) <|
   rwp_nil <|
   awp_cond rfl (fun c2 => ?_) (fun c2 => ?_)
  ·try simp only [sx] at c2
   obtain ⟨x, hx⟩ := ex_get l k (by omega)
   refine awp_skip <|
    awp_seq <|
    awp_block <|
    awp_seq <|
    awp_draw 9 mixed (by kernel_rfl) rfl rfl <|
    td_det rfl rfl (det_move rfl rfl) <|
    td_det rfl rfl (det_move rfl rfl) <|
    td_det rfl rfl (det_index_sl rfl el36 rfl rfl (by omega) (getm (by assumption))) <|
    td_det rfl rfl (det_load_agg rfl agg63 rfl ptr_imm rfl) <|
    td_det rfl rfl (det_move rfl rfl) <|
    td_det rfl rfl (det_move rfl rfl) <|
    td_det rfl rfl (det_index_sl rfl el36 rfl rfl (by omega) (getm hx)) <|
    td_det rfl rfl (det_load_agg rfl agg63 rfl ptr_imm rfl) <|
    td_det rfl rfl (det_aneq rfl fl63 rfl rfl rfl) <|
    td_nil <|
    rwp_nil <|
    awp_cond rfl (fun c3 => ?_) (fun c3 => ?_)
   ·try simp only [sx] at c3
    exact absurd c3 (by first | (rw [show List.take 2 x.cells = x.cells from rfl, vl_lits]; simp; done) | simp)
   ·try simp only [sx] at c3
    refine awp_skip <|
     awp_region rfl <|
     rMv rfl <|
     rwp_det rfl rfl (det_add_nw rfl rfl rfl ⟨by omega, by omega⟩) <|
     rMv rfl <|
     rwp_nil ?_
    refine ⟨k + 1, (by omega), (by omega), Weak.mk [] ⟨VLe.refl _, VLe.refl _, VLe.refl _, trivial⟩ rfl⟩
  ·try simp only [sx] at c2
   refine awp_exit <|
    sReg rfl <|
    rMv rfl <|
    rwp_nil <|
    awp_ret <|
    fin1 (rs_c rfl) ?_
   exact rfl

theorem base_Int64s (l : List Int) (hl : l.length ≤ 140737488355328) :
    Pur cfg 30 [vIs l, vIs l] (vB true) := by
 refine con_intro Tryz.func30 rfl Tryz.ntmps30 Tryz.results30 rfl ?_
 intro z hz
 refine sReg rfl <|
  rMv rfl <|
  rwp_nil <|
  awp_seq <|
  sReg rfl <|
  rMv rfl <|
  rwp_det rfl rfl (det_len_slm rfl el35 rfl) <|
  rMv rfl <|
  rwp_det rfl rfl (det_len_slm rfl el35 rfl) <|
  rwp_det rfl rfl (det_neq rfl rfl rfl) <|
  rwp_nil <|
  awp_cond rfl (fun c1 => ?_) (fun c1 => ?_)
 ·try simp only [sx] at c1
  exact absurd c1 (by simp)
 ·try simp only [sx] at c1
  refine awp_skip <|
   awp_seq <|
   sReg rfl <|
   rMv rfl <|
   rwp_nil <|
   awp_block <|
   awp_weak ⟨[(5, .c _), (0, .c _), (1, .c _)], []⟩ (Weak.mk [] ⟨VLe.of_eq rfl, VLe.of_eq rfl, VLe.of_eq rfl, trivial⟩ rfl) <|
   awp_loop_k 1 0 rfl rfl (Nat) (fun k => [(5, vI k)]) (fun k => []) (fun k => k ≤ l.length) (fun k => l.length - k) ⟨0, (by omega), Weak.mk [] ⟨VLe.refl _, VLe.refl _, VLe.refl _, trivial⟩ rfl⟩ ?_
  rintro k hk
  refine awp_seq <|
   sReg rfl <|
   rMv rfl <|
   rMv rfl <|
   rwp_det rfl rfl (det_len_slm rfl el35 rfl) <|
   rwp_det rfl rfl (det_lss rfl rfl rfl) <|
   rwp_nil <|
   awp_cond rfl (fun c2 => ?_) (fun c2 => ?_)
  ·try simp only [sx] at c2
   obtain ⟨x, hx⟩ := ex_get l k (by omega)
   refine awp_skip <|
    awp_seq <|
    awp_block <|
    awp_seq <|
    awp_draw 9 mixed (by kernel_rfl) rfl rfl <|
    td_det rfl rfl (det_move rfl rfl) <|
    td_det rfl rfl (det_move rfl rfl) <|
    td_det rfl rfl (det_index_sl rfl el35 rfl rfl (by omega) (getm (by assumption))) <|
    td_det rfl rfl (det_load_one rfl one2 rfl ptr_imm rfl) <|
    td_det rfl rfl (det_move rfl rfl) <|
    td_det rfl rfl (det_move rfl rfl) <|
    td_det rfl rfl (det_index_sl rfl el35 rfl rfl (by omega) (getm hx)) <|
    td_det rfl rfl (det_load_one rfl one2 rfl ptr_imm rfl) <|
    td_det rfl rfl (det_neq rfl rfl rfl) <|
    td_nil <|
    rwp_nil <|
    awp_cond rfl (fun c3 => ?_) (fun c3 => ?_)
   ·try simp only [sx] at c3
    exact absurd c3 (by first | (rw [show List.take 2 x.cells = x.cells from rfl, vl_lits]; simp; done) | simp)
   ·try simp only [sx] at c3
    refine awp_skip <|
     awp_region rfl <|
     rMv rfl <|
     rwp_det rfl rfl (det_add_nw rfl rfl rfl ⟨by omega, by omega⟩) <|
     rMv rfl <|
     rwp_nil ?_
    refine ⟨k + 1, (by omega), (by omega), Weak.mk [] ⟨VLe.refl _, VLe.refl _, VLe.refl _, trivial⟩ rfl⟩
  ·try simp only [sx] at c2
   refine awp_exit <|
    sReg rfl <|
    rMv rfl <|
    rwp_nil <|
    awp_ret <|
    fin1 (rs_c rfl) ?_
   exact rfl

theorem law49_Few (u : Un0) (hf : u.Fit) :
    Pur cfg 5 [vU0 u] (vB u.few) := by
 refine con_intro Tryz.func5 rfl Tryz.ntmps5 Tryz.results5 rfl ?_
 intro z hz
 have hs1 := hf.hs
 have hc1 := hf.hc
 have ht1 := hf.ht
 refine sReg rfl <|
  rwp_op rfl rfl (ope_box rfl rfl) ?_
 rintro _ _ ⟨b1, rfl, rfl⟩
 refine rMv rfl <|
  rwp_nil <|
  awp_seq <|
  sReg rfl <|
  rMv rfl <|
  rwp_nil <|
  awp_block <|
  awp_weak ⟨[(3, .c _), (1, .c _)], [_]⟩ (Weak.mk [true] ⟨VLe.of_eq rfl, VLe.of_eq rfl, trivial⟩ rfl) <|
  awp_loop_k 1 0 rfl rfl (Nat) (fun k => [(3, vI k)]) (fun k => []) (fun k => k ≤ u.slots.length ∧ ((u.slots.take k).any (fun x => decide ((100 : Int) < (x.Name.size : Int))) = false)) (fun k => u.slots.length - k) ⟨0, ⟨by omega, rfl⟩, Weak.mk [true] ⟨VLe.refl _, VLe.refl _, trivial⟩ rfl⟩ ?_
 rintro k ⟨hk, hp⟩
 refine awp_seq <|
  sReg rfl <|
  rMv rfl <|
  rwp_det rfl rfl (det_field_lit rfl fd26_2 rfl) <|
  rwp_det rfl rfl (det_load_one rfl one24 rfl (ptr_row 0 rfl) rfl) <|
  rwp_det rfl rfl (det_len_slm rfl el24 rfl) <|
  rwp_det rfl rfl (det_lss rfl rfl rfl) <|
  rwp_nil <|
  awp_cond rfl (fun c1 => ?_) (fun c1 => ?_)
 ·try simp only [sx] at c1
  obtain ⟨x, hx⟩ := ex_get u.slots k (by omega)
  refine awp_skip <|
   awp_seq <|
   awp_block <|
   sReg rfl <|
   rwp_det rfl rfl (det_field_lit rfl fd26_2 rfl) <|
   rwp_det rfl rfl (det_load_one rfl one24 rfl (ptr_row 0 rfl) rfl) <|
   rMv rfl <|
   rwp_det rfl rfl (det_index_sl rfl el24 rfl rfl (by omega) (getm (by assumption))) <|
   rwp_det rfl rfl (det_field_imm rfl fd61_0 rfl) <|
   rwp_det rfl rfl (det_load_one rfl one9 rfl ptr_imm rfl) <|
   rwp_det rfl rfl (det_len_str rfl un9 rfl) <|
   rwp_det rfl rfl (det_gtr rfl rfl rfl) <|
   rwp_nil <|
   awp_cond rfl (fun c2 => ?_) (fun c2 => ?_)
  ·try simp only [sx] at c2
   refine sReg rfl <|
    rMv rfl <|
    rwp_nil <|
    awp_ret <|
    fin1 (rs_c rfl) ?_
   rw [few_no hx c2]
  ·try simp only [sx] at c2
   refine awp_skip <|
    awp_region rfl <|
    rMv rfl <|
    rwp_det rfl rfl (det_add_nw rfl rfl rfl ⟨by omega, by omega⟩) <|
    rMv rfl <|
    rwp_nil ?_
   refine ⟨k + 1, ⟨by omega, any_next hx hp (decide_eq_false (by omega))⟩, (by omega), Weak.mk [true] ⟨VLe.refl _, VLe.refl _, trivial⟩ rfl⟩
 ·try simp only [sx] at c1
  have hend : ¬ k < u.slots.length := by omega
  refine awp_exit <|
   sReg rfl <|
   rwp_det rfl rfl (det_field_lit rfl fd26_0 rfl) <|
   rwp_det rfl rfl (det_load_one rfl one22 rfl (ptr_row 0 rfl) rfl) <|
   rwp_det rfl rfl (det_len_slm rfl el22 rfl) <|
   rwp_det rfl rfl (det_leq rfl rfl rfl) <|
   rMv rfl <|
   rLz [] rfl gv1 trivial (fun g6_4 => det_field_lit rfl fd26_1 rfl) rfl <|
   rLz [(24, _)] rfl gv1 ⟨rfl, rfl, trivial⟩ (fun g6_4 => det_load_one rfl one23 rfl (ptr_row 0 rfl) rfl) rfl <|
   rLz [(25, _)] rfl gv1 ⟨rfl, rfl, trivial⟩ (fun g6_4 => det_len_slm rfl el23 rfl) rfl <|
   rLz [(26, _)] rfl gv1 ⟨rfl, rfl, trivial⟩ (fun g6_4 => det_leq rfl rfl rfl) rfl <|
   rwp_det rfl rfl (det_and rfl rfl rfl (fun h => h) rfl) <|
   rMv rfl <|
   rLz [] rfl gv1 trivial (fun g6_10 => det_field_lit rfl fd26_2 rfl) rfl <|
   rLz [(30, _)] rfl gv1 ⟨rfl, rfl, trivial⟩ (fun g6_10 => det_load_one rfl one24 rfl (ptr_row 0 rfl) rfl) rfl <|
   rLz [(31, _)] rfl gv1 ⟨rfl, rfl, trivial⟩ (fun g6_10 => det_len_slm rfl el24 rfl) rfl <|
   rLz [(32, _)] rfl gv1 ⟨rfl, rfl, trivial⟩ (fun g6_10 => det_leq rfl rfl rfl) rfl <|
   rwp_det rfl rfl (det_and rfl rfl rfl (fun h => h) rfl) <|
   rMv rfl <|
   rLz [] rfl gv1 trivial (fun g6_16 => det_field_lit rfl fd26_3 rfl) rfl <|
   rLz [(36, _)] rfl gv1 ⟨rfl, rfl, trivial⟩ (fun g6_16 => det_load_one rfl one3 rfl (ptr_row 0 rfl) rfl) rfl <|
   rLz [(37, _)] rfl gv1 ⟨rfl, rfl, trivial⟩ (fun g6_16 => det_leq rfl rfl rfl) rfl <|
   rLz [(38, _)] rfl gv1 ⟨rfl, rfl, trivial⟩ (fun g6_16 => det_move rfl rfl) rfl <|
   rLz [] rfl gv2 trivial (fun g6_20 => det_field_lit rfl fd26_3 rfl) rfl <|
   rLz [(40, _)] rfl gv2 ⟨rfl, rfl, trivial⟩ (fun g6_20 => det_load_one rfl one3 rfl (ptr_row 0 rfl) rfl) rfl <|
   rLz [(41, _)] rfl gv2 ⟨rfl, rfl, trivial⟩ (fun g6_20 => det_gtr rfl rfl rfl) rfl <|
   rLz [(39, _)] rfl gv1 ⟨rfl, rfl, trivial⟩ (fun g6_16 => det_or rfl rfl rfl rfl (fun h => and_mk (by assumption) (lzf h))) rfl <|
   rwp_det rfl rfl (det_and rfl rfl rfl (fun h => h) rfl) <|
   rMv rfl <|
   rwp_nil <|
   awp_ret <|
   fin1 (rs_c rfl) ?_
  rw [few_yes hend hp]

theorem law49_fewActs (l : List Ac) (hl : l.length ≤ 140737488355328) :
    Pur cfg 6 [vAcs l] (vB (fewAs l)) := by
 refine con_intro Tryz.func6 rfl Tryz.ntmps6 Tryz.results6 rfl ?_
 intro z hz
 refine sReg rfl <|
  rMv rfl <|
  rwp_nil <|
  awp_seq <|
  sReg rfl <|
  rMv rfl <|
  rwp_nil <|
  awp_block <|
  awp_weak ⟨[(3, .c _), (0, .c _)], []⟩ (Weak.mk [] ⟨VLe.of_eq rfl, VLe.of_eq rfl, trivial⟩ rfl) <|
  awp_loop_k 1 0 rfl rfl (Nat) (fun k => [(3, vI k)]) (fun k => []) (fun k => k ≤ l.length ∧ ((l.take k).any Ac.bad = false)) (fun k => l.length - k) ⟨0, ⟨by omega, rfl⟩, Weak.mk [] ⟨VLe.refl _, VLe.refl _, trivial⟩ rfl⟩ ?_
 rintro k ⟨hk, hp⟩
 refine awp_seq <|
  sReg rfl <|
  rMv rfl <|
  rMv rfl <|
  rwp_det rfl rfl (det_len_slm rfl el27 rfl) <|
  rwp_det rfl rfl (det_lss rfl rfl rfl) <|
  rwp_nil <|
  awp_cond rfl (fun c1 => ?_) (fun c1 => ?_)
 ·try simp only [sx] at c1
  obtain ⟨x, hx⟩ := ex_get l k (by omega)
  refine awp_skip <|
   awp_seq <|
   awp_block <|
   sReg rfl <|
   rMv rfl <|
   rMv rfl <|
   rwp_det rfl rfl (det_index_sl rfl el27 rfl rfl (by omega) (getm (by assumption))) <|
   rwp_det rfl rfl (det_field_imm rfl fd45_3 rfl) <|
   rwp_det rfl rfl (det_load_one rfl one36 rfl ptr_imm rfl) <|
   rwp_det rfl rfl (det_len_slm rfl el36 rfl) <|
   rwp_det rfl rfl (det_gtr rfl rfl rfl) <|
   rMv rfl <|
   rLz [] rfl gv1 trivial (fun g4_7 => det_move rfl rfl) rfl <|
   rLz [] rfl gv1 trivial (fun g4_7 => det_move rfl rfl) rfl <|
   rLz [(18, _), (19, _)] rfl gv1 ⟨rfl, rfl, rfl, rfl, trivial⟩ (fun g4_7 => det_index_sl rfl el27 rfl rfl (by omega) (getm (by assumption))) rfl <|
   rLz [(20, _)] rfl gv1 ⟨rfl, rfl, trivial⟩ (fun g4_7 => det_field_imm rfl fd45_2 rfl) rfl <|
   rLz [(21, _)] rfl gv1 ⟨rfl, rfl, trivial⟩ (fun g4_7 => det_load_one rfl one3 rfl ptr_imm rfl) rfl <|
   rLz [(22, _)] rfl gv1 ⟨rfl, rfl, trivial⟩ (fun g4_7 => det_gtr rfl rfl rfl) rfl <|
   rLz [(23, _)] rfl gv1 ⟨rfl, rfl, trivial⟩ (fun g4_7 => det_move rfl rfl) rfl <|
   rLz [] rfl gv2 trivial (fun g4_14 => det_move rfl rfl) rfl <|
   rLz [] rfl gv2 trivial (fun g4_14 => det_move rfl rfl) rfl <|
   rLz [(25, _), (26, _)] rfl gv2 ⟨rfl, rfl, rfl, rfl, trivial⟩ (fun g4_14 => det_index_sl rfl el27 rfl rfl (by omega) (getm (by assumption))) rfl <|
   rLz [(27, _)] rfl gv2 ⟨rfl, rfl, trivial⟩ (fun g4_14 => det_field_imm rfl fd45_2 rfl) rfl <|
   rLz [(28, _)] rfl gv2 ⟨rfl, rfl, trivial⟩ (fun g4_14 => det_load_one rfl one3 rfl ptr_imm rfl) rfl <|
   rLz [(29, _)] rfl gv2 ⟨rfl, rfl, trivial⟩ (fun g4_14 => det_leq rfl rfl rfl) rfl <|
   rLz [(24, _)] rfl gv1 ⟨rfl, rfl, trivial⟩ (fun g4_7 => det_and rfl rfl rfl (fun h => and_mk (by assumption) h) rfl) rfl <|
   rwp_det rfl rfl (det_or rfl rfl rfl rfl (fun h => (lzf h))) <|
   rwp_nil <|
   awp_cond rfl (fun c2 => ?_) (fun c2 => ?_)
  ·have c2 : x.bad = true := by simpa [Ac.bad, Lz] using c2
   refine sReg rfl <|
    rMv rfl <|
    rwp_nil <|
    awp_ret <|
    fin1 (rs_c rfl) ?_
   rw [fewAs_no hx c2]
  ·have c2 : x.bad = false := by simpa [Ac.bad, Lz] using c2
   refine awp_skip <|
    awp_region rfl <|
    rMv rfl <|
    rwp_det rfl rfl (det_add_nw rfl rfl rfl ⟨by omega, by omega⟩) <|
    rMv rfl <|
    rwp_nil ?_
   refine ⟨k + 1, ⟨by omega, any_next hx hp c2⟩, (by omega), Weak.mk [] ⟨VLe.refl _, VLe.refl _, trivial⟩ rfl⟩
 ·try simp only [sx] at c1
  have hend : ¬ k < l.length := by omega
  refine awp_exit <|
   sReg rfl <|
   rMv rfl <|
   rwp_det rfl rfl (det_len_slm rfl el27 rfl) <|
   rwp_det rfl rfl (det_leq rfl rfl rfl) <|
   rMv rfl <|
   rwp_nil <|
   awp_ret <|
   fin1 (rs_c rfl) ?_
  rw [fewAs_yes hend hp]

theorem zrM : zeroT Tryz.prog 80 = some zM := by kernel_rfl
theorem fillM (sv : Value) (code : List In) (tys : List Ty) (M : List Vl) : afill (nth [(0, 1), (1, 1), (2, 1), (3, 1), (4, 256), (260, 512), (772, 1), (773, 1)]) (zM.map .lit) [(0, .c (.lit (.bool true))), (1, .c (.sl 11 (code.map In.cells))), (2, .c (.sl 5 (tys.map Ty.cells))), (3, .c (.lit sv))] = some (mcC sv ⟨code, tys, 0, List.replicate 256 0, List.replicate 256 ⟨0, 0⟩, M, false⟩) := by kernel_rfl
theorem repeatW (v : Vl) (w : Int) (h0 : 0 ≤ w) (h : w ≤ 1048576) : OwnR cfg 25 [vVals [v], vI w] 63 2 ((List.replicate w.toNat v).map Vl.cells) := by
  have e := slices_Repeat_val v w.toNat (by omega)
  rw [Int.toNat_of_nonneg h0] at e
  exact e
theorem vm_New_bad (u : Un0) (ht : u.tys.length ≤ 1000000) (hv : ¬ (vld u.code u.tys u.words).2 = 0) :
    Pur cfg 8 [vU0 u] (.tup [.c (.lit (.pointer none)), vI (vld u.code u.tys u.words).2]) := by
 refine con_intro Tryz.func8 rfl Tryz.ntmps8 Tryz.results8 rfl ?_
 intro z hz
 refine sReg rfl <|
  rwp_op rfl rfl (ope_box rfl rfl) ?_
 rintro _ _ ⟨b1, rfl, rfl⟩
 refine rMv rfl <|
  rMv rfl <|
  rwp_nil <|
  awp_seq <|
  sReg rfl <|
  rwp_det rfl rfl (det_field_lit rfl fd26_0 rfl) <|
  rwp_det rfl rfl (det_load_one rfl one22 rfl (ptr_row 0 rfl) rfl) <|
  rwp_det rfl rfl (det_field_lit rfl fd26_1 rfl) <|
  rwp_det rfl rfl (det_load_one rfl one23 rfl (ptr_row 0 rfl) rfl) <|
  rwp_det rfl rfl (det_field_lit rfl fd26_3 rfl) <|
  rwp_det rfl rfl (det_load_one rfl one3 rfl (ptr_row 0 rfl) rfl) <|
  rwp_det rfl rfl (det_call rfl ok22 (isa_Validate u.code u.tys u.words ht) ⟨VLe.refl _, rfl, VLe.refl _, rfl, VLe.refl _, rfl, trivial⟩) <|
  rwp_det rfl rfl (det_move_tup rfl rfl) <|
  rwp_det rfl rfl (det_ex_c rfl rfl rfl) <|
  rwp_det rfl rfl (det_ex_c rfl rfl rfl) <|
  rMv rfl <|
  rMv rfl <|
  rwp_nil <|
  sReg rfl <|
  rMv rfl <|
  rwp_det rfl rfl (det_neq rfl rfl rfl) <|
  rwp_nil <|
  awp_cond rfl (fun c1 => ?_) (fun c1 => ?_)
 ·try simp only [sx] at c1
  refine sReg rfl <|
   rMv rfl <|
   rMv rfl <|
   rMv rfl <|
   rwp_nil <|
   awp_ret <|
   fin2 (rs_c rfl) (rs_c rfl) ?_
  exact rfl
 ·try simp only [sx] at c1
  exact absurd c1 hv

theorem vm_New_ok (u : Un0) (ht : u.tys.length ≤ 1000000) (hv : (vld u.code u.tys u.words).2 = 0) :
    Con cfg 8 [vU0 u] [] fun r μ' => ∃ b sv, r = .tup [vPt b, vI 0] ∧ μ' = mcE b sv (newM u.code u.tys u.words) := by
 refine con_intro Tryz.func8 rfl Tryz.ntmps8 Tryz.results8 rfl ?_
 intro z hz
 obtain ⟨v1, v2, v3, v4, v5⟩ := vld_ok hv
 refine sReg rfl <|
  rwp_op rfl rfl (ope_box rfl rfl) ?_
 rintro _ _ ⟨b1, rfl, rfl⟩
 refine rMv rfl <|
  rMv rfl <|
  rwp_nil <|
  awp_seq <|
  sReg rfl <|
  rwp_det rfl rfl (det_field_lit rfl fd26_0 rfl) <|
  rwp_det rfl rfl (det_load_one rfl one22 rfl (ptr_row 0 rfl) rfl) <|
  rwp_det rfl rfl (det_field_lit rfl fd26_1 rfl) <|
  rwp_det rfl rfl (det_load_one rfl one23 rfl (ptr_row 0 rfl) rfl) <|
  rwp_det rfl rfl (det_field_lit rfl fd26_3 rfl) <|
  rwp_det rfl rfl (det_load_one rfl one3 rfl (ptr_row 0 rfl) rfl) <|
  rwp_det rfl rfl (det_call rfl ok22 (isa_Validate u.code u.tys u.words ht) ⟨VLe.refl _, rfl, VLe.refl _, rfl, VLe.refl _, rfl, trivial⟩) <|
  rwp_det rfl rfl (det_move_tup rfl rfl) <|
  rwp_det rfl rfl (det_ex_c rfl rfl rfl) <|
  rwp_det rfl rfl (det_ex_c rfl rfl rfl) <|
  rMv rfl <|
  rMv rfl <|
  rwp_nil <|
  sReg rfl <|
  rMv rfl <|
  rwp_det rfl rfl (det_neq rfl rfl rfl) <|
  rwp_nil <|
  awp_cond rfl (fun c1 => ?_) (fun c1 => ?_)
 ·try simp only [sx] at c1
  exact absurd hv c1
 ·try simp only [sx] at c1
  refine awp_skip <|
   awp_seq <|
   awp_draw 10 mixed (by kernel_rfl) rfl rfl <|
   td_det rfl rfl (det_field_lit rfl fd26_0 rfl) <|
   td_det rfl rfl (det_load_one rfl one22 rfl (ptr_row 0 rfl) rfl) <|
   td_det rfl rfl (det_call rfl ok23 (OwnR.pur (slices_Clone_in u.code (by omega))) ⟨VLe.refl _, rfl, trivial⟩) <|
   td_det rfl rfl (det_field_lit rfl fd26_1 rfl) <|
   td_det rfl rfl (det_load_one rfl one23 rfl (ptr_row 0 rfl) rfl) <|
   td_det rfl rfl (det_call rfl ok24 (OwnR.pur (slices_Clone_ty u.tys (by omega))) ⟨VLe.refl _, rfl, trivial⟩) <|
   td_det rfl rfl (det_call rfl ok26 (vm_zero) trivial) <|
   td_det rfl rfl (det_bslice rfl el36 zr63 rfl rfl rfl rfl) <|
   td_det rfl rfl (det_field_lit rfl fd26_3 rfl) <|
   td_det rfl rfl (det_load_one rfl one3 rfl (ptr_row 0 rfl) rfl) <|
   td_nil <|
   rwp_op rfl rfl (ope_call_own rfl ok25 (repeatW ⟨0, 1⟩ u.words v2 v3) ⟨VLe.refl _, rfl, VLe.refl _, rfl, trivial⟩) ?_
  rintro _ _ ⟨sv2, rfl, rfl⟩
  refine rwp_det rfl rfl (det_build rfl zrM pl80 (fillM _ u.code u.tys (List.replicate u.words.toNat ⟨0, 1⟩))) <|
   rwp_op rfl rfl (ope_box rfl rfl) ?_
  rintro _ _ ⟨b3, rfl, rfl⟩
  refine rMv rfl <|
   rwp_nil <|
   awp_seq <|
   sReg rfl <|
   rMv rfl <|
   rwp_nil <|
   awp_block <|
   awp_weak ⟨[(34, .c _), (6, .c _)], [_, _]⟩ (Weak.mk [true, true, false] ⟨VLe.of_eq rfl, VLe.of_eq rfl, trivial⟩ rfl) <|
   awp_loop_k 1 1 rfl rfl (Nat) (fun k => [(34, vI k)]) (fun k => [E.row b3 80 (mcC sv2 (newK u.code u.tys u.words k))]) (fun k => k ≤ 256) (fun k => 256 - k) ⟨0, (Nat.zero_le _), Weak.mk [true, true] ⟨VLe.refl _, VLe.refl _, trivial⟩ rfl⟩ ?_
  rintro k hk
  refine sReg rfl <|
   rwp_det rfl rfl (det_lss rfl rfl rfl) <|
   rwp_nil <|
   awp_seq <|
   awp_cond rfl (fun c2 => ?_) (fun c2 => ?_)
  ·try simp only [sx] at c2
   refine awp_skip <|
    awp_seq <|
    awp_block <|
    sReg rfl <|
    rMv rfl <|
    rMv rfl <|
    rwp_nil <|
    awp_draw 6 mixed (by kernel_rfl) rfl rfl <|
    td_det rfl rfl (det_move rfl rfl) <|
    td_det rfl rfl (det_move rfl rfl) <|
    td_det rfl rfl (det_call rfl ok26 (vm_zero) trivial) <|
    td_det rfl rfl (det_nilcheck_ptr rfl rfl) <|
    td_det rfl rfl (det_field_lit rfl fd80_5 rfl) <|
    td_det rfl rfl (det_arr_lit rfl ar78 rfl rfl (by omega) (by omega)) <|
    td_nil <|
    rwp_det0 rfl rfl (det_store rfl sz63 rfl rfl rfl (st_rowE 0 rfl (by rw [mc_len (newK_ok hv hk)]; show 0 + 260 + (k : Int).toNat * 2 + 2 ≤ 774; omega) (mc_sR (newK_ok hv hk) ⟨0, 1⟩ (by omega) (by omega)))) <|
    rwp_nil <|
    awp_region rfl <|
    rwp_det rfl rfl (det_add_nw rfl rfl rfl ⟨by omega, by omega⟩) <|
    rMv rfl <|
    rwp_nil ?_
   refine ⟨(k + 1), (by omega), (by omega), Weak.mk [true, true] ⟨VLe.refl _, VLe.refl _, trivial⟩ (by rw [← newK_next (by omega)]; rfl)⟩
  ·try simp only [sx] at c2
   refine awp_exit <|
    sReg rfl <|
    rMv rfl <|
    rMv rfl <|
    rMv rfl <|
    rwp_nil <|
    awp_ret <|
    fin2 (rs_c rfl) (rs_c rfl) ?_
   exact ⟨_, _, rfl, by rw [← newK_all, show (256 : Nat) = k by omega]; rfl⟩

end Go.W
