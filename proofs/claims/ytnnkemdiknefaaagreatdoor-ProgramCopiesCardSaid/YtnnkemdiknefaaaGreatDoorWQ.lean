/-
  Walks: what functions of the program compute. Printed by wip/gen/mk2.py.
  Conditions: none.
-/
import Derived.Test.YtnnkemdiknefaaaGreatDoorWP
set_option linter.unusedSimpArgs false
set_option linter.unusedVariables false
namespace Go.W
open Go Go.Eng Go.Proofs Go.L41 Go.Br
attribute [local irreducible] AWP RWP TD
theorem ok109 : callOk Tryz.prog 109 = true := by kernel_rfl
theorem ref17_wide (l : List Lf) (hl : l.length ≤ 140737488355328) :
    Pur cfg 109 [vLins l] (vB (wideB l)) := by
 refine con_intro Tryz.func109 rfl Tryz.ntmps109 Tryz.results109 rfl ?_
 intro z hz
 refine awp_seq ?_
 refine awp_region rfl ?_
 refine rwp_det rfl rfl (det_assign rfl rfl) ?_
 refine rwp_nil ?_
 refine awp_seq ?_
 refine awp_seq ?_
 refine awp_region rfl ?_
 refine rwp_det rfl rfl (det_assign rfl rfl) ?_
 refine rwp_nil ?_
 refine awp_block ?_
 refine awp_weak ⟨[(3, .c _), (0, .c _)], []⟩ (Weak.mk [] ⟨VLe.of_eq rfl, VLe.of_eq rfl, trivial⟩ rfl) ?_
 refine awp_loop_k 1 0 rfl rfl (Nat) (fun k => [(3, vI k)]) (fun k => []) (fun k => k ≤ l.length ∧ ((l.take k).any (fun x => decide (20 < x.L.length)) = false)) (fun k => l.length - k) ⟨0, ⟨by omega, rfl⟩, Weak.mk [] ⟨VLe.refl _, VLe.refl _, trivial⟩ rfl⟩ ?_
 rintro k ⟨hk, hp⟩
 refine awp_seq ?_
 refine awp_seq ?_
 refine awp_region rfl ?_
 refine rwp_det rfl rfl (det_move rfl rfl) ?_
 refine rwp_det rfl rfl (det_move rfl rfl) ?_
 refine rwp_det rfl rfl (det_len_slm rfl el104 rfl) ?_
 refine rwp_det rfl rfl (det_lss rfl rfl rfl) ?_
 refine rwp_nil ?_
 refine awp_cond rfl (fun c1 => ?_) (fun c1 => ?_)
 ·try simp only [sx, List.length_map] at c1
  obtain ⟨x, hx⟩ := ex_get l k (by omega)
  refine awp_skip ?_
  refine awp_seq ?_
  refine awp_block ?_
  refine awp_seq ?_
  refine awp_region rfl ?_
  refine rwp_det rfl rfl (det_move rfl rfl) ?_
  refine rwp_det rfl rfl (det_move rfl rfl) ?_
  refine rwp_det rfl rfl (det_index_sl rfl el104 rfl rfl (by omega) (getm (by assumption))) ?_
  refine rwp_det rfl rfl (det_field_imm rfl fd29_1 rfl) ?_
  refine rwp_det rfl rfl (det_load_one rfl one27 rfl ptr_imm rfl) ?_
  refine rwp_det rfl rfl (det_len_slm rfl el27 rfl) ?_
  refine rwp_det rfl rfl (det_gtr rfl rfl rfl) ?_
  refine rwp_nil ?_
  refine awp_cond rfl (fun c2 => ?_) (fun c2 => ?_)
  ·try simp only [sx, List.length_map] at c2
   refine awp_seq ?_
   refine awp_region rfl ?_
   refine rwp_det rfl rfl (det_assign rfl rfl) ?_
   refine rwp_nil ?_
   refine awp_ret ?_
   repeat (first | refine thenQ_ret ?_ | refine blockQ_ret ?_)
   refine fin1 (rs_c rfl) ?_
   rw [wideB, List.any_eq_true.2 ⟨x, mem_of_get hx, decide_eq_true (by omega)⟩]
  ·try simp only [sx, List.length_map] at c2
   refine awp_skip ?_
   refine awp_region rfl ?_
   refine rwp_det rfl rfl (det_move rfl rfl) ?_
   refine rwp_det rfl rfl (det_add_nw rfl rfl rfl ⟨by omega, by omega⟩) ?_
   refine rwp_det rfl rfl (det_assign rfl rfl) ?_
   refine rwp_nil ?_
   refine ⟨k + 1, ⟨by omega, any_next hx hp (decide_eq_false (by omega))⟩, (by omega), Weak.mk [] ⟨VLe.refl _, VLe.refl _, trivial⟩ rfl⟩
 ·try simp only [sx, List.length_map] at c1
  refine awp_exit ?_
  refine awp_seq ?_
  refine awp_region rfl ?_
  refine rwp_det rfl rfl (det_assign rfl rfl) ?_
  refine rwp_nil ?_
  refine awp_ret ?_
  repeat (first | refine thenQ_ret ?_ | refine blockQ_ret ?_)
  refine fin1 (rs_c rfl) ?_
  rw [wideB]; rw [take_all (by omega)] at hp; rw [hp]

theorem ref17_Long (p : Pg) (most : Nat) (hF : p.Fit) (hm : most ≤ 1000000) :
    Pur cfg 45 [vPg p, vI most] (vB (longT p most)) := by
 refine con_intro Tryz.func45 rfl Tryz.ntmps45 Tryz.results45 rfl ?_
 intro z hz
 have f1 := hF.sizes
 have f2 := hF.wh
 have f3 := hF.params
 have f4 := hF.defs
 have f5 := hF.outs
 refine awp_seq ?_
 refine awp_region rfl ?_
 refine rwp_op rfl rfl (ope_box rfl rfl) ?_
 rintro _ _ ⟨b1, rfl, rfl⟩
 refine rwp_det rfl rfl (det_assign rfl rfl) ?_
 refine rwp_nil ?_
 refine awp_seq ?_
 refine awp_seq ?_
 refine awp_region rfl ?_
 refine rwp_det rfl rfl (det_field_lit rfl fd47_0 rfl) ?_
 refine rwp_det rfl rfl (det_load_one rfl one42 rfl (ptr_row 0 rfl) rfl) ?_
 refine rwp_det rfl rfl (det_len_slm rfl el42 rfl) ?_
 refine rwp_det rfl rfl (det_gtr rfl rfl rfl) ?_
 refine rwp_det rfl rfl (det_move rfl rfl) ?_
 refine rwp_lazy [] rfl rfl rfl rfl gv1 trivial (fun g1_4 => det_field_lit rfl fd47_1 rfl) rfl ?_
 refine rwp_lazy [(16, _)] rfl rfl rfl rfl gv1 ⟨rfl, rfl, trivial⟩ (fun g1_4 => det_load_one rfl one43 rfl (ptr_row 0 rfl) rfl) rfl ?_
 refine rwp_lazy [(17, _)] rfl rfl rfl rfl gv1 ⟨rfl, rfl, trivial⟩ (fun g1_4 => det_len_slm rfl el43 rfl) rfl ?_
 refine rwp_lazy [(18, _)] rfl rfl rfl rfl gv1 ⟨rfl, rfl, trivial⟩ (fun g1_4 => det_gtr rfl rfl rfl) rfl ?_
 refine rwp_det rfl rfl (det_or rfl rfl rfl rfl (fun h => (lzf h))) ?_
 refine rwp_det rfl rfl (det_move rfl rfl) ?_
 refine rwp_lazy [] rfl rfl rfl rfl gv1 trivial (fun g1_10 => det_field_lit rfl fd47_2 rfl) rfl ?_
 refine rwp_lazy [(22, _)] rfl rfl rfl rfl gv1 ⟨rfl, rfl, trivial⟩ (fun g1_10 => det_load_one rfl one44 rfl (ptr_row 0 rfl) rfl) rfl ?_
 refine rwp_lazy [(23, _)] rfl rfl rfl rfl gv1 ⟨rfl, rfl, trivial⟩ (fun g1_10 => det_len_slm rfl el44 rfl) rfl ?_
 refine rwp_lazy [(24, _)] rfl rfl rfl rfl gv1 ⟨rfl, rfl, trivial⟩ (fun g1_10 => det_gtr rfl rfl rfl) rfl ?_
 refine rwp_det rfl rfl (det_or rfl rfl rfl rfl (fun h => (lzf h))) ?_
 refine rwp_det rfl rfl (det_move rfl rfl) ?_
 refine rwp_lazy [] rfl rfl rfl rfl gv1 trivial (fun g1_16 => det_field_lit rfl fd47_3 rfl) rfl ?_
 refine rwp_lazy [(28, _)] rfl rfl rfl rfl gv1 ⟨rfl, rfl, trivial⟩ (fun g1_16 => det_load_one rfl one45 rfl (ptr_row 0 rfl) rfl) rfl ?_
 refine rwp_lazy [(29, _)] rfl rfl rfl rfl gv1 ⟨rfl, rfl, trivial⟩ (fun g1_16 => det_len_slm rfl el45 rfl) rfl ?_
 refine rwp_lazy [(30, _)] rfl rfl rfl rfl gv1 ⟨rfl, rfl, trivial⟩ (fun g1_16 => det_gtr rfl rfl rfl) rfl ?_
 refine rwp_det rfl rfl (det_or rfl rfl rfl rfl (fun h => (lzf h))) ?_
 refine rwp_det rfl rfl (det_move rfl rfl) ?_
 refine rwp_lazy [] rfl rfl rfl rfl gv1 trivial (fun g1_22 => det_field_lit rfl fd47_4 rfl) rfl ?_
 refine rwp_lazy [(34, _)] rfl rfl rfl rfl gv1 ⟨rfl, rfl, trivial⟩ (fun g1_22 => det_load_one rfl one42 rfl (ptr_row 0 rfl) rfl) rfl ?_
 refine rwp_lazy [(35, _)] rfl rfl rfl rfl gv1 ⟨rfl, rfl, trivial⟩ (fun g1_22 => det_len_slm rfl el42 rfl) rfl ?_
 refine rwp_lazy [(36, _)] rfl rfl rfl rfl gv1 ⟨rfl, rfl, trivial⟩ (fun g1_22 => det_gtr rfl rfl rfl) rfl ?_
 refine rwp_det rfl rfl (det_or rfl rfl rfl rfl (fun h => (lzf h))) ?_
 refine rwp_nil ?_
 refine awp_cond rfl (fun c1 => ?_) (fun c1 => ?_)
 ·have h0 := long0_t c1
  refine awp_seq ?_
  refine awp_region rfl ?_
  refine rwp_det rfl rfl (det_assign rfl rfl) ?_
  refine rwp_nil ?_
  refine awp_ret ?_
  repeat (first | refine thenQ_ret ?_ | refine blockQ_ret ?_)
  refine fin1 (rs_c rfl) ?_
  rw [longT, h0]; rfl
 ·have h0 := long0_f c1
  refine awp_skip ?_
  refine awp_seq ?_
  refine awp_seq ?_
  refine awp_region rfl ?_
  refine rwp_det rfl rfl (det_assign rfl rfl) ?_
  refine rwp_nil ?_
  refine awp_block ?_
  refine awp_weak ⟨[(5, .c _), (1, .c _), (2, .c _)], [_]⟩ (Weak.mk [true] ⟨VLe.of_eq rfl, VLe.of_eq rfl, VLe.of_eq rfl, trivial⟩ rfl) ?_
  refine awp_loop_k 1 0 rfl rfl (Nat) (fun k => [(5, vI k)]) (fun k => []) (fun k => k ≤ p.Where.length ∧ ((p.Where.take k).any longC = false)) (fun k => p.Where.length - k) ⟨0, ⟨by omega, rfl⟩, Weak.mk [true] ⟨VLe.refl _, VLe.refl _, VLe.refl _, trivial⟩ rfl⟩ ?_
  rintro k ⟨hk, hp⟩
  refine awp_seq ?_
  refine awp_seq ?_
  refine awp_region rfl ?_
  refine rwp_det rfl rfl (det_move rfl rfl) ?_
  refine rwp_det rfl rfl (det_field_lit rfl fd47_1 rfl) ?_
  refine rwp_det rfl rfl (det_load_one rfl one43 rfl (ptr_row 0 rfl) rfl) ?_
  refine rwp_det rfl rfl (det_len_slm rfl el43 rfl) ?_
  refine rwp_det rfl rfl (det_lss rfl rfl rfl) ?_
  refine rwp_nil ?_
  refine awp_cond rfl (fun c2 => ?_) (fun c2 => ?_)
  ·try simp only [sx, List.length_map] at c2
   obtain ⟨x, hx⟩ := ex_get p.Where k (by omega)
   refine awp_skip ?_
   refine awp_seq ?_
   refine awp_block ?_
   refine awp_seq ?_
   refine awp_region rfl ?_
   refine rwp_det rfl rfl (det_field_lit rfl fd47_1 rfl) ?_
   refine rwp_det rfl rfl (det_load_one rfl one43 rfl (ptr_row 0 rfl) rfl) ?_
   refine rwp_det rfl rfl (det_move rfl rfl) ?_
   refine rwp_det rfl rfl (det_index_sl rfl el43 rfl rfl (by omega) (getm (by assumption))) ?_
   refine rwp_det rfl rfl (det_field_imm rfl fd111_0 rfl) ?_
   refine rwp_det rfl rfl (det_field_imm rfl fd29_1 rfl) ?_
   refine rwp_det rfl rfl (det_load_one rfl one27 rfl ptr_imm rfl) ?_
   refine rwp_det rfl rfl (det_len_slm rfl el27 rfl) ?_
   refine rwp_det rfl rfl (det_gtr rfl rfl rfl) ?_
   refine rwp_nil ?_
   refine awp_cond rfl (fun c3 => ?_) (fun c3 => ?_)
   ·try simp only [sx, List.length_map] at c3
    refine awp_seq ?_
    refine awp_region rfl ?_
    refine rwp_det rfl rfl (det_assign rfl rfl) ?_
    refine rwp_nil ?_
    refine awp_ret ?_
    repeat (first | refine thenQ_ret ?_ | refine blockQ_ret ?_)
    refine fin1 (rs_c rfl) ?_
    rw [longT, List.any_eq_true.2 ⟨x, mem_of_get hx, (decide_eq_true (by omega) : longC x = true)⟩]; simp
   ·try simp only [sx, List.length_map] at c3
    refine awp_skip ?_
    refine awp_region rfl ?_
    refine rwp_det rfl rfl (det_move rfl rfl) ?_
    refine rwp_det rfl rfl (det_add_nw rfl rfl rfl ⟨by omega, by omega⟩) ?_
    refine rwp_det rfl rfl (det_assign rfl rfl) ?_
    refine rwp_nil ?_
    refine ⟨k + 1, ⟨by omega, any_next hx hp (decide_eq_false (by omega))⟩, (by omega), Weak.mk [true] ⟨VLe.refl _, VLe.refl _, VLe.refl _, trivial⟩ rfl⟩
  ·try simp only [sx, List.length_map] at c2
   rw [take_all (l := p.Where) (k := k) (by omega)] at hp
   refine awp_exit ?_
   refine awp_seq ?_
   refine awp_seq ?_
   refine awp_region rfl ?_
   refine rwp_det rfl rfl (det_assign rfl rfl) ?_
   refine rwp_nil ?_
   refine awp_block ?_
   refine awp_weak ⟨[(6, .c _), (1, .c _), (2, .c _)], [_]⟩ (Weak.mk [true] ⟨VLe.of_eq rfl, VLe.of_eq rfl, VLe.of_eq rfl, trivial⟩ rfl) ?_
   refine awp_loop_k 1 0 rfl rfl (Nat) (fun k => [(6, vI k)]) (fun k => []) (fun k => k ≤ p.Params.length ∧ ((p.Params.take k).any longP = false)) (fun k => p.Params.length - k) ⟨0, ⟨by omega, rfl⟩, Weak.mk [true] ⟨VLe.refl _, VLe.refl _, VLe.refl _, trivial⟩ rfl⟩ ?_
   rintro k ⟨hk, hq⟩
   refine awp_seq ?_
   refine awp_seq ?_
   refine awp_region rfl ?_
   refine rwp_det rfl rfl (det_move rfl rfl) ?_
   refine rwp_det rfl rfl (det_field_lit rfl fd47_2 rfl) ?_
   refine rwp_det rfl rfl (det_load_one rfl one44 rfl (ptr_row 0 rfl) rfl) ?_
   refine rwp_det rfl rfl (det_len_slm rfl el44 rfl) ?_
   refine rwp_det rfl rfl (det_lss rfl rfl rfl) ?_
   refine rwp_nil ?_
   refine awp_cond rfl (fun c4 => ?_) (fun c4 => ?_)
   ·try simp only [sx, List.length_map] at c4
    obtain ⟨x, hx⟩ := ex_get p.Params k (by omega)
    refine awp_skip ?_
    refine awp_seq ?_
    refine awp_block ?_
    refine awp_seq ?_
    refine awp_region rfl ?_
    refine rwp_det rfl rfl (det_field_lit rfl fd47_2 rfl) ?_
    refine rwp_det rfl rfl (det_load_one rfl one44 rfl (ptr_row 0 rfl) rfl) ?_
    refine rwp_det rfl rfl (det_move rfl rfl) ?_
    refine rwp_det rfl rfl (det_index_sl rfl el44 rfl rfl (by omega) (getm (by assumption))) ?_
    refine rwp_det rfl rfl (det_field_imm rfl fd106_2 rfl) ?_
    refine rwp_det rfl rfl (det_load_one rfl one104 rfl ptr_imm rfl) ?_
    refine rwp_det rfl rfl (det_len_slm rfl el104 rfl) ?_
    refine rwp_det rfl rfl (det_gtr rfl rfl rfl) ?_
    refine rwp_det rfl rfl (det_move rfl rfl) ?_
    refine rwp_lazy [] rfl rfl rfl rfl gv1 trivial (fun g11_8 => det_field_lit rfl fd47_2 rfl) rfl ?_
    refine rwp_lazy [(71, _)] rfl rfl rfl rfl gv1 ⟨rfl, rfl, trivial⟩ (fun g11_8 => det_load_one rfl one44 rfl (ptr_row 0 rfl) rfl) rfl ?_
    refine rwp_lazy [] rfl rfl rfl rfl gv1 trivial (fun g11_8 => det_move rfl rfl) rfl ?_
    refine rwp_lazy [(72, _), (73, _)] rfl rfl rfl rfl gv1 ⟨rfl, rfl, rfl, rfl, trivial⟩ (fun g11_8 => det_index_sl rfl el44 rfl rfl (by omega) (getm (by assumption))) rfl ?_
    refine rwp_lazy [(74, _)] rfl rfl rfl rfl gv1 ⟨rfl, rfl, trivial⟩ (fun g11_8 => det_field_imm rfl fd106_2 rfl) rfl ?_
    refine rwp_lazy [(75, _)] rfl rfl rfl rfl gv1 ⟨rfl, rfl, trivial⟩ (fun g11_8 => det_load_one rfl one104 rfl ptr_imm rfl) rfl ?_
    refine rwp_lazy [(76, _)] rfl rfl rfl rfl gv1 ⟨rfl, rfl, trivial⟩ (fun g11_8 => det_call rfl ok109 (ref17_wide x.Dims (hF.ps x (mem_of_get hx)).1) ⟨VLe.refl _, rfl, trivial⟩) rfl ?_
    refine rwp_det rfl rfl (det_or rfl rfl rfl rfl (fun h => (lzf h))) ?_
    refine rwp_nil ?_
    refine awp_cond rfl (fun c5 => ?_) (fun c5 => ?_)
    ·have h5 := longP_t c5
     refine awp_seq ?_
     refine awp_region rfl ?_
     refine rwp_det rfl rfl (det_assign rfl rfl) ?_
     refine rwp_nil ?_
     refine awp_ret ?_
     repeat (first | refine thenQ_ret ?_ | refine blockQ_ret ?_)
     refine fin1 (rs_c rfl) ?_
     rw [longT, List.any_eq_true.2 ⟨x, mem_of_get hx, h5⟩]; simp
    ·have h5 := longP_f c5
     refine awp_skip ?_
     refine awp_region rfl ?_
     refine rwp_det rfl rfl (det_move rfl rfl) ?_
     refine rwp_det rfl rfl (det_add_nw rfl rfl rfl ⟨by omega, by omega⟩) ?_
     refine rwp_det rfl rfl (det_assign rfl rfl) ?_
     refine rwp_nil ?_
     refine ⟨k + 1, ⟨by omega, any_next hx hq h5⟩, (by omega), Weak.mk [true] ⟨VLe.refl _, VLe.refl _, VLe.refl _, trivial⟩ rfl⟩
   ·try simp only [sx, List.length_map] at c4
    rw [take_all (l := p.Params) (k := k) (by omega)] at hq
    refine awp_exit ?_
    refine awp_seq ?_
    refine awp_seq ?_
    refine awp_region rfl ?_
    refine rwp_det rfl rfl (det_assign rfl rfl) ?_
    refine rwp_nil ?_
    refine awp_block ?_
    refine awp_weak ⟨[(7, .c _), (1, .c _), (2, .c _)], [_]⟩ (Weak.mk [true] ⟨VLe.of_eq rfl, VLe.of_eq rfl, VLe.of_eq rfl, trivial⟩ rfl) ?_
    refine awp_loop_k 1 0 rfl rfl (Nat) (fun k => [(7, vI k)]) (fun k => []) (fun k => k ≤ p.Defs.length ∧ ((p.Defs.take k).any (longD most) = false)) (fun k => p.Defs.length - k) ⟨0, ⟨by omega, rfl⟩, Weak.mk [true] ⟨VLe.refl _, VLe.refl _, VLe.refl _, trivial⟩ rfl⟩ ?_
    rintro k ⟨hk, hr⟩
    refine awp_seq ?_
    refine awp_seq ?_
    refine awp_region rfl ?_
    refine rwp_det rfl rfl (det_move rfl rfl) ?_
    refine rwp_det rfl rfl (det_field_lit rfl fd47_3 rfl) ?_
    refine rwp_det rfl rfl (det_load_one rfl one45 rfl (ptr_row 0 rfl) rfl) ?_
    refine rwp_det rfl rfl (det_len_slm rfl el45 rfl) ?_
    refine rwp_det rfl rfl (det_lss rfl rfl rfl) ?_
    refine rwp_nil ?_
    refine awp_cond rfl (fun c6 => ?_) (fun c6 => ?_)
    ·try simp only [sx, List.length_map] at c6
     obtain ⟨d, hd⟩ := ex_get p.Defs k (by omega)
     obtain ⟨g1, g2, g3, g4, g5⟩ := hF.ds d (mem_of_get hd)
     refine awp_skip ?_
     refine awp_seq ?_
     refine awp_block ?_
     refine awp_seq ?_
     refine awp_region rfl ?_
     refine rwp_det rfl rfl (det_field_lit rfl fd47_3 rfl) ?_
     refine rwp_det rfl rfl (det_load_one rfl one45 rfl (ptr_row 0 rfl) rfl) ?_
     refine rwp_det rfl rfl (det_move rfl rfl) ?_
     refine rwp_det rfl rfl (det_index_sl rfl el45 rfl rfl (by omega) (getm (by assumption))) ?_
     refine rwp_det rfl rfl (det_load_agg rfl agg35 rfl ptr_imm rfl) ?_
     refine rwp_op rfl rfl (ope_allocN [none, none, none, none, none, none, some 3, some 3, none, none, none, none, none, none, none, none, none, none, none, some 2, some 4, some 13] rfl zr35 rfl) ?_
     rintro _ _ ⟨b2, rfl, rfl⟩
     refine rwp_det0 rfl rfl (det_store rfl sz35 rfl rfl rfl (st_row 0 rfl rfl)) ?_
     refine rwp_nil ?_
     refine awp_seq ?_
     refine awp_seq ?_
     refine awp_region rfl ?_
     refine rwp_det rfl rfl (det_field_lit rfl fd35_2 rfl) ?_
     refine rwp_det rfl rfl (det_load_one rfl one24 rfl (ptr_row 0 rfl) rfl) ?_
     refine rwp_det rfl rfl (det_len_slm rfl el24 rfl) ?_
     refine rwp_det rfl rfl (det_gtr rfl rfl rfl) ?_
     refine rwp_det rfl rfl (det_move rfl rfl) ?_
     refine rwp_lazy [] rfl rfl rfl rfl gv1 trivial (fun g17_4 => det_field_lit rfl fd35_3 rfl) rfl ?_
     refine rwp_lazy [(96, _)] rfl rfl rfl rfl gv1 ⟨rfl, rfl, trivial⟩ (fun g17_4 => det_load_one rfl one24 rfl (ptr_row 0 rfl) rfl) rfl ?_
     refine rwp_lazy [(97, _)] rfl rfl rfl rfl gv1 ⟨rfl, rfl, trivial⟩ (fun g17_4 => det_len_slm rfl el24 rfl) rfl ?_
     refine rwp_lazy [(98, _)] rfl rfl rfl rfl gv1 ⟨rfl, rfl, trivial⟩ (fun g17_4 => det_gtr rfl rfl rfl) rfl ?_
     refine rwp_det rfl rfl (det_or rfl rfl rfl rfl (fun h => (lzf h))) ?_
     refine rwp_det rfl rfl (det_move rfl rfl) ?_
     refine rwp_lazy [] rfl rfl rfl rfl gv1 trivial (fun g17_10 => det_field_lit rfl fd35_5 rfl) rfl ?_
     refine rwp_lazy [(102, _)] rfl rfl rfl rfl gv1 ⟨rfl, rfl, trivial⟩ (fun g17_10 => det_load_agg rfl agg33 rfl (ptr_row 0 rfl) rfl) rfl ?_
     refine rwp_lazy [] rfl rfl rfl rfl gv1 trivial (fun g17_10 => det_move rfl rfl) rfl ?_
     refine rwp_lazy [(103, _), (104, _)] rfl rfl rfl rfl gv1 ⟨rfl, rfl, rfl, rfl, trivial⟩ (fun g17_10 => det_call rfl ok50 (base_Weigh d.Body most most (hF.ds d (mem_of_get hd)).2.2.2.2 hm rfl) ⟨VLe.refl _, rfl, VLe.refl _, rfl, trivial⟩) rfl ?_
     refine rwp_lazy [] rfl rfl rfl rfl gv1 trivial (fun g17_10 => det_move rfl rfl) rfl ?_
     refine rwp_lazy [(105, _), (106, _)] rfl rfl rfl rfl gv1 ⟨rfl, rfl, rfl, rfl, trivial⟩ (fun g17_10 => det_gtr rfl rfl rfl) rfl ?_
     refine rwp_det rfl rfl (det_or rfl rfl rfl rfl (fun h => (lzf h))) ?_
     refine rwp_nil ?_
     refine awp_cond rfl (fun c7 => ?_) (fun c7 => ?_)
     ·have h7 := longD_t c7
      refine awp_seq ?_
      refine awp_region rfl ?_
      refine rwp_det rfl rfl (det_assign rfl rfl) ?_
      refine rwp_nil ?_
      refine awp_ret ?_
      repeat (first | refine thenQ_ret ?_ | refine blockQ_ret ?_)
      refine fin1 (rs_c rfl) ?_
      rw [longT, List.any_eq_true.2 ⟨d, mem_of_get hd, h7⟩]; simp
     ·obtain ⟨h71, h72, h73⟩ := longD_f c7
      refine awp_skip ?_
      refine awp_seq ?_
      refine awp_region rfl ?_
      refine rwp_det rfl rfl (det_assign rfl rfl) ?_
      refine rwp_nil ?_
      refine awp_block ?_
      refine awp_weak ⟨[(9, .c _), (1, .c _), (2, .c _), (7, .c _), (8, .c _)], [_, _]⟩ (Weak.mk [true, true] ⟨VLe.of_eq rfl, VLe.of_eq rfl, VLe.of_eq rfl, VLe.of_eq rfl, VLe.of_eq rfl, trivial⟩ rfl) ?_
      refine awp_loop_k 1 0 rfl rfl (Nat) (fun j => [(9, vI j)]) (fun j => []) (fun j => j ≤ d.Dims.length + d.Red.length ∧ ((d.Dims ++ d.Red).take j).any (fun a => decide (20 < a.Size.L.length)) = false) (fun j => d.Dims.length + d.Red.length - j) ⟨0, ⟨by omega, rfl⟩, Weak.mk [true, true] ⟨VLe.refl _, VLe.refl _, VLe.refl _, VLe.refl _, VLe.refl _, trivial⟩ rfl⟩ ?_
      rintro j ⟨hj, hj2⟩
      refine awp_seq ?_
      refine awp_seq ?_
      refine awp_region rfl ?_
      refine rwp_det rfl rfl (det_move rfl rfl) ?_
      refine rwp_det rfl rfl (det_field_lit rfl fd35_2 rfl) ?_
      refine rwp_det rfl rfl (det_load_one rfl one24 rfl (ptr_row 0 rfl) rfl) ?_
      refine rwp_det rfl rfl (det_len_slm rfl el24 rfl) ?_
      refine rwp_det rfl rfl (det_field_lit rfl fd35_3 rfl) ?_
      refine rwp_det rfl rfl (det_load_one rfl one24 rfl (ptr_row 0 rfl) rfl) ?_
      refine rwp_det rfl rfl (det_len_slm rfl el24 rfl) ?_
      refine rwp_det rfl rfl (det_add_nw rfl rfl rfl ⟨by omega, by omega⟩) ?_
      refine rwp_det rfl rfl (det_lss rfl rfl rfl) ?_
      refine rwp_nil ?_
      refine awp_cond rfl (fun c8 => ?_) (fun c8 => ?_)
      ·try simp only [sx, List.length_map] at c8
       obtain ⟨a, ha⟩ := ex_get (d.Dims ++ d.Red) j (by rw [List.length_append]; omega)
       refine awp_skip ?_
       refine awp_seq ?_
       refine awp_block ?_
       refine awp_seq ?_
       refine awp_draw_c 11 2 [⟨1, .q []⟩, ⟨2, .q [2]⟩, ⟨4, .q []⟩, ⟨5, .q [2]⟩, ⟨7, .q []⟩, ⟨0, .e 1 []⟩, ⟨3, .e 1 []⟩, ⟨6, .e 1 []⟩, ⟨8, .q [1]⟩, ⟨9, .q [1]⟩, ⟨10, .f 0⟩] mixed (by kernel_rfl) (by kernel_rfl) rfl rfl rfl ?_
       refine fx_skip rfl ?_
       refine fx_skip rfl ?_
       refine fx_skip rfl ?_
       refine fx_skip rfl ?_
       refine fx_skip rfl ?_
       refine fx_skip rfl ?_
       refine fx_skip rfl ?_
       refine fx_skip rfl ?_
       refine fx_skip rfl ?_
       refine fx_skip rfl ?_
       refine fx_fresh rfl rfl (fresh_alloc' (ope_allocN [none, none, some 2] rfl zr88 rfl)) ?_
       refine fx_nil ?_
       refine sq_det rfl (by decide) rfl rfl (det_field_lit rfl fd35_2 rfl) ?_
       refine sq_det rfl (by decide) rfl rfl (det_load_one rfl one24 rfl (ptr_row 0 rfl) rfl) ?_
       refine sq_det rfl (by decide) rfl rfl (det_field_lit rfl fd35_3 rfl) ?_
       refine sq_det rfl (by decide) rfl rfl (det_load_one rfl one24 rfl (ptr_row 0 rfl) rfl) ?_
       refine sq_det rfl (by decide) rfl rfl (det_move rfl rfl) ?_
       refine sq_op rfl rfl (by decide) rfl rfl (ope_bslice rfl el24 zr88 rfl rfl rfl rfl) ?_
       rintro _ _ ⟨sv3, rfl, rfl⟩
       refine ⟨_, rfl, ?_⟩
       refine sq_op rfl rfl (by decide) rfl rfl (ope_append 0 rfl el24 rfl rfl rfl (by simp only [List.length_map, List.length_nil, List.length_append]; omega) (by simp only [List.length_map, List.length_nil, List.length_append]; omega)) ?_
       rintro _ _ ⟨sv4, rfl, rfl⟩
       refine ⟨_, rfl, ?_⟩
       refine sq_op rfl rfl (by decide) rfl rfl (ope_append 0 rfl el24 rfl rfl rfl (by simp only [List.length_map, List.length_nil, List.length_append]; omega) (by simp only [List.length_map, List.length_nil, List.length_append]; omega)) ?_
       rintro _ _ ⟨sv5, rfl, rfl⟩
       refine ⟨_, rfl, ?_⟩
       refine sq_det rfl (by decide) rfl rfl (det_index_vec 0 rfl el24 rfl rfl rfl (by omega) (by simp only [List.length_map, List.length_nil, List.length_append]; omega)) ?_
       refine sq_det rfl (by decide) rfl rfl (det_load_agg rfl agg88 rfl (ptr_vec 0 rfl (ax_get ha)) rfl) ?_
       refine sq_fresh rfl rfl ?_
       rintro _ _ ⟨b6, rfl, rfl⟩
       refine sq_nil rfl ?_
       refine rwp_det0 rfl rfl (det_store rfl sz88 rfl rfl rfl (st_row 0 rfl rfl)) ?_
       refine rwp_nil ?_
       refine awp_seq ?_
       refine awp_region rfl ?_
       refine rwp_det rfl rfl (det_field_lit rfl fd88_1 rfl) ?_
       refine rwp_det rfl rfl (det_field_lit rfl fd29_1 rfl) ?_
       refine rwp_det rfl rfl (det_load_one rfl one27 rfl (ptr_row 0 rfl) rfl) ?_
       refine rwp_det rfl rfl (det_len_slm rfl el27 rfl) ?_
       refine rwp_det rfl rfl (det_gtr rfl rfl rfl) ?_
       refine rwp_nil ?_
       refine awp_cond rfl (fun c9 => ?_) (fun c9 => ?_)
       ·try simp only [sx, List.length_map] at c9
        refine awp_seq ?_
        refine awp_region rfl ?_
        refine rwp_det rfl rfl (det_assign rfl rfl) ?_
        refine rwp_nil ?_
        refine awp_ret ?_
        repeat (first | refine thenQ_ret ?_ | refine blockQ_ret ?_)
        refine fin1 (rs_c rfl) ?_
        rw [longT, List.any_eq_true.2 ⟨d, mem_of_get hd, longD_ax (mem_of_get ha) (by omega)⟩]; simp
       ·try simp only [sx, List.length_map] at c9
        refine awp_skip ?_
        refine awp_region rfl ?_
        refine rwp_det rfl rfl (det_move rfl rfl) ?_
        refine rwp_det rfl rfl (det_add_nw rfl rfl rfl ⟨by omega, by omega⟩) ?_
        refine rwp_det rfl rfl (det_assign rfl rfl) ?_
        refine rwp_nil ?_
        refine ⟨j + 1, ⟨by omega, any_next ha hj2 (decide_eq_false (by omega))⟩, (by omega), Weak.mk [false, false, true, true] ⟨VLe.refl _, VLe.refl _, VLe.refl _, VLe.refl _, VLe.refl _, trivial⟩ rfl⟩
      ·try simp only [sx, List.length_map] at c8
       have h8 : longD most d = false := longD_no h71 h72 h73 (by rw [take_all (by rw [List.length_append]; omega)] at hj2; exact hj2)
       refine awp_exit ?_
       refine awp_region rfl ?_
       refine rwp_det rfl rfl (det_move rfl rfl) ?_
       refine rwp_det rfl rfl (det_add_nw rfl rfl rfl ⟨by omega, by omega⟩) ?_
       refine rwp_det rfl rfl (det_assign rfl rfl) ?_
       refine rwp_nil ?_
       refine ⟨k + 1, ⟨by omega, any_next hd hr h8⟩, (by omega), Weak.mk [false, true] ⟨VLe.refl _, VLe.refl _, VLe.refl _, trivial⟩ rfl⟩
    ·try simp only [sx, List.length_map] at c6
     rw [take_all (l := p.Defs) (k := k) (by omega)] at hr
     refine awp_exit ?_
     refine awp_seq ?_
     refine awp_region rfl ?_
     refine rwp_det rfl rfl (det_assign rfl rfl) ?_
     refine rwp_nil ?_
     refine awp_ret ?_
     repeat (first | refine thenQ_ret ?_ | refine blockQ_ret ?_)
     refine fin1 (rs_c rfl) ?_
     rw [longT, h0, hp, hq, hr]; rfl

end Go.W
