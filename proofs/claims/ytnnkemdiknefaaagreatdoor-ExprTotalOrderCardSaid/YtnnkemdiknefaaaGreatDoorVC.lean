/-
  Walks: what functions of the program compute. Printed by wip/gen/mk2.py.
  Conditions: none.
-/
import Derived.Test.YtnnkemdiknefaaaGreatDoorVB
import Derived.Test.YtnnkemdiknefaaaGreatDoorPlain2
set_option linter.unusedSimpArgs false
set_option linter.unusedVariables false
namespace Go.W
open Go Go.Eng Go.Proofs Go.L41 Go.Br
attribute [local irreducible] AWP RWP TD
theorem ok22 : callOk Tryz.prog 22 = true := by kernel_rfl
theorem ok23 : callOk Tryz.prog 23 = true := by kernel_rfl
theorem ok34 : callOk Tryz.prog 34 = true := by kernel_rfl
theorem law_ExprTotalOrder (a b c : Ex) (hfa : a.fit) (hfb : b.fit) (hfc : c.fit) :
    Pur cfg 8 [vE a, vE b, vE c] (vB true) := by
 refine con_intro Tryz.func8 rfl Tryz.ntmps8 Tryz.results8 rfl ?_
 intro z hz
 refine awp_seq ?_
 refine awp_region rfl ?_
 refine rwp_op rfl rfl (ope_box rfl rfl) ?_
 rintro _ _ ⟨b1, rfl, rfl⟩
 refine rwp_op rfl rfl (ope_box rfl rfl) ?_
 rintro _ _ ⟨b2, rfl, rfl⟩
 refine rwp_op rfl rfl (ope_box rfl rfl) ?_
 rintro _ _ ⟨b3, rfl, rfl⟩
 refine rwp_det rfl rfl (det_assign rfl rfl) ?_
 refine rwp_nil ?_
 refine awp_seq ?_
 refine awp_seq ?_
 refine awp_region rfl ?_
 refine rwp_det rfl rfl (det_load_agg rfl agg33 rfl (ptr_row 2 rfl) rfl) ?_
 refine rwp_det rfl rfl (det_call rfl ok22 (law14_Few a 100 100 hfa (by omega) rfl) ⟨VLe.refl _, rfl, VLe.refl _, rfl, trivial⟩) ?_
 refine rwp_det rfl rfl (det_not rfl rfl) ?_
 refine rwp_det rfl rfl (det_move rfl rfl) ?_
 refine rwp_lazy [] rfl rfl rfl rfl gv1 trivial (fun g1_3 => det_load_agg rfl agg33 rfl (ptr_row 1 rfl) rfl) rfl ?_
 refine rwp_lazy [(14, _)] rfl rfl rfl rfl gv1 ⟨rfl, rfl, trivial⟩ (fun g1_3 => det_call rfl ok22 (law14_Few b 100 100 hfb (by omega) rfl) ⟨VLe.refl _, rfl, VLe.refl _, rfl, trivial⟩) rfl ?_
 refine rwp_lazy [(15, _)] rfl rfl rfl rfl gv1 ⟨rfl, rfl, trivial⟩ (fun g1_3 => det_not rfl rfl) rfl ?_
 refine rwp_det rfl rfl (det_or rfl rfl rfl rfl (fun h => (lzf h))) ?_
 refine rwp_det rfl rfl (det_move rfl rfl) ?_
 refine rwp_lazy [] rfl rfl rfl rfl gv1 trivial (fun g1_8 => det_load_agg rfl agg33 rfl (ptr_row 0 rfl) rfl) rfl ?_
 refine rwp_lazy [(19, _)] rfl rfl rfl rfl gv1 ⟨rfl, rfl, trivial⟩ (fun g1_8 => det_call rfl ok22 (law14_Few c 100 100 hfc (by omega) rfl) ⟨VLe.refl _, rfl, VLe.refl _, rfl, trivial⟩) rfl ?_
 refine rwp_lazy [(20, _)] rfl rfl rfl rfl gv1 ⟨rfl, rfl, trivial⟩ (fun g1_8 => det_not rfl rfl) rfl ?_
 refine rwp_det rfl rfl (det_or rfl rfl rfl rfl (fun h => (lzf h))) ?_
 refine rwp_nil ?_
 refine awp_cond rfl (fun c1 => ?_) (fun c1 => ?_)
 ·try simp only [sx, List.length_map] at c1
  refine awp_seq ?_
  refine awp_region rfl ?_
  refine rwp_det rfl rfl (det_call rfl ok23 law14_live trivial) ?_
  refine rwp_det rfl rfl (det_assign rfl rfl) ?_
  refine rwp_nil ?_
  refine awp_ret ?_
  repeat (first | refine thenQ_ret ?_ | refine blockQ_ret ?_)
  refine fin1 (rs_c rfl) ?_
  rfl
 ·try simp only [sx, List.length_map] at c1
  obtain ⟨⟨w1, w2⟩, w3⟩ := c1
  have w1 := few_wt w1
  have w2 := few_wt w2
  have w3 := few_wt w3
  obtain ⟨k1, k2, k3, k4, k5⟩ := ord_one a b
  refine awp_skip ?_
  refine awp_seq ?_
  refine awp_draw 12 mixed (by kernel_rfl) rfl rfl ?_
  refine td_det rfl rfl (det_load_agg rfl agg33 rfl (ptr_row 2 rfl) rfl) ?_
  refine td_det rfl rfl (det_load_agg rfl agg33 rfl (ptr_row 1 rfl) rfl) ?_
  refine td_det rfl rfl (det_call rfl ok33 (expr_Compare a b (by omega) (by omega)) ⟨VLe.refl _, rfl, VLe.refl _, rfl, trivial⟩) ?_
  refine td_det rfl rfl (det_load_agg rfl agg33 rfl (ptr_row 1 rfl) rfl) ?_
  refine td_det rfl rfl (det_load_agg rfl agg33 rfl (ptr_row 0 rfl) rfl) ?_
  refine td_det rfl rfl (det_call rfl ok33 (expr_Compare b c (by omega) (by omega)) ⟨VLe.refl _, rfl, VLe.refl _, rfl, trivial⟩) ?_
  refine td_det rfl rfl (det_load_agg rfl agg33 rfl (ptr_row 2 rfl) rfl) ?_
  refine td_det rfl rfl (det_load_agg rfl agg33 rfl (ptr_row 0 rfl) rfl) ?_
  refine td_det rfl rfl (det_call rfl ok33 (expr_Compare a c (by omega) (by omega)) ⟨VLe.refl _, rfl, VLe.refl _, rfl, trivial⟩) ?_
  refine td_det rfl rfl (det_assign rfl rfl) ?_
  refine td_det rfl rfl (det_assign rfl rfl) ?_
  refine td_det rfl rfl (det_assign rfl rfl) ?_
  refine td_nil ?_
  refine rwp_nil ?_
  refine awp_seq ?_
  refine awp_seq ?_
  refine awp_region rfl ?_
  refine rwp_det rfl rfl (det_move rfl rfl) ?_
  refine rwp_det rfl rfl (det_lss rfl rfl rfl) ?_
  refine rwp_det rfl rfl (det_move rfl rfl) ?_
  refine rwp_lazy [] rfl rfl rfl rfl gv1 trivial (fun g4_2 => det_move rfl rfl) rfl ?_
  refine rwp_lazy [(36, _)] rfl rfl rfl rfl gv1 ⟨rfl, rfl, trivial⟩ (fun g4_2 => det_gtr rfl rfl rfl) rfl ?_
  refine rwp_det rfl rfl (det_or rfl rfl rfl rfl (fun h => (lzf h))) ?_
  refine rwp_det rfl rfl (det_move rfl rfl) ?_
  refine rwp_lazy [] rfl rfl rfl rfl gv1 trivial (fun g4_6 => det_move rfl rfl) rfl ?_
  refine rwp_lazy [] rfl rfl rfl rfl gv1 trivial (fun g4_6 => det_load_agg rfl agg33 rfl (ptr_row 1 rfl) rfl) rfl ?_
  refine rwp_lazy [] rfl rfl rfl rfl gv1 trivial (fun g4_6 => det_load_agg rfl agg33 rfl (ptr_row 2 rfl) rfl) rfl ?_
  refine rwp_lazy [(41, _), (42, _)] rfl rfl rfl rfl gv1 ⟨rfl, rfl, rfl, rfl, trivial⟩ (fun g4_6 => det_call rfl ok33 (expr_Compare b a (by omega) (by omega)) ⟨VLe.refl _, rfl, VLe.refl _, rfl, trivial⟩) rfl ?_
  refine rwp_lazy [(43, _)] rfl rfl rfl rfl gv1 ⟨rfl, rfl, trivial⟩ (fun g4_6 => det_neg rfl rfl) rfl ?_
  refine rwp_lazy [(40, _), (44, _)] rfl rfl rfl rfl gv1 ⟨rfl, rfl, rfl, rfl, trivial⟩ (fun g4_6 => det_neq rfl rfl rfl) rfl ?_
  refine rwp_det rfl rfl (det_or rfl rfl rfl rfl (fun h => (lzf h))) ?_
  refine rwp_det rfl rfl (det_move rfl rfl) ?_
  refine rwp_lazy [] rfl rfl rfl rfl gv1 trivial (fun g4_14 => det_move rfl rfl) rfl ?_
  refine rwp_lazy [(48, _)] rfl rfl rfl rfl gv1 ⟨rfl, rfl, trivial⟩ (fun g4_14 => det_eql rfl rfl rfl) rfl ?_
  refine rwp_lazy [] rfl rfl rfl rfl gv1 trivial (fun g4_14 => det_load_agg rfl agg33 rfl (ptr_row 2 rfl) rfl) rfl ?_
  refine rwp_lazy [] rfl rfl rfl rfl gv1 trivial (fun g4_14 => det_load_agg rfl agg33 rfl (ptr_row 1 rfl) rfl) rfl ?_
  refine rwp_lazy [(50, _), (51, _)] rfl rfl rfl rfl gv1 ⟨rfl, rfl, rfl, rfl, trivial⟩ (fun g4_14 => det_call rfl ok34 (expr_Same a b (by omega) (by omega)) ⟨VLe.refl _, rfl, VLe.refl _, rfl, trivial⟩) rfl ?_
  refine rwp_lazy [(49, _), (52, _)] rfl rfl rfl rfl gv1 ⟨rfl, rfl, rfl, rfl, trivial⟩ (fun g4_14 => det_bneq rfl un4 rfl rfl) rfl ?_
  refine rwp_det rfl rfl (det_or rfl rfl rfl rfl (fun h => (lzf h))) ?_
  refine rwp_det rfl rfl (det_move rfl rfl) ?_
  refine rwp_lazy [] rfl rfl rfl rfl gv1 trivial (fun g4_22 => det_load_agg rfl agg33 rfl (ptr_row 2 rfl) rfl) rfl ?_
  refine rwp_lazy [] rfl rfl rfl rfl gv1 trivial (fun g4_22 => det_load_agg rfl agg33 rfl (ptr_row 2 rfl) rfl) rfl ?_
  refine rwp_lazy [(56, _), (57, _)] rfl rfl rfl rfl gv1 ⟨rfl, rfl, rfl, rfl, trivial⟩ (fun g4_22 => det_call rfl ok33 (expr_Compare a a (by omega) (by omega)) ⟨VLe.refl _, rfl, VLe.refl _, rfl, trivial⟩) rfl ?_
  refine rwp_lazy [(58, _)] rfl rfl rfl rfl gv1 ⟨rfl, rfl, trivial⟩ (fun g4_22 => det_neq rfl rfl rfl) rfl ?_
  refine rwp_det rfl rfl (det_or rfl rfl rfl rfl (fun h => (lzf h))) ?_
  refine rwp_nil ?_
  refine awp_cond rfl (fun c2 => ?_) (fun c2 => ?_)
  ·try simp only [sx, List.length_map] at c2
   refine awp_seq ?_
   refine awp_region rfl ?_
   refine rwp_det rfl rfl (det_assign rfl rfl) ?_
   refine rwp_nil ?_
   refine awp_ret ?_
   repeat (first | refine thenQ_ret ?_ | refine blockQ_ret ?_)
   refine fin1 (rs_c rfl) ?_
   exact (ord_c2 c2).elim
  ·try simp only [sx, List.length_map] at c2
   refine awp_skip ?_
   refine awp_seq ?_
   refine awp_region rfl ?_
   refine rwp_det rfl rfl (det_move rfl rfl) ?_
   refine rwp_det rfl rfl (det_gtr rfl rfl rfl) ?_
   refine rwp_det rfl rfl (det_move rfl rfl) ?_
   refine rwp_lazy [] rfl rfl rfl rfl gv1 trivial (fun g6_2 => det_move rfl rfl) rfl ?_
   refine rwp_lazy [(64, _)] rfl rfl rfl rfl gv1 ⟨rfl, rfl, trivial⟩ (fun g6_2 => det_gtr rfl rfl rfl) rfl ?_
   refine rwp_det rfl rfl (det_or rfl rfl rfl rfl (fun h => (lzf h))) ?_
   refine rwp_det rfl rfl (det_move rfl rfl) ?_
   refine rwp_lazy [] rfl rfl rfl rfl gv1 trivial (fun g6_6 => det_move rfl rfl) rfl ?_
   refine rwp_lazy [(68, _)] rfl rfl rfl rfl gv1 ⟨rfl, rfl, trivial⟩ (fun g6_6 => det_leq rfl rfl rfl) rfl ?_
   refine rwp_lazy [(69, _)] rfl rfl rfl rfl gv1 ⟨rfl, rfl, trivial⟩ (fun g6_6 => det_move rfl rfl) rfl ?_
   refine rwp_lazy [] rfl rfl rfl rfl gv2 trivial (fun g6_9 => det_move rfl rfl) rfl ?_
   refine rwp_lazy [(71, _)] rfl rfl rfl rfl gv2 ⟨rfl, rfl, trivial⟩ (fun g6_9 => det_eql rfl rfl rfl) rfl ?_
   refine rwp_lazy [] rfl rfl rfl rfl gv2 trivial (fun g6_9 => det_move rfl rfl) rfl ?_
   refine rwp_lazy [(73, _)] rfl rfl rfl rfl gv2 ⟨rfl, rfl, trivial⟩ (fun g6_9 => det_eql rfl rfl rfl) rfl ?_
   refine rwp_lazy [(74, _)] rfl rfl rfl rfl gv2 ⟨rfl, rfl, trivial⟩ (fun g6_9 => det_move rfl rfl) rfl ?_
   refine rwp_lazy [] rfl rfl rfl rfl gv2 trivial (fun g6_14 => det_move rfl rfl) rfl ?_
   refine rwp_lazy [(76, _)] rfl rfl rfl rfl gv2 ⟨rfl, rfl, trivial⟩ (fun g6_14 => det_eql rfl rfl rfl) rfl ?_
   refine rwp_lazy [(75, _)] rfl rfl rfl rfl gv2 ⟨rfl, rfl, trivial⟩ (fun g6_9 => det_and rfl rfl rfl (fun h => and_mk (by assumption) h) rfl) rfl ?_
   refine rwp_lazy [(72, _), (78, _)] rfl rfl rfl rfl gv2 ⟨rfl, rfl, rfl, rfl, trivial⟩ (fun g6_9 => det_beql rfl un4 rfl rfl) rfl ?_
   refine rwp_lazy [(70, _)] rfl rfl rfl rfl gv1 ⟨rfl, rfl, trivial⟩ (fun g6_6 => det_and rfl rfl rfl (fun h => and_mk (by assumption) h) rfl) rfl ?_
   refine rwp_det rfl rfl (det_or rfl rfl rfl rfl (fun h => (lzf h))) ?_
   refine rwp_det rfl rfl (det_move rfl rfl) ?_
   refine rwp_lazy [] rfl rfl rfl rfl gv1 trivial (fun g6_21 => det_call rfl ok23 law14_live trivial) rfl ?_
   refine rwp_det rfl rfl (det_and rfl rfl rfl (fun h => h) rfl) ?_
   refine rwp_det rfl rfl (det_assign rfl rfl) ?_
   refine rwp_nil ?_
   refine awp_ret ?_
   repeat (first | refine thenQ_ret ?_ | refine blockQ_ret ?_)
   refine fin1 (rs_c rfl) ?_
   exact congrArg vB (ord_fin a b c)

end Go.W
