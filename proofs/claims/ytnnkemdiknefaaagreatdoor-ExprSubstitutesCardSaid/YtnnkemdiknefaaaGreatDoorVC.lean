/-
  Walks: what functions of the program compute. Printed by wip/gen/mk2.py.
  Conditions: none.
-/
import Derived.Test.YtnnkemdiknefaaaGreatDoorVB
import Derived.Test.YtnnkemdiknefaaaGreatDoorPlain2
set_option linter.unusedSimpArgs false
set_option linter.unusedVariables false
namespace Go.W
open Go Go.Eng Go.Proofs Go.L41 Go.Br
attribute [local irreducible] AWP RWP TD
theorem ok22 : callOk Tryz.prog 22 = true := by kernel_rfl
theorem ok23 : callOk Tryz.prog 23 = true := by kernel_rfl
theorem law_ExprSubstitutes (e : Ex) (s : ByteArray) (u : Lf) (hfe : e.fit) (hP : e.allF Lf.rng) (hul : u.L.length ≤ 140737488355328) (hru : u.rng) :
    Pur cfg 5 [vE e, vS s, vLin u] (vB true) := by
 refine con_intro Tryz.func5 rfl Tryz.ntmps5 Tryz.results5 rfl ?_
 intro z hz
 refine awp_seq ?_
 refine awp_region rfl ?_
 refine rwp_op rfl rfl (ope_box rfl rfl) ?_
 rintro _ _ ⟨b1, rfl, rfl⟩
 refine rwp_op rfl rfl (ope_box rfl rfl) ?_
 rintro _ _ ⟨b2, rfl, rfl⟩
 refine rwp_det rfl rfl (det_assign rfl rfl) ?_
 refine rwp_nil ?_
 refine awp_seq ?_
 refine awp_seq ?_
 refine awp_region rfl ?_
 refine rwp_det rfl rfl (det_load_agg rfl agg33 rfl (ptr_row 1 rfl) rfl) ?_
 refine rwp_det rfl rfl (det_call rfl ok22 (law14_Few e 300 300 hfe (by omega) rfl) ⟨VLe.refl _, rfl, VLe.refl _, rfl, trivial⟩) ?_
 refine rwp_det rfl rfl (det_not rfl rfl) ?_
 refine rwp_det rfl rfl (det_move rfl rfl) ?_
 refine rwp_lazy [] rfl rfl rfl rfl gv1 trivial (fun g1_3 => det_move rfl rfl) rfl ?_
 refine rwp_lazy [(15, _)] rfl rfl rfl rfl gv1 ⟨rfl, rfl, trivial⟩ (fun g1_3 => det_len_str rfl un9 rfl) rfl ?_
 refine rwp_lazy [(16, _)] rfl rfl rfl rfl gv1 ⟨rfl, rfl, trivial⟩ (fun g1_3 => det_gtr rfl rfl rfl) rfl ?_
 refine rwp_det rfl rfl (det_or rfl rfl rfl rfl (fun h => (lzf h))) ?_
 refine rwp_det rfl rfl (det_move rfl rfl) ?_
 refine rwp_lazy [] rfl rfl rfl rfl gv1 trivial (fun g1_8 => det_field_lit rfl fd29_1 rfl) rfl ?_
 refine rwp_lazy [(20, _)] rfl rfl rfl rfl gv1 ⟨rfl, rfl, trivial⟩ (fun g1_8 => det_load_one rfl one27 rfl (ptr_row 0 rfl) rfl) rfl ?_
 refine rwp_lazy [(21, _)] rfl rfl rfl rfl gv1 ⟨rfl, rfl, trivial⟩ (fun g1_8 => det_len_slm rfl el27 rfl) rfl ?_
 refine rwp_lazy [(22, _)] rfl rfl rfl rfl gv1 ⟨rfl, rfl, trivial⟩ (fun g1_8 => det_gtr rfl rfl rfl) rfl ?_
 refine rwp_det rfl rfl (det_or rfl rfl rfl rfl (fun h => (lzf h))) ?_
 refine rwp_nil ?_
 refine awp_cond rfl (fun c1 => ?_) (fun c1 => ?_)
 ·try simp only [sx, List.length_map] at c1
  refine awp_seq ?_
  refine awp_region rfl ?_
  refine rwp_det rfl rfl (det_call rfl ok23 law14_live trivial) ?_
  refine rwp_det rfl rfl (det_assign rfl rfl) ?_
  refine rwp_nil ?_
  refine awp_ret ?_
  repeat (first | refine thenQ_ret ?_ | refine blockQ_ret ?_)
  refine fin1 (rs_c rfl) ?_
  rfl
 ·try simp only [sx, List.length_map] at c1
  obtain ⟨⟨w1, w2⟩, w3⟩ := c1
  have w1 := few_wt w1
  have hw := out_wt (f := (fun l => substR l s u)) (c := 40) (fun l => by have := substR_len l u s; show (substR l s u).1.L.length ≤ _; omega) e
  refine awp_skip ?_
  refine awp_seq ?_
  refine awp_region rfl ?_
  refine rwp_det rfl rfl (det_load_agg rfl agg33 rfl (ptr_row 1 rfl) rfl) ?_
  refine rwp_det rfl rfl (det_move rfl rfl) ?_
  refine rwp_det rfl rfl (det_load_agg rfl agg29 rfl (ptr_row 0 rfl) rfl) ?_
  refine rwp_det rfl rfl (det_call rfl ok24 (expr_SubstR e s u (by omega) hP (by omega) hru) ⟨VLe.refl _, rfl, VLe.refl _, rfl, VLe.refl _, rfl, trivial⟩) ?_
  refine rwp_det rfl rfl (det_move_tup rfl rfl) ?_
  refine rwp_det rfl rfl (det_ex_agg rfl rfl rfl) ?_
  refine rwp_det rfl rfl (det_ex_c rfl rfl rfl) ?_
  refine rwp_op rfl rfl (ope_allocN [none, none, none, none, none, none, none, none, none, none, some 2, some 4, some 13] rfl zr33 rfl) ?_
  rintro _ _ ⟨b3, rfl, rfl⟩
  refine rwp_det0 rfl rfl (det_store rfl sz33 rfl rfl rfl (st_row 0 rfl rfl)) ?_
  refine rwp_det rfl rfl (det_assign rfl rfl) ?_
  refine rwp_nil ?_
  refine awp_seq ?_
  refine awp_region rfl ?_
  refine rwp_det rfl rfl (det_load_agg rfl agg33 rfl (ptr_row 2 rfl) rfl) ?_
  refine rwp_det rfl rfl (det_move rfl rfl) ?_
  refine rwp_det rfl rfl (det_load_agg rfl agg29 rfl (ptr_row 1 rfl) rfl) ?_
  refine rwp_det rfl rfl (det_call rfl ok25 (ref14_Substitute e s u (by omega) hru hP (by omega)) ⟨VLe.refl _, rfl, VLe.refl _, rfl, VLe.refl _, rfl, trivial⟩) ?_
  refine rwp_det rfl rfl (det_move_tup rfl rfl) ?_
  refine rwp_det rfl rfl (det_ex_agg rfl rfl rfl) ?_
  refine rwp_det rfl rfl (det_ex_c rfl rfl rfl) ?_
  refine rwp_op rfl rfl (ope_allocN [none, none, none, none, none, none, none, none, none, none, some 2, some 4, some 13] rfl zr33 rfl) ?_
  rintro _ _ ⟨b4, rfl, rfl⟩
  refine rwp_det0 rfl rfl (det_store rfl sz33 rfl rfl rfl (st_row 0 rfl rfl)) ?_
  refine rwp_det rfl rfl (det_assign rfl rfl) ?_
  refine rwp_nil ?_
  refine awp_seq ?_
  refine awp_region rfl ?_
  refine rwp_det rfl rfl (det_load_agg rfl agg33 rfl (ptr_row 1 rfl) rfl) ?_
  refine rwp_det rfl rfl (det_load_agg rfl agg33 rfl (ptr_row 0 rfl) rfl) ?_
  refine rwp_det rfl rfl (det_call rfl ok26 (base_Expr _ _ (by omega)) ⟨VLe.refl _, rfl, VLe.refl _, rfl, trivial⟩) ?_
  refine rwp_det rfl rfl (det_move rfl rfl) ?_
  refine rwp_lazy [] rfl rfl rfl rfl gv1 trivial (fun g5_3 => det_move rfl rfl) rfl ?_
  refine rwp_lazy [] rfl rfl rfl rfl gv1 trivial (fun g5_3 => det_move rfl rfl) rfl ?_
  refine rwp_lazy [(44, _), (45, _)] rfl rfl rfl rfl gv1 ⟨rfl, rfl, rfl, rfl, trivial⟩ (fun g5_3 => det_eql rfl rfl rfl) rfl ?_
  refine rwp_det rfl rfl (det_and rfl rfl rfl (fun h => h) rfl) ?_
  refine rwp_det rfl rfl (det_move rfl rfl) ?_
  refine rwp_lazy [] rfl rfl rfl rfl gv1 trivial (fun g5_8 => det_call rfl ok23 law14_live trivial) rfl ?_
  refine rwp_det rfl rfl (det_and rfl rfl rfl (fun h => h) rfl) ?_
  refine rwp_det rfl rfl (det_assign rfl rfl) ?_
  refine rwp_nil ?_
  refine awp_ret ?_
  repeat (first | refine thenQ_ret ?_ | refine blockQ_ret ?_)
  refine fin1 (rs_c rfl) ?_
  simp

end Go.W
