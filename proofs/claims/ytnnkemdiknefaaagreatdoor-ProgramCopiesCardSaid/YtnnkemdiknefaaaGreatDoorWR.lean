/-
  Walks: what functions of the program compute. Printed by wip/gen/mk2.py.
  Conditions: none.
-/
import Derived.Test.YtnnkemdiknefaaaGreatDoorWQ
import Derived.Test.YtnnkemdiknefaaaGreatDoorPlain
set_option linter.unusedSimpArgs false
set_option linter.unusedVariables false
namespace Go.W
open Go Go.Eng Go.Proofs Go.L41 Go.Br
attribute [local irreducible] AWP RWP TD
theorem ok69 : callOk Tryz.prog 69 = true := by kernel_rfl
theorem ok110 : callOk Tryz.prog 110 = true := by kernel_rfl
theorem ok111 : callOk Tryz.prog 111 = true := by kernel_rfl
theorem pl35 : placesT Tryz.prog 35 = some [(0, 1), (1, 5), (6, 1), (7, 1), (8, 1), (9, 13)] := by kernel_rfl
theorem pl88 : placesT Tryz.prog 88 = some [(0, 1), (1, 2)] := by kernel_rfl
theorem pl106 : placesT Tryz.prog 106 = some [(0, 1), (1, 5), (6, 1)] := by kernel_rfl
theorem pl117 : placesT Tryz.prog 117 = some [(0, 2), (2, 1), (3, 1)] := by kernel_rfl
theorem law17_variable (s : ByteArray) :
    Pur cfg 110 [vS s] (vLin ⟨0, [⟨s, 1⟩]⟩) := by
 refine con_intro Tryz.func110 rfl Tryz.ntmps110 Tryz.results110 rfl ?_
 intro z hz
 refine awp_seq ?_
 refine awp_region rfl ?_
 refine rwp_op rfl rfl (ope_allocN [none, some 2] rfl zr29 rfl) ?_
 rintro _ _ ⟨b1, rfl, rfl⟩
 refine rwp_nil ?_
 refine awp_seq ?_
 refine awp_region rfl ?_
 refine rwp_det rfl rfl (det_move rfl rfl) ?_
 refine rwp_det rfl rfl (det_build rfl zr75 pl75 rfl) ?_
 refine rwp_det rfl rfl (det_bslice rfl el27 zr75 rfl rfl rfl rfl) ?_
 refine rwp_det rfl rfl (det_build rfl zr29 pl29 rfl) ?_
 refine rwp_det0 rfl rfl (det_store rfl sz29 rfl rfl rfl (st_row 0 rfl rfl)) ?_
 refine rwp_nil ?_
 refine awp_ret ?_
 repeat (first | refine thenQ_ret ?_ | refine blockQ_ret ?_)
 refine fin1 (rs_cell_agg agg29 rfl (ptr_row 0 rfl) rfl) ?_
 exact rfl

theorem law17_example (l : List Ix) :
    Pur cfg 111 [vIndices l] (vPg (exP l)) := by
 refine con_intro Tryz.func111 rfl Tryz.ntmps111 Tryz.results111 rfl ?_
 intro z hz
 refine awp_seq ?_
 refine awp_region rfl ?_
 refine rwp_op rfl rfl (ope_allocN [some 1, some 3, some 7, some 22, some 1] rfl zr47 rfl) ?_
 rintro _ _ ⟨b1, rfl, rfl⟩
 refine rwp_nil ?_
 refine awp_seq ?_
 refine awp_region rfl ?_
 refine rwp_det rfl rfl (det_build rfl zr23 pl23 rfl) ?_
 refine rwp_op rfl rfl (ope_alloc rfl zr23) ?_
 rintro _ _ ⟨b2, rfl, rfl⟩
 refine rwp_det0 rfl rfl (det_store rfl sz23 rfl rfl rfl (st_row 0 rfl rfl)) ?_
 refine rwp_nil ?_
 refine awp_seq ?_
 refine awp_region rfl ?_
 refine rwp_det rfl rfl (det_move rfl rfl) ?_
 refine rwp_det rfl rfl (det_buildN [none, none, none, none, none, none, none, none, none, none, some 2, none, some 13] rfl zr33 pl33 rfl rfl) ?_
 refine rwp_op rfl rfl (ope_allocN [none, none, none, none, none, none, none, none, none, none, some 2, some 4, some 13] rfl zr33 rfl) ?_
 rintro _ _ ⟨b3, rfl, rfl⟩
 refine rwp_det0 rfl rfl (det_store rfl sz33 rfl rfl rfl (st_row 0 rfl rfl)) ?_
 refine rwp_nil ?_
 refine awp_seq ?_
 refine awp_draw_c 7 1 [⟨0, .q [2]⟩, ⟨1, .q []⟩, ⟨2, .q []⟩, ⟨3, .q []⟩, ⟨4, .q [1]⟩, ⟨5, .q []⟩, ⟨6, .f 0⟩] mixed (by kernel_rfl) (by kernel_rfl) rfl rfl rfl ?_
 refine fx_skip rfl ?_
 refine fx_skip rfl ?_
 refine fx_skip rfl ?_
 refine fx_skip rfl ?_
 refine fx_skip rfl ?_
 refine fx_skip rfl ?_
 refine fx_fresh rfl rfl (fresh_alloc' (ope_allocN [none, none, none, none, none, none, some 3, some 3, none, none, none, none, none, none, none, none, none, none, none, some 2, some 4, some 13] rfl zr35 rfl)) ?_
 refine fx_nil ?_
 refine sq_det rfl (by decide) rfl rfl (det_load_agg rfl agg23 rfl (ptr_row 0 rfl) rfl) ?_
 refine sq_det rfl (by decide) rfl rfl (det_call rfl ok110 (law17_variable (bs [110])) ⟨VLe.refl _, rfl, trivial⟩) ?_
 refine sq_det rfl (by decide) rfl rfl (det_build rfl zr88 pl88 rfl) ?_
 refine sq_det rfl (by decide) rfl rfl (det_bslice rfl el24 zr88 rfl rfl rfl rfl) ?_
 refine sq_det rfl (by decide) rfl rfl (det_load_agg rfl agg33 rfl (ptr_row 0 rfl) rfl) ?_
 refine sq_det rfl (by decide) rfl rfl (det_buildN [none, none, none, none, none, none, some 3, none, none, none, none, none, none, none, none, none, none, none, none, none, none, none] rfl zr35 pl35 rfl rfl) ?_
 refine sq_fresh rfl rfl ?_
 rintro _ _ ⟨b4, rfl, rfl⟩
 refine sq_nil rfl ?_
 refine rwp_det0 rfl rfl (det_store rfl sz35 rfl rfl rfl (st_row 0 rfl rfl)) ?_
 refine rwp_nil ?_
 refine awp_seq ?_
 refine awp_draw 10 mixed (by kernel_rfl) rfl rfl ?_
 refine td_det rfl rfl (det_bslice rfl el42 zr9 rfl rfl rfl rfl) ?_
 refine td_det rfl rfl (det_load_agg rfl agg23 rfl (ptr_row 2 rfl) rfl) ?_
 refine td_det rfl rfl (det_call rfl ok110 (law17_variable (bs [110])) ⟨VLe.refl _, rfl, trivial⟩) ?_
 refine td_det rfl rfl (det_bslice rfl el104 zr29 rfl rfl rfl rfl) ?_
 refine td_det rfl rfl (det_build rfl zr106 pl106 rfl) ?_
 refine td_det rfl rfl (det_bslice rfl el44 zr106 rfl rfl rfl rfl) ?_
 refine td_det rfl rfl (det_load_agg rfl agg35 rfl (ptr_row 0 rfl) rfl) ?_
 refine td_det rfl rfl (det_bslice rfl el45 zr35 rfl rfl rfl rfl) ?_
 refine td_det rfl rfl (det_bslice rfl el42 zr9 rfl rfl rfl rfl) ?_
 refine td_det rfl rfl (det_buildN [none, some 3, none, none, none] rfl zr47 pl47 rfl rfl) ?_
 refine td_nil ?_
 refine rwp_det0 rfl rfl (det_store rfl sz47 rfl rfl rfl (st_row 3 rfl rfl)) ?_
 refine rwp_nil ?_
 refine awp_ret ?_
 repeat (first | refine thenQ_ret ?_ | refine blockQ_ret ?_)
 refine fin1 (rs_cell_agg agg47 rfl (ptr_row 3 rfl) rfl) ?_
 exact rfl

theorem ex_V1 : Pur cfg 69 [vPg (exP [exI])] (.tup [vI 0, vI 0]) := by
  have h := program_Validate (exP [exI]) ex1_ok
  rw [ex1_valid] at h
  exact h

theorem ex_V2 : Pur cfg 69 [vPg (exP [exI, exI])] (.tup [vI 3, vI 11]) := by
  have h := program_Validate (exP [exI, exI]) ex2_ok
  rw [ex2_valid] at h
  exact h

theorem ex_F1 : Pur cfg 112 [vPg (exP [exI]), vS (bs [97])] (.tup [vTy exF, vLins [⟨0, [⟨bs [110], 1⟩]⟩], vB true]) := by
  have h := program_Find (exP [exI]) (bs [97]) ex1_ok
  rw [ex1_find] at h
  exact h

theorem ex_I1 : Pur cfg 113 [vPg (exP [exI]), vS (bs [115])] (vI 0) := by
  have h := program_IndexOf (exP [exI]) (bs [115]) (by simp [exP])
  rw [ex1_def] at h
  exact h

theorem law17_examples  :
    Pur cfg 46 [] (vB true) := by
 refine con_intro Tryz.func46 rfl Tryz.ntmps46 Tryz.results46 rfl ?_
 intro z hz
 refine awp_seq ?_
 refine awp_region rfl ?_
 refine rwp_det rfl rfl (det_assign rfl rfl) ?_
 refine rwp_nil ?_
 refine awp_seq ?_
 refine awp_region rfl ?_
 refine rwp_det rfl rfl (det_call rfl ok110 (law17_variable (bs [105])) ⟨VLe.refl _, rfl, trivial⟩) ?_
 refine rwp_det rfl rfl (det_buildN [none, none, none, some 2] rfl zr117 pl117 rfl rfl) ?_
 refine rwp_op rfl rfl (ope_allocN [none, some 2, none, some 2] rfl zr117 rfl) ?_
 rintro _ _ ⟨b1, rfl, rfl⟩
 refine rwp_det0 rfl rfl (det_store rfl sz117 rfl rfl rfl (st_row 0 rfl rfl)) ?_
 refine rwp_nil ?_
 refine awp_seq ?_
 refine awp_region rfl ?_
 refine rwp_det rfl rfl (det_load_agg rfl agg117 rfl (ptr_row 0 rfl) rfl) ?_
 refine rwp_det rfl rfl (det_bslice rfl el30 zr117 rfl rfl rfl rfl) ?_
 refine rwp_det rfl rfl (det_call rfl ok111 (law17_example [exI]) ⟨VLe.refl _, rfl, trivial⟩) ?_
 refine rwp_det rfl rfl (det_call rfl ok69 ex_V1 ⟨VLe.refl _, rfl, trivial⟩) ?_
 refine rwp_det rfl rfl (det_move_tup rfl rfl) ?_
 refine rwp_det rfl rfl (det_ex_c rfl rfl rfl) ?_
 refine rwp_det rfl rfl (det_ex_c rfl rfl rfl) ?_
 refine rwp_det rfl rfl (det_assign rfl rfl) ?_
 refine rwp_det rfl rfl (det_assign rfl rfl) ?_
 refine rwp_nil ?_
 refine awp_seq ?_
 refine awp_region rfl ?_
 refine rwp_det rfl rfl (det_load_agg rfl agg117 rfl (ptr_row 0 rfl) rfl) ?_
 refine rwp_det rfl rfl (det_load_agg rfl agg117 rfl (ptr_row 0 rfl) rfl) ?_
 refine rwp_det rfl rfl (det_bslice rfl el30 zr117 rfl rfl rfl rfl) ?_
 refine rwp_det rfl rfl (det_call rfl ok111 (law17_example [exI, exI]) ⟨VLe.refl _, rfl, trivial⟩) ?_
 refine rwp_det rfl rfl (det_call rfl ok69 ex_V2 ⟨VLe.refl _, rfl, trivial⟩) ?_
 refine rwp_det rfl rfl (det_move_tup rfl rfl) ?_
 refine rwp_det rfl rfl (det_ex_c rfl rfl rfl) ?_
 refine rwp_det rfl rfl (det_ex_c rfl rfl rfl) ?_
 refine rwp_det rfl rfl (det_assign rfl rfl) ?_
 refine rwp_det rfl rfl (det_assign rfl rfl) ?_
 refine rwp_nil ?_
 refine awp_seq ?_
 refine awp_region rfl ?_
 refine rwp_det rfl rfl (det_load_agg rfl agg117 rfl (ptr_row 0 rfl) rfl) ?_
 refine rwp_det rfl rfl (det_bslice rfl el30 zr117 rfl rfl rfl rfl) ?_
 refine rwp_det rfl rfl (det_call rfl ok111 (law17_example [exI]) ⟨VLe.refl _, rfl, trivial⟩) ?_
 refine rwp_det rfl rfl (det_call rfl ok112 ex_F1 ⟨VLe.refl _, rfl, VLe.refl _, rfl, trivial⟩) ?_
 refine rwp_det rfl rfl (det_move_tup rfl rfl) ?_
 refine rwp_det rfl rfl (det_ex_agg rfl rfl rfl) ?_
 refine rwp_det rfl rfl (det_ex_c rfl rfl rfl) ?_
 refine rwp_det rfl rfl (det_ex_c rfl rfl rfl) ?_
 refine rwp_op rfl rfl (ope_alloc rfl zr23) ?_
 rintro _ _ ⟨b2, rfl, rfl⟩
 refine rwp_det0 rfl rfl (det_store rfl sz23 rfl rfl rfl (st_row 0 rfl rfl)) ?_
 refine rwp_det rfl rfl (det_assign rfl rfl) ?_
 refine rwp_det rfl rfl (det_assign rfl rfl) ?_
 refine rwp_nil ?_
 refine awp_seq ?_
 refine awp_region rfl ?_
 refine rwp_det rfl rfl (det_move rfl rfl) ?_
 refine rwp_det rfl rfl (det_eql rfl rfl rfl) ?_
 refine rwp_det rfl rfl (det_move rfl rfl) ?_
 refine rwp_lazy [] rfl rfl rfl rfl gv1 trivial (fun g5_2 => det_move rfl rfl) rfl ?_
 refine rwp_lazy [(37, _)] rfl rfl rfl rfl gv1 ⟨rfl, rfl, trivial⟩ (fun g5_2 => det_eql rfl rfl rfl) rfl ?_
 refine rwp_det rfl rfl (det_and rfl rfl rfl (fun h => h) rfl) ?_
 refine rwp_det rfl rfl (det_move rfl rfl) ?_
 refine rwp_lazy [] rfl rfl rfl rfl gv1 trivial (fun g5_6 => det_move rfl rfl) rfl ?_
 refine rwp_lazy [(41, _)] rfl rfl rfl rfl gv1 ⟨rfl, rfl, trivial⟩ (fun g5_6 => det_eql rfl rfl rfl) rfl ?_
 refine rwp_det rfl rfl (det_and rfl rfl rfl (fun h => h) rfl) ?_
 refine rwp_det rfl rfl (det_move rfl rfl) ?_
 refine rwp_lazy [] rfl rfl rfl rfl gv1 trivial (fun g5_10 => det_move rfl rfl) rfl ?_
 refine rwp_lazy [(45, _)] rfl rfl rfl rfl gv1 ⟨rfl, rfl, trivial⟩ (fun g5_10 => det_eql rfl rfl rfl) rfl ?_
 refine rwp_det rfl rfl (det_and rfl rfl rfl (fun h => h) rfl) ?_
 refine rwp_det rfl rfl (det_move rfl rfl) ?_
 refine rwp_lazy [] rfl rfl rfl rfl gv1 trivial (fun g5_14 => det_move rfl rfl) rfl ?_
 refine rwp_det rfl rfl (det_and rfl rfl rfl (fun h => h) rfl) ?_
 refine rwp_det rfl rfl (det_move rfl rfl) ?_
 refine rwp_lazy [] rfl rfl rfl rfl gv1 trivial (fun g5_17 => det_move rfl rfl) rfl ?_
 refine rwp_lazy [(52, _)] rfl rfl rfl rfl gv1 ⟨rfl, rfl, trivial⟩ (fun g5_17 => det_len_slm rfl el104 rfl) rfl ?_
 refine rwp_lazy [(53, _)] rfl rfl rfl rfl gv1 ⟨rfl, rfl, trivial⟩ (fun g5_17 => det_eql rfl rfl rfl) rfl ?_
 refine rwp_det rfl rfl (det_and rfl rfl rfl (fun h => h) rfl) ?_
 refine rwp_det rfl rfl (det_move rfl rfl) ?_
 refine rwp_lazy [] rfl rfl rfl rfl gv1 trivial (fun g5_22 => det_load_agg rfl agg117 rfl (ptr_row 1 rfl) rfl) rfl ?_
 refine rwp_lazy [(57, _)] rfl rfl rfl rfl gv1 ⟨rfl, rfl, trivial⟩ (fun g5_22 => det_bslice rfl el30 zr117 rfl rfl rfl rfl) rfl ?_
 refine rwp_lazy [(58, _)] rfl rfl rfl rfl gv1 ⟨rfl, rfl, trivial⟩ (fun g5_22 => det_call rfl ok111 (law17_example [exI]) ⟨VLe.refl _, rfl, trivial⟩) rfl ?_
 refine rwp_lazy [(59, _)] rfl rfl rfl rfl gv1 ⟨rfl, rfl, trivial⟩ (fun g5_22 => det_call rfl ok113 ex_I1 ⟨VLe.refl _, rfl, VLe.refl _, rfl, trivial⟩) rfl ?_
 refine rwp_lazy [(60, _)] rfl rfl rfl rfl gv1 ⟨rfl, rfl, trivial⟩ (fun g5_22 => det_eql rfl rfl rfl) rfl ?_
 refine rwp_det rfl rfl (det_and rfl rfl rfl (fun h => h) rfl) ?_
 refine rwp_det rfl rfl (det_assign rfl rfl) ?_
 refine rwp_nil ?_
 refine awp_ret ?_
 repeat (first | refine thenQ_ret ?_ | refine blockQ_ret ?_)
 refine fin1 (rs_c rfl) ?_
 exact congrArg (fun b => V.c (C.lit (Value.bool b))) (by decide)

end Go.W
