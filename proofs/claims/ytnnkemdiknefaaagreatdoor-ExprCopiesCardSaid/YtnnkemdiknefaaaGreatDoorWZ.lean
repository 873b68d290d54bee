/-
  Walks: what functions of the program compute. Printed by wip/gen/mk2.py.
  Conditions: none.
-/
import Derived.Test.YtnnkemdiknefaaaGreatDoorWY
set_option linter.unusedSimpArgs false
set_option linter.unusedVariables false
namespace Go.W
open Go Go.Eng Go.Proofs Go.L41 Go.Br
attribute [local irreducible] AWP RWP TD
theorem ok82 : callOk Tryz.prog 82 = true := by kernel_rfl
theorem ok83 : callOk Tryz.prog 83 = true := by kernel_rfl
theorem expr_Substitute_1 (l : Lf) (s : ByteArray) (u : Lf) (hl : l.L.length ≤ 4294967296) (ht : u.L.length ≤ 4294967296) (hrl : l.rng) (hrt : u.rng) :
    Pur cfg 82 [vLin l, .c (.iptr [cS s]), .c (.iptr u.cells)] (.tup [vLin (substP l s u).1, vI (substP l s u).2]) := by
 refine con_intro Tryz.func82 rfl Tryz.ntmps82 Tryz.results82 rfl ?_
 intro z hz
 refine awp_seq ?_
 refine awp_region rfl ?_
 refine rwp_op rfl rfl (ope_box rfl rfl) ?_
 rintro _ _ ⟨b1, rfl, rfl⟩
 refine rwp_op rfl rfl (ope_allocN [none, some 2] rfl zr29 rfl) ?_
 rintro _ _ ⟨b2, rfl, rfl⟩
 refine rwp_det rfl rfl (det_assign rfl rfl) ?_
 refine rwp_nil ?_
 refine awp_seq ?_
 refine awp_region rfl ?_
 refine rwp_det rfl rfl (det_load_agg rfl agg29 rfl (ptr_row 1 rfl) rfl) ?_
 refine rwp_det rfl rfl (det_load_one rfl one9 rfl ptr_imm rfl) ?_
 refine rwp_det rfl rfl (det_load_agg rfl agg29 rfl ptr_imm rfl) ?_
 refine rwp_det rfl rfl (det_call rfl ok83 (lin_Substitute l s u hl ht hrl hrt) ⟨VLe.refl _, rfl, VLe.refl _, rfl, VLe.refl _, rfl, trivial⟩) ?_
 refine rwp_det rfl rfl (det_ex_agg rfl rfl rfl) ?_
 refine rwp_det rfl rfl (det_ex_c rfl rfl rfl) ?_
 refine rwp_det0 rfl rfl (det_store rfl sz29 rfl rfl rfl (st_row 0 rfl rfl)) ?_
 refine rwp_det rfl rfl (det_assign rfl rfl) ?_
 refine rwp_nil ?_
 refine awp_ret ?_
 repeat (first | refine thenQ_ret ?_ | refine blockQ_ret ?_)
 refine fin2 (rs_cell_agg agg29 rfl (ptr_row 0 rfl) rfl) (rs_c rfl) ?_
 exact rfl

theorem expr_Substitute (e : Ex) (s : ByteArray) (u : Lf) (he : e.wt ≤ 4294967296) (hP : e.allF Lf.rng) (ht : u.L.length ≤ 4294967296) (hrt : u.rng) :
    Pur cfg 24 [vE e, vS s, vLin u] (.tup [vE (outE (mEx (fun l => substP l s u) e)), vI (errE (mEx (fun l => substP l s u) e))]) := by
 refine con_intro Tryz.func24 rfl Tryz.ntmps24 Tryz.results24 rfl ?_
 intro z hz
 refine awp_seq ?_
 refine awp_region rfl ?_
 refine rwp_op rfl rfl (ope_box rfl rfl) ?_
 rintro _ _ ⟨b1, rfl, rfl⟩
 refine rwp_op rfl rfl (ope_box rfl rfl) ?_
 rintro _ _ ⟨b2, rfl, rfl⟩
 refine rwp_op rfl rfl (ope_box rfl rfl) ?_
 rintro _ _ ⟨b3, rfl, rfl⟩
 refine rwp_op rfl rfl (ope_allocN [none, none, none, none, none, none, none, none, none, none, some 2, some 4, some 13] rfl zr33 rfl) ?_
 rintro _ _ ⟨b4, rfl, rfl⟩
 refine rwp_det rfl rfl (det_assign rfl rfl) ?_
 refine rwp_nil ?_
 refine awp_seq ?_
 refine awp_region rfl ?_
 refine rwp_det rfl rfl (det_load_agg rfl agg33 rfl (ptr_row 3 rfl) rfl) ?_
 refine rwp_det rfl rfl (det_func rfl rfl rfl rfl rfl) ?_
 refine rwp_weak _ (weak_freeze_row 2 rfl 9 (.c (.fn _ _ [_, _])) (PLe.fn ⟨.inr ⟨rfl, rfl⟩, .inl rfl, trivial⟩)) ?_
 refine rwp_weak _ (weak_freeze_row 1 rfl 9 (.c (.fn _ _ [_, _])) (PLe.fn ⟨.inl rfl, .inr ⟨rfl, rfl⟩, trivial⟩)) ?_
 refine rwp_det rfl rfl (det_call rfl ok81 (mapForms_con (fun l => substP l s u) _ Lf.rng (fun l hr hl => FnPur.of_pur (first := []) (cap := [.iptr [cS s], .iptr u.cells]) ok82 (expr_Substitute_1 l s u hl ht hr hrt)) e hP he) ⟨VLe.refl _, rfl, VLe.refl _, rfl, trivial⟩) ?_
 refine rwp_det rfl rfl (det_ex_agg rfl rfl rfl) ?_
 refine rwp_det rfl rfl (det_ex_c rfl rfl rfl) ?_
 refine rwp_det0 rfl rfl (det_store rfl sz33 rfl rfl rfl (st_row 0 rfl rfl)) ?_
 refine rwp_det rfl rfl (det_assign rfl rfl) ?_
 refine rwp_nil ?_
 refine awp_ret ?_
 repeat (first | refine thenQ_ret ?_ | refine blockQ_ret ?_)
 refine fin2 (rs_cell_agg agg33 rfl (ptr_row 0 rfl) rfl) (rs_c rfl) ?_
 exact rfl

end Go.W
