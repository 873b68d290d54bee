/-
  Walks: what functions of the program compute. Printed by wip/gen/mk2.py.
  Conditions: none.
-/
import Derived.Test.YtnnkemdiknefaaaGreatDoorVB
import Derived.Test.YtnnkemdiknefaaaGreatDoorPlain2
set_option linter.unusedSimpArgs false
set_option linter.unusedVariables false
namespace Go.W
open Go Go.Eng Go.Proofs Go.L41 Go.Br
attribute [local irreducible] AWP RWP TD
theorem ok22 : callOk Tryz.prog 22 = true := by kernel_rfl
theorem ok23 : callOk Tryz.prog 23 = true := by kernel_rfl
theorem ok34 : callOk Tryz.prog 34 = true := by kernel_rfl
theorem ok44 : callOk Tryz.prog 44 = true := by kernel_rfl
theorem ref14_Replace_step (e f t : Ex) (ih : ∀ a, a ∈ e.Args → a.wt ≤ 4294967296 → Pur cfg 44 [vE a, vE f, vE t] (vE (replE f t a))) (he : e.wt ≤ 4294967296) :
    Pur cfg 44 [vE e, vE f, vE t] (vE (replE f t e)) := by
 refine con_intro Tryz.func44 rfl Tryz.ntmps44 Tryz.results44 rfl ?_
 intro z hz
 obtain ⟨hL, hI, hA⟩ := e.parts he
 refine awp_seq ?_
 refine awp_region rfl ?_
 refine rwp_op rfl rfl (ope_box rfl rfl) ?_
 rintro _ _ ⟨b1, rfl, rfl⟩
 refine rwp_op rfl rfl (ope_box rfl rfl) ?_
 rintro _ _ ⟨b2, rfl, rfl⟩
 refine rwp_op rfl rfl (ope_box rfl rfl) ?_
 rintro _ _ ⟨b3, rfl, rfl⟩
 refine rwp_op rfl rfl (ope_allocN [none, none, none, none, none, none, none, none, none, none, some 2, some 4, some 13] rfl zr33 rfl) ?_
 rintro _ _ ⟨b4, rfl, rfl⟩
 refine rwp_nil ?_
 refine awp_seq ?_
 refine awp_seq ?_
 refine awp_region rfl ?_
 refine rwp_det rfl rfl (det_load_agg rfl agg33 rfl (ptr_row 3 rfl) rfl) ?_
 refine rwp_det rfl rfl (det_load_agg rfl agg33 rfl (ptr_row 2 rfl) rfl) ?_
 refine rwp_det rfl rfl (det_call rfl ok26 (base_Expr e f he) ⟨VLe.refl _, rfl, VLe.refl _, rfl, trivial⟩) ?_
 refine rwp_nil ?_
 refine awp_cond rfl (fun c1 => ?_) (fun c1 => ?_)
 ·try simp only [sx, List.length_map] at c1
  refine awp_seq ?_
  refine awp_region rfl ?_
  refine rwp_det rfl rfl (det_load_agg rfl agg33 rfl (ptr_row 1 rfl) rfl) ?_
  refine rwp_det0 rfl rfl (det_store rfl sz33 rfl rfl rfl (st_row 0 rfl rfl)) ?_
  refine rwp_nil ?_
  refine awp_ret ?_
  repeat (first | refine thenQ_ret ?_ | refine blockQ_ret ?_)
  refine fin1 (rs_cell_agg agg33 rfl (ptr_row 0 rfl) rfl) ?_
  rw [replE_yes c1]; rfl
 ·try simp only [sx, List.length_map] at c1
  refine awp_skip ?_
  refine awp_seq ?_
  refine awp_region rfl ?_
  refine rwp_det rfl rfl (det_assign rfl rfl) ?_
  refine rwp_weak _ (weak_own 33 13) ?_
  refine rwp_nil ?_
  refine awp_seq ?_
  refine awp_seq ?_
  refine awp_region rfl ?_
  refine rwp_det rfl rfl (det_assign rfl rfl) ?_
  refine rwp_nil ?_
  refine awp_block ?_
  refine awp_weak ⟨[(8, .c _), (7, .c _), (3, .c _), (4, .c _), (5, .c _), (6, .c _)], [_, _, _, _, _]⟩ (Weak.mk [true, true, true, true, true] ⟨VLe.of_eq rfl, VLe.of_eq rfl, VLe.of_eq rfl, VLe.of_eq rfl, VLe.of_eq rfl, VLe.of_eq rfl, trivial⟩ rfl) ?_
  refine awp_loop_k 2 1 rfl rfl (Nat × Value) (fun ⟨k, sv⟩ => [(8, vI k), (7, .c (.lit sv))]) (fun ⟨k, sv⟩ => [E.vec sv 33 13 (((e.Args.take k).map (replE f t)).map Ex.cells)]) (fun ⟨k, sv⟩ => k ≤ e.Args.length) (fun ⟨k, sv⟩ => e.Args.length - k) ⟨⟨0, _⟩, (by omega), Weak.mk [true, true, true, true, true] ⟨VLe.refl _, VLe.refl _, VLe.refl _, VLe.refl _, VLe.refl _, VLe.refl _, trivial⟩ rfl⟩ ?_
  rintro ⟨k, sv⟩ hk
  show AWP _ _ _ _ _ ⟨[(8, vI k), (7, .c (.lit sv))] ++ _, [E.vec sv 33 13 (((e.Args.take k).map (replE f t)).map Ex.cells)] ++ _⟩
  refine awp_seq ?_
  refine awp_seq ?_
  refine awp_region rfl ?_
  refine rwp_det rfl rfl (det_move rfl rfl) ?_
  refine rwp_det rfl rfl (det_field_lit rfl fd33_6 rfl) ?_
  refine rwp_det rfl rfl (det_load_one rfl one31 rfl (ptr_row 4 rfl) rfl) ?_
  refine rwp_det rfl rfl (det_len_slm rfl el31 rfl) ?_
  refine rwp_det rfl rfl (det_lss rfl rfl rfl) ?_
  refine rwp_nil ?_
  refine awp_cond rfl (fun c2 => ?_) (fun c2 => ?_)
  ·try simp only [sx, List.length_map] at c2
   obtain ⟨x, hx⟩ := ex_get e.Args k (by omega)
   refine awp_skip ?_
   refine awp_seq ?_
   refine awp_block ?_
   refine awp_draw 10 mixed (by kernel_rfl) rfl rfl ?_
   refine td_det rfl rfl (det_move rfl rfl) ?_
   refine td_det rfl rfl (det_field_lit rfl fd33_6 rfl) ?_
   refine td_det rfl rfl (det_load_one rfl one31 rfl (ptr_row 4 rfl) rfl) ?_
   refine td_det rfl rfl (det_move rfl rfl) ?_
   refine td_det rfl rfl (det_index_sl rfl el31 rfl rfl (by omega) (getmE (by assumption))) ?_
   refine td_det rfl rfl (det_load_agg rfl agg33 rfl ptr_imm rfl) ?_
   refine td_det rfl rfl (det_load_agg rfl agg33 rfl (ptr_row 3 rfl) rfl) ?_
   refine td_det rfl rfl (det_load_agg rfl agg33 rfl (ptr_row 2 rfl) rfl) ?_
   refine td_det rfl rfl (det_call rfl ok44 (ih x (mem_of_get hx) (by have := Ex.arg_wt (mem_of_get hx); omega)) ⟨VLe.refl _, rfl, VLe.refl _, rfl, VLe.refl _, rfl, trivial⟩) ?_
   refine td_det rfl rfl (det_bslice rfl el31 zr33 rfl rfl rfl rfl) ?_
   refine td_nil ?_
   refine rwp_op rfl rfl (ope_append 0 rfl el31 rfl rfl rfl (by simp only [List.length_map, List.length_append, List.length_cons, List.length_nil, List.length_take]; omega) (by simp only [List.length_map, List.length_append, List.length_cons, List.length_nil, List.length_take]; omega)) ?_
   rintro _ _ ⟨sv6, rfl, rfl⟩
   refine rwp_det rfl rfl (det_assign rfl rfl) ?_
   refine rwp_nil ?_
   refine awp_region rfl ?_
   refine rwp_det rfl rfl (det_move rfl rfl) ?_
   refine rwp_det rfl rfl (det_add_nw rfl rfl rfl ⟨by omega, by omega⟩) ?_
   refine rwp_det rfl rfl (det_assign rfl rfl) ?_
   refine rwp_nil ?_
   refine ⟨⟨k + 1, sv6⟩, (by omega), (by show e.Args.length - (k + 1) < e.Args.length - k; omega), Weak.mk [true, true, true, true, true] ⟨VLe.refl _, VLe.refl _, VLe.refl _, VLe.refl _, VLe.refl _, VLe.refl _, trivial⟩ (by exact mem1_eq (by rw [take_next hx, List.map_append, List.map_append]; simp only [List.map_cons, List.map_nil, Ex.cells_eq (replE f t x)]))⟩
  ·try simp only [sx, List.length_map] at c2
   rw [take_all (l := e.Args) (k := k) (by omega)]
   refine awp_weak _ (weak_freezeM 0 rfl (regs' := [(7, _)]) (μ' := [_, _, _, _]) ⟨FLe.sl, trivial⟩ ⟨EFle.refl _, EFle.refl _, EFle.refl _, EFle.refl _, trivial⟩) ?_
   refine awp_exit ?_
   refine awp_seq ?_
   refine awp_region rfl ?_
   refine rwp_det rfl rfl (det_move rfl rfl) ?_
   refine rwp_det rfl rfl (det_field_lit rfl fd33_6 rfl) ?_
   refine rwp_det0 rfl rfl (det_store rfl sz31 rfl rfl rfl (st_row 3 rfl rfl)) ?_
   refine rwp_nil ?_
   refine awp_seq ?_
   refine awp_region rfl ?_
   refine rwp_det rfl rfl (det_load_agg rfl agg33 rfl (ptr_row 3 rfl) rfl) ?_
   refine rwp_det0 rfl rfl (det_store rfl sz33 rfl rfl rfl (st_row 0 rfl rfl)) ?_
   refine rwp_nil ?_
   refine awp_ret ?_
   repeat (first | refine thenQ_ret ?_ | refine blockQ_ret ?_)
   refine fin1 (rs_cell_agg agg33 rfl (ptr_row 0 rfl) rfl) ?_
   rw [replE_no c1]; rfl

theorem ref14_Replace (e f t : Ex) (he : e.wt ≤ 4294967296) : Pur cfg 44 [vE e, vE f, vE t] (vE (replE f t e)) := by
  induction e using Ex.ind with
  | _ e ih => exact ref14_Replace_step e f t ih he

end Go.W
