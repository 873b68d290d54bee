/-
  Walks: what functions of the program compute. Printed by wip/gen/mk2.py.
  Conditions: none.
-/
import Derived.Test.YtnnkemdiknefaaaGreatDoorVB
import Derived.Test.YtnnkemdiknefaaaGreatDoorPlain2
set_option linter.unusedSimpArgs false
set_option linter.unusedVariables false
namespace Go.W
open Go Go.Eng Go.Proofs Go.L41 Go.Br
attribute [local irreducible] AWP RWP TD
theorem ok22 : callOk Tryz.prog 22 = true := by kernel_rfl
theorem ok23 : callOk Tryz.prog 23 = true := by kernel_rfl
theorem ok27 : callOk Tryz.prog 27 = true := by kernel_rfl
theorem ref14_All_step (e : Ex) (ih : ∀ a, a ∈ e.Args → a.wt ≤ 1000000 → OwnR cfg 27 [vE a] 33 13 ((nodes a).map Ex.cells)) (he : e.wt ≤ 1000000) :
    OwnR cfg 27 [vE e] 33 13 ((nodes e).map Ex.cells) := by
 refine con_intro Tryz.func27 rfl Tryz.ntmps27 Tryz.results27 rfl ?_
 intro z hz
 obtain ⟨hL, hI, hA⟩ := e.parts he
 have hn := nodes_wt e
 refine awp_seq ?_
 refine awp_region rfl ?_
 refine rwp_op rfl rfl (ope_box rfl rfl) ?_
 rintro _ _ ⟨b1, rfl, rfl⟩
 refine rwp_det rfl rfl (det_assignN 13 rfl rfl) ?_
 refine rwp_nil ?_
 refine awp_seq ?_
 refine awp_region rfl ?_
 refine rwp_det rfl rfl (det_load_agg rfl agg33 rfl (ptr_row 0 rfl) rfl) ?_
 refine rwp_op rfl rfl (ope_bslice rfl el31 zr33 rfl rfl rfl rfl) ?_
 rintro _ _ ⟨sv2, rfl, rfl⟩
 refine rwp_det rfl rfl (det_assign rfl rfl) ?_
 refine rwp_nil ?_
 refine awp_seq ?_
 refine awp_seq ?_
 refine awp_region rfl ?_
 refine rwp_det rfl rfl (det_assign rfl rfl) ?_
 refine rwp_nil ?_
 refine awp_block ?_
 refine awp_weak ⟨[(4, .c _), (3, .c _), (1, .c _)], [_, _]⟩ (Weak.mk [true, true] ⟨VLe.of_eq rfl, VLe.of_eq rfl, VLe.of_eq rfl, trivial⟩ rfl) ?_
 refine awp_loop_k 2 1 rfl rfl (Nat × Value) (fun ⟨k, sv⟩ => [(4, vI k), (3, .c (.lit sv))]) (fun ⟨k, sv⟩ => [E.vec sv 33 13 ((e :: nodesL (e.Args.take k)).map Ex.cells)]) (fun ⟨k, sv⟩ => k ≤ e.Args.length) (fun ⟨k, sv⟩ => e.Args.length - k) ⟨⟨0, _⟩, (by omega), Weak.mk [true, true] ⟨VLe.refl _, VLe.refl _, VLe.refl _, trivial⟩ (by exact mem1_eq (by simp [nodesL, Ex.cells_eq]; rfl))⟩ ?_
 rintro ⟨k, sv⟩ hk
 show AWP _ _ _ _ _ ⟨[(4, vI k), (3, .c (.lit sv))] ++ _, [E.vec sv 33 13 ((e :: nodesL (e.Args.take k)).map Ex.cells)] ++ _⟩
 refine awp_seq ?_
 refine awp_seq ?_
 refine awp_region rfl ?_
 refine rwp_det rfl rfl (det_move rfl rfl) ?_
 refine rwp_det rfl rfl (det_field_lit rfl fd33_6 rfl) ?_
 refine rwp_det rfl rfl (det_load_one rfl one31 rfl (ptr_row 1 rfl) rfl) ?_
 refine rwp_det rfl rfl (det_len_slm rfl el31 rfl) ?_
 refine rwp_det rfl rfl (det_lss rfl rfl rfl) ?_
 refine rwp_nil ?_
 refine awp_cond rfl (fun c1 => ?_) (fun c1 => ?_)
 ·try simp only [sx, List.length_map] at c1
  obtain ⟨x, hx⟩ := ex_get e.Args k (by omega)
  have hn1 := nodes_take hx
  refine awp_skip ?_
  refine awp_seq ?_
  refine awp_block ?_
  refine awp_region rfl ?_
  refine rwp_det rfl rfl (det_move rfl rfl) ?_
  refine rwp_det rfl rfl (det_field_lit rfl fd33_6 rfl) ?_
  refine rwp_det rfl rfl (det_load_one rfl one31 rfl (ptr_row 1 rfl) rfl) ?_
  refine rwp_det rfl rfl (det_move rfl rfl) ?_
  refine rwp_det rfl rfl (det_index_sl rfl el31 rfl rfl (by omega) (getmE (by assumption))) ?_
  refine rwp_det rfl rfl (det_load_agg rfl agg33 rfl ptr_imm rfl) ?_
  refine rwp_det rfl rfl (det_call rfl ok27 (OwnR.pur (ih x (mem_of_get hx) (by have := Ex.arg_wt (mem_of_get hx); omega))) ⟨VLe.refl _, rfl, trivial⟩) ?_
  refine rwp_op rfl rfl (ope_append 0 rfl el31 rfl rfl rfl (by simp only [List.length_map, List.length_append, List.length_cons, List.length_nil]; omega) (by simp only [List.length_map, List.length_append, List.length_cons, List.length_nil]; omega)) ?_
  rintro _ _ ⟨sv3, rfl, rfl⟩
  refine rwp_det rfl rfl (det_assign rfl rfl) ?_
  refine rwp_nil ?_
  refine awp_region rfl ?_
  refine rwp_det rfl rfl (det_move rfl rfl) ?_
  refine rwp_det rfl rfl (det_add_nw rfl rfl rfl ⟨by omega, by omega⟩) ?_
  refine rwp_det rfl rfl (det_assign rfl rfl) ?_
  refine rwp_nil ?_
  refine ⟨⟨k + 1, sv3⟩, (by omega), (by show e.Args.length - (k + 1) < e.Args.length - k; omega), Weak.mk [true, true] ⟨VLe.refl _, VLe.refl _, VLe.refl _, trivial⟩ (by exact mem1_eq (by rw [nodesL_next hx, ← List.cons_append, List.map_append]))⟩
 ·try simp only [sx, List.length_map] at c1
  refine awp_exit ?_
  refine awp_seq ?_
  refine awp_region rfl ?_
  refine rwp_det rfl rfl (det_move rfl rfl) ?_
  refine rwp_det rfl rfl (det_assign rfl rfl) ?_
  refine rwp_nil ?_
  refine awp_weak _ (Weak.mem [true, false] rfl) ?_
  refine awp_ret ?_
  repeat (first | refine thenQ_ret ?_ | refine blockQ_ret ?_)
  refine fin1 (rs_c rfl) ?_
  exact ⟨_, rfl, by rw [take_all (by omega), ← nodes_eq]; rfl⟩

theorem ref14_All (e : Ex) (he : e.wt ≤ 1000000) : OwnR cfg 27 [vE e] 33 13 ((nodes e).map Ex.cells) := by
  induction e using Ex.ind with
  | _ e ih => exact ref14_All_step e ih he

end Go.W
