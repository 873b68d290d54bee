/-
  Walks: what functions of the program compute. Printed by wip/gen/mk2.py.
  Conditions: none.
-/
import Derived.Test.YtdbflnlalkfeeaaGreatDoorVB
import Derived.Test.YtdbflnlalkfeeaaGreatDoorPlain2
set_option linter.unusedSimpArgs false
set_option linter.unusedVariables false
set_option maxRecDepth 10000
namespace Go.W
open Go Go.Eng Go.Proofs Go.L41 Go.Br
attribute [local irreducible] AWP RWP TD finQ
theorem ok119 : callOk Tryz.prog 119 = true := by kernel_rfl
theorem ref14_All_step (e : Ex) (ih : ∀ a, a ∈ e.Args → a.wt ≤ 1000000 → OwnR cfg 119 [vE a] 52 13 ((nodes a).map Ex.cells)) (he : e.wt ≤ 1000000) :
    OwnR cfg 119 [vE e] 52 13 ((nodes e).map Ex.cells) := by
 refine con_intro Tryz.func119 rfl Tryz.ntmps119 Tryz.results119 rfl ?_
 intro z hz
 obtain ⟨hL, hI, hA⟩ := e.parts he
 have hn := nodes_wt e
 refine sReg rfl <|
  rwp_op rfl rfl (ope_box rfl rfl) ?_
 rintro _ _ ⟨b1, rfl, rfl⟩
 refine rwp_det rfl rfl (det_assignN 13 rfl rfl) <|
  rwp_nil <|
  sReg rfl <|
  rwp_det rfl rfl (det_load_agg rfl agg52 rfl (ptr_row 0 rfl) rfl) <|
  rwp_op rfl rfl (ope_bslice rfl el50 zr52 rfl rfl rfl rfl) ?_
 rintro _ _ ⟨sv2, rfl, rfl⟩
 refine rMv rfl <|
  rwp_nil <|
  awp_seq <|
  sReg rfl <|
  rMv rfl <|
  rwp_nil <|
  awp_block <|
  awp_weak ⟨[(4, .c _), (3, .c _), (1, .c _)], [_, _]⟩ (Weak.mk [true, true] ⟨VLe.of_eq rfl, VLe.of_eq rfl, VLe.of_eq rfl, trivial⟩ rfl) <|
  awp_loop_k 2 1 rfl rfl (Nat × Value) (fun ⟨k, sv⟩ => [(4, vI k), (3, .c (.lit sv))]) (fun ⟨k, sv⟩ => [E.vec sv 52 13 ((e :: nodesL (e.Args.take k)).map Ex.cells)]) (fun ⟨k, sv⟩ => k ≤ e.Args.length) (fun ⟨k, sv⟩ => e.Args.length - k) ⟨⟨0, _⟩, (by omega), Weak.mk [true, true] ⟨VLe.refl _, VLe.refl _, VLe.refl _, trivial⟩ (by exact mem1_eq (by simp [nodesL, Ex.cells_eq]; rfl))⟩ ?_
 rintro ⟨k, sv⟩ hk
 show AWP _ _ _ _ _ ⟨[(4, vI k), (3, .c (.lit sv))] ++ _, [E.vec sv 52 13 ((e :: nodesL (e.Args.take k)).map Ex.cells)] ++ _⟩
 refine awp_seq <|
  sReg rfl <|
  rMv rfl <|
  rwp_det rfl rfl (det_field_lit rfl fd52_6 rfl) <|
  rwp_det rfl rfl (det_load_one rfl one50 rfl (ptr_row 1 rfl) rfl) <|
  rwp_det rfl rfl (det_len_slm rfl el50 rfl) <|
  rwp_det rfl rfl (det_lss rfl rfl rfl) <|
  rwp_nil <|
  awp_cond rfl (fun c1 => ?_) (fun c1 => ?_)
 ·try simp only [sx] at c1
  obtain ⟨x, hx⟩ := ex_get e.Args k (by omega)
  have hn1 := nodes_take hx
  refine awp_skip <|
   awp_seq <|
   awp_block <|
   awp_region rfl <|
   rMv rfl <|
   rwp_det rfl rfl (det_field_lit rfl fd52_6 rfl) <|
   rwp_det rfl rfl (det_load_one rfl one50 rfl (ptr_row 1 rfl) rfl) <|
   rMv rfl <|
   rwp_det rfl rfl (det_index_sl rfl el50 rfl rfl (by omega) (getmE (by assumption))) <|
   rwp_det rfl rfl (det_load_agg rfl agg52 rfl ptr_imm rfl) <|
   rwp_det rfl rfl (det_call rfl ok119 (OwnR.pur (ih x (mem_of_get hx) (by have := Ex.arg_wt (mem_of_get hx); omega))) ⟨VLe.refl _, rfl, trivial⟩) <|
   rwp_op rfl rfl (ope_append 0 rfl el50 rfl rfl rfl (by simp only [List.length_map, List.length_append, List.length_cons, List.length_nil]; omega) (by simp only [List.length_map, List.length_append, List.length_cons, List.length_nil]; omega)) ?_
  rintro _ _ ⟨sv3, rfl, rfl⟩
  refine rMv rfl <|
   rwp_nil <|
   awp_region rfl <|
   rMv rfl <|
   rwp_det rfl rfl (det_add_nw rfl rfl rfl ⟨by omega, by omega⟩) <|
   rMv rfl <|
   rwp_nil ?_
  refine ⟨⟨k + 1, sv3⟩, (by omega), (by show e.Args.length - (k + 1) < e.Args.length - k; omega), Weak.mk [true, true] ⟨VLe.refl _, VLe.refl _, VLe.refl _, trivial⟩ (by exact mem1_eq (by rw [nodesL_next hx, ← List.cons_append, List.map_append]))⟩
 ·try simp only [sx] at c1
  refine awp_exit <|
   sReg rfl <|
   rMv rfl <|
   rMv rfl <|
   rwp_nil <|
   awp_weak _ (Weak.mem [true, false] rfl) <|
   awp_ret <|
   fin1 (rs_c rfl) ?_
  exact ⟨_, rfl, by rw [take_all (by omega), ← nodes_eq]; rfl⟩

theorem ref14_All (e : Ex) (he : e.wt ≤ 1000000) : OwnR cfg 119 [vE e] 52 13 ((nodes e).map Ex.cells) := by
  induction e using Ex.ind with
  | _ e ih => exact ref14_All_step e ih he

end Go.W
