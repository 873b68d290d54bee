/-
  Walks: what functions of the program compute. Printed by wip/gen/mk2.py.
  Conditions: none.
-/
import Derived.Test.YtnnkemdiknefaaaGreatDoorWG
import Derived.Test.YtnnkemdiknefaaaGreatDoorPlain
import Derived.Test.YtnnkemdiknefaaaGreatDoorEngZ
set_option linter.unusedSimpArgs false
set_option linter.unusedVariables false
namespace Go.W
open Go Go.Eng Go.Proofs Go.L41 Go.Br
attribute [local irreducible] AWP RWP TD
theorem agg35 : aggT Tryz.prog 35 = some 22 := by kernel_rfl
theorem el45 : elemT Tryz.prog 45 = some (35, 22, 272) := by kernel_rfl
theorem fd35_0 : fieldT Tryz.prog 35 0 = some (0, 9) := by kernel_rfl
theorem fd47_3 : fieldT Tryz.prog 47 3 = some (3, 45) := by kernel_rfl
theorem ok117 : callOk Tryz.prog 117 = true := by kernel_rfl
theorem ok182 : callOk Tryz.prog 182 = true := by kernel_rfl
theorem ok183 : callOk Tryz.prog 183 = true := by kernel_rfl
theorem one45 : oneT Tryz.prog 45 = true := by kernel_rfl
theorem program_copyForm (l : Lf) (hl : l.L.length ≤ 5864062014805) :
    Pur cfg 117 [vLin l] (vLin l) := by
 refine con_intro Tryz.func117 rfl Tryz.ntmps117 Tryz.results117 rfl ?_
 intro z hz
 refine awp_seq ?_
 refine awp_region rfl ?_
 refine rwp_op rfl rfl (ope_box rfl rfl) ?_
 rintro _ _ ⟨b1, rfl, rfl⟩
 refine rwp_op rfl rfl (ope_allocN [none, some 2] rfl zr29 rfl) ?_
 rintro _ _ ⟨b2, rfl, rfl⟩
 refine rwp_nil ?_
 refine awp_seq ?_
 refine awp_draw 6 mixed (by kernel_rfl) rfl rfl ?_
 refine td_det rfl rfl (det_field_lit rfl fd29_0 rfl) ?_
 refine td_det rfl rfl (det_load_one rfl one2 rfl (ptr_row 1 rfl) rfl) ?_
 refine td_det rfl rfl (det_field_lit rfl fd29_1 rfl) ?_
 refine td_det rfl rfl (det_load_one rfl one27 rfl (ptr_row 1 rfl) rfl) ?_
 refine td_det rfl rfl (det_call rfl ok92 (OwnR.pur (slices_Clone_mono l.L hl)) ⟨VLe.refl _, rfl, trivial⟩) ?_
 refine td_det rfl rfl (det_build rfl zr29 pl29 rfl) ?_
 refine td_nil ?_
 refine rwp_det0 rfl rfl (det_store rfl sz29 rfl rfl rfl (st_row 0 rfl rfl)) ?_
 refine rwp_nil ?_
 refine awp_ret ?_
 repeat (first | refine thenQ_ret ?_ | refine blockQ_ret ?_)
 refine fin1 (rs_cell_agg agg29 rfl (ptr_row 0 rfl) rfl) ?_
 exact rfl

theorem program_copyForms (l : List Lf) (hl : l.length ≤ 4294967296) (hx : ∀ x, x ∈ l → x.L.length ≤ 5864062014805) :
    OwnR cfg 118 [vLins l] 29 2 (l.map Lf.cells) := by
 refine con_intro Tryz.func118 rfl Tryz.ntmps118 Tryz.results118 rfl ?_
 intro z hz
 have hl0 := hx
 clear hx
 refine awp_seq ?_
 refine awp_region rfl ?_
 refine rwp_det rfl rfl (det_assignN 2 rfl rfl) ?_
 refine rwp_nil ?_
 refine awp_seq ?_
 refine awp_region rfl ?_
 refine rwp_det rfl rfl (det_assign rfl rfl) ?_
 refine rwp_weak _ (weak_own 29 2) ?_
 refine rwp_nil ?_
 refine awp_seq ?_
 refine awp_seq ?_
 refine awp_region rfl ?_
 refine rwp_det rfl rfl (det_move rfl rfl) ?_
 refine rwp_det rfl rfl (det_len_slm rfl el104 rfl) ?_
 refine rwp_det rfl rfl (det_move rfl rfl) ?_
 refine rwp_nil ?_
 refine awp_block ?_
 refine awp_weak ⟨[(8, .c _), (3, .c _), (6, .c _), (7, .c _)], [_]⟩ (Weak.mk [true] ⟨VLe.of_eq rfl, VLe.of_eq rfl, VLe.of_eq rfl, VLe.of_eq rfl, trivial⟩ rfl) ?_
 refine awp_loop_k 2 1 rfl rfl (Nat × Value) (fun ⟨k, sv⟩ => [(8, vI k), (3, .c (.lit sv))]) (fun ⟨k, sv⟩ => [E.vec sv 29 2 ((l.take k).map Lf.cells)]) (fun ⟨k, sv⟩ => k ≤ l.length) (fun ⟨k, sv⟩ => l.length - k) ⟨⟨0, (.slice none 0 0)⟩, (by omega), Weak.mk [true] ⟨VLe.refl _, VLe.refl _, VLe.refl _, VLe.refl _, trivial⟩ rfl⟩ ?_
 rintro ⟨k, sv⟩ hk
 show AWP _ _ _ _ _ ⟨[(8, vI k), (3, .c (.lit sv))] ++ _, [E.vec sv 29 2 ((l.take k).map Lf.cells)] ++ _⟩
 refine awp_seq ?_
 refine awp_region rfl ?_
 refine rwp_det rfl rfl (det_lss rfl rfl rfl) ?_
 refine rwp_nil ?_
 refine awp_seq ?_
 refine awp_cond rfl (fun c1 => ?_) (fun c1 => ?_)
 ·try simp only [sx, List.length_map] at c1
  obtain ⟨x, hx⟩ := ex_get l k (by omega)
  refine awp_skip ?_
  refine awp_seq ?_
  refine awp_block ?_
  refine awp_seq ?_
  refine awp_region rfl ?_
  refine rwp_det rfl rfl (det_index_sl rfl el104 rfl rfl (by omega) (getm (by assumption))) ?_
  refine rwp_det rfl rfl (det_load_agg rfl agg29 rfl ptr_imm rfl) ?_
  refine rwp_op rfl rfl (ope_allocN [none, some 2] rfl zr29 rfl) ?_
  rintro _ _ ⟨b2, rfl, rfl⟩
  refine rwp_det0 rfl rfl (det_store rfl sz29 rfl rfl rfl (st_row 0 rfl rfl)) ?_
  refine rwp_nil ?_
  refine awp_region rfl ?_
  refine rwp_det rfl rfl (det_move rfl rfl) ?_
  refine rwp_det rfl rfl (det_load_agg rfl agg29 rfl (ptr_row 0 rfl) rfl) ?_
  refine rwp_det rfl rfl (det_call rfl ok117 (program_copyForm _ (hl0 _ (mem_of_get hx))) ⟨VLe.refl _, rfl, trivial⟩) ?_
  refine rwp_det rfl rfl (det_bslice rfl el104 zr29 rfl rfl rfl rfl) ?_
  refine rwp_op rfl rfl (ope_append 1 rfl el104 rfl rfl rfl (by first | omega | (simp only [List.length_take, List.length_map, List.length_append, List.length_nil, List.length_cons]; omega)) (by first | omega | (simp only [List.length_take, List.length_map, List.length_append, List.length_nil, List.length_cons]; omega))) ?_
  rintro _ _ ⟨sv3, rfl, rfl⟩
  refine rwp_det rfl rfl (det_assign rfl rfl) ?_
  refine rwp_nil ?_
  refine awp_region rfl ?_
  refine rwp_det rfl rfl (det_add_nw rfl rfl rfl ⟨by omega, by omega⟩) ?_
  refine rwp_det rfl rfl (det_move rfl rfl) ?_
  refine rwp_nil ?_
  refine ⟨⟨k + 1, sv3⟩, (by omega), (by show l.length - (k + 1) < l.length - k; omega), Weak.mk [false, true] ⟨VLe.refl _, VLe.refl _, VLe.refl _, VLe.refl _, trivial⟩ (by show _ = [E.vec sv3 _ 2 ((l.take (k + 1)).map Lf.cells)] ++ _; rw [take_next hx, List.map_append]; rfl)⟩
 ·try simp only [sx, List.length_map] at c1
  refine awp_exit ?_
  refine awp_seq ?_
  refine awp_region rfl ?_
  refine rwp_det rfl rfl (det_move rfl rfl) ?_
  refine rwp_det rfl rfl (det_assign rfl rfl) ?_
  refine rwp_nil ?_
  refine awp_ret ?_
  repeat (first | refine thenQ_ret ?_ | refine blockQ_ret ?_)
  refine fin1 (rs_c rfl) ?_
  exact ⟨_, rfl, by rw [take_all (by omega)]; rfl⟩

theorem program_IndexOf_1 (d : Df) (s : ByteArray) :
    Pur cfg 183 [vDf d, .c (.iptr [cS s])] (vB (decide (d.Name = s))) := by
 refine con_intro Tryz.func183 rfl Tryz.ntmps183 Tryz.results183 rfl ?_
 intro z hz
 refine awp_seq ?_
 refine awp_region rfl ?_
 refine rwp_op rfl rfl (ope_box rfl rfl) ?_
 rintro _ _ ⟨b1, rfl, rfl⟩
 refine rwp_det rfl rfl (det_assign rfl rfl) ?_
 refine rwp_nil ?_
 refine awp_seq ?_
 refine awp_region rfl ?_
 refine rwp_det rfl rfl (det_field_lit rfl fd35_0 rfl) ?_
 refine rwp_det rfl rfl (det_load_one rfl one9 rfl (ptr_row 0 rfl) rfl) ?_
 refine rwp_det rfl rfl (det_load_one rfl one9 rfl ptr_imm rfl) ?_
 refine rwp_det rfl rfl (det_seql rfl rfl rfl) ?_
 refine rwp_det rfl rfl (det_assign rfl rfl) ?_
 refine rwp_nil ?_
 refine awp_ret ?_
 repeat (first | refine thenQ_ret ?_ | refine blockQ_ret ?_)
 refine fin1 (rs_c rfl) ?_
 exact rfl

theorem slices_IndexFunc_df (l : List Df) (c : C) (p : Df → Bool) (hl : l.length ≤ 4294967296) (hc : ∀ x, x ∈ l → FnPur cfg c [vDf x] (vB (p x))) :
    Pur cfg 182 [.c (.sl 22 (l.map Df.cells)), .c c] (vI (idxOf p l)) := by
 refine con_intro Tryz.func182 rfl Tryz.ntmps182 Tryz.results182 rfl ?_
 intro z hz
 refine awp_seq ?_
 refine awp_region rfl ?_
 refine rwp_det rfl rfl (det_assign rfl rfl) ?_
 refine rwp_nil ?_
 refine awp_seq ?_
 refine awp_seq ?_
 refine awp_region rfl ?_
 refine rwp_det rfl rfl (det_move rfl rfl) ?_
 refine rwp_det rfl rfl (det_len_slm rfl el45 rfl) ?_
 refine rwp_det rfl rfl (det_move rfl rfl) ?_
 refine rwp_nil ?_
 refine awp_block ?_
 refine awp_weak ⟨[(8, .c _), (0, .c _), (1, .c _), (7, .c _)], []⟩ (Weak.mk [] ⟨VLe.of_eq rfl, VLe.of_eq rfl, VLe.of_eq rfl, VLe.of_eq rfl, trivial⟩ rfl) ?_
 refine awp_loop_k 1 0 rfl rfl (Nat) (fun k => [(8, vI k)]) (fun k => []) (fun k => k ≤ l.length ∧ ((l.take k).any p = false)) (fun k => l.length - k) ⟨0, ⟨by omega, rfl⟩, Weak.mk [] ⟨VLe.refl _, VLe.refl _, VLe.refl _, VLe.refl _, trivial⟩ rfl⟩ ?_
 rintro k ⟨hk, hp⟩
 refine awp_seq ?_
 refine awp_region rfl ?_
 refine rwp_det rfl rfl (det_lss rfl rfl rfl) ?_
 refine rwp_nil ?_
 refine awp_seq ?_
 refine awp_cond rfl (fun c1 => ?_) (fun c1 => ?_)
 ·try simp only [sx, List.length_map] at c1
  obtain ⟨x, hx⟩ := ex_get l k (by omega)
  refine awp_skip ?_
  refine awp_seq ?_
  refine awp_block ?_
  refine awp_seq ?_
  refine awp_region rfl ?_
  refine rwp_det rfl rfl (det_move rfl rfl) ?_
  refine rwp_det rfl rfl (det_assign rfl rfl) ?_
  refine rwp_nil ?_
  refine awp_seq ?_
  refine awp_region rfl ?_
  refine rwp_det rfl rfl (det_move rfl rfl) ?_
  refine rwp_det rfl rfl (det_move rfl rfl) ?_
  refine rwp_det rfl rfl (det_move rfl rfl) ?_
  refine rwp_det rfl rfl (det_index_sl rfl el45 rfl rfl (by omega) (getm (by assumption))) ?_
  refine rwp_det rfl rfl (det_load_agg rfl agg35 rfl ptr_imm rfl) ?_
  refine rwp_det rfl rfl (det_call_val rfl rfl (hc _ (mem_of_get hx)) ⟨VLe.refl _, rfl, trivial⟩) ?_
  refine rwp_nil ?_
  refine awp_cond rfl (fun c2 => ?_) (fun c2 => ?_)
  ·try simp only [sx, List.length_map] at c2
   refine awp_seq ?_
   refine awp_region rfl ?_
   refine rwp_det rfl rfl (det_move rfl rfl) ?_
   refine rwp_det rfl rfl (det_assign rfl rfl) ?_
   refine rwp_nil ?_
   refine awp_ret ?_
   repeat (first | refine thenQ_ret ?_ | refine blockQ_ret ?_)
   refine fin1 (rs_c rfl) ?_
   rw [idxOf_at hx c2 hp]
  ·try simp only [sx, List.length_map] at c2
   refine awp_skip ?_
   refine awp_region rfl ?_
   refine rwp_det rfl rfl (det_add_nw rfl rfl rfl ⟨by omega, by omega⟩) ?_
   refine rwp_det rfl rfl (det_move rfl rfl) ?_
   refine rwp_nil ?_
   refine ⟨k + 1, ⟨by omega, any_next hx hp c2⟩, (by omega), Weak.mk [] ⟨VLe.refl _, VLe.refl _, VLe.refl _, VLe.refl _, trivial⟩ rfl⟩
 ·try simp only [sx, List.length_map] at c1
  refine awp_exit ?_
  refine awp_seq ?_
  refine awp_region rfl ?_
  refine rwp_det rfl rfl (det_assign rfl rfl) ?_
  refine rwp_nil ?_
  refine awp_ret ?_
  repeat (first | refine thenQ_ret ?_ | refine blockQ_ret ?_)
  refine fin1 (rs_c rfl) ?_
  rw [idxOf_none (by rw [take_all (by omega)] at hp; exact hp)]

theorem program_IndexOf (p : Pg) (s : ByteArray) (hd : p.Defs.length ≤ 4294967296) :
    Pur cfg 113 [vPg p, vS s] (vI (defOf s p.Defs)) := by
 refine con_intro Tryz.func113 rfl Tryz.ntmps113 Tryz.results113 rfl ?_
 intro z hz
 refine awp_seq ?_
 refine awp_region rfl ?_
 refine rwp_op rfl rfl (ope_box rfl rfl) ?_
 rintro _ _ ⟨b1, rfl, rfl⟩
 refine rwp_op rfl rfl (ope_box rfl rfl) ?_
 rintro _ _ ⟨b2, rfl, rfl⟩
 refine rwp_det rfl rfl (det_assign rfl rfl) ?_
 refine rwp_nil ?_
 refine awp_seq ?_
 refine awp_region rfl ?_
 refine rwp_det rfl rfl (det_field_lit rfl fd47_3 rfl) ?_
 refine rwp_det rfl rfl (det_load_one rfl one45 rfl (ptr_row 1 rfl) rfl) ?_
 refine rwp_det rfl rfl (det_func rfl rfl rfl rfl rfl) ?_
 refine rwp_weak _ (weak_freeze_row 0 rfl 7 (.c (.fn _ _ [_])) (PLe.fn ⟨.inr ⟨rfl, rfl⟩, trivial⟩)) ?_
 refine rwp_det rfl rfl (det_call rfl ok182 (slices_IndexFunc_df p.Defs _ (fun d => decide (d.Name = s)) hd (fun x _ => FnPur.of_pur (first := []) (cap := [.iptr [cS s]]) ok183 (program_IndexOf_1 x s))) ⟨VLe.refl _, rfl, VLe.refl _, rfl, trivial⟩) ?_
 refine rwp_det rfl rfl (det_assign rfl rfl) ?_
 refine rwp_nil ?_
 refine awp_ret ?_
 repeat (first | refine thenQ_ret ?_ | refine blockQ_ret ?_)
 refine fin1 (rs_c rfl) ?_
 exact rfl

end Go.W
