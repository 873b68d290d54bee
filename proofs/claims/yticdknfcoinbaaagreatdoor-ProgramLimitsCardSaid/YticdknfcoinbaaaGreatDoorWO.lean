/-
  Walks: what functions of the program compute. Printed by wip/gen/mk2.py.
  Conditions: none.
-/
import Derived.Test.YticdknfcoinbaaaGreatDoorWN
import Derived.Test.YticdknfcoinbaaaGreatDoorEngZ
set_option linter.unusedSimpArgs false
set_option linter.unusedVariables false
namespace Go.W
open Go Go.Eng Go.Proofs Go.L41 Go.Br
attribute [local irreducible] AWP RWP TD
theorem ok23 : callOk Tryz.prog 23 = true := by kernel_rfl
theorem ok59 : callOk Tryz.prog 59 = true := by kernel_rfl
theorem ok111 : callOk Tryz.prog 111 = true := by kernel_rfl
theorem ok124 : callOk Tryz.prog 124 = true := by kernel_rfl
theorem ok125 : callOk Tryz.prog 125 = true := by kernel_rfl
theorem ref17_Find (p : Pg) (s : ByteArray) (hP : p.Ok) :
    Pur cfg 23 [vPg p, vS s] (.tup [vTy (p.en.find s).ty, vLins (p.en.find s).dims, vB (p.en.find s).ok]) := by
 refine con_intro Tryz.func23 rfl Tryz.ntmps23 Tryz.results23 rfl ?_
 intro z hz
 have hpl := hP.params
 have hpd := hP.defs
 refine awp_seq ?_
 refine awp_region rfl ?_
 refine rwp_op rfl rfl (ope_box rfl rfl) ?_
 rintro _ _ ⟨b1, rfl, rfl⟩
 refine rwp_op rfl rfl (ope_alloc rfl zr39) ?_
 rintro _ _ ⟨b2, rfl, rfl⟩
 refine rwp_det rfl rfl (det_assignN 2 rfl rfl) ?_
 refine rwp_det rfl rfl (det_assign rfl rfl) ?_
 refine rwp_nil ?_
 refine awp_seq ?_
 refine awp_seq ?_
 refine awp_region rfl ?_
 refine rwp_det rfl rfl (det_assign rfl rfl) ?_
 refine rwp_nil ?_
 refine awp_block ?_
 refine awp_weak ⟨[(7, .c _), (1, .c _), (2, .c _), (4, .c _)], [_, _]⟩ (Weak.mk [true, true] ⟨VLe.of_eq rfl, VLe.of_eq rfl, VLe.of_eq rfl, VLe.of_eq rfl, trivial⟩ rfl) ?_
 refine awp_loop_k 1 0 rfl rfl (Nat) (fun k => [(7, vI k)]) (fun k => []) (fun k => k ≤ p.Params.length ∧ (findP s p.Defs p.Params = findP s p.Defs (p.Params.drop k))) (fun k => p.Params.length - k) ⟨0, ⟨by omega, rfl⟩, Weak.mk [true, true] ⟨VLe.refl _, VLe.refl _, VLe.refl _, VLe.refl _, trivial⟩ rfl⟩ ?_
 rintro k ⟨hk, hp⟩
 refine awp_seq ?_
 refine awp_seq ?_
 refine awp_region rfl ?_
 refine rwp_det rfl rfl (det_move rfl rfl) ?_
 refine rwp_det rfl rfl (det_field_lit rfl fd27_2 rfl) ?_
 refine rwp_det rfl rfl (det_load_one rfl one24 rfl (ptr_row 1 rfl) rfl) ?_
 refine rwp_det rfl rfl (det_len_slm rfl el24 rfl) ?_
 refine rwp_det rfl rfl (det_lss rfl rfl rfl) ?_
 refine rwp_nil ?_
 refine awp_cond rfl (fun c1 => ?_) (fun c1 => ?_)
 ·try simp only [sx, List.length_map] at c1
  obtain ⟨x, hx⟩ := ex_get p.Params k (by omega)
  refine awp_skip ?_
  refine awp_seq ?_
  refine awp_block ?_
  refine awp_seq ?_
  refine awp_region rfl ?_
  refine rwp_det rfl rfl (det_field_lit rfl fd27_2 rfl) ?_
  refine rwp_det rfl rfl (det_load_one rfl one24 rfl (ptr_row 1 rfl) rfl) ?_
  refine rwp_det rfl rfl (det_move rfl rfl) ?_
  refine rwp_det rfl rfl (det_index_sl rfl el24 rfl rfl (by omega) (getm (by assumption))) ?_
  refine rwp_det rfl rfl (det_field_imm rfl fd77_0 rfl) ?_
  refine rwp_det rfl rfl (det_load_one rfl one9 rfl ptr_imm rfl) ?_
  refine rwp_det rfl rfl (det_move rfl rfl) ?_
  refine rwp_det rfl rfl (det_seql rfl rfl rfl) ?_
  refine rwp_nil ?_
  refine awp_cond rfl (fun c2 => ?_) (fun c2 => ?_)
  ·try simp only [sx, List.length_map] at c2
   refine awp_seq ?_
   refine awp_draw_c 13 0 [⟨0, .q []⟩, ⟨1, .q [1]⟩, ⟨2, .q []⟩, ⟨3, .q []⟩, ⟨4, .q []⟩, ⟨5, .q []⟩, ⟨6, .q []⟩, ⟨7, .q [1]⟩, ⟨8, .q []⟩, ⟨9, .q []⟩, ⟨10, .q []⟩, ⟨11, .q []⟩, ⟨12, .e 0 []⟩] mixed (by kernel_rfl) (by kernel_rfl) rfl rfl rfl ?_
   refine fx_skip rfl ?_
   refine fx_skip rfl ?_
   refine fx_skip rfl ?_
   refine fx_skip rfl ?_
   refine fx_skip rfl ?_
   refine fx_skip rfl ?_
   refine fx_skip rfl ?_
   refine fx_skip rfl ?_
   refine fx_skip rfl ?_
   refine fx_skip rfl ?_
   refine fx_skip rfl ?_
   refine fx_skip rfl ?_
   refine fx_skip rfl ?_
   refine fx_nil ?_
   refine sq_det rfl (by decide) rfl rfl (det_field_lit rfl fd27_2 rfl) ?_
   refine sq_det rfl (by decide) rfl rfl (det_load_one rfl one24 rfl (ptr_row 0 rfl) rfl) ?_
   refine sq_det rfl (by decide) rfl rfl (det_move rfl rfl) ?_
   refine sq_det rfl (by decide) rfl rfl (det_index_sl rfl el24 rfl rfl (by omega) (getm (by assumption))) ?_
   refine sq_det rfl (by decide) rfl rfl (det_field_imm rfl fd77_1 rfl) ?_
   refine sq_det rfl (by decide) rfl rfl (det_load_agg rfl agg39 rfl ptr_imm rfl) ?_
   refine sq_det rfl (by decide) rfl rfl (det_field_lit rfl fd27_2 rfl) ?_
   refine sq_det rfl (by decide) rfl rfl (det_load_one rfl one24 rfl (ptr_row 0 rfl) rfl) ?_
   refine sq_det rfl (by decide) rfl rfl (det_move rfl rfl) ?_
   refine sq_det rfl (by decide) rfl rfl (det_index_sl rfl el24 rfl rfl (by omega) (getm (by assumption))) ?_
   refine sq_det rfl (by decide) rfl rfl (det_field_imm rfl fd77_2 rfl) ?_
   refine sq_det rfl (by decide) rfl rfl (det_load_one rfl one54 rfl ptr_imm rfl) ?_
   refine sq_op0 rfl rfl (by decide) rfl rfl (det_store rfl sz39 rfl rfl rfl (st_row 0 rfl rfl)) ?_
   rintro _ _ ⟨rfl, rfl⟩
   refine ⟨_, rfl, ?_⟩
   refine sq_nil rfl ?_
   refine rwp_det rfl rfl (det_assign rfl rfl) ?_
   refine rwp_det rfl rfl (det_assign rfl rfl) ?_
   refine rwp_nil ?_
   refine awp_ret ?_
   repeat (first | refine thenQ_ret ?_ | refine blockQ_ret ?_)
   refine fin3 (rs_cell_agg agg39 rfl (ptr_row 0 rfl) rfl) (rs_c rfl) (rs_c rfl) ?_
   rw [En.find, show p.en.pm = p.Params from rfl, show p.en.df = p.Defs from rfl, hp, find_at hx c2]; rfl
  ·try simp only [sx, List.length_map] at c2
   refine awp_skip ?_
   refine awp_region rfl ?_
   refine rwp_det rfl rfl (det_move rfl rfl) ?_
   refine rwp_det rfl rfl (det_add_nw rfl rfl rfl ⟨by omega, by omega⟩) ?_
   refine rwp_det rfl rfl (det_assign rfl rfl) ?_
   refine rwp_nil ?_
   refine ⟨k + 1, ⟨by omega, hp.trans (find_next hx c2)⟩, (by omega), Weak.mk [true, true] ⟨VLe.refl _, VLe.refl _, VLe.refl _, VLe.refl _, trivial⟩ rfl⟩
 ·try simp only [sx, List.length_map] at c1
  have hF : p.en.find s = findD s p.Defs := by rw [En.find, show p.en.pm = p.Params from rfl, show p.en.df = p.Defs from rfl, hp, drop_all (by omega)]; rfl
  refine awp_exit ?_
  refine awp_seq ?_
  refine awp_seq ?_
  refine awp_region rfl ?_
  refine rwp_det rfl rfl (det_assign rfl rfl) ?_
  refine rwp_nil ?_
  refine awp_block ?_
  refine awp_weak ⟨[(8, .c _), (1, .c _), (2, .c _), (4, .c _)], [_, _]⟩ (Weak.mk [true, true] ⟨VLe.of_eq rfl, VLe.of_eq rfl, VLe.of_eq rfl, VLe.of_eq rfl, trivial⟩ rfl) ?_
  refine awp_loop_k 1 0 rfl rfl (Nat) (fun k => [(8, vI k)]) (fun k => []) (fun k => k ≤ p.Defs.length ∧ (findD s p.Defs = findD s (p.Defs.drop k))) (fun k => p.Defs.length - k) ⟨0, ⟨by omega, rfl⟩, Weak.mk [true, true] ⟨VLe.refl _, VLe.refl _, VLe.refl _, VLe.refl _, trivial⟩ rfl⟩ ?_
  rintro k ⟨hk, hq⟩
  refine awp_seq ?_
  refine awp_seq ?_
  refine awp_region rfl ?_
  refine rwp_det rfl rfl (det_move rfl rfl) ?_
  refine rwp_det rfl rfl (det_field_lit rfl fd27_3 rfl) ?_
  refine rwp_det rfl rfl (det_load_one rfl one25 rfl (ptr_row 1 rfl) rfl) ?_
  refine rwp_det rfl rfl (det_len_slm rfl el25 rfl) ?_
  refine rwp_det rfl rfl (det_lss rfl rfl rfl) ?_
  refine rwp_nil ?_
  refine awp_cond rfl (fun c3 => ?_) (fun c3 => ?_)
  ·try simp only [sx, List.length_map] at c3
   obtain ⟨d, hd⟩ := ex_get p.Defs k (by omega)
   refine awp_skip ?_
   refine awp_seq ?_
   refine awp_block ?_
   refine awp_seq ?_
   refine awp_region rfl ?_
   refine rwp_det rfl rfl (det_field_lit rfl fd27_3 rfl) ?_
   refine rwp_det rfl rfl (det_load_one rfl one25 rfl (ptr_row 1 rfl) rfl) ?_
   refine rwp_det rfl rfl (det_move rfl rfl) ?_
   refine rwp_det rfl rfl (det_index_sl rfl el25 rfl rfl (by omega) (getm (by assumption))) ?_
   refine rwp_det rfl rfl (det_field_imm rfl fd63_0 rfl) ?_
   refine rwp_det rfl rfl (det_load_one rfl one9 rfl ptr_imm rfl) ?_
   refine rwp_det rfl rfl (det_move rfl rfl) ?_
   refine rwp_det rfl rfl (det_seql rfl rfl rfl) ?_
   refine rwp_nil ?_
   refine awp_cond rfl (fun c4 => ?_) (fun c4 => ?_)
   ·try simp only [sx, List.length_map] at c4
    have hdd := (hP.ds d (mem_of_get hd)).1
    refine awp_seq ?_
    refine awp_region rfl ?_
    refine rwp_det rfl rfl (det_assign rfl rfl) ?_
    refine rwp_weak _ (weak_own 42 2) ?_
    refine rwp_nil ?_
    refine awp_seq ?_
    refine awp_seq ?_
    refine awp_region rfl ?_
    refine rwp_det rfl rfl (det_assign rfl rfl) ?_
    refine rwp_nil ?_
    refine awp_block ?_
    refine awp_weak ⟨[(10, .c _), (9, .c _), (2, .c _), (4, .c _), (8, .c _)], [_, _, _]⟩ (Weak.mk [true, true, true] ⟨VLe.of_eq rfl, VLe.of_eq rfl, VLe.of_eq rfl, VLe.of_eq rfl, VLe.of_eq rfl, trivial⟩ rfl) ?_
    refine awp_loop_k 2 1 rfl rfl (Nat × Value) (fun ⟨j, sv⟩ => [(10, vI j), (9, .c (.lit sv))]) (fun ⟨j, sv⟩ => [E.vec sv 42 2 ((d.Dims.take j).map fun a => a.Size.cells)]) (fun ⟨j, sv⟩ => j ≤ d.Dims.length) (fun ⟨j, sv⟩ => d.Dims.length - j) ⟨⟨0, (.slice none 0 0)⟩, (by omega), Weak.mk [true, true, true] ⟨VLe.refl _, VLe.refl _, VLe.refl _, VLe.refl _, VLe.refl _, trivial⟩ rfl⟩ ?_
    rintro ⟨j, sv⟩ hj
    show AWP _ _ _ _ _ ⟨[(10, vI j), (9, .c (.lit sv))] ++ _, [E.vec sv 42 2 ((d.Dims.take j).map fun a => a.Size.cells)] ++ _⟩
    refine awp_seq ?_
    refine awp_seq ?_
    refine awp_region rfl ?_
    refine rwp_det rfl rfl (det_move rfl rfl) ?_
    refine rwp_det rfl rfl (det_field_lit rfl fd27_3 rfl) ?_
    refine rwp_det rfl rfl (det_load_one rfl one25 rfl (ptr_row 2 rfl) rfl) ?_
    refine rwp_det rfl rfl (det_move rfl rfl) ?_
    refine rwp_det rfl rfl (det_index_sl rfl el25 rfl rfl (by omega) (getm (by assumption))) ?_
    refine rwp_det rfl rfl (det_field_imm rfl fd63_2 rfl) ?_
    refine rwp_det rfl rfl (det_load_one rfl one61 rfl ptr_imm rfl) ?_
    refine rwp_det rfl rfl (det_len_slm rfl el61 rfl) ?_
    refine rwp_det rfl rfl (det_lss rfl rfl rfl) ?_
    refine rwp_nil ?_
    refine awp_cond rfl (fun c5 => ?_) (fun c5 => ?_)
    ·try simp only [sx, List.length_map] at c5
     obtain ⟨a, ha⟩ := ex_get d.Dims j (by omega)
     refine awp_skip ?_
     refine awp_seq ?_
     refine awp_block ?_
     refine awp_region rfl ?_
     refine rwp_det rfl rfl (det_move rfl rfl) ?_
     refine rwp_det rfl rfl (det_field_lit rfl fd27_3 rfl) ?_
     refine rwp_det rfl rfl (det_load_one rfl one25 rfl (ptr_row 2 rfl) rfl) ?_
     refine rwp_det rfl rfl (det_move rfl rfl) ?_
     refine rwp_det rfl rfl (det_index_sl rfl el25 rfl rfl (by omega) (getm (by assumption))) ?_
     refine rwp_det rfl rfl (det_field_imm rfl fd63_2 rfl) ?_
     refine rwp_det rfl rfl (det_load_one rfl one61 rfl ptr_imm rfl) ?_
     refine rwp_det rfl rfl (det_move rfl rfl) ?_
     refine rwp_det rfl rfl (det_index_sl rfl el61 rfl rfl (by omega) (getm (by assumption))) ?_
     refine rwp_det rfl rfl (det_field_imm rfl fd80_1 rfl) ?_
     refine rwp_det rfl rfl (det_load_agg rfl agg42 rfl ptr_imm rfl) ?_
     refine rwp_det rfl rfl (det_bslice rfl el54 zr42 rfl rfl rfl rfl) ?_
     refine rwp_op rfl rfl (ope_append 0 rfl el54 rfl rfl rfl (by simp only [List.length_take, List.length_map, List.length_cons, List.length_nil]; omega) (by simp only [List.length_take, List.length_map, List.length_cons, List.length_nil]; omega)) ?_
     rintro _ _ ⟨sv4, rfl, rfl⟩
     refine rwp_det rfl rfl (det_assign rfl rfl) ?_
     refine rwp_nil ?_
     refine awp_region rfl ?_
     refine rwp_det rfl rfl (det_move rfl rfl) ?_
     refine rwp_det rfl rfl (det_add_nw rfl rfl rfl ⟨by omega, by omega⟩) ?_
     refine rwp_det rfl rfl (det_assign rfl rfl) ?_
     refine rwp_nil ?_
     refine ⟨⟨j + 1, sv4⟩, (by omega), (by show d.Dims.length - (j + 1) < d.Dims.length - j; omega), Weak.mk [true, true, true] ⟨VLe.refl _, VLe.refl _, VLe.refl _, VLe.refl _, VLe.refl _, trivial⟩ (by show _ = [E.vec sv4 _ 2 ((d.Dims.take (j + 1)).map fun a => a.Size.cells)] ++ _; rw [take_next ha, List.map_append (f := fun a : Ax => a.Size.cells)]; rfl)⟩
    ·try simp only [sx, List.length_map] at c5
     refine awp_exit ?_
     refine awp_seq ?_
     refine awp_region rfl ?_
     refine rwp_det rfl rfl (det_field_lit rfl fd27_3 rfl) ?_
     refine rwp_det rfl rfl (det_load_one rfl one25 rfl (ptr_row 2 rfl) rfl) ?_
     refine rwp_det rfl rfl (det_move rfl rfl) ?_
     refine rwp_det rfl rfl (det_index_sl rfl el25 rfl rfl (by omega) (getm (by assumption))) ?_
     refine rwp_det rfl rfl (det_field_imm rfl fd63_1 rfl) ?_
     refine rwp_det rfl rfl (det_load_agg rfl agg39 rfl ptr_imm rfl) ?_
     refine rwp_det rfl rfl (det_move rfl rfl) ?_
     refine rwp_det0 rfl rfl (det_store rfl sz39 rfl rfl rfl (st_row 1 rfl rfl)) ?_
     refine rwp_det rfl rfl (det_assign rfl rfl) ?_
     refine rwp_det rfl rfl (det_assign rfl rfl) ?_
     refine rwp_nil ?_
     refine awp_weak _ (weak_freezeM 0 rfl (regs' := [(9, _), (83, _), (5, _)]) (μ' := [_, _]) ⟨FLe.sl, FLe.sl, FLe.sl, trivial⟩ ⟨EFle.refl _, EFle.refl _, trivial⟩) ?_
     refine awp_ret ?_
     repeat (first | refine thenQ_ret ?_ | refine blockQ_ret ?_)
     refine fin3 (rs_cell_agg agg39 rfl (ptr_row 0 rfl) rfl) (rs_c rfl) (rs_c rfl) ?_
     rw [hF, hq, findD_at hd c4, take_all (l := d.Dims) (k := j) (by omega)]; simp only [vLins, List.map_map]; rfl
   ·try simp only [sx, List.length_map] at c4
    refine awp_skip ?_
    refine awp_region rfl ?_
    refine rwp_det rfl rfl (det_move rfl rfl) ?_
    refine rwp_det rfl rfl (det_add_nw rfl rfl rfl ⟨by omega, by omega⟩) ?_
    refine rwp_det rfl rfl (det_assign rfl rfl) ?_
    refine rwp_nil ?_
    refine ⟨k + 1, ⟨by omega, hq.trans (findD_next hd c4)⟩, (by omega), Weak.mk [true, true] ⟨VLe.refl _, VLe.refl _, VLe.refl _, VLe.refl _, trivial⟩ rfl⟩
  ·try simp only [sx, List.length_map] at c3
   refine awp_exit ?_
   refine awp_seq ?_
   refine awp_region rfl ?_
   refine rwp_det rfl rfl (det_build rfl zr39 pl39 rfl) ?_
   refine rwp_det0 rfl rfl (det_store rfl sz39 rfl rfl rfl (st_row 0 rfl rfl)) ?_
   refine rwp_det rfl rfl (det_assignN 2 rfl rfl) ?_
   refine rwp_det rfl rfl (det_assign rfl rfl) ?_
   refine rwp_nil ?_
   refine awp_ret ?_
   repeat (first | refine thenQ_ret ?_ | refine blockQ_ret ?_)
   refine fin3 (rs_cell_agg agg39 rfl (ptr_row 0 rfl) rfl) (rs_c rfl) (rs_c rfl) ?_
   rw [hF, hq, drop_all (l := p.Defs) (by omega)]; rfl

theorem ref17_IndexNames (d : Df) (hD : d.Dims.length ≤ 1073741824) (hR : d.Red.length ≤ 1073741824) :
    OwnR cfg 29 [vDf d] 9 1 ((namesD d).map fun s => [cS s]) := by
 refine con_intro Tryz.func29 rfl Tryz.ntmps29 Tryz.results29 rfl ?_
 intro z hz
 refine awp_seq ?_
 refine awp_region rfl ?_
 refine rwp_op rfl rfl (ope_box rfl rfl) ?_
 rintro _ _ ⟨b1, rfl, rfl⟩
 refine rwp_det rfl rfl (det_assignN 1 rfl rfl) ?_
 refine rwp_nil ?_
 refine awp_seq ?_
 refine awp_region rfl ?_
 refine rwp_det rfl rfl (det_assign rfl rfl) ?_
 refine rwp_weak _ (weak_own 9 1) ?_
 refine rwp_nil ?_
 refine awp_seq ?_
 refine awp_seq ?_
 refine awp_region rfl ?_
 refine rwp_det rfl rfl (det_assign rfl rfl) ?_
 refine rwp_nil ?_
 refine awp_block ?_
 refine awp_weak ⟨[(4, .c _), (3, .c _), (1, .c _)], [_, _]⟩ (Weak.mk [true, true] ⟨VLe.of_eq rfl, VLe.of_eq rfl, VLe.of_eq rfl, trivial⟩ rfl) ?_
 refine awp_loop_k 2 1 rfl rfl (Nat × Value) (fun ⟨k, sv⟩ => [(4, vI k), (3, .c (.lit sv))]) (fun ⟨k, sv⟩ => [E.vec sv 9 1 ((d.Dims.take k).map fun a => [cS a.Name])]) (fun ⟨k, sv⟩ => k ≤ d.Dims.length) (fun ⟨k, sv⟩ => d.Dims.length - k) ⟨⟨0, (.slice none 0 0)⟩, (by omega), Weak.mk [true, true] ⟨VLe.refl _, VLe.refl _, VLe.refl _, trivial⟩ rfl⟩ ?_
 rintro ⟨k, sv⟩ hk
 show AWP _ _ _ _ _ ⟨[(4, vI k), (3, .c (.lit sv))] ++ _, [E.vec sv 9 1 ((d.Dims.take k).map fun a => [cS a.Name])] ++ _⟩
 refine awp_seq ?_
 refine awp_seq ?_
 refine awp_region rfl ?_
 refine rwp_det rfl rfl (det_move rfl rfl) ?_
 refine rwp_det rfl rfl (det_field_lit rfl fd63_2 rfl) ?_
 refine rwp_det rfl rfl (det_load_one rfl one61 rfl (ptr_row 1 rfl) rfl) ?_
 refine rwp_det rfl rfl (det_len_slm rfl el61 rfl) ?_
 refine rwp_det rfl rfl (det_lss rfl rfl rfl) ?_
 refine rwp_nil ?_
 refine awp_cond rfl (fun c1 => ?_) (fun c1 => ?_)
 ·try simp only [sx, List.length_map] at c1
  obtain ⟨x, hx⟩ := ex_get d.Dims k (by omega)
  refine awp_skip ?_
  refine awp_seq ?_
  refine awp_block ?_
  refine awp_region rfl ?_
  refine rwp_det rfl rfl (det_move rfl rfl) ?_
  refine rwp_det rfl rfl (det_field_lit rfl fd63_2 rfl) ?_
  refine rwp_det rfl rfl (det_load_one rfl one61 rfl (ptr_row 1 rfl) rfl) ?_
  refine rwp_det rfl rfl (det_move rfl rfl) ?_
  refine rwp_det rfl rfl (det_index_sl rfl el61 rfl rfl (by omega) (getm (by assumption))) ?_
  refine rwp_det rfl rfl (det_field_imm rfl fd80_0 rfl) ?_
  refine rwp_det rfl rfl (det_load_one rfl one9 rfl ptr_imm rfl) ?_
  refine rwp_det rfl rfl (det_bslice rfl el22 zr9 rfl rfl rfl rfl) ?_
  refine rwp_op rfl rfl (ope_append 0 rfl el22 rfl rfl rfl (by simp only [List.length_append, List.length_take, List.length_map, List.length_cons, List.length_nil]; omega) (by simp only [List.length_append, List.length_take, List.length_map, List.length_cons, List.length_nil]; omega)) ?_
  rintro _ _ ⟨sv3, rfl, rfl⟩
  refine rwp_det rfl rfl (det_assign rfl rfl) ?_
  refine rwp_nil ?_
  refine awp_region rfl ?_
  refine rwp_det rfl rfl (det_move rfl rfl) ?_
  refine rwp_det rfl rfl (det_add_nw rfl rfl rfl ⟨by omega, by omega⟩) ?_
  refine rwp_det rfl rfl (det_assign rfl rfl) ?_
  refine rwp_nil ?_
  refine ⟨⟨k + 1, sv3⟩, (by omega), (by show d.Dims.length - (k + 1) < d.Dims.length - k; omega), Weak.mk [true, true] ⟨VLe.refl _, VLe.refl _, VLe.refl _, trivial⟩ (by show _ = [E.vec sv3 _ 1 ((d.Dims.take (k + 1)).map fun a => [cS a.Name])] ++ _; rw [take_next hx, List.map_append (f := fun a : Ax => [cS a.Name])]; rfl)⟩
 ·try simp only [sx, List.length_map] at c1
  refine awp_exit ?_
  refine awp_seq ?_
  refine awp_seq ?_
  refine awp_region rfl ?_
  refine rwp_det rfl rfl (det_assign rfl rfl) ?_
  refine rwp_nil ?_
  refine awp_block ?_
  refine awp_weak ⟨[(5, .c _), (3, .c _), (1, .c _)], [_, _]⟩ (Weak.mk [true, true] ⟨VLe.of_eq rfl, VLe.of_eq rfl, VLe.of_eq rfl, trivial⟩ rfl) ?_
  refine awp_loop_k 2 1 rfl rfl (Nat × Value) (fun ⟨k, sw⟩ => [(5, vI k), (3, .c (.lit sw))]) (fun ⟨k, sw⟩ => [E.vec sw 9 1 ((d.Dims.map fun a => [cS a.Name]) ++ (d.Red.take k).map fun a => [cS a.Name])]) (fun ⟨k, sw⟩ => k ≤ d.Red.length) (fun ⟨k, sw⟩ => d.Red.length - k) ⟨⟨0, sv⟩, (by omega), Weak.mk [true, true] ⟨VLe.refl _, VLe.refl _, VLe.refl _, trivial⟩ (by show _ = [E.vec sv _ 1 ((d.Dims.map fun a => [cS a.Name]) ++ [])] ++ _; rw [take_all (l := d.Dims) (by omega), List.append_nil]; rfl)⟩ ?_
  rintro ⟨k, sw⟩ hk2
  show AWP _ _ _ _ _ ⟨[(5, vI k), (3, .c (.lit sw))] ++ _, [E.vec sw 9 1 ((d.Dims.map fun a => [cS a.Name]) ++ (d.Red.take k).map fun a => [cS a.Name])] ++ _⟩
  refine awp_seq ?_
  refine awp_seq ?_
  refine awp_region rfl ?_
  refine rwp_det rfl rfl (det_move rfl rfl) ?_
  refine rwp_det rfl rfl (det_field_lit rfl fd63_3 rfl) ?_
  refine rwp_det rfl rfl (det_load_one rfl one61 rfl (ptr_row 1 rfl) rfl) ?_
  refine rwp_det rfl rfl (det_len_slm rfl el61 rfl) ?_
  refine rwp_det rfl rfl (det_lss rfl rfl rfl) ?_
  refine rwp_nil ?_
  refine awp_cond rfl (fun c2 => ?_) (fun c2 => ?_)
  ·try simp only [sx, List.length_map] at c2
   obtain ⟨x, hx⟩ := ex_get d.Red k (by omega)
   refine awp_skip ?_
   refine awp_seq ?_
   refine awp_block ?_
   refine awp_region rfl ?_
   refine rwp_det rfl rfl (det_move rfl rfl) ?_
   refine rwp_det rfl rfl (det_field_lit rfl fd63_3 rfl) ?_
   refine rwp_det rfl rfl (det_load_one rfl one61 rfl (ptr_row 1 rfl) rfl) ?_
   refine rwp_det rfl rfl (det_move rfl rfl) ?_
   refine rwp_det rfl rfl (det_index_sl rfl el61 rfl rfl (by omega) (getm (by assumption))) ?_
   refine rwp_det rfl rfl (det_field_imm rfl fd80_0 rfl) ?_
   refine rwp_det rfl rfl (det_load_one rfl one9 rfl ptr_imm rfl) ?_
   refine rwp_det rfl rfl (det_bslice rfl el22 zr9 rfl rfl rfl rfl) ?_
   refine rwp_op rfl rfl (ope_append 0 rfl el22 rfl rfl rfl (by simp only [List.length_append, List.length_take, List.length_map, List.length_cons, List.length_nil]; omega) (by simp only [List.length_append, List.length_take, List.length_map, List.length_cons, List.length_nil]; omega)) ?_
   rintro _ _ ⟨sv4, rfl, rfl⟩
   refine rwp_det rfl rfl (det_assign rfl rfl) ?_
   refine rwp_nil ?_
   refine awp_region rfl ?_
   refine rwp_det rfl rfl (det_move rfl rfl) ?_
   refine rwp_det rfl rfl (det_add_nw rfl rfl rfl ⟨by omega, by omega⟩) ?_
   refine rwp_det rfl rfl (det_assign rfl rfl) ?_
   refine rwp_nil ?_
   refine ⟨⟨k + 1, sv4⟩, (by omega), (by show d.Red.length - (k + 1) < d.Red.length - k; omega), Weak.mk [true, true] ⟨VLe.refl _, VLe.refl _, VLe.refl _, trivial⟩ (by show _ = [E.vec sv4 _ 1 ((d.Dims.map fun a => [cS a.Name]) ++ (d.Red.take (k + 1)).map fun a => [cS a.Name])] ++ _; rw [take_next hx, List.map_append (f := fun a : Ax => [cS a.Name]), ← List.append_assoc]; rfl)⟩
  ·try simp only [sx, List.length_map] at c2
   refine awp_exit ?_
   refine awp_seq ?_
   refine awp_region rfl ?_
   refine rwp_det rfl rfl (det_move rfl rfl) ?_
   refine rwp_det rfl rfl (det_assign rfl rfl) ?_
   refine rwp_nil ?_
   refine awp_weak _ (Weak.mem [true, false] rfl) ?_
   refine awp_ret ?_
   repeat (first | refine thenQ_ret ?_ | refine blockQ_ret ?_)
   refine fin1 (rs_c rfl) ?_
   exact ⟨_, rfl, by rw [take_all (l := d.Red) (by omega), ← List.map_append (f := fun a : Ax => [cS a.Name]), names_rows]; rfl⟩

theorem ref17_forms (p : Pg) (vars : List ByteArray) (l : List Lf) (hz0 : p.Sizes.length ≤ 4294967296) (hv : vars.length ≤ 4294967296) (hl0 : l.length ≤ 4294967296) (hx0 : ∀ x, x ∈ l → x.L.length ≤ 4294967296) :
    Pur cfg 124 [vPg p, vSs vars, vLins l] (vI (formsK (knB p.Sizes vars) l)) := by
 refine con_intro Tryz.func124 rfl Tryz.ntmps124 Tryz.results124 rfl ?_
 intro z hz
 refine awp_seq ?_
 refine awp_region rfl ?_
 refine rwp_op rfl rfl (ope_box rfl rfl) ?_
 rintro _ _ ⟨b1, rfl, rfl⟩
 refine rwp_det rfl rfl (det_assign rfl rfl) ?_
 refine rwp_nil ?_
 refine awp_seq ?_
 refine awp_seq ?_
 refine awp_region rfl ?_
 refine rwp_det rfl rfl (det_assign rfl rfl) ?_
 refine rwp_nil ?_
 refine awp_block ?_
 refine awp_weak ⟨[(7, .c _), (1, .c _), (2, .c _), (3, .c _)], [_]⟩ (Weak.mk [true] ⟨VLe.of_eq rfl, VLe.of_eq rfl, VLe.of_eq rfl, VLe.of_eq rfl, trivial⟩ rfl) ?_
 refine awp_loop_k 1 0 rfl rfl (Nat) (fun k => [(7, vI k)]) (fun k => []) (fun k => k ≤ l.length ∧ ((l.take k).all (fun x => knL (knB p.Sizes vars) x.L) = true)) (fun k => l.length - k) ⟨0, ⟨by omega, rfl⟩, Weak.mk [true] ⟨VLe.refl _, VLe.refl _, VLe.refl _, VLe.refl _, trivial⟩ rfl⟩ ?_
 rintro k ⟨hk, hp⟩
 refine awp_seq ?_
 refine awp_seq ?_
 refine awp_region rfl ?_
 refine rwp_det rfl rfl (det_move rfl rfl) ?_
 refine rwp_det rfl rfl (det_move rfl rfl) ?_
 refine rwp_det rfl rfl (det_len_slm rfl el54 rfl) ?_
 refine rwp_det rfl rfl (det_lss rfl rfl rfl) ?_
 refine rwp_nil ?_
 refine awp_cond rfl (fun c1 => ?_) (fun c1 => ?_)
 ·try simp only [sx, List.length_map] at c1
  obtain ⟨x, hx⟩ := ex_get l k (by omega)
  refine awp_skip ?_
  refine awp_seq ?_
  refine awp_block ?_
  refine awp_seq ?_
  refine awp_draw 9 mixed (by kernel_rfl) rfl rfl ?_
  refine td_det rfl rfl (det_move rfl rfl) ?_
  refine td_det rfl rfl (det_move rfl rfl) ?_
  refine td_det rfl rfl (det_index_sl rfl el54 rfl rfl (by omega) (getm (by assumption))) ?_
  refine td_det rfl rfl (det_load_agg rfl agg42 rfl ptr_imm rfl) ?_
  refine td_det rfl rfl (det_move rfl rfl) ?_
  refine td_det rfl rfl (det_field_lit rfl fd27_0 rfl) ?_
  refine td_det rfl rfl (det_load_one rfl one22 rfl (ptr_row 0 rfl) rfl) ?_
  refine td_det rfl rfl (det_call rfl ok111 (ref17_known x vars p.Sizes (hx0 x (mem_of_get hx)) hv hz0) ⟨VLe.refl _, rfl, VLe.refl _, rfl, VLe.refl _, rfl, trivial⟩) ?_
  refine td_det rfl rfl (det_not rfl rfl) ?_
  refine td_nil ?_
  refine rwp_nil ?_
  refine awp_cond rfl (fun c2 => ?_) (fun c2 => ?_)
  ·try simp only [sx, List.length_map] at c2
   refine awp_seq ?_
   refine awp_region rfl ?_
   refine rwp_det rfl rfl (det_assign rfl rfl) ?_
   refine rwp_nil ?_
   refine awp_ret ?_
   repeat (first | refine thenQ_ret ?_ | refine blockQ_ret ?_)
   refine fin1 (rs_c rfl) ?_
   rw [formsK_no' hx c2]
  ·try simp only [sx, List.length_map] at c2
   refine awp_skip ?_
   refine awp_region rfl ?_
   refine rwp_det rfl rfl (det_move rfl rfl) ?_
   refine rwp_det rfl rfl (det_add_nw rfl rfl rfl ⟨by omega, by omega⟩) ?_
   refine rwp_det rfl rfl (det_assign rfl rfl) ?_
   refine rwp_nil ?_
   refine ⟨k + 1, ⟨by omega, formsK_next' hx hp c2⟩, (by omega), Weak.mk [true] ⟨VLe.refl _, VLe.refl _, VLe.refl _, VLe.refl _, trivial⟩ rfl⟩
 ·try simp only [sx, List.length_map] at c1
  refine awp_exit ?_
  refine awp_seq ?_
  refine awp_region rfl ?_
  refine rwp_det rfl rfl (det_assign rfl rfl) ?_
  refine rwp_nil ?_
  refine awp_ret ?_
  repeat (first | refine thenQ_ret ?_ | refine blockQ_ret ?_)
  refine fin1 (rs_c rfl) ?_
  rw [take_all (by omega)] at hp; rw [formsK_ok hp]

theorem ref17_read (p : Pg) (vars : List ByteArray) (e : Ex) (hP : p.Ok) (hv : vars.length ≤ 4294967296) (he : e.wt ≤ 4294967296) :
    Pur cfg 125 [vPg p, vSs vars, vE e] (.tup [vTy (readK p.en (knB p.Sizes vars) e).1, vI (readK p.en (knB p.Sizes vars) e).2]) := by
 refine con_intro Tryz.func125 rfl Tryz.ntmps125 Tryz.results125 rfl ?_
 intro z hz
 obtain ⟨hLl, hIl, hAl⟩ := e.parts he
 have hwt := Ex.wt_eq e
 have hz0 := hP.sizes
 refine awp_seq ?_
 refine awp_region rfl ?_
 refine rwp_op rfl rfl (ope_box rfl rfl) ?_
 rintro _ _ ⟨b1, rfl, rfl⟩
 refine rwp_op rfl rfl (ope_box rfl rfl) ?_
 rintro _ _ ⟨b2, rfl, rfl⟩
 refine rwp_op rfl rfl (ope_alloc rfl zr39) ?_
 rintro _ _ ⟨b3, rfl, rfl⟩
 refine rwp_det rfl rfl (det_assign rfl rfl) ?_
 refine rwp_nil ?_
 refine awp_seq ?_
 refine awp_region rfl ?_
 refine rwp_det rfl rfl (det_load_agg rfl agg27 rfl (ptr_row 2 rfl) rfl) ?_
 refine rwp_det rfl rfl (det_field_lit rfl fd46_1 rfl) ?_
 refine rwp_det rfl rfl (det_load_one rfl one9 rfl (ptr_row 1 rfl) rfl) ?_
 refine rwp_det rfl rfl (det_call rfl ok23 (ref17_Find p e.Name hP) ⟨VLe.refl _, rfl, VLe.refl _, rfl, trivial⟩) ?_
 refine rwp_det rfl rfl (det_move_tup rfl rfl) ?_
 refine rwp_det rfl rfl (det_ex_agg rfl rfl rfl) ?_
 refine rwp_det rfl rfl (det_ex_c rfl rfl rfl) ?_
 refine rwp_det rfl rfl (det_ex_c rfl rfl rfl) ?_
 refine rwp_op rfl rfl (ope_alloc rfl zr39) ?_
 rintro _ _ ⟨b4, rfl, rfl⟩
 refine rwp_det0 rfl rfl (det_store rfl sz39 rfl rfl rfl (st_row 0 rfl rfl)) ?_
 refine rwp_det rfl rfl (det_assign rfl rfl) ?_
 refine rwp_det rfl rfl (det_assign rfl rfl) ?_
 refine rwp_nil ?_
 refine awp_seq ?_
 refine awp_seq ?_
 refine awp_region rfl ?_
 refine rwp_det rfl rfl (det_move rfl rfl) ?_
 refine rwp_det rfl rfl (det_not rfl rfl) ?_
 refine rwp_nil ?_
 refine awp_cond rfl (fun c1 => ?_) (fun c1 => ?_)
 ·try simp only [sx, List.length_map] at c1
  refine awp_seq ?_
  refine awp_region rfl ?_
  refine rwp_det rfl rfl (det_build rfl zr39 pl39 rfl) ?_
  refine rwp_det0 rfl rfl (det_store rfl sz39 rfl rfl rfl (st_row 1 rfl rfl)) ?_
  refine rwp_det rfl rfl (det_assign rfl rfl) ?_
  refine rwp_nil ?_
  refine awp_ret ?_
  repeat (first | refine thenQ_ret ?_ | refine blockQ_ret ?_)
  refine fin2 (rs_cell_agg agg39 rfl (ptr_row 1 rfl) rfl) (rs_c rfl) ?_
  rw [readK_9 c1]; rfl
 ·try simp only [sx, List.length_map] at c1
  refine awp_skip ?_
  refine awp_seq ?_
  refine awp_seq ?_
  refine awp_region rfl ?_
  refine rwp_det rfl rfl (det_move rfl rfl) ?_
  refine rwp_det rfl rfl (det_len_slm rfl el54 rfl) ?_
  refine rwp_det rfl rfl (det_field_lit rfl fd46_5 rfl) ?_
  refine rwp_det rfl rfl (det_load_one rfl one43 rfl (ptr_row 2 rfl) rfl) ?_
  refine rwp_det rfl rfl (det_len_slm rfl el43 rfl) ?_
  refine rwp_det rfl rfl (det_neq rfl rfl rfl) ?_
  refine rwp_nil ?_
  refine awp_cond rfl (fun c2 => ?_) (fun c2 => ?_)
  ·try simp only [sx, List.length_map] at c2
   refine awp_seq ?_
   refine awp_region rfl ?_
   refine rwp_det rfl rfl (det_build rfl zr39 pl39 rfl) ?_
   refine rwp_det0 rfl rfl (det_store rfl sz39 rfl rfl rfl (st_row 1 rfl rfl)) ?_
   refine rwp_det rfl rfl (det_assign rfl rfl) ?_
   refine rwp_nil ?_
   refine awp_ret ?_
   repeat (first | refine thenQ_ret ?_ | refine blockQ_ret ?_)
   refine fin2 (rs_cell_agg agg39 rfl (ptr_row 1 rfl) rfl) (rs_c rfl) ?_
   rw [readK_11 c1 (by omega)]; rfl
  ·try simp only [sx, List.length_map] at c2
   refine awp_skip ?_
   refine awp_seq ?_
   refine awp_seq ?_
   refine awp_region rfl ?_
   refine rwp_det rfl rfl (det_assign rfl rfl) ?_
   refine rwp_nil ?_
   refine awp_block ?_
   refine awp_weak ⟨[(11, .c _), (1, .c _), (3, .c _), (5, .c _), (6, .c _), (8, .c _)], [_, _, _, _]⟩ (Weak.mk [true, true, true, true] ⟨VLe.of_eq rfl, VLe.of_eq rfl, VLe.of_eq rfl, VLe.of_eq rfl, VLe.of_eq rfl, VLe.of_eq rfl, trivial⟩ rfl) ?_
   refine awp_loop_k 1 0 rfl rfl (Nat) (fun k => [(11, vI k)]) (fun k => []) (fun k => k ≤ e.Idx.length ∧ (indexL p.en (knB p.Sizes vars) e.Idx = indexL p.en (knB p.Sizes vars) (e.Idx.drop k))) (fun k => e.Idx.length - k) ⟨0, ⟨by omega, rfl⟩, Weak.mk [true, true, true, true] ⟨VLe.refl _, VLe.refl _, VLe.refl _, VLe.refl _, VLe.refl _, VLe.refl _, trivial⟩ rfl⟩ ?_
   rintro k ⟨hk, hp⟩
   refine awp_seq ?_
   refine awp_seq ?_
   refine awp_region rfl ?_
   refine rwp_det rfl rfl (det_move rfl rfl) ?_
   refine rwp_det rfl rfl (det_field_lit rfl fd46_5 rfl) ?_
   refine rwp_det rfl rfl (det_load_one rfl one43 rfl (ptr_row 2 rfl) rfl) ?_
   refine rwp_det rfl rfl (det_len_slm rfl el43 rfl) ?_
   refine rwp_det rfl rfl (det_lss rfl rfl rfl) ?_
   refine rwp_nil ?_
   refine awp_cond rfl (fun c3 => ?_) (fun c3 => ?_)
   ·try simp only [sx, List.length_map] at c3
    obtain ⟨x, hx⟩ := ex_get e.Idx k (by omega)
    have hxw := Ex.idx_wt (mem_of_get hx)
    refine awp_skip ?_
    refine awp_seq ?_
    refine awp_block ?_
    refine awp_seq ?_
    refine awp_region rfl ?_
    refine rwp_det rfl rfl (det_field_lit rfl fd46_5 rfl) ?_
    refine rwp_det rfl rfl (det_load_one rfl one43 rfl (ptr_row 2 rfl) rfl) ?_
    refine rwp_det rfl rfl (det_move rfl rfl) ?_
    refine rwp_det rfl rfl (det_index_sl rfl el43 rfl rfl (by omega) (getm (by assumption))) ?_
    refine rwp_det rfl rfl (det_load_agg rfl agg83 rfl ptr_imm rfl) ?_
    refine rwp_op rfl rfl (ope_allocN [none, some 2, none, some 2] rfl zr83 rfl) ?_
    rintro _ _ ⟨b5, rfl, rfl⟩
    refine rwp_det0 rfl rfl (det_store rfl sz83 rfl rfl rfl (st_row 0 rfl rfl)) ?_
    refine rwp_nil ?_
    refine awp_seq ?_
    refine awp_seq ?_
    refine awp_region rfl ?_
    refine rwp_det rfl rfl (det_field_lit rfl fd83_1 rfl) ?_
    refine rwp_det rfl rfl (det_load_one rfl one9 rfl (ptr_row 0 rfl) rfl) ?_
    refine rwp_det rfl rfl (det_seql rfl rfl rfl) ?_
    refine rwp_nil ?_
    refine awp_cond rfl (fun c4 => ?_) (fun c4 => ?_)
    ·try simp only [sx, List.length_map] at c4
     refine awp_seq ?_
     refine awp_seq ?_
     refine awp_region rfl ?_
     refine rwp_det rfl rfl (det_field_lit rfl fd83_0 rfl) ?_
     refine rwp_det rfl rfl (det_load_agg rfl agg42 rfl (ptr_row 0 rfl) rfl) ?_
     refine rwp_det rfl rfl (det_move rfl rfl) ?_
     refine rwp_det rfl rfl (det_field_lit rfl fd27_0 rfl) ?_
     refine rwp_det rfl rfl (det_load_one rfl one22 rfl (ptr_row 4 rfl) rfl) ?_
     refine rwp_det rfl rfl (det_call rfl ok111 (ref17_known x.Lin vars p.Sizes (by omega) hv hz0) ⟨VLe.refl _, rfl, VLe.refl _, rfl, VLe.refl _, rfl, trivial⟩) ?_
     refine rwp_det rfl rfl (det_not rfl rfl) ?_
     refine rwp_nil ?_
     refine awp_cond rfl (fun c5 => ?_) (fun c5 => ?_)
     ·try simp only [sx, List.length_map] at c5
      refine awp_seq ?_
      refine awp_region rfl ?_
      refine rwp_det rfl rfl (det_build rfl zr39 pl39 rfl) ?_
      refine rwp_det0 rfl rfl (det_store rfl sz39 rfl rfl rfl (st_row 2 rfl rfl)) ?_
      refine rwp_det rfl rfl (det_assign rfl rfl) ?_
      refine rwp_nil ?_
      refine awp_ret ?_
      repeat (first | refine thenQ_ret ?_ | refine blockQ_ret ?_)
      refine fin2 (rs_cell_agg agg39 rfl (ptr_row 2 rfl) rfl) (rs_c rfl) ?_
      rw [read_bad c1 (by omega) hp hx ((indexK_lin c4).trans (formK_no c5)) (by decide)]; rfl
     ·try simp only [sx, List.length_map] at c5
      have hix : indexK p.en (knB p.Sizes vars) x = 0 := by rw [indexK_lin c4, formK_ok c5]
      refine awp_skip ?_
      refine awp_exit ?_
      refine awp_region rfl ?_
      refine rwp_det rfl rfl (det_move rfl rfl) ?_
      refine rwp_det rfl rfl (det_add_nw rfl rfl rfl ⟨by omega, by omega⟩) ?_
      refine rwp_det rfl rfl (det_assign rfl rfl) ?_
      refine rwp_nil ?_
      refine ⟨k + 1, ⟨by omega, hp.trans (indexL_next hx hix)⟩, (by omega), Weak.mk [false, true, true, true, true] ⟨VLe.refl _, VLe.refl _, VLe.refl _, VLe.refl _, VLe.refl _, VLe.refl _, trivial⟩ rfl⟩
    ·try simp only [sx, List.length_map] at c4
     refine awp_skip ?_
     refine awp_seq ?_
     refine awp_region rfl ?_
     refine rwp_det rfl rfl (det_load_agg rfl agg27 rfl (ptr_row 4 rfl) rfl) ?_
     refine rwp_det rfl rfl (det_field_lit rfl fd83_1 rfl) ?_
     refine rwp_det rfl rfl (det_load_one rfl one9 rfl (ptr_row 0 rfl) rfl) ?_
     refine rwp_det rfl rfl (det_call rfl ok23 (ref17_Find p x.From hP) ⟨VLe.refl _, rfl, VLe.refl _, rfl, trivial⟩) ?_
     refine rwp_det rfl rfl (det_move_tup rfl rfl) ?_
     refine rwp_det rfl rfl (det_ex_agg rfl rfl rfl) ?_
     refine rwp_det rfl rfl (det_ex_c rfl rfl rfl) ?_
     refine rwp_det rfl rfl (det_ex_c rfl rfl rfl) ?_
     refine rwp_op rfl rfl (ope_alloc rfl zr39) ?_
     rintro _ _ ⟨b6, rfl, rfl⟩
     refine rwp_det0 rfl rfl (det_store rfl sz39 rfl rfl rfl (st_row 0 rfl rfl)) ?_
     refine rwp_det rfl rfl (det_assign rfl rfl) ?_
     refine rwp_det rfl rfl (det_assign rfl rfl) ?_
     refine rwp_nil ?_
     refine awp_seq ?_
     refine awp_seq ?_
     refine awp_region rfl ?_
     refine rwp_det rfl rfl (det_move rfl rfl) ?_
     refine rwp_det rfl rfl (det_not rfl rfl) ?_
     refine rwp_nil ?_
     refine awp_cond rfl (fun c6 => ?_) (fun c6 => ?_)
     ·try simp only [sx, List.length_map] at c6
      refine awp_seq ?_
      refine awp_region rfl ?_
      refine rwp_det rfl rfl (det_build rfl zr39 pl39 rfl) ?_
      refine rwp_det0 rfl rfl (det_store rfl sz39 rfl rfl rfl (st_row 3 rfl rfl)) ?_
      refine rwp_det rfl rfl (det_assign rfl rfl) ?_
      refine rwp_nil ?_
      refine awp_ret ?_
      repeat (first | refine thenQ_ret ?_ | refine blockQ_ret ?_)
      refine fin2 (rs_cell_agg agg39 rfl (ptr_row 3 rfl) rfl) (rs_c rfl) ?_
      rw [read_bad c1 (by omega) hp hx (indexK_9 c4 c6) (by decide)]; rfl
     ·try simp only [sx, List.length_map] at c6
      refine awp_skip ?_
      refine awp_seq ?_
      refine awp_seq ?_
      refine awp_region rfl ?_
      refine rwp_det rfl rfl (det_field_lit rfl fd39_0 rfl) ?_
      refine rwp_det rfl rfl (det_load_one rfl one3 rfl (ptr_row 0 rfl) rfl) ?_
      refine rwp_det rfl rfl (det_neq rfl rfl rfl) ?_
      refine rwp_nil ?_
      refine awp_cond rfl (fun c7 => ?_) (fun c7 => ?_)
      ·try simp only [sx, List.length_map] at c7
       refine awp_seq ?_
       refine awp_region rfl ?_
       refine rwp_det rfl rfl (det_build rfl zr39 pl39 rfl) ?_
       refine rwp_det0 rfl rfl (det_store rfl sz39 rfl rfl rfl (st_row 3 rfl rfl)) ?_
       refine rwp_det rfl rfl (det_assign rfl rfl) ?_
       refine rwp_nil ?_
       refine awp_ret ?_
       repeat (first | refine thenQ_ret ?_ | refine blockQ_ret ?_)
       refine fin2 (rs_cell_agg agg39 rfl (ptr_row 3 rfl) rfl) (rs_c rfl) ?_
       rw [read_bad c1 (by omega) hp hx (indexK_10 c4 c6 c7) (by decide)]; rfl
      ·try simp only [sx, List.length_map] at c7
       refine awp_skip ?_
       refine awp_seq ?_
       refine awp_seq ?_
       refine awp_region rfl ?_
       refine rwp_det rfl rfl (det_move rfl rfl) ?_
       refine rwp_det rfl rfl (det_len_slm rfl el54 rfl) ?_
       refine rwp_det rfl rfl (det_field_lit rfl fd83_2 rfl) ?_
       refine rwp_det rfl rfl (det_load_one rfl one54 rfl (ptr_row 1 rfl) rfl) ?_
       refine rwp_det rfl rfl (det_len_slm rfl el54 rfl) ?_
       refine rwp_det rfl rfl (det_neq rfl rfl rfl) ?_
       refine rwp_nil ?_
       refine awp_cond rfl (fun c8 => ?_) (fun c8 => ?_)
       ·try simp only [sx, List.length_map] at c8
        refine awp_seq ?_
        refine awp_region rfl ?_
        refine rwp_det rfl rfl (det_build rfl zr39 pl39 rfl) ?_
        refine rwp_det0 rfl rfl (det_store rfl sz39 rfl rfl rfl (st_row 3 rfl rfl)) ?_
        refine rwp_det rfl rfl (det_assign rfl rfl) ?_
        refine rwp_nil ?_
        refine awp_ret ?_
        repeat (first | refine thenQ_ret ?_ | refine blockQ_ret ?_)
        refine fin2 (rs_cell_agg agg39 rfl (ptr_row 3 rfl) rfl) (rs_c rfl) ?_
        rw [read_bad c1 (by omega) hp hx (indexK_11 c4 c6 c7 (by omega)) (by decide)]; rfl
       ·try simp only [sx, List.length_map] at c8
        refine awp_skip ?_
        refine awp_seq ?_
        refine awp_region rfl ?_
        refine rwp_det rfl rfl (det_load_agg rfl agg27 rfl (ptr_row 5 rfl) rfl) ?_
        refine rwp_det rfl rfl (det_move rfl rfl) ?_
        refine rwp_det rfl rfl (det_field_lit rfl fd83_2 rfl) ?_
        refine rwp_det rfl rfl (det_load_one rfl one54 rfl (ptr_row 1 rfl) rfl) ?_
        refine rwp_det rfl rfl (det_call rfl ok124 (ref17_forms p vars x.At hz0 hv (by omega) (fun l hl => by have := linsWt_mem hl; omega)) ⟨VLe.refl _, rfl, VLe.refl _, rfl, VLe.refl _, rfl, trivial⟩) ?_
        refine rwp_det rfl rfl (det_assign rfl rfl) ?_
        refine rwp_nil ?_
        refine awp_seq ?_
        refine awp_region rfl ?_
        refine rwp_det rfl rfl (det_move rfl rfl) ?_
        refine rwp_det rfl rfl (det_neq rfl rfl rfl) ?_
        refine rwp_nil ?_
        refine awp_cond rfl (fun c9 => ?_) (fun c9 => ?_)
        ·try simp only [sx, List.length_map] at c9
         refine awp_seq ?_
         refine awp_region rfl ?_
         refine rwp_det rfl rfl (det_build rfl zr39 pl39 rfl) ?_
         refine rwp_det rfl rfl (det_move rfl rfl) ?_
         refine rwp_det0 rfl rfl (det_store rfl sz39 rfl rfl rfl (st_row 3 rfl rfl)) ?_
         refine rwp_det rfl rfl (det_assign rfl rfl) ?_
         refine rwp_nil ?_
         refine awp_ret ?_
         repeat (first | refine thenQ_ret ?_ | refine blockQ_ret ?_)
         refine fin2 (rs_cell_agg agg39 rfl (ptr_row 3 rfl) rfl) (rs_c rfl) ?_
         rw [read_bad c1 (by omega) hp hx (indexK_at c4 c6 c7 (by omega)) c9]; rfl
        ·try simp only [sx, List.length_map] at c9
         have hix : indexK p.en (knB p.Sizes vars) x = 0 := by rw [indexK_at c4 c6 c7 (by omega)]; exact c9
         refine awp_skip ?_
         refine awp_region rfl ?_
         refine rwp_det rfl rfl (det_move rfl rfl) ?_
         refine rwp_det rfl rfl (det_add_nw rfl rfl rfl ⟨by omega, by omega⟩) ?_
         refine rwp_det rfl rfl (det_assign rfl rfl) ?_
         refine rwp_nil ?_
         refine ⟨k + 1, ⟨by omega, hp.trans (indexL_next hx hix)⟩, (by omega), Weak.mk [false, false, true, true, true, true] ⟨VLe.refl _, VLe.refl _, VLe.refl _, VLe.refl _, VLe.refl _, VLe.refl _, trivial⟩ rfl⟩
   ·try simp only [sx, List.length_map] at c3
    refine awp_exit ?_
    refine awp_seq ?_
    refine awp_region rfl ?_
    refine rwp_det rfl rfl (det_load_agg rfl agg39 rfl (ptr_row 0 rfl) rfl) ?_
    refine rwp_det0 rfl rfl (det_store rfl sz39 rfl rfl rfl (st_row 1 rfl rfl)) ?_
    refine rwp_det rfl rfl (det_assign rfl rfl) ?_
    refine rwp_nil ?_
    refine awp_ret ?_
    repeat (first | refine thenQ_ret ?_ | refine blockQ_ret ?_)
    refine fin2 (rs_cell_agg agg39 rfl (ptr_row 1 rfl) rfl) (rs_c rfl) ?_
    rw [readK_0 c1 (by omega) (by rw [hp, drop_all (by omega)]; rfl)]; rfl

theorem ref17_node_step (p : Pg) (vars : List ByteArray) (hP : p.Ok) (hv : vars.length ≤ 4294967296) (e : Ex) (ih : ∀ a, a ∈ e.Args → partE a = 0 → a.wt ≤ 4294967296 → Pur cfg 59 [vPg p, vSs vars, vE a] (.tup [vTy (nodeT (refN p.en (knB p.Sizes vars)) a).1, vI (nodeT (refN p.en (knB p.Sizes vars)) a).2])) (hpart : partE e = 0) (he : e.wt ≤ 4294967296) :
    Pur cfg 59 [vPg p, vSs vars, vE e] (.tup [vTy (nodeT (refN p.en (knB p.Sizes vars)) e).1, vI (nodeT (refN p.en (knB p.Sizes vars)) e).2]) := by
 refine con_intro Tryz.func59 rfl Tryz.ntmps59 Tryz.results59 rfl ?_
 intro z hz
 obtain ⟨hLl, hIl, hAl⟩ := e.parts he
 have hwt := Ex.wt_eq e
 have hz0 := hP.sizes
 refine awp_seq ?_
 refine awp_region rfl ?_
 refine rwp_op rfl rfl (ope_box rfl rfl) ?_
 rintro _ _ ⟨b1, rfl, rfl⟩
 refine rwp_op rfl rfl (ope_box rfl rfl) ?_
 rintro _ _ ⟨b2, rfl, rfl⟩
 refine rwp_op rfl rfl (ope_alloc rfl zr39) ?_
 rintro _ _ ⟨b3, rfl, rfl⟩
 refine rwp_det rfl rfl (det_assign rfl rfl) ?_
 refine rwp_nil ?_
 refine awp_seq ?_
 refine awp_region rfl ?_
 refine rwp_det rfl rfl (det_assign rfl rfl) ?_
 refine rwp_weak _ (weak_own 39 5) ?_
 refine rwp_nil ?_
 refine awp_seq ?_
 refine awp_seq ?_
 refine awp_region rfl ?_
 refine rwp_det rfl rfl (det_assign rfl rfl) ?_
 refine rwp_nil ?_
 refine awp_block ?_
 refine awp_weak ⟨[(9, .c _), (8, .c _), (1, .c _), (3, .c _), (5, .c _), (6, .c _)], [_, _, _, _]⟩ (Weak.mk [true, true, true, true] ⟨VLe.of_eq rfl, VLe.of_eq rfl, VLe.of_eq rfl, VLe.of_eq rfl, VLe.of_eq rfl, VLe.of_eq rfl, trivial⟩ rfl) ?_
 refine awp_loop_k 2 1 rfl rfl (Nat × Value) (fun ⟨k, sv⟩ => [(9, vI k), (8, .c (.lit sv))]) (fun ⟨k, sv⟩ => [E.vec sv 39 5 ((nodeL (refN p.en (knB p.Sizes vars)) (e.Args.take k)).1.map tyC)]) (fun ⟨k, sv⟩ => k ≤ e.Args.length ∧ ((nodeL (refN p.en (knB p.Sizes vars)) (e.Args.take k)).2 = 0)) (fun ⟨k, sv⟩ => e.Args.length - k) ⟨⟨0, (.slice none 0 0)⟩, ⟨by omega, rfl⟩, Weak.mk [true, true, true, true] ⟨VLe.refl _, VLe.refl _, VLe.refl _, VLe.refl _, VLe.refl _, VLe.refl _, trivial⟩ rfl⟩ ?_
 rintro ⟨k, sv⟩ ⟨hk, hp⟩
 show AWP _ _ _ _ _ ⟨[(9, vI k), (8, .c (.lit sv))] ++ _, [E.vec sv 39 5 ((nodeL (refN p.en (knB p.Sizes vars)) (e.Args.take k)).1.map tyC)] ++ _⟩
 refine awp_seq ?_
 refine awp_seq ?_
 refine awp_region rfl ?_
 refine rwp_det rfl rfl (det_move rfl rfl) ?_
 refine rwp_det rfl rfl (det_field_lit rfl fd46_6 rfl) ?_
 refine rwp_det rfl rfl (det_load_one rfl one44 rfl (ptr_row 2 rfl) rfl) ?_
 refine rwp_det rfl rfl (det_len_slm rfl el44 rfl) ?_
 refine rwp_det rfl rfl (det_lss rfl rfl rfl) ?_
 refine rwp_nil ?_
 refine awp_cond rfl (fun c1 => ?_) (fun c1 => ?_)
 ·try simp only [sx, List.length_map] at c1
  obtain ⟨x, hx⟩ := ex_get e.Args k (by omega)
  have hll := nodeL_len _ _ hp
  refine awp_skip ?_
  refine awp_seq ?_
  refine awp_block ?_
  refine awp_seq ?_
  refine awp_draw_c 13 1 [⟨0, .q [4]⟩, ⟨1, .q []⟩, ⟨2, .q []⟩, ⟨3, .q [3]⟩, ⟨4, .q []⟩, ⟨5, .q []⟩, ⟨6, .q []⟩, ⟨7, .q []⟩, ⟨8, .q []⟩, ⟨9, .q []⟩, ⟨10, .q []⟩, ⟨11, .e 0 []⟩, ⟨12, .e 0 []⟩] mixed (by kernel_rfl) (by kernel_rfl) rfl rfl rfl ?_
  refine fx_skip rfl ?_
  refine fx_skip rfl ?_
  refine fx_skip rfl ?_
  refine fx_skip rfl ?_
  refine fx_skip rfl ?_
  refine fx_skip rfl ?_
  refine fx_skip rfl ?_
  refine fx_skip rfl ?_
  refine fx_skip rfl ?_
  refine fx_skip rfl ?_
  refine fx_skip rfl ?_
  refine fx_skip rfl ?_
  refine fx_skip rfl ?_
  refine fx_nil ?_
  refine sq_det rfl (by decide) rfl rfl (det_load_agg rfl agg27 rfl (ptr_row 0 rfl) rfl) ?_
  refine sq_det rfl (by decide) rfl rfl (det_move rfl rfl) ?_
  refine sq_det rfl (by decide) rfl rfl (det_field_lit rfl fd46_6 rfl) ?_
  refine sq_det rfl (by decide) rfl rfl (det_load_one rfl one44 rfl (ptr_row 0 rfl) rfl) ?_
  refine sq_det rfl (by decide) rfl rfl (det_move rfl rfl) ?_
  refine sq_det rfl (by decide) rfl rfl (det_index_sl rfl el44 rfl rfl (by omega) (getmE (by assumption))) ?_
  refine sq_det rfl (by decide) rfl rfl (det_load_agg rfl agg46 rfl ptr_imm rfl) ?_
  refine sq_det rfl (by decide) rfl rfl (det_call rfl ok59 (ih x (mem_of_get hx) (partE_arg hpart (mem_of_get hx)) (by have := Ex.arg_wt (mem_of_get hx); omega)) ⟨VLe.refl _, rfl, VLe.refl _, rfl, VLe.refl _, rfl, trivial⟩) ?_
  refine sq_det rfl (by decide) rfl rfl (det_move_tup rfl rfl) ?_
  refine sq_det rfl (by decide) rfl rfl (det_ex_agg rfl rfl rfl) ?_
  refine sq_det rfl (by decide) rfl rfl (det_ex_c rfl rfl rfl) ?_
  refine sq_op rfl rfl (by decide) rfl rfl (ope_alloc rfl zr39) ?_
  rintro _ _ ⟨b5, rfl, rfl⟩
  refine ⟨_, rfl, ?_⟩
  refine sq_op0 rfl rfl (by decide) rfl rfl (det_store rfl sz39 rfl rfl rfl (st_row 0 rfl rfl)) ?_
  rintro _ _ ⟨rfl, rfl⟩
  refine ⟨_, rfl, ?_⟩
  refine sq_nil rfl ?_
  refine rwp_det rfl rfl (det_assign rfl rfl) ?_
  refine rwp_nil ?_
  refine awp_seq ?_
  refine awp_seq ?_
  refine awp_region rfl ?_
  refine rwp_det rfl rfl (det_move rfl rfl) ?_
  refine rwp_det rfl rfl (det_neq rfl rfl rfl) ?_
  refine rwp_nil ?_
  refine awp_cond rfl (fun c2 => ?_) (fun c2 => ?_)
  ·try simp only [sx, List.length_map] at c2
   refine awp_seq ?_
   refine awp_region rfl ?_
   refine rwp_det rfl rfl (det_build rfl zr39 pl39 rfl) ?_
   refine rwp_det rfl rfl (det_move rfl rfl) ?_
   refine rwp_det0 rfl rfl (det_store rfl sz39 rfl rfl rfl (st_row 2 rfl rfl)) ?_
   refine rwp_det rfl rfl (det_assign rfl rfl) ?_
   refine rwp_nil ?_
   refine awp_ret ?_
   repeat (first | refine thenQ_ret ?_ | refine blockQ_ret ?_)
   refine fin2 (rs_cell_agg agg39 rfl (ptr_row 2 rfl) rfl) (rs_c rfl) ?_
   rw [nodeT_no hx hp c2]; rfl
  ·try simp only [sx, List.length_map] at c2
   refine awp_skip ?_
   refine awp_region rfl ?_
   refine rwp_det rfl rfl (det_move rfl rfl) ?_
   refine rwp_det rfl rfl (det_load_agg rfl agg39 rfl (ptr_row 0 rfl) rfl) ?_
   refine rwp_det rfl rfl (det_bslice rfl el153 zr39 rfl rfl rfl rfl) ?_
   refine rwp_op rfl rfl (ope_append 1 rfl el153 rfl rfl rfl (by simp only [List.length_map, List.length_cons, List.length_nil, hll, List.length_take]; omega) (by simp only [List.length_map, List.length_cons, List.length_nil, hll, List.length_take]; omega)) ?_
   rintro _ _ ⟨sv6, rfl, rfl⟩
   refine rwp_det rfl rfl (det_assign rfl rfl) ?_
   refine rwp_nil ?_
   refine awp_region rfl ?_
   refine rwp_det rfl rfl (det_move rfl rfl) ?_
   refine rwp_det rfl rfl (det_add_nw rfl rfl rfl ⟨by omega, by omega⟩) ?_
   refine rwp_det rfl rfl (det_assign rfl rfl) ?_
   refine rwp_nil ?_
   refine ⟨⟨k + 1, sv6⟩, ⟨by omega, by rw [nodeL_next hx hp c2]⟩, (by show e.Args.length - (k + 1) < e.Args.length - k; omega), Weak.mk [false, true, true, true, true] ⟨VLe.refl _, VLe.refl _, VLe.refl _, VLe.refl _, VLe.refl _, VLe.refl _, trivial⟩ (by show _ = [E.vec sv6 _ 5 ((nodeL (refN p.en (knB p.Sizes vars)) (e.Args.take (k + 1))).1.map tyC)] ++ _; rw [nodeL_next hx hp c2]; simp only [List.map_append]; rfl)⟩
 ·try simp only [sx, List.length_map] at c1
  have hll := nodeL_len _ _ hp
  have hta : e.Args.take k = e.Args := take_all (by omega)
  rw [hta] at hll
  have hg : ∀ i, i < e.Args.length → ((nodeL (refN p.en (knB p.Sizes vars)) (e.Args.take k)).1.map tyC)[i]? = some (tyC (tyAt (nodeL (refN p.en (knB p.Sizes vars)) (e.Args.take k)).1 i)) := fun i hi => tyAt_get (by rw [hta]; omega)
  have hT : nodeT (refN p.en (knB p.Sizes vars)) e = (refN p.en (knB p.Sizes vars)) e (nodeL (refN p.en (knB p.Sizes vars)) (e.Args.take k)).1 := nodeT_ok hta hp
  have hlk : (nodeL (refN p.en (knB p.Sizes vars)) (e.Args.take k)).1.length = e.Args.length := by rw [hta]; exact hll
  refine awp_exit ?_
  refine awp_seq ?_
  refine awp_block ?_
  refine awp_seq ?_
  refine awp_region rfl ?_
  refine rwp_det rfl rfl (det_field_lit rfl fd46_0 rfl) ?_
  refine rwp_det rfl rfl (det_load_one rfl one3 rfl (ptr_row 2 rfl) rfl) ?_
  refine rwp_det rfl rfl (det_eql rfl rfl rfl) ?_
  refine rwp_det rfl rfl (det_move rfl rfl) ?_
  refine rwp_lazy [] rfl rfl rfl rfl gv1 trivial (fun g9_3 => det_field_lit rfl fd46_0 rfl) rfl ?_
  refine rwp_lazy [(43, _)] rfl rfl rfl rfl gv1 ⟨rfl, rfl, trivial⟩ (fun g9_3 => det_load_one rfl one3 rfl (ptr_row 2 rfl) rfl) rfl ?_
  refine rwp_lazy [(44, _)] rfl rfl rfl rfl gv1 ⟨rfl, rfl, trivial⟩ (fun g9_3 => det_eql rfl rfl rfl) rfl ?_
  refine rwp_det rfl rfl (det_or rfl rfl rfl rfl (fun h => (lzf h))) ?_
  refine rwp_det rfl rfl (det_assign rfl rfl) ?_
  refine rwp_nil ?_
  refine awp_cond rfl (fun c3 => ?_) (fun c3 => ?_)
  ·try simp only [sx, List.length_map] at c3
   refine awp_seq ?_
   refine awp_region rfl ?_
   refine rwp_det rfl rfl (det_field_lit rfl fd46_3 rfl) ?_
   refine rwp_det rfl rfl (det_load_agg rfl agg39 rfl (ptr_row 2 rfl) rfl) ?_
   refine rwp_det0 rfl rfl (det_store rfl sz39 rfl rfl rfl (st_row 1 rfl rfl)) ?_
   refine rwp_det rfl rfl (det_assign rfl rfl) ?_
   refine rwp_nil ?_
   refine awp_ret ?_
   repeat (first | refine thenQ_ret ?_ | refine blockQ_ret ?_)
   refine fin2 (rs_cell_agg agg39 rfl (ptr_row 1 rfl) rfl) (rs_c rfl) ?_
   exact by rw [hT, refN_1 c3]; rfl
  ·try simp only [sx, List.length_map] at c3
   refine awp_seq ?_
   refine awp_region rfl ?_
   refine rwp_det rfl rfl (det_field_lit rfl fd46_0 rfl) ?_
   refine rwp_det rfl rfl (det_load_one rfl one3 rfl (ptr_row 2 rfl) rfl) ?_
   refine rwp_det rfl rfl (det_eql rfl rfl rfl) ?_
   refine rwp_det rfl rfl (det_assign rfl rfl) ?_
   refine rwp_nil ?_
   refine awp_cond rfl (fun c4 => ?_) (fun c4 => ?_)
   ·try simp only [sx, List.length_map] at c4
    refine awp_seq ?_
    refine awp_region rfl ?_
    refine rwp_det rfl rfl (det_build rfl zr39 pl39 rfl) ?_
    refine rwp_det rfl rfl (det_load_agg rfl agg27 rfl (ptr_row 3 rfl) rfl) ?_
    refine rwp_det rfl rfl (det_move rfl rfl) ?_
    refine rwp_det rfl rfl (det_field_lit rfl fd46_4 rfl) ?_
    refine rwp_det rfl rfl (det_load_agg rfl agg42 rfl (ptr_row 2 rfl) rfl) ?_
    refine rwp_det rfl rfl (det_bslice rfl el54 zr42 rfl rfl rfl rfl) ?_
    refine rwp_det rfl rfl (det_call rfl ok124 (ref17_forms p vars [e.Lin] hz0 hv (by simp) (by simpa using hLl)) ⟨VLe.refl _, rfl, VLe.refl _, rfl, VLe.refl _, rfl, trivial⟩) ?_
    refine rwp_det0 rfl rfl (det_store rfl sz39 rfl rfl rfl (st_row 1 rfl rfl)) ?_
    refine rwp_det rfl rfl (det_assign rfl rfl) ?_
    refine rwp_nil ?_
    refine awp_ret ?_
    repeat (first | refine thenQ_ret ?_ | refine blockQ_ret ?_)
    refine fin2 (rs_cell_agg agg39 rfl (ptr_row 1 rfl) rfl) (rs_c rfl) ?_
    exact by rw [hT, refN_2 c4]; rfl
   ·try simp only [sx, List.length_map] at c4
    refine awp_seq ?_
    refine awp_region rfl ?_
    refine rwp_det rfl rfl (det_field_lit rfl fd46_0 rfl) ?_
    refine rwp_det rfl rfl (det_load_one rfl one3 rfl (ptr_row 2 rfl) rfl) ?_
    refine rwp_det rfl rfl (det_eql rfl rfl rfl) ?_
    refine rwp_det rfl rfl (det_assign rfl rfl) ?_
    refine rwp_nil ?_
    refine awp_cond rfl (fun c5 => ?_) (fun c5 => ?_)
    ·try simp only [sx, List.length_map] at c5
     refine awp_seq ?_
     refine awp_region rfl ?_
     refine rwp_det rfl rfl (det_load_agg rfl agg27 rfl (ptr_row 3 rfl) rfl) ?_
     refine rwp_det rfl rfl (det_move rfl rfl) ?_
     refine rwp_det rfl rfl (det_load_agg rfl agg46 rfl (ptr_row 2 rfl) rfl) ?_
     refine rwp_det rfl rfl (det_call rfl ok125 (ref17_read p vars e hP hv he) ⟨VLe.refl _, rfl, VLe.refl _, rfl, VLe.refl _, rfl, trivial⟩) ?_
     refine rwp_det rfl rfl (det_ex_agg rfl rfl rfl) ?_
     refine rwp_det rfl rfl (det_ex_c rfl rfl rfl) ?_
     refine rwp_det0 rfl rfl (det_store rfl sz39 rfl rfl rfl (st_row 1 rfl rfl)) ?_
     refine rwp_det rfl rfl (det_assign rfl rfl) ?_
     refine rwp_nil ?_
     refine awp_ret ?_
     repeat (first | refine thenQ_ret ?_ | refine blockQ_ret ?_)
     refine fin2 (rs_cell_agg agg39 rfl (ptr_row 1 rfl) rfl) (rs_c rfl) ?_
     exact by rw [hT, refN_3 c5]; rfl
    ·try simp only [sx, List.length_map] at c5
     refine awp_seq ?_
     refine awp_region rfl ?_
     refine rwp_det rfl rfl (det_field_lit rfl fd46_0 rfl) ?_
     refine rwp_det rfl rfl (det_load_one rfl one3 rfl (ptr_row 2 rfl) rfl) ?_
     refine rwp_det rfl rfl (det_eql rfl rfl rfl) ?_
     refine rwp_det rfl rfl (det_assign rfl rfl) ?_
     refine rwp_nil ?_
     refine awp_cond rfl (fun c6 => ?_) (fun c6 => ?_)
     ·try simp only [sx, List.length_map] at c6
      have hlen3 := args_len3 hpart c6
      refine awp_seq ?_
      refine awp_seq ?_
      refine awp_draw 7 mixed (by kernel_rfl) rfl rfl ?_
      refine td_det rfl rfl (det_move rfl rfl) ?_
      refine td_det rfl rfl (det_index_vec 0 rfl el153 rfl rfl rfl (by omega) (by simp only [List.length_map]; omega)) ?_
      refine td_det rfl rfl (det_load_agg rfl agg39 rfl (ptr_vec 0 rfl (hg 1 (by omega))) rfl) ?_
      refine td_det rfl rfl (det_move rfl rfl) ?_
      refine td_det rfl rfl (det_index_vec 0 rfl el153 rfl rfl rfl (by omega) (by simp only [List.length_map]; omega)) ?_
      refine td_det rfl rfl (det_load_agg rfl agg39 rfl (ptr_vec 0 rfl (hg 2 (by omega))) rfl) ?_
      refine td_det rfl rfl (det_aneq rfl fl39 rfl rfl rfl) ?_
      refine td_nil ?_
      refine rwp_nil ?_
      refine awp_cond rfl (fun c7 => ?_) (fun c7 => ?_)
      ·refine awp_seq ?_
       refine awp_region rfl ?_
       refine rwp_det rfl rfl (det_build rfl zr39 pl39 rfl) ?_
       refine rwp_det0 rfl rfl (det_store rfl sz39 rfl rfl rfl (st_row 1 rfl rfl)) ?_
       refine rwp_det rfl rfl (det_assign rfl rfl) ?_
       refine rwp_nil ?_
       refine awp_ret ?_
       repeat (first | refine thenQ_ret ?_ | refine blockQ_ret ?_)
       refine fin2 (rs_cell_agg agg39 rfl (ptr_row 1 rfl) rfl) (rs_c rfl) ?_
       exact by rw [hT, refN_11' c6 (unlike_t c7)]; rfl
      ·refine awp_skip ?_
       refine awp_seq ?_
       refine awp_region rfl ?_
       refine rwp_det rfl rfl (det_move rfl rfl) ?_
       refine rwp_det rfl rfl (det_index_vec 0 rfl el153 rfl rfl rfl (by omega) (by simp only [List.length_map]; omega)) ?_
       refine rwp_det rfl rfl (det_load_agg rfl agg39 rfl (ptr_vec 0 rfl (hg 1 (by omega))) rfl) ?_
       refine rwp_det0 rfl rfl (det_store rfl sz39 rfl rfl rfl (st_row 1 rfl rfl)) ?_
       refine rwp_det rfl rfl (det_assign rfl rfl) ?_
       refine rwp_nil ?_
       refine awp_ret ?_
       repeat (first | refine thenQ_ret ?_ | refine blockQ_ret ?_)
       refine fin2 (rs_cell_agg agg39 rfl (ptr_row 1 rfl) rfl) (rs_c rfl) ?_
       exact by rw [hT, refN_11 c6 (unlike_f c7)]; rfl
     ·try simp only [sx, List.length_map] at c6
      refine awp_seq ?_
      refine awp_region rfl ?_
      refine rwp_det rfl rfl (det_field_lit rfl fd46_0 rfl) ?_
      refine rwp_det rfl rfl (det_load_one rfl one3 rfl (ptr_row 2 rfl) rfl) ?_
      refine rwp_det rfl rfl (det_eql rfl rfl rfl) ?_
      refine rwp_det rfl rfl (det_assign rfl rfl) ?_
      refine rwp_nil ?_
      refine awp_cond rfl (fun c8 => ?_) (fun c8 => ?_)
      ·try simp only [sx, List.length_map] at c8
       have hlen1 := args_len hpart (by omega)
       refine awp_seq ?_
       refine awp_region rfl ?_
       refine rwp_det rfl rfl (det_move rfl rfl) ?_
       refine rwp_det rfl rfl (det_index_vec 0 rfl el153 rfl rfl rfl (by omega) (by simp only [List.length_map]; omega)) ?_
       refine rwp_det rfl rfl (det_load_agg rfl agg39 rfl (ptr_vec 0 rfl (hg 0 (by omega))) rfl) ?_
       refine rwp_det0 rfl rfl (det_store rfl sz39 rfl rfl rfl (st_row 1 rfl rfl)) ?_
       refine rwp_det rfl rfl (det_assign rfl rfl) ?_
       refine rwp_nil ?_
       refine awp_ret ?_
       repeat (first | refine thenQ_ret ?_ | refine blockQ_ret ?_)
       refine fin2 (rs_cell_agg agg39 rfl (ptr_row 1 rfl) rfl) (rs_c rfl) ?_
       exact by rw [hT, refN_8 c8]; rfl
      ·try simp only [sx, List.length_map] at c8
       refine awp_seq ?_
       refine awp_region rfl ?_
       refine rwp_det rfl rfl (det_field_lit rfl fd46_0 rfl) ?_
       refine rwp_det rfl rfl (det_load_one rfl one3 rfl (ptr_row 2 rfl) rfl) ?_
       refine rwp_det rfl rfl (det_geq rfl rfl rfl) ?_
       refine rwp_det rfl rfl (det_assign rfl rfl) ?_
       refine rwp_nil ?_
       refine awp_cond rfl (fun c9 => ?_) (fun c9 => ?_)
       ·try simp only [sx, List.length_map] at c9
        refine awp_seq ?_
        refine awp_region rfl ?_
        refine rwp_det rfl rfl (det_build rfl zr39 pl39 rfl) ?_
        refine rwp_det0 rfl rfl (det_store rfl sz39 rfl rfl rfl (st_row 1 rfl rfl)) ?_
        refine rwp_det rfl rfl (det_assign rfl rfl) ?_
        refine rwp_nil ?_
        refine awp_ret ?_
        repeat (first | refine thenQ_ret ?_ | refine blockQ_ret ?_)
        refine fin2 (rs_cell_agg agg39 rfl (ptr_row 1 rfl) rfl) (rs_c rfl) ?_
        exact by rw [hT, refN_16 c9]; rfl
       ·try simp only [sx, List.length_map] at c9
        have hlen2 := args_len2 hpart (by omega)
        refine awp_skip ?_
        refine awp_seq ?_
        refine awp_seq ?_
        refine awp_draw 7 mixed (by kernel_rfl) rfl rfl ?_
        refine td_det rfl rfl (det_move rfl rfl) ?_
        refine td_det rfl rfl (det_index_vec 0 rfl el153 rfl rfl rfl (by omega) (by simp only [List.length_map]; omega)) ?_
        refine td_det rfl rfl (det_load_agg rfl agg39 rfl (ptr_vec 0 rfl (hg 0 (by omega))) rfl) ?_
        refine td_det rfl rfl (det_move rfl rfl) ?_
        refine td_det rfl rfl (det_index_vec 0 rfl el153 rfl rfl rfl (by omega) (by simp only [List.length_map]; omega)) ?_
        refine td_det rfl rfl (det_load_agg rfl agg39 rfl (ptr_vec 0 rfl (hg 1 (by omega))) rfl) ?_
        refine td_det rfl rfl (det_aneq rfl fl39 rfl rfl rfl) ?_
        refine td_nil ?_
        refine rwp_nil ?_
        refine awp_cond rfl (fun c10 => ?_) (fun c10 => ?_)
        ·refine awp_seq ?_
         refine awp_region rfl ?_
         refine rwp_det rfl rfl (det_build rfl zr39 pl39 rfl) ?_
         refine rwp_det0 rfl rfl (det_store rfl sz39 rfl rfl rfl (st_row 1 rfl rfl)) ?_
         refine rwp_det rfl rfl (det_assign rfl rfl) ?_
         refine rwp_nil ?_
         refine awp_ret ?_
         repeat (first | refine thenQ_ret ?_ | refine blockQ_ret ?_)
         refine fin2 (rs_cell_agg agg39 rfl (ptr_row 1 rfl) rfl) (rs_c rfl) ?_
         exact by rw [hT, refN_no (by omega) (unlike_t c10)]; rfl
        ·refine awp_skip ?_
         refine awp_seq ?_
         refine awp_seq ?_
         refine awp_region rfl ?_
         refine rwp_det rfl rfl (det_field_lit rfl fd46_0 rfl) ?_
         refine rwp_det rfl rfl (det_load_one rfl one3 rfl (ptr_row 2 rfl) rfl) ?_
         refine rwp_det rfl rfl (det_geq rfl rfl rfl) ?_
         refine rwp_nil ?_
         refine awp_cond rfl (fun c11 => ?_) (fun c11 => ?_)
         ·try simp only [sx, List.length_map] at c11
          refine awp_seq ?_
          refine awp_region rfl ?_
          refine rwp_det rfl rfl (det_build rfl zr39 pl39 rfl) ?_
          refine rwp_det0 rfl rfl (det_store rfl sz39 rfl rfl rfl (st_row 1 rfl rfl)) ?_
          refine rwp_det rfl rfl (det_assign rfl rfl) ?_
          refine rwp_nil ?_
          refine awp_ret ?_
          repeat (first | refine thenQ_ret ?_ | refine blockQ_ret ?_)
          refine fin2 (rs_cell_agg agg39 rfl (ptr_row 1 rfl) rfl) (rs_c rfl) ?_
          exact by rw [hT, refN_13 (by omega) (unlike_f c10) c11]; rfl
         ·try simp only [sx, List.length_map] at c11
          refine awp_skip ?_
          refine awp_seq ?_
          refine awp_region rfl ?_
          refine rwp_det rfl rfl (det_move rfl rfl) ?_
          refine rwp_det rfl rfl (det_index_vec 0 rfl el153 rfl rfl rfl (by omega) (by simp only [List.length_map]; omega)) ?_
          refine rwp_det rfl rfl (det_load_agg rfl agg39 rfl (ptr_vec 0 rfl (hg 0 (by omega))) rfl) ?_
          refine rwp_det0 rfl rfl (det_store rfl sz39 rfl rfl rfl (st_row 1 rfl rfl)) ?_
          refine rwp_det rfl rfl (det_assign rfl rfl) ?_
          refine rwp_nil ?_
          refine awp_ret ?_
          repeat (first | refine thenQ_ret ?_ | refine blockQ_ret ?_)
          refine fin2 (rs_cell_agg agg39 rfl (ptr_row 1 rfl) rfl) (rs_c rfl) ?_
          exact by rw [hT, refN_o (by omega) (unlike_f c10)]; rfl

theorem ref17_node (p : Pg) (vars : List ByteArray) (e : Ex) (hP : p.Ok) (hv : vars.length ≤ 4294967296) (hpart : partE e = 0) (he : e.wt ≤ 4294967296) : Pur cfg 59 [vPg p, vSs vars, vE e] (.tup [vTy (nodeT (refN p.en (knB p.Sizes vars)) e).1, vI (nodeT (refN p.en (knB p.Sizes vars)) e).2]) := by
  induction e using Ex.ind with
  | _ e ih => exact ref17_node_step p vars hP hv e (fun a ha h1 h2 => ih a ha h1 h2) hpart he

theorem ref17_TypeOf (p : Pg) (vars : List ByteArray) (e : Ex) (hP : p.Ok) (hv : vars.length ≤ 4294967296) (he : e.wt ≤ 4294967296) :
    Pur cfg 17 [vPg p, vSs vars, vE e] (.tup [vTy (typeR p.en vars e).1, vI (typeR p.en vars e).2]) := by
 refine con_intro Tryz.func17 rfl Tryz.ntmps17 Tryz.results17 rfl ?_
 intro z hz
 refine awp_seq ?_
 refine awp_region rfl ?_
 refine rwp_op rfl rfl (ope_box rfl rfl) ?_
 rintro _ _ ⟨b1, rfl, rfl⟩
 refine rwp_op rfl rfl (ope_box rfl rfl) ?_
 rintro _ _ ⟨b2, rfl, rfl⟩
 refine rwp_op rfl rfl (ope_alloc rfl zr39) ?_
 rintro _ _ ⟨b3, rfl, rfl⟩
 refine rwp_det rfl rfl (det_assign rfl rfl) ?_
 refine rwp_nil ?_
 refine awp_seq ?_
 refine awp_seq ?_
 refine awp_region rfl ?_
 refine rwp_det rfl rfl (det_load_agg rfl agg46 rfl (ptr_row 1 rfl) rfl) ?_
 refine rwp_det rfl rfl (det_call rfl ok57 (ref14_Validate e he) ⟨VLe.refl _, rfl, trivial⟩) ?_
 refine rwp_det rfl rfl (det_assign rfl rfl) ?_
 refine rwp_nil ?_
 refine awp_seq ?_
 refine awp_region rfl ?_
 refine rwp_det rfl rfl (det_move rfl rfl) ?_
 refine rwp_det rfl rfl (det_neq rfl rfl rfl) ?_
 refine rwp_nil ?_
 refine awp_cond rfl (fun c1 => ?_) (fun c1 => ?_)
 ·try simp only [sx, List.length_map] at c1
  refine awp_seq ?_
  refine awp_region rfl ?_
  refine rwp_det rfl rfl (det_build rfl zr39 pl39 rfl) ?_
  refine rwp_det rfl rfl (det_move rfl rfl) ?_
  refine rwp_det0 rfl rfl (det_store rfl sz39 rfl rfl rfl (st_row 0 rfl rfl)) ?_
  refine rwp_det rfl rfl (det_assign rfl rfl) ?_
  refine rwp_nil ?_
  refine awp_ret ?_
  repeat (first | refine thenQ_ret ?_ | refine blockQ_ret ?_)
  refine fin2 (rs_cell_agg agg39 rfl (ptr_row 0 rfl) rfl) (rs_c rfl) ?_
  rw [typeR_bad c1]; rfl
 ·try simp only [sx, List.length_map] at c1
  refine awp_skip ?_
  refine awp_seq ?_
  refine awp_seq ?_
  refine awp_region rfl ?_
  refine rwp_det rfl rfl (det_load_agg rfl agg46 rfl (ptr_row 1 rfl) rfl) ?_
  refine rwp_det rfl rfl (det_call rfl ok58 (brocaderef14_IsCondition e) ⟨VLe.refl _, rfl, trivial⟩) ?_
  refine rwp_nil ?_
  refine awp_cond rfl (fun c2 => ?_) (fun c2 => ?_)
  ·try simp only [sx, List.length_map] at c2
   refine awp_seq ?_
   refine awp_region rfl ?_
   refine rwp_det rfl rfl (det_build rfl zr39 pl39 rfl) ?_
   refine rwp_det0 rfl rfl (det_store rfl sz39 rfl rfl rfl (st_row 0 rfl rfl)) ?_
   refine rwp_det rfl rfl (det_assign rfl rfl) ?_
   refine rwp_nil ?_
   refine awp_ret ?_
   repeat (first | refine thenQ_ret ?_ | refine blockQ_ret ?_)
   refine fin2 (rs_cell_agg agg39 rfl (ptr_row 0 rfl) rfl) (rs_c rfl) ?_
   rw [typeR_cond c1 c2]; rfl
  ·try simp only [sx, List.length_map] at c2
   have hTo := typeR_of (n := p.en) (vars := vars) c1 c2
   refine awp_skip ?_
   refine awp_seq ?_
   refine awp_region rfl ?_
   refine rwp_det rfl rfl (det_load_agg rfl agg27 rfl (ptr_row 2 rfl) rfl) ?_
   refine rwp_det rfl rfl (det_move rfl rfl) ?_
   refine rwp_det rfl rfl (det_load_agg rfl agg46 rfl (ptr_row 1 rfl) rfl) ?_
   refine rwp_det rfl rfl (det_call rfl ok59 (ref17_node p vars e hP hv (valid_part c1) he) ⟨VLe.refl _, rfl, VLe.refl _, rfl, VLe.refl _, rfl, trivial⟩) ?_
   refine rwp_det rfl rfl (det_move_tup rfl rfl) ?_
   refine rwp_det rfl rfl (det_ex_agg rfl rfl rfl) ?_
   refine rwp_det rfl rfl (det_ex_c rfl rfl rfl) ?_
   refine rwp_op rfl rfl (ope_alloc rfl zr39) ?_
   rintro _ _ ⟨b4, rfl, rfl⟩
   refine rwp_det0 rfl rfl (det_store rfl sz39 rfl rfl rfl (st_row 0 rfl rfl)) ?_
   refine rwp_det rfl rfl (det_assign rfl rfl) ?_
   refine rwp_nil ?_
   refine awp_seq ?_
   refine awp_seq ?_
   refine awp_region rfl ?_
   refine rwp_det rfl rfl (det_move rfl rfl) ?_
   refine rwp_det rfl rfl (det_neq rfl rfl rfl) ?_
   refine rwp_nil ?_
   refine awp_cond rfl (fun c3 => ?_) (fun c3 => ?_)
   ·try simp only [sx, List.length_map] at c3
    refine awp_seq ?_
    refine awp_region rfl ?_
    refine rwp_det rfl rfl (det_build rfl zr39 pl39 rfl) ?_
    refine rwp_det rfl rfl (det_move rfl rfl) ?_
    refine rwp_det0 rfl rfl (det_store rfl sz39 rfl rfl rfl (st_row 1 rfl rfl)) ?_
    refine rwp_det rfl rfl (det_assign rfl rfl) ?_
    refine rwp_nil ?_
    refine awp_ret ?_
    repeat (first | refine thenQ_ret ?_ | refine blockQ_ret ?_)
    refine fin2 (rs_cell_agg agg39 rfl (ptr_row 1 rfl) rfl) (rs_c rfl) ?_
    rw [hTo, if_neg (show ¬ (nodeT (refN p.en (knB p.en.sz vars)) e).2 = 0 from c3)]; rfl
   ·try simp only [sx, List.length_map] at c3
    refine awp_skip ?_
    refine awp_seq ?_
    refine awp_region rfl ?_
    refine rwp_det rfl rfl (det_load_agg rfl agg39 rfl (ptr_row 0 rfl) rfl) ?_
    refine rwp_det0 rfl rfl (det_store rfl sz39 rfl rfl rfl (st_row 1 rfl rfl)) ?_
    refine rwp_det rfl rfl (det_assign rfl rfl) ?_
    refine rwp_nil ?_
    refine awp_ret ?_
    repeat (first | refine thenQ_ret ?_ | refine blockQ_ret ?_)
    refine fin2 (rs_cell_agg agg39 rfl (ptr_row 1 rfl) rfl) (rs_c rfl) ?_
    rw [hTo, if_pos (show (nodeT (refN p.en (knB p.en.sz vars)) e).2 = 0 from c3)]; rfl

end Go.W
