/-
  Walks: what functions of the program compute. Printed by wip/gen/mk2.py.
  Conditions: none.
-/
import Derived.Test.YticdknfcoinbaaaGreatDoorWN
import Derived.Test.YticdknfcoinbaaaGreatDoorEngZ
set_option linter.unusedSimpArgs false
set_option linter.unusedVariables false
namespace Go.W
open Go Go.Eng Go.Proofs Go.L41 Go.Br
attribute [local irreducible] AWP RWP TD
theorem ok23 : callOk Tryz.prog 23 = true := by kernel_rfl
theorem ref17_Find (p : Pg) (s : ByteArray) (hP : p.Ok) :
    Pur cfg 23 [vPg p, vS s] (.tup [vTy (p.en.find s).ty, vLins (p.en.find s).dims, vB (p.en.find s).ok]) := by
 refine con_intro Tryz.func23 rfl Tryz.ntmps23 Tryz.results23 rfl ?_
 intro z hz
 have hpl := hP.params
 have hpd := hP.defs
 refine awp_seq ?_
 refine awp_region rfl ?_
 refine rwp_op rfl rfl (ope_box rfl rfl) ?_
 rintro _ _ ⟨b1, rfl, rfl⟩
 refine rwp_op rfl rfl (ope_alloc rfl zr39) ?_
 rintro _ _ ⟨b2, rfl, rfl⟩
 refine rwp_det rfl rfl (det_assignN 2 rfl rfl) ?_
 refine rwp_det rfl rfl (det_assign rfl rfl) ?_
 refine rwp_nil ?_
 refine awp_seq ?_
 refine awp_seq ?_
 refine awp_region rfl ?_
 refine rwp_det rfl rfl (det_assign rfl rfl) ?_
 refine rwp_nil ?_
 refine awp_block ?_
 refine awp_weak ⟨[(7, .c _), (1, .c _), (2, .c _), (4, .c _)], [_, _]⟩ (Weak.mk [true, true] ⟨VLe.of_eq rfl, VLe.of_eq rfl, VLe.of_eq rfl, VLe.of_eq rfl, trivial⟩ rfl) ?_
 refine awp_loop_k 1 0 rfl rfl (Nat) (fun k => [(7, vI k)]) (fun k => []) (fun k => k ≤ p.Params.length ∧ (findP s p.Defs p.Params = findP s p.Defs (p.Params.drop k))) (fun k => p.Params.length - k) ⟨0, ⟨by omega, rfl⟩, Weak.mk [true, true] ⟨VLe.refl _, VLe.refl _, VLe.refl _, VLe.refl _, trivial⟩ rfl⟩ ?_
 rintro k ⟨hk, hp⟩
 refine awp_seq ?_
 refine awp_seq ?_
 refine awp_region rfl ?_
 refine rwp_det rfl rfl (det_move rfl rfl) ?_
 refine rwp_det rfl rfl (det_field_lit rfl fd27_2 rfl) ?_
 refine rwp_det rfl rfl (det_load_one rfl one24 rfl (ptr_row 1 rfl) rfl) ?_
 refine rwp_det rfl rfl (det_len_slm rfl el24 rfl) ?_
 refine rwp_det rfl rfl (det_lss rfl rfl rfl) ?_
 refine rwp_nil ?_
 refine awp_cond rfl (fun c1 => ?_) (fun c1 => ?_)
 ·try simp only [sx, List.length_map] at c1
  obtain ⟨x, hx⟩ := ex_get p.Params k (by omega)
  refine awp_skip ?_
  refine awp_seq ?_
  refine awp_block ?_
  refine awp_seq ?_
  refine awp_region rfl ?_
  refine rwp_det rfl rfl (det_field_lit rfl fd27_2 rfl) ?_
  refine rwp_det rfl rfl (det_load_one rfl one24 rfl (ptr_row 1 rfl) rfl) ?_
  refine rwp_det rfl rfl (det_move rfl rfl) ?_
  refine rwp_det rfl rfl (det_index_sl rfl el24 rfl rfl (by omega) (getm (by assumption))) ?_
  refine rwp_det rfl rfl (det_field_imm rfl fd77_0 rfl) ?_
  refine rwp_det rfl rfl (det_load_one rfl one9 rfl ptr_imm rfl) ?_
  refine rwp_det rfl rfl (det_move rfl rfl) ?_
  refine rwp_det rfl rfl (det_seql rfl rfl rfl) ?_
  refine rwp_nil ?_
  refine awp_cond rfl (fun c2 => ?_) (fun c2 => ?_)
  ·try simp only [sx, List.length_map] at c2
   refine awp_seq ?_
   refine awp_draw_c 13 0 [⟨0, .q []⟩, ⟨1, .q [1]⟩, ⟨2, .q []⟩, ⟨3, .q []⟩, ⟨4, .q []⟩, ⟨5, .q []⟩, ⟨6, .q []⟩, ⟨7, .q [1]⟩, ⟨8, .q []⟩, ⟨9, .q []⟩, ⟨10, .q []⟩, ⟨11, .q []⟩, ⟨12, .e 0 []⟩] mixed (by kernel_rfl) (by kernel_rfl) rfl rfl rfl ?_
   refine fx_skip rfl ?_
   refine fx_skip rfl ?_
   refine fx_skip rfl ?_
   refine fx_skip rfl ?_
   refine fx_skip rfl ?_
   refine fx_skip rfl ?_
   refine fx_skip rfl ?_
   refine fx_skip rfl ?_
   refine fx_skip rfl ?_
   refine fx_skip rfl ?_
   refine fx_skip rfl ?_
   refine fx_skip rfl ?_
   refine fx_skip rfl ?_
   refine fx_nil ?_
   refine sq_det rfl (by decide) rfl rfl (det_field_lit rfl fd27_2 rfl) ?_
   refine sq_det rfl (by decide) rfl rfl (det_load_one rfl one24 rfl (ptr_row 0 rfl) rfl) ?_
   refine sq_det rfl (by decide) rfl rfl (det_move rfl rfl) ?_
   refine sq_det rfl (by decide) rfl rfl (det_index_sl rfl el24 rfl rfl (by omega) (getm (by assumption))) ?_
   refine sq_det rfl (by decide) rfl rfl (det_field_imm rfl fd77_1 rfl) ?_
   refine sq_det rfl (by decide) rfl rfl (det_load_agg rfl agg39 rfl ptr_imm rfl) ?_
   refine sq_det rfl (by decide) rfl rfl (det_field_lit rfl fd27_2 rfl) ?_
   refine sq_det rfl (by decide) rfl rfl (det_load_one rfl one24 rfl (ptr_row 0 rfl) rfl) ?_
   refine sq_det rfl (by decide) rfl rfl (det_move rfl rfl) ?_
   refine sq_det rfl (by decide) rfl rfl (det_index_sl rfl el24 rfl rfl (by omega) (getm (by assumption))) ?_
   refine sq_det rfl (by decide) rfl rfl (det_field_imm rfl fd77_2 rfl) ?_
   refine sq_det rfl (by decide) rfl rfl (det_load_one rfl one54 rfl ptr_imm rfl) ?_
   refine sq_op0 rfl rfl (by decide) rfl rfl (det_store rfl sz39 rfl rfl rfl (st_row 0 rfl rfl)) ?_
   rintro _ _ ⟨rfl, rfl⟩
   refine ⟨_, rfl, ?_⟩
   refine sq_nil rfl ?_
   refine rwp_det rfl rfl (det_assign rfl rfl) ?_
   refine rwp_det rfl rfl (det_assign rfl rfl) ?_
   refine rwp_nil ?_
   refine awp_ret ?_
   repeat (first | refine thenQ_ret ?_ | refine blockQ_ret ?_)
   refine fin3 (rs_cell_agg agg39 rfl (ptr_row 0 rfl) rfl) (rs_c rfl) (rs_c rfl) ?_
   rw [En.find, show p.en.pm = p.Params from rfl, show p.en.df = p.Defs from rfl, hp, find_at hx c2]; rfl
  ·try simp only [sx, List.length_map] at c2
   refine awp_skip ?_
   refine awp_region rfl ?_
   refine rwp_det rfl rfl (det_move rfl rfl) ?_
   refine rwp_det rfl rfl (det_add_nw rfl rfl rfl ⟨by omega, by omega⟩) ?_
   refine rwp_det rfl rfl (det_assign rfl rfl) ?_
   refine rwp_nil ?_
   refine ⟨k + 1, ⟨by omega, hp.trans (find_next hx c2)⟩, (by omega), Weak.mk [true, true] ⟨VLe.refl _, VLe.refl _, VLe.refl _, VLe.refl _, trivial⟩ rfl⟩
 ·try simp only [sx, List.length_map] at c1
  have hF : p.en.find s = findD s p.Defs := by rw [En.find, show p.en.pm = p.Params from rfl, show p.en.df = p.Defs from rfl, hp, drop_all (by omega)]; rfl
  refine awp_exit ?_
  refine awp_seq ?_
  refine awp_seq ?_
  refine awp_region rfl ?_
  refine rwp_det rfl rfl (det_assign rfl rfl) ?_
  refine rwp_nil ?_
  refine awp_block ?_
  refine awp_weak ⟨[(8, .c _), (1, .c _), (2, .c _), (4, .c _)], [_, _]⟩ (Weak.mk [true, true] ⟨VLe.of_eq rfl, VLe.of_eq rfl, VLe.of_eq rfl, VLe.of_eq rfl, trivial⟩ rfl) ?_
  refine awp_loop_k 1 0 rfl rfl (Nat) (fun k => [(8, vI k)]) (fun k => []) (fun k => k ≤ p.Defs.length ∧ (findD s p.Defs = findD s (p.Defs.drop k))) (fun k => p.Defs.length - k) ⟨0, ⟨by omega, rfl⟩, Weak.mk [true, true] ⟨VLe.refl _, VLe.refl _, VLe.refl _, VLe.refl _, trivial⟩ rfl⟩ ?_
  rintro k ⟨hk, hq⟩
  refine awp_seq ?_
  refine awp_seq ?_
  refine awp_region rfl ?_
  refine rwp_det rfl rfl (det_move rfl rfl) ?_
  refine rwp_det rfl rfl (det_field_lit rfl fd27_3 rfl) ?_
  refine rwp_det rfl rfl (det_load_one rfl one25 rfl (ptr_row 1 rfl) rfl) ?_
  refine rwp_det rfl rfl (det_len_slm rfl el25 rfl) ?_
  refine rwp_det rfl rfl (det_lss rfl rfl rfl) ?_
  refine rwp_nil ?_
  refine awp_cond rfl (fun c3 => ?_) (fun c3 => ?_)
  ·try simp only [sx, List.length_map] at c3
   obtain ⟨d, hd⟩ := ex_get p.Defs k (by omega)
   refine awp_skip ?_
   refine awp_seq ?_
   refine awp_block ?_
   refine awp_seq ?_
   refine awp_region rfl ?_
   refine rwp_det rfl rfl (det_field_lit rfl fd27_3 rfl) ?_
   refine rwp_det rfl rfl (det_load_one rfl one25 rfl (ptr_row 1 rfl) rfl) ?_
   refine rwp_det rfl rfl (det_move rfl rfl) ?_
   refine rwp_det rfl rfl (det_index_sl rfl el25 rfl rfl (by omega) (getm (by assumption))) ?_
   refine rwp_det rfl rfl (det_field_imm rfl fd63_0 rfl) ?_
   refine rwp_det rfl rfl (det_load_one rfl one9 rfl ptr_imm rfl) ?_
   refine rwp_det rfl rfl (det_move rfl rfl) ?_
   refine rwp_det rfl rfl (det_seql rfl rfl rfl) ?_
   refine rwp_nil ?_
   refine awp_cond rfl (fun c4 => ?_) (fun c4 => ?_)
   ·try simp only [sx, List.length_map] at c4
    have hdd := (hP.ds d (mem_of_get hd)).1
    refine awp_seq ?_
    refine awp_region rfl ?_
    refine rwp_det rfl rfl (det_assign rfl rfl) ?_
    refine rwp_weak _ (weak_own 42 2) ?_
    refine rwp_nil ?_
    refine awp_seq ?_
    refine awp_seq ?_
    refine awp_region rfl ?_
    refine rwp_det rfl rfl (det_assign rfl rfl) ?_
    refine rwp_nil ?_
    refine awp_block ?_
    refine awp_weak ⟨[(10, .c _), (9, .c _), (2, .c _), (4, .c _), (8, .c _)], [_, _, _]⟩ (Weak.mk [true, true, true] ⟨VLe.of_eq rfl, VLe.of_eq rfl, VLe.of_eq rfl, VLe.of_eq rfl, VLe.of_eq rfl, trivial⟩ rfl) ?_
    refine awp_loop_k 2 1 rfl rfl (Nat × Value) (fun ⟨j, sv⟩ => [(10, vI j), (9, .c (.lit sv))]) (fun ⟨j, sv⟩ => [E.vec sv 42 2 ((d.Dims.take j).map fun a => a.Size.cells)]) (fun ⟨j, sv⟩ => j ≤ d.Dims.length) (fun ⟨j, sv⟩ => d.Dims.length - j) ⟨⟨0, (.slice none 0 0)⟩, (by omega), Weak.mk [true, true, true] ⟨VLe.refl _, VLe.refl _, VLe.refl _, VLe.refl _, VLe.refl _, trivial⟩ rfl⟩ ?_
    rintro ⟨j, sv⟩ hj
    show AWP _ _ _ _ _ ⟨[(10, vI j), (9, .c (.lit sv))] ++ _, [E.vec sv 42 2 ((d.Dims.take j).map fun a => a.Size.cells)] ++ _⟩
    refine awp_seq ?_
    refine awp_seq ?_
    refine awp_region rfl ?_
    refine rwp_det rfl rfl (det_move rfl rfl) ?_
    refine rwp_det rfl rfl (det_field_lit rfl fd27_3 rfl) ?_
    refine rwp_det rfl rfl (det_load_one rfl one25 rfl (ptr_row 2 rfl) rfl) ?_
    refine rwp_det rfl rfl (det_move rfl rfl) ?_
    refine rwp_det rfl rfl (det_index_sl rfl el25 rfl rfl (by omega) (getm (by assumption))) ?_
    refine rwp_det rfl rfl (det_field_imm rfl fd63_2 rfl) ?_
    refine rwp_det rfl rfl (det_load_one rfl one61 rfl ptr_imm rfl) ?_
    refine rwp_det rfl rfl (det_len_slm rfl el61 rfl) ?_
    refine rwp_det rfl rfl (det_lss rfl rfl rfl) ?_
    refine rwp_nil ?_
    refine awp_cond rfl (fun c5 => ?_) (fun c5 => ?_)
    ·try simp only [sx, List.length_map] at c5
     obtain ⟨a, ha⟩ := ex_get d.Dims j (by omega)
     refine awp_skip ?_
     refine awp_seq ?_
     refine awp_block ?_
     refine awp_region rfl ?_
     refine rwp_det rfl rfl (det_move rfl rfl) ?_
     refine rwp_det rfl rfl (det_field_lit rfl fd27_3 rfl) ?_
     refine rwp_det rfl rfl (det_load_one rfl one25 rfl (ptr_row 2 rfl) rfl) ?_
     refine rwp_det rfl rfl (det_move rfl rfl) ?_
     refine rwp_det rfl rfl (det_index_sl rfl el25 rfl rfl (by omega) (getm (by assumption))) ?_
     refine rwp_det rfl rfl (det_field_imm rfl fd63_2 rfl) ?_
     refine rwp_det rfl rfl (det_load_one rfl one61 rfl ptr_imm rfl) ?_
     refine rwp_det rfl rfl (det_move rfl rfl) ?_
     refine rwp_det rfl rfl (det_index_sl rfl el61 rfl rfl (by omega) (getm (by assumption))) ?_
     refine rwp_det rfl rfl (det_field_imm rfl fd80_1 rfl) ?_
     refine rwp_det rfl rfl (det_load_agg rfl agg42 rfl ptr_imm rfl) ?_
     refine rwp_det rfl rfl (det_bslice rfl el54 zr42 rfl rfl rfl rfl) ?_
     refine rwp_op rfl rfl (ope_append 0 rfl el54 rfl rfl rfl (by simp only [List.length_take, List.length_map, List.length_cons, List.length_nil]; omega) (by simp only [List.length_take, List.length_map, List.length_cons, List.length_nil]; omega)) ?_
     rintro _ _ ⟨sv4, rfl, rfl⟩
     refine rwp_det rfl rfl (det_assign rfl rfl) ?_
     refine rwp_nil ?_
     refine awp_region rfl ?_
     refine rwp_det rfl rfl (det_move rfl rfl) ?_
     refine rwp_det rfl rfl (det_add_nw rfl rfl rfl ⟨by omega, by omega⟩) ?_
     refine rwp_det rfl rfl (det_assign rfl rfl) ?_
     refine rwp_nil ?_
     refine ⟨⟨j + 1, sv4⟩, (by omega), (by show d.Dims.length - (j + 1) < d.Dims.length - j; omega), Weak.mk [true, true, true] ⟨VLe.refl _, VLe.refl _, VLe.refl _, VLe.refl _, VLe.refl _, trivial⟩ (by show _ = [E.vec sv4 _ 2 ((d.Dims.take (j + 1)).map fun a => a.Size.cells)] ++ _; rw [take_next ha, List.map_append (f := fun a : Ax => a.Size.cells)]; rfl)⟩
    ·try simp only [sx, List.length_map] at c5
     refine awp_exit ?_
     refine awp_seq ?_
     refine awp_region rfl ?_
     refine rwp_det rfl rfl (det_field_lit rfl fd27_3 rfl) ?_
     refine rwp_det rfl rfl (det_load_one rfl one25 rfl (ptr_row 2 rfl) rfl) ?_
     refine rwp_det rfl rfl (det_move rfl rfl) ?_
     refine rwp_det rfl rfl (det_index_sl rfl el25 rfl rfl (by omega) (getm (by assumption))) ?_
     refine rwp_det rfl rfl (det_field_imm rfl fd63_1 rfl) ?_
     refine rwp_det rfl rfl (det_load_agg rfl agg39 rfl ptr_imm rfl) ?_
     refine rwp_det rfl rfl (det_move rfl rfl) ?_
     refine rwp_det0 rfl rfl (det_store rfl sz39 rfl rfl rfl (st_row 1 rfl rfl)) ?_
     refine rwp_det rfl rfl (det_assign rfl rfl) ?_
     refine rwp_det rfl rfl (det_assign rfl rfl) ?_
     refine rwp_nil ?_
     refine awp_weak _ (weak_freezeM 0 rfl (regs' := [(9, _), (83, _), (5, _)]) (μ' := [_, _]) ⟨FLe.sl, FLe.sl, FLe.sl, trivial⟩ ⟨EFle.refl _, EFle.refl _, trivial⟩) ?_
     refine awp_ret ?_
     repeat (first | refine thenQ_ret ?_ | refine blockQ_ret ?_)
     refine fin3 (rs_cell_agg agg39 rfl (ptr_row 0 rfl) rfl) (rs_c rfl) (rs_c rfl) ?_
     rw [hF, hq, findD_at hd c4, take_all (l := d.Dims) (k := j) (by omega)]; simp only [vLins, List.map_map]; rfl
   ·try simp only [sx, List.length_map] at c4
    refine awp_skip ?_
    refine awp_region rfl ?_
    refine rwp_det rfl rfl (det_move rfl rfl) ?_
    refine rwp_det rfl rfl (det_add_nw rfl rfl rfl ⟨by omega, by omega⟩) ?_
    refine rwp_det rfl rfl (det_assign rfl rfl) ?_
    refine rwp_nil ?_
    refine ⟨k + 1, ⟨by omega, hq.trans (findD_next hd c4)⟩, (by omega), Weak.mk [true, true] ⟨VLe.refl _, VLe.refl _, VLe.refl _, VLe.refl _, trivial⟩ rfl⟩
  ·try simp only [sx, List.length_map] at c3
   refine awp_exit ?_
   refine awp_seq ?_
   refine awp_region rfl ?_
   refine rwp_det rfl rfl (det_build rfl zr39 pl39 rfl) ?_
   refine rwp_det0 rfl rfl (det_store rfl sz39 rfl rfl rfl (st_row 0 rfl rfl)) ?_
   refine rwp_det rfl rfl (det_assignN 2 rfl rfl) ?_
   refine rwp_det rfl rfl (det_assign rfl rfl) ?_
   refine rwp_nil ?_
   refine awp_ret ?_
   repeat (first | refine thenQ_ret ?_ | refine blockQ_ret ?_)
   refine fin3 (rs_cell_agg agg39 rfl (ptr_row 0 rfl) rfl) (rs_c rfl) (rs_c rfl) ?_
   rw [hF, hq, drop_all (l := p.Defs) (by omega)]; rfl

theorem ref17_IndexNames (d : Df) (hD : d.Dims.length ≤ 1073741824) (hR : d.Red.length ≤ 1073741824) :
    OwnR cfg 29 [vDf d] 9 1 ((namesD d).map fun s => [cS s]) := by
 refine con_intro Tryz.func29 rfl Tryz.ntmps29 Tryz.results29 rfl ?_
 intro z hz
 refine awp_seq ?_
 refine awp_region rfl ?_
 refine rwp_op rfl rfl (ope_box rfl rfl) ?_
 rintro _ _ ⟨b1, rfl, rfl⟩
 refine rwp_det rfl rfl (det_assignN 1 rfl rfl) ?_
 refine rwp_nil ?_
 refine awp_seq ?_
 refine awp_region rfl ?_
 refine rwp_det rfl rfl (det_assign rfl rfl) ?_
 refine rwp_weak _ (weak_own 9 1) ?_
 refine rwp_nil ?_
 refine awp_seq ?_
 refine awp_seq ?_
 refine awp_region rfl ?_
 refine rwp_det rfl rfl (det_assign rfl rfl) ?_
 refine rwp_nil ?_
 refine awp_block ?_
 refine awp_weak ⟨[(4, .c _), (3, .c _), (1, .c _)], [_, _]⟩ (Weak.mk [true, true] ⟨VLe.of_eq rfl, VLe.of_eq rfl, VLe.of_eq rfl, trivial⟩ rfl) ?_
 refine awp_loop_k 2 1 rfl rfl (Nat × Value) (fun ⟨k, sv⟩ => [(4, vI k), (3, .c (.lit sv))]) (fun ⟨k, sv⟩ => [E.vec sv 9 1 ((d.Dims.take k).map fun a => [cS a.Name])]) (fun ⟨k, sv⟩ => k ≤ d.Dims.length) (fun ⟨k, sv⟩ => d.Dims.length - k) ⟨⟨0, (.slice none 0 0)⟩, (by omega), Weak.mk [true, true] ⟨VLe.refl _, VLe.refl _, VLe.refl _, trivial⟩ rfl⟩ ?_
 rintro ⟨k, sv⟩ hk
 show AWP _ _ _ _ _ ⟨[(4, vI k), (3, .c (.lit sv))] ++ _, [E.vec sv 9 1 ((d.Dims.take k).map fun a => [cS a.Name])] ++ _⟩
 refine awp_seq ?_
 refine awp_seq ?_
 refine awp_region rfl ?_
 refine rwp_det rfl rfl (det_move rfl rfl) ?_
 refine rwp_det rfl rfl (det_field_lit rfl fd63_2 rfl) ?_
 refine rwp_det rfl rfl (det_load_one rfl one61 rfl (ptr_row 1 rfl) rfl) ?_
 refine rwp_det rfl rfl (det_len_slm rfl el61 rfl) ?_
 refine rwp_det rfl rfl (det_lss rfl rfl rfl) ?_
 refine rwp_nil ?_
 refine awp_cond rfl (fun c1 => ?_) (fun c1 => ?_)
 ·try simp only [sx, List.length_map] at c1
  obtain ⟨x, hx⟩ := ex_get d.Dims k (by omega)
  refine awp_skip ?_
  refine awp_seq ?_
  refine awp_block ?_
  refine awp_region rfl ?_
  refine rwp_det rfl rfl (det_move rfl rfl) ?_
  refine rwp_det rfl rfl (det_field_lit rfl fd63_2 rfl) ?_
  refine rwp_det rfl rfl (det_load_one rfl one61 rfl (ptr_row 1 rfl) rfl) ?_
  refine rwp_det rfl rfl (det_move rfl rfl) ?_
  refine rwp_det rfl rfl (det_index_sl rfl el61 rfl rfl (by omega) (getm (by assumption))) ?_
  refine rwp_det rfl rfl (det_field_imm rfl fd80_0 rfl) ?_
  refine rwp_det rfl rfl (det_load_one rfl one9 rfl ptr_imm rfl) ?_
  refine rwp_det rfl rfl (det_bslice rfl el22 zr9 rfl rfl rfl rfl) ?_
  refine rwp_op rfl rfl (ope_append 0 rfl el22 rfl rfl rfl (by simp only [List.length_append, List.length_take, List.length_map, List.length_cons, List.length_nil]; omega) (by simp only [List.length_append, List.length_take, List.length_map, List.length_cons, List.length_nil]; omega)) ?_
  rintro _ _ ⟨sv3, rfl, rfl⟩
  refine rwp_det rfl rfl (det_assign rfl rfl) ?_
  refine rwp_nil ?_
  refine awp_region rfl ?_
  refine rwp_det rfl rfl (det_move rfl rfl) ?_
  refine rwp_det rfl rfl (det_add_nw rfl rfl rfl ⟨by omega, by omega⟩) ?_
  refine rwp_det rfl rfl (det_assign rfl rfl) ?_
  refine rwp_nil ?_
  refine ⟨⟨k + 1, sv3⟩, (by omega), (by show d.Dims.length - (k + 1) < d.Dims.length - k; omega), Weak.mk [true, true] ⟨VLe.refl _, VLe.refl _, VLe.refl _, trivial⟩ (by show _ = [E.vec sv3 _ 1 ((d.Dims.take (k + 1)).map fun a => [cS a.Name])] ++ _; rw [take_next hx, List.map_append (f := fun a : Ax => [cS a.Name])]; rfl)⟩
 ·try simp only [sx, List.length_map] at c1
  refine awp_exit ?_
  refine awp_seq ?_
  refine awp_seq ?_
  refine awp_region rfl ?_
  refine rwp_det rfl rfl (det_assign rfl rfl) ?_
  refine rwp_nil ?_
  refine awp_block ?_
  refine awp_weak ⟨[(5, .c _), (3, .c _), (1, .c _)], [_, _]⟩ (Weak.mk [true, true] ⟨VLe.of_eq rfl, VLe.of_eq rfl, VLe.of_eq rfl, trivial⟩ rfl) ?_
  refine awp_loop_k 2 1 rfl rfl (Nat × Value) (fun ⟨k, sw⟩ => [(5, vI k), (3, .c (.lit sw))]) (fun ⟨k, sw⟩ => [E.vec sw 9 1 ((d.Dims.map fun a => [cS a.Name]) ++ (d.Red.take k).map fun a => [cS a.Name])]) (fun ⟨k, sw⟩ => k ≤ d.Red.length) (fun ⟨k, sw⟩ => d.Red.length - k) ⟨⟨0, sv⟩, (by omega), Weak.mk [true, true] ⟨VLe.refl _, VLe.refl _, VLe.refl _, trivial⟩ (by show _ = [E.vec sv _ 1 ((d.Dims.map fun a => [cS a.Name]) ++ [])] ++ _; rw [take_all (l := d.Dims) (by omega), List.append_nil]; rfl)⟩ ?_
  rintro ⟨k, sw⟩ hk2
  show AWP _ _ _ _ _ ⟨[(5, vI k), (3, .c (.lit sw))] ++ _, [E.vec sw 9 1 ((d.Dims.map fun a => [cS a.Name]) ++ (d.Red.take k).map fun a => [cS a.Name])] ++ _⟩
  refine awp_seq ?_
  refine awp_seq ?_
  refine awp_region rfl ?_
  refine rwp_det rfl rfl (det_move rfl rfl) ?_
  refine rwp_det rfl rfl (det_field_lit rfl fd63_3 rfl) ?_
  refine rwp_det rfl rfl (det_load_one rfl one61 rfl (ptr_row 1 rfl) rfl) ?_
  refine rwp_det rfl rfl (det_len_slm rfl el61 rfl) ?_
  refine rwp_det rfl rfl (det_lss rfl rfl rfl) ?_
  refine rwp_nil ?_
  refine awp_cond rfl (fun c2 => ?_) (fun c2 => ?_)
  ·try simp only [sx, List.length_map] at c2
   obtain ⟨x, hx⟩ := ex_get d.Red k (by omega)
   refine awp_skip ?_
   refine awp_seq ?_
   refine awp_block ?_
   refine awp_region rfl ?_
   refine rwp_det rfl rfl (det_move rfl rfl) ?_
   refine rwp_det rfl rfl (det_field_lit rfl fd63_3 rfl) ?_
   refine rwp_det rfl rfl (det_load_one rfl one61 rfl (ptr_row 1 rfl) rfl) ?_
   refine rwp_det rfl rfl (det_move rfl rfl) ?_
   refine rwp_det rfl rfl (det_index_sl rfl el61 rfl rfl (by omega) (getm (by assumption))) ?_
   refine rwp_det rfl rfl (det_field_imm rfl fd80_0 rfl) ?_
   refine rwp_det rfl rfl (det_load_one rfl one9 rfl ptr_imm rfl) ?_
   refine rwp_det rfl rfl (det_bslice rfl el22 zr9 rfl rfl rfl rfl) ?_
   refine rwp_op rfl rfl (ope_append 0 rfl el22 rfl rfl rfl (by simp only [List.length_append, List.length_take, List.length_map, List.length_cons, List.length_nil]; omega) (by simp only [List.length_append, List.length_take, List.length_map, List.length_cons, List.length_nil]; omega)) ?_
   rintro _ _ ⟨sv4, rfl, rfl⟩
   refine rwp_det rfl rfl (det_assign rfl rfl) ?_
   refine rwp_nil ?_
   refine awp_region rfl ?_
   refine rwp_det rfl rfl (det_move rfl rfl) ?_
   refine rwp_det rfl rfl (det_add_nw rfl rfl rfl ⟨by omega, by omega⟩) ?_
   refine rwp_det rfl rfl (det_assign rfl rfl) ?_
   refine rwp_nil ?_
   refine ⟨⟨k + 1, sv4⟩, (by omega), (by show d.Red.length - (k + 1) < d.Red.length - k; omega), Weak.mk [true, true] ⟨VLe.refl _, VLe.refl _, VLe.refl _, trivial⟩ (by show _ = [E.vec sv4 _ 1 ((d.Dims.map fun a => [cS a.Name]) ++ (d.Red.take (k + 1)).map fun a => [cS a.Name])] ++ _; rw [take_next hx, List.map_append (f := fun a : Ax => [cS a.Name]), ← List.append_assoc]; rfl)⟩
  ·try simp only [sx, List.length_map] at c2
   refine awp_exit ?_
   refine awp_seq ?_
   refine awp_region rfl ?_
   refine rwp_det rfl rfl (det_move rfl rfl) ?_
   refine rwp_det rfl rfl (det_assign rfl rfl) ?_
   refine rwp_nil ?_
   refine awp_weak _ (Weak.mem [true, false] rfl) ?_
   refine awp_ret ?_
   repeat (first | refine thenQ_ret ?_ | refine blockQ_ret ?_)
   refine fin1 (rs_c rfl) ?_
   exact ⟨_, rfl, by rw [take_all (l := d.Red) (by omega), ← List.map_append (f := fun a : Ax => [cS a.Name]), names_rows]; rfl⟩

end Go.W
