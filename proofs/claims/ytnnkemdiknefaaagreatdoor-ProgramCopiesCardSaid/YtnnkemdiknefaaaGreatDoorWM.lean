/-
  Walks: what functions of the program compute. Printed by wip/gen/mk2.py.
  Conditions: none.
-/
import Derived.Test.YtnnkemdiknefaaaGreatDoorWL
import Derived.Test.YtnnkemdiknefaaaGreatDoorPlain
set_option linter.unusedSimpArgs false
set_option linter.unusedVariables false
namespace Go.W
open Go Go.Eng Go.Proofs Go.L41 Go.Br
attribute [local irreducible] AWP RWP TD
theorem el220 : elemT Tryz.prog 220 = some (23, 5, 40) := by kernel_rfl
theorem ok236 : callOk Tryz.prog 236 = true := by kernel_rfl
theorem ok263 : callOk Tryz.prog 263 = true := by kernel_rfl
theorem ok265 : callOk Tryz.prog 265 = true := by kernel_rfl
theorem ok274 : callOk Tryz.prog 274 = true := by kernel_rfl
theorem pl218 : placesT Tryz.prog 218 = some [(0, 5), (5, 1)] := by kernel_rfl
theorem zr218 : zeroT Tryz.prog 218 = some [(Value.slice none 0 0), (Value.slice none 0 0), (Value.slice none 0 0), (Value.slice none 0 0), (Value.slice none 0 0), (Value.map none)] := by kernel_rfl
theorem typer_read (b mb : Nat) (p : Pg) (m : Kn) (e : Ex) (hP : p.Ok) (he : e.wt ≤ 4294967296) :
    Con cfg 265 [vP b, vE e] (tyE b mb p m) fun r μ' => r = .tup [vTy (readK p.en (kn m) e).1, vI (readK p.en (kn m) e).2] ∧ μ' = tyE b mb p m := by
 refine Con.drop ?_
 refine con_intro Tryz.func265 rfl Tryz.ntmps265 Tryz.results265 rfl ?_
 intro z hz
 obtain ⟨hLl, hIl, hAl⟩ := e.parts he
 have hwt := Ex.wt_eq e
 refine awp_seq ?_
 refine awp_region rfl ?_
 refine rwp_op rfl rfl (ope_box rfl rfl) ?_
 rintro _ _ ⟨b1, rfl, rfl⟩
 refine rwp_op rfl rfl (ope_alloc rfl zr23) ?_
 rintro _ _ ⟨b2, rfl, rfl⟩
 refine rwp_det rfl rfl (det_assign rfl rfl) ?_
 refine rwp_nil ?_
 refine awp_seq ?_
 refine awp_draw_gp 12 14 [.q, .q, .q, .q, .q, .q, .q, .q, .q, .u, .u, .f]  mixed (by kernel_rfl) rfl rfl rfl ?_
 refine tdq_det rfl rfl (det_move rfl rfl) ?_
 refine tdq_det rfl rfl (det_nilcheck_ptr rfl rfl) ?_
 refine tdq_det rfl rfl (det_field_lit rfl fd218_0 rfl) ?_
 refine tdq_det rfl rfl (det_load_agg rfl agg47 rfl (ptr_row 2 rfl) rfl) ?_
 refine tdq_det rfl rfl (det_field_lit rfl fd33_1 rfl) ?_
 refine tdq_det rfl rfl (det_load_one rfl one9 rfl (ptr_row 1 rfl) rfl) ?_
 refine tdq_det rfl rfl (det_call rfl ok112 (program_Find p e.Name hP) ⟨VLe.refl _, rfl, VLe.refl _, rfl, trivial⟩) ?_
 refine tdq_det rfl rfl (det_move_tup rfl rfl) ?_
 refine tdq_det rfl rfl (det_ex_agg rfl rfl rfl) ?_
 refine tdq_detF rfl rfl (det_ex_c rfl rfl rfl) ?_
 refine tdq_detF rfl rfl (det_ex_c rfl rfl rfl) ?_
 refine tdq_skip ?_
 refine tdq_nil ?_
 refine tdf_q ?_
 refine tdf_q ?_
 refine tdf_q ?_
 refine tdf_q ?_
 refine tdf_q ?_
 refine tdf_q ?_
 refine tdf_q ?_
 refine tdf_q ?_
 refine tdf_q ?_
 refine tdf_u ?_
 refine tdf_u ?_
 refine tdf_fresh (fresh_alloc' (ope_alloc rfl zr23)) ?_
 refine tdf_nil ?_
 refine allch_cons ?_
 rintro _ _ ⟨b3, rfl, rfl⟩
 refine allch_nil ?_
 refine ⟨_, det_store rfl sz23 rfl rfl rfl (st_row 0 rfl rfl), (by rintro _ _ ⟨rfl, rfl⟩; exact ⟨[_], rfl⟩), ?_⟩
 rintro _ _ ⟨rfl, rfl⟩
 refine td_det rfl rfl (det_assign rfl rfl) ?_
 refine td_nil ?_
 refine rwp_det rfl rfl (det_assign rfl rfl) ?_
 refine rwp_nil ?_
 refine awp_seq ?_
 refine awp_seq ?_
 refine awp_region rfl ?_
 refine rwp_det rfl rfl (det_move rfl rfl) ?_
 refine rwp_det rfl rfl (det_not rfl rfl) ?_
 refine rwp_nil ?_
 refine awp_cond rfl (fun c1 => ?_) (fun c1 => ?_)
 ·try simp only [sx, List.length_map] at c1
  refine awp_seq ?_
  refine awp_region rfl ?_
  refine rwp_det rfl rfl (det_build rfl zr23 pl23 rfl) ?_
  refine rwp_det0 rfl rfl (det_store rfl sz23 rfl rfl rfl (st_row 1 rfl rfl)) ?_
  refine rwp_det rfl rfl (det_assign rfl rfl) ?_
  refine rwp_nil ?_
  refine awp_weak _ (Weak.mem [false, true, false, true, true] rfl) ?_
  refine awp_ret ?_
  repeat (first | refine thenQ_ret ?_ | refine blockQ_ret ?_)
  refine fin2 (rs_cell_agg agg23 rfl (ptr_row 0 rfl) rfl) (rs_c rfl) ?_
  exact ⟨by rw [readK_9 c1]; rfl, [_], rfl⟩
 ·try simp only [sx, List.length_map] at c1
  refine awp_skip ?_
  refine awp_seq ?_
  refine awp_seq ?_
  refine awp_region rfl ?_
  refine rwp_det rfl rfl (det_field_lit rfl fd33_5 rfl) ?_
  refine rwp_det rfl rfl (det_load_one rfl one30 rfl (ptr_row 2 rfl) rfl) ?_
  refine rwp_det rfl rfl (det_len_slm rfl el30 rfl) ?_
  refine rwp_det rfl rfl (det_move rfl rfl) ?_
  refine rwp_det rfl rfl (det_len_slm rfl el104 rfl) ?_
  refine rwp_det rfl rfl (det_neq rfl rfl rfl) ?_
  refine rwp_nil ?_
  refine awp_cond rfl (fun c2 => ?_) (fun c2 => ?_)
  ·try simp only [sx, List.length_map] at c2
   refine awp_seq ?_
   refine awp_region rfl ?_
   refine rwp_det rfl rfl (det_build rfl zr23 pl23 rfl) ?_
   refine rwp_det0 rfl rfl (det_store rfl sz23 rfl rfl rfl (st_row 1 rfl rfl)) ?_
   refine rwp_det rfl rfl (det_assign rfl rfl) ?_
   refine rwp_nil ?_
   refine awp_weak _ (Weak.mem [false, true, false, true, true] rfl) ?_
   refine awp_ret ?_
   repeat (first | refine thenQ_ret ?_ | refine blockQ_ret ?_)
   refine fin2 (rs_cell_agg agg23 rfl (ptr_row 0 rfl) rfl) (rs_c rfl) ?_
   exact ⟨by rw [readK_11 c1 (by omega)]; rfl, [_], rfl⟩
  ·try simp only [sx, List.length_map] at c2
   refine awp_skip ?_
   refine awp_seq ?_
   refine awp_seq ?_
   refine awp_region rfl ?_
   refine rwp_det rfl rfl (det_field_lit rfl fd33_5 rfl) ?_
   refine rwp_det rfl rfl (det_load_one rfl one30 rfl (ptr_row 2 rfl) rfl) ?_
   refine rwp_det rfl rfl (det_len_slm rfl el30 rfl) ?_
   refine rwp_det rfl rfl (det_move rfl rfl) ?_
   refine rwp_nil ?_
   refine awp_block ?_
   refine awp_weak ⟨[(36, .c _), (0, .c _), (4, .c _), (6, .c _), (34, .c _), (35, .c _)], [_, _, _, _]⟩ (Weak.mk [true, true, false, true, true] ⟨VLe.of_eq rfl, VLe.of_eq rfl, VLe.of_eq rfl, VLe.of_eq rfl, VLe.of_eq rfl, VLe.of_eq rfl, trivial⟩ rfl) ?_
   refine awp_loop_k 1 0 rfl rfl (Nat) (fun k => [(36, vI k)]) (fun k => []) (fun k => k ≤ e.Idx.length ∧ (indexL p.en (kn m) e.Idx = indexL p.en (kn m) (e.Idx.drop k))) (fun k => e.Idx.length - k) ⟨0, ⟨by omega, rfl⟩, Weak.mk [true, true, true, true] ⟨VLe.refl _, VLe.refl _, VLe.refl _, VLe.refl _, VLe.refl _, VLe.refl _, trivial⟩ rfl⟩ ?_
   rintro k ⟨hk, hp⟩
   refine awp_seq ?_
   refine awp_region rfl ?_
   refine rwp_det rfl rfl (det_lss rfl rfl rfl) ?_
   refine rwp_nil ?_
   refine awp_seq ?_
   refine awp_cond rfl (fun c3 => ?_) (fun c3 => ?_)
   ·try simp only [sx, List.length_map] at c3
    obtain ⟨x, hx⟩ := ex_get e.Idx k (by omega)
    refine awp_skip ?_
    refine awp_seq ?_
    refine awp_block ?_
    refine awp_seq ?_
    refine awp_region rfl ?_
    refine rwp_det rfl rfl (det_index_sl rfl el30 rfl rfl (by omega) (getm (by assumption))) ?_
    refine rwp_det rfl rfl (det_load_agg rfl agg117 rfl ptr_imm rfl) ?_
    refine rwp_op rfl rfl (ope_allocN [none, some 2, none, some 2] rfl zr117 rfl) ?_
    rintro _ _ ⟨b4, rfl, rfl⟩
    refine rwp_det0 rfl rfl (det_store rfl sz117 rfl rfl rfl (st_row 0 rfl rfl)) ?_
    refine rwp_nil ?_
    refine awp_seq ?_
    refine awp_region rfl ?_
    refine rwp_det rfl rfl (det_move rfl rfl) ?_
    refine rwp_det rfl rfl (det_load_agg rfl agg117 rfl (ptr_row 0 rfl) rfl) ?_
    refine rwp_det rfl rfl (det_call_mem [3, 3] rfl ok274 (typer_index b mb p m x hP (by have := idxWt_mem (mem_of_get hx); omega)) ⟨VLe.refl _, rfl, VLe.refl _, rfl, trivial⟩ rfl) ?_
    refine rwp_det rfl rfl (det_assign rfl rfl) ?_
    refine rwp_nil ?_
    refine awp_seq ?_
    refine awp_region rfl ?_
    refine rwp_det rfl rfl (det_move rfl rfl) ?_
    refine rwp_det rfl rfl (det_neq rfl rfl rfl) ?_
    refine rwp_nil ?_
    refine awp_cond rfl (fun c4 => ?_) (fun c4 => ?_)
    ·try simp only [sx, List.length_map] at c4
     refine awp_seq ?_
     refine awp_region rfl ?_
     refine rwp_det rfl rfl (det_build rfl zr23 pl23 rfl) ?_
     refine rwp_det rfl rfl (det_move rfl rfl) ?_
     refine rwp_det0 rfl rfl (det_store rfl sz23 rfl rfl rfl (st_row 2 rfl rfl)) ?_
     refine rwp_det rfl rfl (det_assign rfl rfl) ?_
     refine rwp_nil ?_
     refine awp_weak _ (Weak.mem [false, false, true, true, true] rfl) ?_
     refine awp_ret ?_
     repeat (first | refine thenQ_ret ?_ | refine blockQ_ret ?_)
     refine fin2 (rs_cell_agg agg23 rfl (ptr_row 0 rfl) rfl) (rs_c rfl) ?_
     exact ⟨by rw [readK_x c1 (by omega) (by rw [hp, indexL_no hx c4]; exact c4), hp, indexL_no hx c4]; rfl, [_], rfl⟩
    ·try simp only [sx, List.length_map] at c4
     refine awp_skip ?_
     refine awp_region rfl ?_
     refine rwp_det rfl rfl (det_add_nw rfl rfl rfl ⟨by omega, by omega⟩) ?_
     refine rwp_det rfl rfl (det_move rfl rfl) ?_
     refine rwp_nil ?_
     refine ⟨k + 1, ⟨by omega, hp.trans (indexL_next hx c4)⟩, (by omega), Weak.mk [false, true, true, true, true] ⟨VLe.refl _, VLe.refl _, VLe.refl _, VLe.refl _, VLe.refl _, VLe.refl _, trivial⟩ rfl⟩
   ·try simp only [sx, List.length_map] at c3
    refine awp_exit ?_
    refine awp_seq ?_
    refine awp_region rfl ?_
    refine rwp_det rfl rfl (det_load_agg rfl agg23 rfl (ptr_row 0 rfl) rfl) ?_
    refine rwp_det0 rfl rfl (det_store rfl sz23 rfl rfl rfl (st_row 1 rfl rfl)) ?_
    refine rwp_det rfl rfl (det_assign rfl rfl) ?_
    refine rwp_nil ?_
    refine awp_weak _ (Weak.mem [false, true, true, true] rfl) ?_
    refine awp_ret ?_
    repeat (first | refine thenQ_ret ?_ | refine blockQ_ret ?_)
    refine fin2 (rs_cell_agg agg23 rfl (ptr_row 0 rfl) rfl) (rs_c rfl) ?_
    exact ⟨by rw [readK_0 c1 (by omega) (by rw [hp, drop_all (by omega)]; rfl)]; rfl, [_], rfl⟩

theorem typer_of_1 (a b : Ty) :
    Pur cfg 263 [vTy a, vTy b] (vI (unlike a b)) := by
 refine con_intro Tryz.func263 rfl Tryz.ntmps263 Tryz.results263 rfl ?_
 intro z hz
 refine awp_seq ?_
 refine awp_region rfl ?_
 refine rwp_op rfl rfl (ope_box rfl rfl) ?_
 rintro _ _ ⟨b1, rfl, rfl⟩
 refine rwp_op rfl rfl (ope_box rfl rfl) ?_
 rintro _ _ ⟨b2, rfl, rfl⟩
 refine rwp_det rfl rfl (det_assign rfl rfl) ?_
 refine rwp_nil ?_
 refine awp_seq ?_
 refine awp_seq ?_
 refine awp_region rfl ?_
 refine rwp_det rfl rfl (det_load_agg rfl agg23 rfl (ptr_row 1 rfl) rfl) ?_
 refine rwp_det rfl rfl (det_load_agg rfl agg23 rfl (ptr_row 0 rfl) rfl) ?_
 refine rwp_det rfl rfl (det_aneq rfl fl23 rfl rfl rfl) ?_
 refine rwp_nil ?_
 refine awp_cond rfl (fun c1 => ?_) (fun c1 => ?_)
 ·have hu := unlike_10 (unlike_t c1)
  refine awp_seq ?_
  refine awp_region rfl ?_
  refine rwp_det rfl rfl (det_assign rfl rfl) ?_
  refine rwp_nil ?_
  refine awp_ret ?_
  repeat (first | refine thenQ_ret ?_ | refine blockQ_ret ?_)
  refine fin1 (rs_c rfl) ?_
  rw [hu]
 ·have hu := unlike_0 (unlike_f c1)
  refine awp_skip ?_
  refine awp_seq ?_
  refine awp_region rfl ?_
  refine rwp_det rfl rfl (det_assign rfl rfl) ?_
  refine rwp_nil ?_
  refine awp_ret ?_
  repeat (first | refine thenQ_ret ?_ | refine blockQ_ret ?_)
  refine fin1 (rs_c rfl) ?_
  rw [hu]

theorem typer_of_step (b mb : Nat) (p : Pg) (m : Kn) (hP : p.Ok) (e : Ex) (ih : ∀ a, a ∈ e.Args → partE a = 0 → a.wt ≤ 4294967296 → Con cfg 236 [vP b, vE a] (tyE b mb p m) fun r μ' => r = .tup [vTy (nodeT (ofN p.en (kn m)) a).1, vI (nodeT (ofN p.en (kn m)) a).2] ∧ μ' = tyE b mb p m) (hpart : partE e = 0) (he : e.wt ≤ 4294967296) :
    Con cfg 236 [vP b, vE e] (tyE b mb p m) fun r μ' => r = .tup [vTy (nodeT (ofN p.en (kn m)) e).1, vI (nodeT (ofN p.en (kn m)) e).2] ∧ μ' = tyE b mb p m := by
 refine Con.drop ?_
 refine con_intro Tryz.func236 rfl Tryz.ntmps236 Tryz.results236 rfl ?_
 intro z hz
 obtain ⟨hLl, hIl, hAl⟩ := e.parts he
 have hwt := Ex.wt_eq e
 refine awp_seq ?_
 refine awp_region rfl ?_
 refine rwp_op rfl rfl (ope_box rfl rfl) ?_
 rintro _ _ ⟨b1, rfl, rfl⟩
 refine rwp_op rfl rfl (ope_alloc rfl zr23) ?_
 rintro _ _ ⟨b2, rfl, rfl⟩
 refine rwp_det rfl rfl (det_assign rfl rfl) ?_
 refine rwp_nil ?_
 refine awp_seq ?_
 refine awp_region rfl ?_
 refine rwp_det rfl rfl (det_assign rfl rfl) ?_
 refine rwp_weak _ (weak_own 23 5) ?_
 refine rwp_nil ?_
 refine awp_seq ?_
 refine awp_seq ?_
 refine awp_region rfl ?_
 refine rwp_det rfl rfl (det_field_lit rfl fd33_6 rfl) ?_
 refine rwp_det rfl rfl (det_load_one rfl one31 rfl (ptr_row 2 rfl) rfl) ?_
 refine rwp_det rfl rfl (det_len_slm rfl el31 rfl) ?_
 refine rwp_det rfl rfl (det_move rfl rfl) ?_
 refine rwp_nil ?_
 refine awp_block ?_
 refine awp_weak ⟨[(15, .c _), (6, .c _), (0, .c _), (3, .c _), (4, .c _), (13, .c _), (14, .c _)], [_, _, _, _, _]⟩ (Weak.mk [true, true, true, true, true] ⟨VLe.of_eq rfl, VLe.of_eq rfl, VLe.of_eq rfl, VLe.of_eq rfl, VLe.of_eq rfl, VLe.of_eq rfl, VLe.of_eq rfl, trivial⟩ rfl) ?_
 refine awp_loop_k 2 1 rfl rfl (Nat × Value) (fun ⟨k, sv⟩ => [(15, vI k), (6, .c (.lit sv))]) (fun ⟨k, sv⟩ => [E.vec sv 23 5 ((nodeL (ofN p.en (kn m)) (e.Args.take k)).1.map tyC)]) (fun ⟨k, sv⟩ => k ≤ e.Args.length ∧ ((nodeL (ofN p.en (kn m)) (e.Args.take k)).2 = 0)) (fun ⟨k, sv⟩ => e.Args.length - k) ⟨⟨0, (.slice none 0 0)⟩, ⟨by omega, rfl⟩, Weak.mk [true, true, true, true, true] ⟨VLe.refl _, VLe.refl _, VLe.refl _, VLe.refl _, VLe.refl _, VLe.refl _, VLe.refl _, trivial⟩ rfl⟩ ?_
 rintro ⟨k, sv⟩ ⟨hk, hp⟩
 show AWP _ _ _ _ _ ⟨[(15, vI k), (6, .c (.lit sv))] ++ _, [E.vec sv 23 5 ((nodeL (ofN p.en (kn m)) (e.Args.take k)).1.map tyC)] ++ _⟩
 refine awp_seq ?_
 refine awp_region rfl ?_
 refine rwp_det rfl rfl (det_lss rfl rfl rfl) ?_
 refine rwp_nil ?_
 refine awp_seq ?_
 refine awp_cond rfl (fun c1 => ?_) (fun c1 => ?_)
 ·try simp only [sx, List.length_map] at c1
  obtain ⟨x, hx⟩ := ex_get e.Args k (by omega)
  have hll := nodeL_len _ _ hp
  refine awp_skip ?_
  refine awp_seq ?_
  refine awp_block ?_
  refine awp_seq ?_
  refine awp_region rfl ?_
  refine rwp_det rfl rfl (det_index_sl rfl el31 rfl rfl (by omega) (getmE (by assumption))) ?_
  refine rwp_det rfl rfl (det_load_agg rfl agg33 rfl ptr_imm rfl) ?_
  refine rwp_op rfl rfl (ope_allocN [none, none, none, none, none, none, none, none, none, none, some 2, some 4, some 13] rfl zr33 rfl) ?_
  rintro _ _ ⟨b4, rfl, rfl⟩
  refine rwp_det0 rfl rfl (det_store rfl sz33 rfl rfl rfl (st_row 0 rfl rfl)) ?_
  refine rwp_nil ?_
  refine awp_seq ?_
  refine awp_region rfl ?_
  refine rwp_det rfl rfl (det_move rfl rfl) ?_
  refine rwp_det rfl rfl (det_load_agg rfl agg33 rfl (ptr_row 0 rfl) rfl) ?_
  refine rwp_det rfl rfl (det_call_mem [4, 4] rfl ok236 (ih x (mem_of_get hx) (partE_arg hpart (mem_of_get hx)) (by have := Ex.arg_wt (mem_of_get hx); omega)) ⟨VLe.refl _, rfl, VLe.refl _, rfl, trivial⟩ rfl) ?_
  refine rwp_det rfl rfl (det_move_tup rfl rfl) ?_
  refine rwp_det rfl rfl (det_ex_agg rfl rfl rfl) ?_
  refine rwp_det rfl rfl (det_ex_c rfl rfl rfl) ?_
  refine rwp_op rfl rfl (ope_alloc rfl zr23) ?_
  rintro _ _ ⟨b5, rfl, rfl⟩
  refine rwp_det0 rfl rfl (det_store rfl sz23 rfl rfl rfl (st_row 0 rfl rfl)) ?_
  refine rwp_det rfl rfl (det_assign rfl rfl) ?_
  refine rwp_nil ?_
  refine awp_seq ?_
  refine awp_seq ?_
  refine awp_region rfl ?_
  refine rwp_det rfl rfl (det_move rfl rfl) ?_
  refine rwp_det rfl rfl (det_neq rfl rfl rfl) ?_
  refine rwp_nil ?_
  refine awp_cond rfl (fun c2 => ?_) (fun c2 => ?_)
  ·try simp only [sx, List.length_map] at c2
   refine awp_seq ?_
   refine awp_region rfl ?_
   refine rwp_det rfl rfl (det_build rfl zr23 pl23 rfl) ?_
   refine rwp_det rfl rfl (det_move rfl rfl) ?_
   refine rwp_det0 rfl rfl (det_store rfl sz23 rfl rfl rfl (st_row 3 rfl rfl)) ?_
   refine rwp_det rfl rfl (det_assign rfl rfl) ?_
   refine rwp_nil ?_
   refine awp_weak _ (Weak.mem [false, false, false, true, false, true, true] rfl) ?_
   refine awp_ret ?_
   repeat (first | refine thenQ_ret ?_ | refine blockQ_ret ?_)
   refine fin2 (rs_cell_agg agg23 rfl (ptr_row 0 rfl) rfl) (rs_c rfl) ?_
   exact ⟨by rw [nodeT_no hx hp c2]; rfl, [_], rfl⟩
  ·try simp only [sx, List.length_map] at c2
   refine awp_skip ?_
   refine awp_region rfl ?_
   refine rwp_det rfl rfl (det_move rfl rfl) ?_
   refine rwp_det rfl rfl (det_load_agg rfl agg23 rfl (ptr_row 0 rfl) rfl) ?_
   refine rwp_det rfl rfl (det_bslice rfl el220 zr23 rfl rfl rfl rfl) ?_
   refine rwp_op rfl rfl (ope_append 2 rfl el220 rfl rfl rfl (by simp only [List.length_map, List.length_cons, List.length_nil, hll, List.length_take]; omega) (by simp only [List.length_map, List.length_cons, List.length_nil, hll, List.length_take]; omega)) ?_
   rintro _ _ ⟨sv6, rfl, rfl⟩
   refine rwp_det rfl rfl (det_assign rfl rfl) ?_
   refine rwp_nil ?_
   refine awp_region rfl ?_
   refine rwp_det rfl rfl (det_add_nw rfl rfl rfl ⟨by omega, by omega⟩) ?_
   refine rwp_det rfl rfl (det_move rfl rfl) ?_
   refine rwp_nil ?_
   refine ⟨⟨k + 1, sv6⟩, ⟨by omega, by rw [nodeL_next hx hp c2]⟩, (by show e.Args.length - (k + 1) < e.Args.length - k; omega), Weak.mk [false, false, true, true, true, true, true] ⟨VLe.refl _, VLe.refl _, VLe.refl _, VLe.refl _, VLe.refl _, VLe.refl _, VLe.refl _, trivial⟩ (by show _ = [E.vec sv6 _ 5 ((nodeL (ofN p.en (kn m)) (e.Args.take (k + 1))).1.map tyC)] ++ _; rw [nodeL_next hx hp c2]; simp only [List.map_append]; rfl)⟩
 ·try simp only [sx, List.length_map] at c1
  have hll := nodeL_len _ _ hp
  have hta : e.Args.take k = e.Args := take_all (by omega)
  rw [hta] at hll
  have hg : ∀ i, i < e.Args.length → ((nodeL (ofN p.en (kn m)) (e.Args.take k)).1.map tyC)[i]? = some (tyC (tyAt (nodeL (ofN p.en (kn m)) (e.Args.take k)).1 i)) := fun i hi => tyAt_get (by rw [hta]; omega)
  have hT : nodeT (ofN p.en (kn m)) e = (ofN p.en (kn m)) e (nodeL (ofN p.en (kn m)) (e.Args.take k)).1 := nodeT_ok hta hp
  have hlk : (nodeL (ofN p.en (kn m)) (e.Args.take k)).1.length = e.Args.length := by rw [hta]; exact hll
  refine awp_exit ?_
  refine awp_seq ?_
  refine awp_region rfl ?_
  refine rwp_det rfl rfl (det_assign rfl rfl) ?_
  refine rwp_nil ?_
  refine awp_seq ?_
  refine awp_seq ?_
  refine awp_region rfl ?_
  refine rwp_det rfl rfl (det_field_lit rfl fd33_0 rfl) ?_
  refine rwp_det rfl rfl (det_load_one rfl one3 rfl (ptr_row 2 rfl) rfl) ?_
  refine rwp_nil ?_
  refine awp_block ?_
  refine awp_seq ?_
  refine awp_seq ?_
  refine awp_region rfl ?_
  refine rwp_det rfl rfl (det_eql rfl rfl rfl) ?_
  refine rwp_det rfl rfl (det_assign rfl rfl) ?_
  refine rwp_nil ?_
  refine awp_cond rfl (fun c3 => ?_) (fun c3 => ?_)
  ·try simp only [sx, List.length_map] at c3
   refine awp_skip ?_
   refine awp_cond rfl (fun c4 => ?_) (fun c4 => ?_)
   ·try simp only [sx, List.length_map] at c4
    refine awp_seq ?_
    refine awp_region rfl ?_
    refine rwp_det rfl rfl (det_field_lit rfl fd33_3 rfl) ?_
    refine rwp_det rfl rfl (det_load_agg rfl agg23 rfl (ptr_row 2 rfl) rfl) ?_
    refine rwp_det0 rfl rfl (det_store rfl sz23 rfl rfl rfl (st_row 1 rfl rfl)) ?_
    refine rwp_det rfl rfl (det_assign rfl rfl) ?_
    refine rwp_nil ?_
    refine awp_weak _ (Weak.mem [false, true, false, true, true] rfl) ?_
    refine awp_ret ?_
    repeat (first | refine thenQ_ret ?_ | refine blockQ_ret ?_)
    refine fin2 (rs_cell_agg agg23 rfl (ptr_row 0 rfl) rfl) (rs_c rfl) ?_
    exact ⟨by rw [hT]; first | (rw [ofN_1 (by omega)]; rfl) | (rw [ofN_2 (by omega)]; rfl) | (rw [ofN_3 (by omega)]; rfl) | (rw [ofN_8 (by omega)]; rfl) | (rw [ofN_11 (by omega)]; rfl) | (rw [ofN_16 (by omega)]; rfl) | (rw [ofN_13 (by omega)]; rfl) | (rw [ofN_o (by omega)]; rfl), [_], rfl⟩
   ·try simp only [sx, List.length_map] at c4
    exact absurd c3 c4
  ·try simp only [sx, List.length_map] at c3
   refine awp_region rfl ?_
   refine rwp_det rfl rfl (det_eql rfl rfl rfl) ?_
   refine rwp_det rfl rfl (det_assign rfl rfl) ?_
   refine rwp_nil ?_
   refine awp_cond rfl (fun c4 => ?_) (fun c4 => ?_)
   ·try simp only [sx, List.length_map] at c4
    refine awp_seq ?_
    refine awp_region rfl ?_
    refine rwp_det rfl rfl (det_field_lit rfl fd33_3 rfl) ?_
    refine rwp_det rfl rfl (det_load_agg rfl agg23 rfl (ptr_row 2 rfl) rfl) ?_
    refine rwp_det0 rfl rfl (det_store rfl sz23 rfl rfl rfl (st_row 1 rfl rfl)) ?_
    refine rwp_det rfl rfl (det_assign rfl rfl) ?_
    refine rwp_nil ?_
    refine awp_weak _ (Weak.mem [false, true, false, true, true] rfl) ?_
    refine awp_ret ?_
    repeat (first | refine thenQ_ret ?_ | refine blockQ_ret ?_)
    refine fin2 (rs_cell_agg agg23 rfl (ptr_row 0 rfl) rfl) (rs_c rfl) ?_
    exact ⟨by rw [hT]; first | (rw [ofN_1 (by omega)]; rfl) | (rw [ofN_2 (by omega)]; rfl) | (rw [ofN_3 (by omega)]; rfl) | (rw [ofN_8 (by omega)]; rfl) | (rw [ofN_11 (by omega)]; rfl) | (rw [ofN_16 (by omega)]; rfl) | (rw [ofN_13 (by omega)]; rfl) | (rw [ofN_o (by omega)]; rfl), [_], rfl⟩
   ·try simp only [sx, List.length_map] at c4
    refine awp_seq ?_
    refine awp_region rfl ?_
    refine rwp_det rfl rfl (det_eql rfl rfl rfl) ?_
    refine rwp_det rfl rfl (det_assign rfl rfl) ?_
    refine rwp_nil ?_
    refine awp_cond rfl (fun c5 => ?_) (fun c5 => ?_)
    ·try simp only [sx, List.length_map] at c5
     refine awp_seq ?_
     refine awp_region rfl ?_
     refine rwp_det rfl rfl (det_build rfl zr23 pl23 rfl) ?_
     refine rwp_det rfl rfl (det_move rfl rfl) ?_
     refine rwp_det rfl rfl (det_field_lit rfl fd33_4 rfl) ?_
     refine rwp_det rfl rfl (det_load_agg rfl agg29 rfl (ptr_row 2 rfl) rfl) ?_
     refine rwp_det rfl rfl (det_call_mem [3, 3] rfl ok264 (typer_form b mb p m e.Lin hLl) ⟨VLe.refl _, rfl, VLe.refl _, rfl, trivial⟩ rfl) ?_
     refine rwp_det0 rfl rfl (det_store rfl sz23 rfl rfl rfl (st_row 1 rfl rfl)) ?_
     refine rwp_det rfl rfl (det_assign rfl rfl) ?_
     refine rwp_nil ?_
     refine awp_weak _ (Weak.mem [false, true, false, true, true] rfl) ?_
     refine awp_ret ?_
     repeat (first | refine thenQ_ret ?_ | refine blockQ_ret ?_)
     refine fin2 (rs_cell_agg agg23 rfl (ptr_row 0 rfl) rfl) (rs_c rfl) ?_
     exact ⟨by rw [hT]; first | (rw [ofN_1 (by omega)]; rfl) | (rw [ofN_2 (by omega)]; rfl) | (rw [ofN_3 (by omega)]; rfl) | (rw [ofN_8 (by omega)]; rfl) | (rw [ofN_11 (by omega)]; rfl) | (rw [ofN_16 (by omega)]; rfl) | (rw [ofN_13 (by omega)]; rfl) | (rw [ofN_o (by omega)]; rfl), [_], rfl⟩
    ·try simp only [sx, List.length_map] at c5
     refine awp_seq ?_
     refine awp_region rfl ?_
     refine rwp_det rfl rfl (det_eql rfl rfl rfl) ?_
     refine rwp_det rfl rfl (det_assign rfl rfl) ?_
     refine rwp_nil ?_
     refine awp_cond rfl (fun c6 => ?_) (fun c6 => ?_)
     ·try simp only [sx, List.length_map] at c6
      refine awp_seq ?_
      refine awp_region rfl ?_
      refine rwp_det rfl rfl (det_move rfl rfl) ?_
      refine rwp_det rfl rfl (det_load_agg rfl agg33 rfl (ptr_row 2 rfl) rfl) ?_
      refine rwp_det rfl rfl (det_call_mem [3, 3] rfl ok265 (typer_read b mb p m e hP he) ⟨VLe.refl _, rfl, VLe.refl _, rfl, trivial⟩ rfl) ?_
      refine rwp_det rfl rfl (det_ex_agg rfl rfl rfl) ?_
      refine rwp_det rfl rfl (det_ex_c rfl rfl rfl) ?_
      refine rwp_det0 rfl rfl (det_store rfl sz23 rfl rfl rfl (st_row 1 rfl rfl)) ?_
      refine rwp_det rfl rfl (det_assign rfl rfl) ?_
      refine rwp_nil ?_
      refine awp_weak _ (Weak.mem [false, true, false, true, true] rfl) ?_
      refine awp_ret ?_
      repeat (first | refine thenQ_ret ?_ | refine blockQ_ret ?_)
      refine fin2 (rs_cell_agg agg23 rfl (ptr_row 0 rfl) rfl) (rs_c rfl) ?_
      exact ⟨by rw [hT]; first | (rw [ofN_1 (by omega)]; rfl) | (rw [ofN_2 (by omega)]; rfl) | (rw [ofN_3 (by omega)]; rfl) | (rw [ofN_8 (by omega)]; rfl) | (rw [ofN_11 (by omega)]; rfl) | (rw [ofN_16 (by omega)]; rfl) | (rw [ofN_13 (by omega)]; rfl) | (rw [ofN_o (by omega)]; rfl), [_], rfl⟩
     ·try simp only [sx, List.length_map] at c6
      refine awp_seq ?_
      refine awp_region rfl ?_
      refine rwp_det rfl rfl (det_eql rfl rfl rfl) ?_
      refine rwp_det rfl rfl (det_assign rfl rfl) ?_
      refine rwp_nil ?_
      refine awp_cond rfl (fun c7 => ?_) (fun c7 => ?_)
      ·try simp only [sx, List.length_map] at c7
       have hlen1 := args_len hpart (by omega)
       refine awp_seq ?_
       refine awp_region rfl ?_
       refine rwp_det rfl rfl (det_move rfl rfl) ?_
       refine rwp_det rfl rfl (det_index_vec 0 rfl el220 rfl rfl rfl (by omega) (by simp only [List.length_map]; omega)) ?_
       refine rwp_det rfl rfl (det_load_agg rfl agg23 rfl (ptr_vec 0 rfl (hg 0 (by omega))) rfl) ?_
       refine rwp_det0 rfl rfl (det_store rfl sz23 rfl rfl rfl (st_row 1 rfl rfl)) ?_
       refine rwp_det rfl rfl (det_assign rfl rfl) ?_
       refine rwp_nil ?_
       refine awp_weak _ (Weak.mem [false, true, false, true, true] rfl) ?_
       refine awp_ret ?_
       repeat (first | refine thenQ_ret ?_ | refine blockQ_ret ?_)
       refine fin2 (rs_cell_agg agg23 rfl (ptr_row 0 rfl) rfl) (rs_c rfl) ?_
       exact ⟨by rw [hT]; first | (rw [ofN_1 (by omega)]; rfl) | (rw [ofN_2 (by omega)]; rfl) | (rw [ofN_3 (by omega)]; rfl) | (rw [ofN_8 (by omega)]; rfl) | (rw [ofN_11 (by omega)]; rfl) | (rw [ofN_16 (by omega)]; rfl) | (rw [ofN_13 (by omega)]; rfl) | (rw [ofN_o (by omega)]; rfl), [_], rfl⟩
      ·try simp only [sx, List.length_map] at c7
       refine awp_seq ?_
       refine awp_region rfl ?_
       refine rwp_det rfl rfl (det_eql rfl rfl rfl) ?_
       refine rwp_det rfl rfl (det_assign rfl rfl) ?_
       refine rwp_nil ?_
       refine awp_cond rfl (fun c8 => ?_) (fun c8 => ?_)
       ·try simp only [sx, List.length_map] at c8
        have hlen3 := args_len3 hpart c8
        refine awp_seq ?_
        refine awp_draw 11 mixed (by kernel_rfl) rfl rfl ?_
        refine td_det rfl rfl (det_move rfl rfl) ?_
        refine td_det rfl rfl (det_index_vec 0 rfl el220 rfl rfl rfl (by omega) (by simp only [List.length_map]; omega)) ?_
        refine td_det rfl rfl (det_load_agg rfl agg23 rfl (ptr_vec 0 rfl (hg 1 (by omega))) rfl) ?_
        refine td_det rfl rfl (det_move rfl rfl) ?_
        refine td_det rfl rfl (det_move rfl rfl) ?_
        refine td_det rfl rfl (det_index_vec 0 rfl el220 rfl rfl rfl (by omega) (by simp only [List.length_map]; omega)) ?_
        refine td_det rfl rfl (det_load_agg rfl agg23 rfl (ptr_vec 0 rfl (hg 1 (by omega))) rfl) ?_
        refine td_det rfl rfl (det_move rfl rfl) ?_
        refine td_det rfl rfl (det_index_vec 0 rfl el220 rfl rfl rfl (by omega) (by simp only [List.length_map]; omega)) ?_
        refine td_det rfl rfl (det_load_agg rfl agg23 rfl (ptr_vec 0 rfl (hg 2 (by omega))) rfl) ?_
        refine td_det rfl rfl (det_call_fn0 rfl rfl ok263 (typer_of_1 _ _) ⟨VLe.refl _, rfl, VLe.refl _, rfl, trivial⟩) ?_
        refine td_nil ?_
        refine rwp_det0 rfl rfl (det_store rfl sz23 rfl rfl rfl (st_row 1 rfl rfl)) ?_
        refine rwp_det rfl rfl (det_assign rfl rfl) ?_
        refine rwp_nil ?_
        refine awp_weak _ (Weak.mem [false, true, false, true, true] rfl) ?_
        refine awp_ret ?_
        repeat (first | refine thenQ_ret ?_ | refine blockQ_ret ?_)
        refine fin2 (rs_cell_agg agg23 rfl (ptr_row 0 rfl) rfl) (rs_c rfl) ?_
        exact ⟨by rw [hT]; first | (rw [ofN_1 (by omega)]; rfl) | (rw [ofN_2 (by omega)]; rfl) | (rw [ofN_3 (by omega)]; rfl) | (rw [ofN_8 (by omega)]; rfl) | (rw [ofN_11 (by omega)]; rfl) | (rw [ofN_16 (by omega)]; rfl) | (rw [ofN_13 (by omega)]; rfl) | (rw [ofN_o (by omega)]; rfl), [_], rfl⟩
       ·try simp only [sx, List.length_map] at c8
        refine awp_seq ?_
        refine awp_seq ?_
        refine awp_region rfl ?_
        refine rwp_det rfl rfl (det_eql rfl rfl rfl) ?_
        refine rwp_det rfl rfl (det_assign rfl rfl) ?_
        refine rwp_nil ?_
        refine awp_cond rfl (fun c9 => ?_) (fun c9 => ?_)
        ·try simp only [sx, List.length_map] at c9
         refine awp_skip ?_
         refine awp_cond rfl (fun c11 => ?_) (fun c11 => ?_)
         ·try simp only [sx, List.length_map] at c11
          refine awp_seq ?_
          refine awp_region rfl ?_
          refine rwp_det rfl rfl (det_build rfl zr23 pl23 rfl) ?_
          refine rwp_det0 rfl rfl (det_store rfl sz23 rfl rfl rfl (st_row 1 rfl rfl)) ?_
          refine rwp_det rfl rfl (det_assign rfl rfl) ?_
          refine rwp_nil ?_
          refine awp_weak _ (Weak.mem [false, true, false, true, true] rfl) ?_
          refine awp_ret ?_
          repeat (first | refine thenQ_ret ?_ | refine blockQ_ret ?_)
          refine fin2 (rs_cell_agg agg23 rfl (ptr_row 0 rfl) rfl) (rs_c rfl) ?_
          exact ⟨by rw [hT]; first | (rw [ofN_1 (by omega)]; rfl) | (rw [ofN_2 (by omega)]; rfl) | (rw [ofN_3 (by omega)]; rfl) | (rw [ofN_8 (by omega)]; rfl) | (rw [ofN_11 (by omega)]; rfl) | (rw [ofN_16 (by omega)]; rfl) | (rw [ofN_13 (by omega)]; rfl) | (rw [ofN_o (by omega)]; rfl), [_], rfl⟩
         ·try simp only [sx, List.length_map] at c11
          exact absurd c9 c11
        ·try simp only [sx, List.length_map] at c9
         refine awp_seq ?_
         refine awp_region rfl ?_
         refine rwp_det rfl rfl (det_eql rfl rfl rfl) ?_
         refine rwp_det rfl rfl (det_assign rfl rfl) ?_
         refine rwp_nil ?_
         refine awp_cond rfl (fun c10 => ?_) (fun c10 => ?_)
         ·try simp only [sx, List.length_map] at c10
          refine awp_skip ?_
          refine awp_cond rfl (fun c11 => ?_) (fun c11 => ?_)
          ·try simp only [sx, List.length_map] at c11
           refine awp_seq ?_
           refine awp_region rfl ?_
           refine rwp_det rfl rfl (det_build rfl zr23 pl23 rfl) ?_
           refine rwp_det0 rfl rfl (det_store rfl sz23 rfl rfl rfl (st_row 1 rfl rfl)) ?_
           refine rwp_det rfl rfl (det_assign rfl rfl) ?_
           refine rwp_nil ?_
           refine awp_weak _ (Weak.mem [false, true, false, true, true] rfl) ?_
           refine awp_ret ?_
           repeat (first | refine thenQ_ret ?_ | refine blockQ_ret ?_)
           refine fin2 (rs_cell_agg agg23 rfl (ptr_row 0 rfl) rfl) (rs_c rfl) ?_
           exact ⟨by rw [hT]; first | (rw [ofN_1 (by omega)]; rfl) | (rw [ofN_2 (by omega)]; rfl) | (rw [ofN_3 (by omega)]; rfl) | (rw [ofN_8 (by omega)]; rfl) | (rw [ofN_11 (by omega)]; rfl) | (rw [ofN_16 (by omega)]; rfl) | (rw [ofN_13 (by omega)]; rfl) | (rw [ofN_o (by omega)]; rfl), [_], rfl⟩
          ·try simp only [sx, List.length_map] at c11
           exact absurd c10 c11
         ·try simp only [sx, List.length_map] at c10
          refine awp_region rfl ?_
          refine rwp_det rfl rfl (det_eql rfl rfl rfl) ?_
          refine rwp_det rfl rfl (det_assign rfl rfl) ?_
          refine rwp_nil ?_
          refine awp_cond rfl (fun c11 => ?_) (fun c11 => ?_)
          ·try simp only [sx, List.length_map] at c11
           refine awp_seq ?_
           refine awp_region rfl ?_
           refine rwp_det rfl rfl (det_build rfl zr23 pl23 rfl) ?_
           refine rwp_det0 rfl rfl (det_store rfl sz23 rfl rfl rfl (st_row 1 rfl rfl)) ?_
           refine rwp_det rfl rfl (det_assign rfl rfl) ?_
           refine rwp_nil ?_
           refine awp_weak _ (Weak.mem [false, true, false, true, true] rfl) ?_
           refine awp_ret ?_
           repeat (first | refine thenQ_ret ?_ | refine blockQ_ret ?_)
           refine fin2 (rs_cell_agg agg23 rfl (ptr_row 0 rfl) rfl) (rs_c rfl) ?_
           exact ⟨by rw [hT]; first | (rw [ofN_1 (by omega)]; rfl) | (rw [ofN_2 (by omega)]; rfl) | (rw [ofN_3 (by omega)]; rfl) | (rw [ofN_8 (by omega)]; rfl) | (rw [ofN_11 (by omega)]; rfl) | (rw [ofN_16 (by omega)]; rfl) | (rw [ofN_13 (by omega)]; rfl) | (rw [ofN_o (by omega)]; rfl), [_], rfl⟩
          ·try simp only [sx, List.length_map] at c11
           refine awp_seq ?_
           refine awp_seq ?_
           refine awp_region rfl ?_
           refine rwp_det rfl rfl (det_eql rfl rfl rfl) ?_
           refine rwp_det rfl rfl (det_assign rfl rfl) ?_
           refine rwp_nil ?_
           refine awp_cond rfl (fun c12 => ?_) (fun c12 => ?_)
           ·try simp only [sx, List.length_map] at c12
            refine awp_skip ?_
            refine awp_cond rfl (fun c14 => ?_) (fun c14 => ?_)
            ·try simp only [sx, List.length_map] at c14
             have hlen2 := args_len2 hpart (by omega)
             refine awp_seq ?_
             refine awp_draw 9 mixed (by kernel_rfl) rfl rfl ?_
             refine td_det rfl rfl (det_build rfl zr23 pl23 rfl) ?_
             refine td_det rfl rfl (det_move rfl rfl) ?_
             refine td_det rfl rfl (det_move rfl rfl) ?_
             refine td_det rfl rfl (det_index_vec 0 rfl el220 rfl rfl rfl (by omega) (by simp only [List.length_map]; omega)) ?_
             refine td_det rfl rfl (det_load_agg rfl agg23 rfl (ptr_vec 0 rfl (hg 0 (by omega))) rfl) ?_
             refine td_det rfl rfl (det_move rfl rfl) ?_
             refine td_det rfl rfl (det_index_vec 0 rfl el220 rfl rfl rfl (by omega) (by simp only [List.length_map]; omega)) ?_
             refine td_det rfl rfl (det_load_agg rfl agg23 rfl (ptr_vec 0 rfl (hg 1 (by omega))) rfl) ?_
             refine td_det rfl rfl (det_call_fn0 rfl rfl ok263 (typer_of_1 _ _) ⟨VLe.refl _, rfl, VLe.refl _, rfl, trivial⟩) ?_
             refine td_nil ?_
             refine rwp_det0 rfl rfl (det_store rfl sz23 rfl rfl rfl (st_row 1 rfl rfl)) ?_
             refine rwp_det rfl rfl (det_assign rfl rfl) ?_
             refine rwp_nil ?_
             refine awp_weak _ (Weak.mem [false, true, false, true, true] rfl) ?_
             refine awp_ret ?_
             repeat (first | refine thenQ_ret ?_ | refine blockQ_ret ?_)
             refine fin2 (rs_cell_agg agg23 rfl (ptr_row 0 rfl) rfl) (rs_c rfl) ?_
             exact ⟨by rw [hT]; first | (rw [ofN_1 (by omega)]; rfl) | (rw [ofN_2 (by omega)]; rfl) | (rw [ofN_3 (by omega)]; rfl) | (rw [ofN_8 (by omega)]; rfl) | (rw [ofN_11 (by omega)]; rfl) | (rw [ofN_16 (by omega)]; rfl) | (rw [ofN_13 (by omega)]; rfl) | (rw [ofN_o (by omega)]; rfl), [_], rfl⟩
            ·try simp only [sx, List.length_map] at c14
             exact absurd c12 c14
           ·try simp only [sx, List.length_map] at c12
            refine awp_seq ?_
            refine awp_region rfl ?_
            refine rwp_det rfl rfl (det_eql rfl rfl rfl) ?_
            refine rwp_det rfl rfl (det_assign rfl rfl) ?_
            refine rwp_nil ?_
            refine awp_cond rfl (fun c13 => ?_) (fun c13 => ?_)
            ·try simp only [sx, List.length_map] at c13
             refine awp_skip ?_
             refine awp_cond rfl (fun c14 => ?_) (fun c14 => ?_)
             ·try simp only [sx, List.length_map] at c14
              have hlen2 := args_len2 hpart (by omega)
              refine awp_seq ?_
              refine awp_draw 9 mixed (by kernel_rfl) rfl rfl ?_
              refine td_det rfl rfl (det_build rfl zr23 pl23 rfl) ?_
              refine td_det rfl rfl (det_move rfl rfl) ?_
              refine td_det rfl rfl (det_move rfl rfl) ?_
              refine td_det rfl rfl (det_index_vec 0 rfl el220 rfl rfl rfl (by omega) (by simp only [List.length_map]; omega)) ?_
              refine td_det rfl rfl (det_load_agg rfl agg23 rfl (ptr_vec 0 rfl (hg 0 (by omega))) rfl) ?_
              refine td_det rfl rfl (det_move rfl rfl) ?_
              refine td_det rfl rfl (det_index_vec 0 rfl el220 rfl rfl rfl (by omega) (by simp only [List.length_map]; omega)) ?_
              refine td_det rfl rfl (det_load_agg rfl agg23 rfl (ptr_vec 0 rfl (hg 1 (by omega))) rfl) ?_
              refine td_det rfl rfl (det_call_fn0 rfl rfl ok263 (typer_of_1 _ _) ⟨VLe.refl _, rfl, VLe.refl _, rfl, trivial⟩) ?_
              refine td_nil ?_
              refine rwp_det0 rfl rfl (det_store rfl sz23 rfl rfl rfl (st_row 1 rfl rfl)) ?_
              refine rwp_det rfl rfl (det_assign rfl rfl) ?_
              refine rwp_nil ?_
              refine awp_weak _ (Weak.mem [false, true, false, true, true] rfl) ?_
              refine awp_ret ?_
              repeat (first | refine thenQ_ret ?_ | refine blockQ_ret ?_)
              refine fin2 (rs_cell_agg agg23 rfl (ptr_row 0 rfl) rfl) (rs_c rfl) ?_
              exact ⟨by rw [hT]; first | (rw [ofN_1 (by omega)]; rfl) | (rw [ofN_2 (by omega)]; rfl) | (rw [ofN_3 (by omega)]; rfl) | (rw [ofN_8 (by omega)]; rfl) | (rw [ofN_11 (by omega)]; rfl) | (rw [ofN_16 (by omega)]; rfl) | (rw [ofN_13 (by omega)]; rfl) | (rw [ofN_o (by omega)]; rfl), [_], rfl⟩
             ·try simp only [sx, List.length_map] at c14
              exact absurd c13 c14
            ·try simp only [sx, List.length_map] at c13
             refine awp_region rfl ?_
             refine rwp_det rfl rfl (det_eql rfl rfl rfl) ?_
             refine rwp_det rfl rfl (det_assign rfl rfl) ?_
             refine rwp_nil ?_
             refine awp_cond rfl (fun c14 => ?_) (fun c14 => ?_)
             ·try simp only [sx, List.length_map] at c14
              have hlen2 := args_len2 hpart (by omega)
              refine awp_seq ?_
              refine awp_draw 9 mixed (by kernel_rfl) rfl rfl ?_
              refine td_det rfl rfl (det_build rfl zr23 pl23 rfl) ?_
              refine td_det rfl rfl (det_move rfl rfl) ?_
              refine td_det rfl rfl (det_move rfl rfl) ?_
              refine td_det rfl rfl (det_index_vec 0 rfl el220 rfl rfl rfl (by omega) (by simp only [List.length_map]; omega)) ?_
              refine td_det rfl rfl (det_load_agg rfl agg23 rfl (ptr_vec 0 rfl (hg 0 (by omega))) rfl) ?_
              refine td_det rfl rfl (det_move rfl rfl) ?_
              refine td_det rfl rfl (det_index_vec 0 rfl el220 rfl rfl rfl (by omega) (by simp only [List.length_map]; omega)) ?_
              refine td_det rfl rfl (det_load_agg rfl agg23 rfl (ptr_vec 0 rfl (hg 1 (by omega))) rfl) ?_
              refine td_det rfl rfl (det_call_fn0 rfl rfl ok263 (typer_of_1 _ _) ⟨VLe.refl _, rfl, VLe.refl _, rfl, trivial⟩) ?_
              refine td_nil ?_
              refine rwp_det0 rfl rfl (det_store rfl sz23 rfl rfl rfl (st_row 1 rfl rfl)) ?_
              refine rwp_det rfl rfl (det_assign rfl rfl) ?_
              refine rwp_nil ?_
              refine awp_weak _ (Weak.mem [false, true, false, true, true] rfl) ?_
              refine awp_ret ?_
              repeat (first | refine thenQ_ret ?_ | refine blockQ_ret ?_)
              refine fin2 (rs_cell_agg agg23 rfl (ptr_row 0 rfl) rfl) (rs_c rfl) ?_
              exact ⟨by rw [hT]; first | (rw [ofN_1 (by omega)]; rfl) | (rw [ofN_2 (by omega)]; rfl) | (rw [ofN_3 (by omega)]; rfl) | (rw [ofN_8 (by omega)]; rfl) | (rw [ofN_11 (by omega)]; rfl) | (rw [ofN_16 (by omega)]; rfl) | (rw [ofN_13 (by omega)]; rfl) | (rw [ofN_o (by omega)]; rfl), [_], rfl⟩
             ·try simp only [sx, List.length_map] at c14
              have hlen2 := args_len2 hpart (by omega)
              refine awp_skip ?_
              refine awp_seq ?_
              refine awp_draw 11 mixed (by kernel_rfl) rfl rfl ?_
              refine td_det rfl rfl (det_move rfl rfl) ?_
              refine td_det rfl rfl (det_index_vec 0 rfl el220 rfl rfl rfl (by omega) (by simp only [List.length_map]; omega)) ?_
              refine td_det rfl rfl (det_load_agg rfl agg23 rfl (ptr_vec 0 rfl (hg 0 (by omega))) rfl) ?_
              refine td_det rfl rfl (det_move rfl rfl) ?_
              refine td_det rfl rfl (det_move rfl rfl) ?_
              refine td_det rfl rfl (det_index_vec 0 rfl el220 rfl rfl rfl (by omega) (by simp only [List.length_map]; omega)) ?_
              refine td_det rfl rfl (det_load_agg rfl agg23 rfl (ptr_vec 0 rfl (hg 0 (by omega))) rfl) ?_
              refine td_det rfl rfl (det_move rfl rfl) ?_
              refine td_det rfl rfl (det_index_vec 0 rfl el220 rfl rfl rfl (by omega) (by simp only [List.length_map]; omega)) ?_
              refine td_det rfl rfl (det_load_agg rfl agg23 rfl (ptr_vec 0 rfl (hg 1 (by omega))) rfl) ?_
              refine td_det rfl rfl (det_call_fn0 rfl rfl ok263 (typer_of_1 _ _) ⟨VLe.refl _, rfl, VLe.refl _, rfl, trivial⟩) ?_
              refine td_nil ?_
              refine rwp_det0 rfl rfl (det_store rfl sz23 rfl rfl rfl (st_row 1 rfl rfl)) ?_
              refine rwp_det rfl rfl (det_assign rfl rfl) ?_
              refine rwp_nil ?_
              refine awp_weak _ (Weak.mem [false, true, false, true, true] rfl) ?_
              refine awp_ret ?_
              repeat (first | refine thenQ_ret ?_ | refine blockQ_ret ?_)
              refine fin2 (rs_cell_agg agg23 rfl (ptr_row 0 rfl) rfl) (rs_c rfl) ?_
              exact ⟨by rw [hT]; first | (rw [ofN_1 (by omega)]; rfl) | (rw [ofN_2 (by omega)]; rfl) | (rw [ofN_3 (by omega)]; rfl) | (rw [ofN_8 (by omega)]; rfl) | (rw [ofN_11 (by omega)]; rfl) | (rw [ofN_16 (by omega)]; rfl) | (rw [ofN_13 (by omega)]; rfl) | (rw [ofN_o (by omega)]; rfl), [_], rfl⟩

theorem typer_of (b mb : Nat) (p : Pg) (m : Kn) (hP : p.Ok) (e : Ex) (hpart : partE e = 0) (he : e.wt ≤ 4294967296) : Con cfg 236 [vP b, vE e] (tyE b mb p m) fun r μ' => r = .tup [vTy (nodeT (ofN p.en (kn m)) e).1, vI (nodeT (ofN p.en (kn m)) e).2] ∧ μ' = tyE b mb p m := by
  induction e using Ex.ind with
  | _ e ih => exact typer_of_step b mb p m hP e (fun a ha h1 h2 => ih a ha h1 h2) hpart he

theorem program_TypeOf (p : Pg) (vars : List ByteArray) (e : Ex) (hP : p.Ok) (hv : vars.length ≤ 4294967296) (he : e.wt ≤ 4294967296) :
    Pur cfg 198 [vPg p, vSs vars, vE e] (.tup [vTy (typeT p.en vars e).1, vI (typeT p.en vars e).2]) := by
 refine con_intro Tryz.func198 rfl Tryz.ntmps198 Tryz.results198 rfl ?_
 intro z hz
 have hsz := hP.sizes
 refine awp_seq ?_
 refine awp_region rfl ?_
 refine rwp_op rfl rfl (ope_box rfl rfl) ?_
 rintro _ _ ⟨b1, rfl, rfl⟩
 refine rwp_op rfl rfl (ope_box rfl rfl) ?_
 rintro _ _ ⟨b2, rfl, rfl⟩
 refine rwp_op rfl rfl (ope_alloc rfl zr23) ?_
 rintro _ _ ⟨b3, rfl, rfl⟩
 refine rwp_det rfl rfl (det_assign rfl rfl) ?_
 refine rwp_nil ?_
 refine awp_seq ?_
 refine awp_seq ?_
 refine awp_region rfl ?_
 refine rwp_det rfl rfl (det_load_agg rfl agg33 rfl (ptr_row 1 rfl) rfl) ?_
 refine rwp_det rfl rfl (det_call rfl ok40 (expr_Validate e (by omega)) ⟨VLe.refl _, rfl, trivial⟩) ?_
 refine rwp_det rfl rfl (det_assign rfl rfl) ?_
 refine rwp_nil ?_
 refine awp_seq ?_
 refine awp_region rfl ?_
 refine rwp_det rfl rfl (det_move rfl rfl) ?_
 refine rwp_det rfl rfl (det_neq rfl rfl rfl) ?_
 refine rwp_nil ?_
 refine awp_cond rfl (fun c1 => ?_) (fun c1 => ?_)
 ·try simp only [sx, List.length_map] at c1
  refine awp_seq ?_
  refine awp_region rfl ?_
  refine rwp_det rfl rfl (det_build rfl zr23 pl23 rfl) ?_
  refine rwp_det rfl rfl (det_move rfl rfl) ?_
  refine rwp_det0 rfl rfl (det_store rfl sz23 rfl rfl rfl (st_row 0 rfl rfl)) ?_
  refine rwp_det rfl rfl (det_assign rfl rfl) ?_
  refine rwp_nil ?_
  refine awp_ret ?_
  repeat (first | refine thenQ_ret ?_ | refine blockQ_ret ?_)
  refine fin2 (rs_cell_agg agg23 rfl (ptr_row 0 rfl) rfl) (rs_c rfl) ?_
  rw [typeT_bad c1]; rfl
 ·try simp only [sx, List.length_map] at c1
  refine awp_skip ?_
  refine awp_seq ?_
  refine awp_seq ?_
  refine awp_region rfl ?_
  refine rwp_det rfl rfl (det_load_agg rfl agg33 rfl (ptr_row 1 rfl) rfl) ?_
  refine rwp_det rfl rfl (det_call rfl ok80 (expr_IsCondition e) ⟨VLe.refl _, rfl, trivial⟩) ?_
  refine rwp_nil ?_
  refine awp_cond rfl (fun c2 => ?_) (fun c2 => ?_)
  ·try simp only [sx, List.length_map] at c2
   refine awp_seq ?_
   refine awp_region rfl ?_
   refine rwp_det rfl rfl (det_build rfl zr23 pl23 rfl) ?_
   refine rwp_det0 rfl rfl (det_store rfl sz23 rfl rfl rfl (st_row 0 rfl rfl)) ?_
   refine rwp_det rfl rfl (det_assign rfl rfl) ?_
   refine rwp_nil ?_
   refine awp_ret ?_
   repeat (first | refine thenQ_ret ?_ | refine blockQ_ret ?_)
   refine fin2 (rs_cell_agg agg23 rfl (ptr_row 0 rfl) rfl) (rs_c rfl) ?_
   rw [typeT_cond c1 c2]; rfl
  ·try simp only [sx, List.length_map] at c2
   refine awp_skip ?_
   refine awp_seq ?_
   refine awp_region rfl ?_
   refine rwp_det rfl rfl (det_load_agg rfl agg47 rfl (ptr_row 2 rfl) rfl) ?_
   refine rwp_op rfl rfl (ope_mkmap vI rfl rfl) ?_
   rintro _ _ ⟨b4, rfl, rfl⟩
   refine rwp_det rfl rfl (det_build rfl zr218 pl218 rfl) ?_
   refine rwp_op rfl rfl (ope_box rfl rfl) ?_
   rintro _ _ ⟨b5, rfl, rfl⟩
   refine rwp_det rfl rfl (det_assign rfl rfl) ?_
   refine rwp_nil ?_
   refine awp_seq ?_
   refine awp_seq ?_
   refine awp_region rfl ?_
   refine rwp_det rfl rfl (det_field_lit rfl fd47_0 rfl) ?_
   refine rwp_det rfl rfl (det_load_one rfl one42 rfl (ptr_row 4 rfl) rfl) ?_
   refine rwp_det rfl rfl (det_len_slm rfl el42 rfl) ?_
   refine rwp_det rfl rfl (det_move rfl rfl) ?_
   refine rwp_nil ?_
   refine awp_block ?_
   refine awp_weak ⟨[(32, .c _), (1, .c _), (5, .c _), (6, .c _), (9, .c _), (30, .c _), (31, .c _)], [_, _, _, _]⟩ (Weak.mk [true, true, true, true, false] ⟨VLe.of_eq rfl, VLe.of_eq rfl, VLe.of_eq rfl, VLe.of_eq rfl, VLe.of_eq rfl, VLe.of_eq rfl, VLe.of_eq rfl, trivial⟩ rfl) ?_
   refine awp_loop_k 1 2 rfl rfl (Nat) (fun k => [(32, vI k)]) (fun k => [pRow 218 b5 b4 p, E.blk b4 (MapR vI (tabV [] (p.Sizes.take k) 1))]) (fun k => k ≤ p.Sizes.length) (fun k => p.Sizes.length - k) ⟨0, (by omega), Weak.mk [true, true, true, true] ⟨VLe.refl _, VLe.refl _, VLe.refl _, VLe.refl _, VLe.refl _, VLe.refl _, VLe.refl _, trivial⟩ rfl⟩ ?_
   rintro k hk
   refine awp_seq ?_
   refine awp_region rfl ?_
   refine rwp_det rfl rfl (det_lss rfl rfl rfl) ?_
   refine rwp_nil ?_
   refine awp_seq ?_
   refine awp_cond rfl (fun c3 => ?_) (fun c3 => ?_)
   ·try simp only [sx, List.length_map] at c3
    obtain ⟨x, hx⟩ := ex_get p.Sizes k (by omega)
    refine awp_skip ?_
    refine awp_seq ?_
    refine awp_block ?_
    refine awp_seq ?_
    refine awp_region rfl ?_
    refine rwp_det rfl rfl (det_index_sl rfl el42 rfl rfl (by omega) (getm (by assumption))) ?_
    refine rwp_det rfl rfl (det_load_one rfl one9 rfl ptr_imm rfl) ?_
    refine rwp_det rfl rfl (det_assign rfl rfl) ?_
    refine rwp_nil ?_
    refine awp_region rfl ?_
    refine rwp_det rfl rfl (det_move rfl rfl) ?_
    refine rwp_det rfl rfl (det_nilcheck_ptr rfl rfl) ?_
    refine rwp_det rfl rfl (det_field_lit rfl fd218_1 rfl) ?_
    refine rwp_det rfl rfl (det_load_one rfl one156 rfl (ptr_row 0 rfl) rfl) ?_
    refine rwp_det rfl rfl (det_move rfl rfl) ?_
    refine rwp_det0 rfl rfl (det_mapput 1 1 rfl sm156 rfl rfl rfl (VLe.refl _) rfl) ?_
    refine rwp_nil ?_
    refine awp_region rfl ?_
    refine rwp_det rfl rfl (det_add_nw rfl rfl rfl ⟨by omega, by omega⟩) ?_
    refine rwp_det rfl rfl (det_move rfl rfl) ?_
    refine rwp_nil ?_
    refine ⟨k + 1, (by omega), (by omega), Weak.mk [true, true, true, true] ⟨VLe.refl _, VLe.refl _, VLe.refl _, VLe.refl _, VLe.refl _, VLe.refl _, VLe.refl _, trivial⟩ (by show _ = [pRow 218 b5 b4 p, E.blk b4 (MapR vI (tabV [] (p.Sizes.take (k + 1)) 1))] ++ _; rw [tabV_next hx]; rfl)⟩
   ·try simp only [sx, List.length_map] at c3
    rw [take_all (l := p.Sizes) (k := k) (by omega)]
    refine awp_exit ?_
    refine awp_seq ?_
    refine awp_seq ?_
    refine awp_region rfl ?_
    refine rwp_det rfl rfl (det_move rfl rfl) ?_
    refine rwp_det rfl rfl (det_len_slm rfl el42 rfl) ?_
    refine rwp_det rfl rfl (det_move rfl rfl) ?_
    refine rwp_nil ?_
    refine awp_block ?_
    refine awp_weak ⟨[(44, .c _), (5, .c _), (6, .c _), (9, .c _), (42, .c _), (43, .c _)], [_, _, _, _]⟩ (Weak.mk [true, true, true, true] ⟨VLe.of_eq rfl, VLe.of_eq rfl, VLe.of_eq rfl, VLe.of_eq rfl, VLe.of_eq rfl, VLe.of_eq rfl, trivial⟩ rfl) ?_
    refine awp_loop_k 1 2 rfl rfl (Nat) (fun j => [(44, vI j)]) (fun j => [pRow 218 b5 b4 p, E.blk b4 (MapR vI (tabV (tabV [] p.Sizes 1) (vars.take j) 3))]) (fun j => j ≤ vars.length) (fun j => vars.length - j) ⟨0, (by omega), Weak.mk [true, true, true, true] ⟨VLe.refl _, VLe.refl _, VLe.refl _, VLe.refl _, VLe.refl _, VLe.refl _, trivial⟩ rfl⟩ ?_
    rintro j hj
    refine awp_seq ?_
    refine awp_region rfl ?_
    refine rwp_det rfl rfl (det_lss rfl rfl rfl) ?_
    refine rwp_nil ?_
    refine awp_seq ?_
    refine awp_cond rfl (fun c4 => ?_) (fun c4 => ?_)
    ·try simp only [sx, List.length_map] at c4
     obtain ⟨y, hy⟩ := ex_get vars j (by omega)
     refine awp_skip ?_
     refine awp_seq ?_
     refine awp_block ?_
     refine awp_seq ?_
     refine awp_region rfl ?_
     refine rwp_det rfl rfl (det_index_sl rfl el42 rfl rfl (by omega) (getm (by assumption))) ?_
     refine rwp_det rfl rfl (det_load_one rfl one9 rfl ptr_imm rfl) ?_
     refine rwp_det rfl rfl (det_assign rfl rfl) ?_
     refine rwp_nil ?_
     refine awp_region rfl ?_
     refine rwp_det rfl rfl (det_move rfl rfl) ?_
     refine rwp_det rfl rfl (det_nilcheck_ptr rfl rfl) ?_
     refine rwp_det rfl rfl (det_field_lit rfl fd218_1 rfl) ?_
     refine rwp_det rfl rfl (det_load_one rfl one156 rfl (ptr_row 0 rfl) rfl) ?_
     refine rwp_det rfl rfl (det_move rfl rfl) ?_
     refine rwp_det0 rfl rfl (det_mapput 1 3 rfl sm156 rfl rfl rfl (VLe.refl _) rfl) ?_
     refine rwp_nil ?_
     refine awp_region rfl ?_
     refine rwp_det rfl rfl (det_add_nw rfl rfl rfl ⟨by omega, by omega⟩) ?_
     refine rwp_det rfl rfl (det_move rfl rfl) ?_
     refine rwp_nil ?_
     refine ⟨j + 1, (by omega), (by omega), Weak.mk [true, true, true, true] ⟨VLe.refl _, VLe.refl _, VLe.refl _, VLe.refl _, VLe.refl _, VLe.refl _, trivial⟩ (by show _ = [pRow 218 b5 b4 p, E.blk b4 (MapR vI (tabV (tabV [] p.Sizes 1) (vars.take (j + 1)) 3))] ++ _; rw [tabV_next hy]; rfl)⟩
    ·try simp only [sx, List.length_map] at c4
     rw [take_all (l := vars) (k := j) (by omega)]
     have hTo := typeT_of (n := p.en) (kn_tab p.Sizes vars) c1 c2
     refine awp_exit ?_
     refine awp_seq ?_
     refine awp_region rfl ?_
     refine rwp_det rfl rfl (det_move rfl rfl) ?_
     refine rwp_det rfl rfl (det_load_agg rfl agg33 rfl (ptr_row 3 rfl) rfl) ?_
     refine rwp_det rfl rfl (det_call_mem [0, 0] rfl ok236 (typer_of b5 b4 p _ hP e (valid_part c1) he) ⟨VLe.refl _, rfl, VLe.refl _, rfl, trivial⟩ rfl) ?_
     refine rwp_det rfl rfl (det_move_tup rfl rfl) ?_
     refine rwp_det rfl rfl (det_ex_agg rfl rfl rfl) ?_
     refine rwp_det rfl rfl (det_ex_c rfl rfl rfl) ?_
     refine rwp_op rfl rfl (ope_alloc rfl zr23) ?_
     rintro _ _ ⟨b6, rfl, rfl⟩
     refine rwp_det0 rfl rfl (det_store rfl sz23 rfl rfl rfl (st_row 0 rfl rfl)) ?_
     refine rwp_det rfl rfl (det_assign rfl rfl) ?_
     refine rwp_nil ?_
     refine awp_seq ?_
     refine awp_seq ?_
     refine awp_region rfl ?_
     refine rwp_det rfl rfl (det_move rfl rfl) ?_
     refine rwp_det rfl rfl (det_neq rfl rfl rfl) ?_
     refine rwp_nil ?_
     refine awp_cond rfl (fun c5 => ?_) (fun c5 => ?_)
     ·try simp only [sx, List.length_map] at c5
      refine awp_seq ?_
      refine awp_region rfl ?_
      refine rwp_det rfl rfl (det_build rfl zr23 pl23 rfl) ?_
      refine rwp_det rfl rfl (det_move rfl rfl) ?_
      refine rwp_det0 rfl rfl (det_store rfl sz23 rfl rfl rfl (st_row 3 rfl rfl)) ?_
      refine rwp_det rfl rfl (det_assign rfl rfl) ?_
      refine rwp_nil ?_
      refine awp_ret ?_
      repeat (first | refine thenQ_ret ?_ | refine blockQ_ret ?_)
      refine fin2 (rs_cell_agg agg23 rfl (ptr_row 3 rfl) rfl) (rs_c rfl) ?_
      rw [hTo, if_neg c5]; rfl
     ·try simp only [sx, List.length_map] at c5
      refine awp_skip ?_
      refine awp_seq ?_
      refine awp_region rfl ?_
      refine rwp_det rfl rfl (det_load_agg rfl agg23 rfl (ptr_row 0 rfl) rfl) ?_
      refine rwp_det0 rfl rfl (det_store rfl sz23 rfl rfl rfl (st_row 3 rfl rfl)) ?_
      refine rwp_det rfl rfl (det_assign rfl rfl) ?_
      refine rwp_nil ?_
      refine awp_ret ?_
      repeat (first | refine thenQ_ret ?_ | refine blockQ_ret ?_)
      refine fin2 (rs_cell_agg agg23 rfl (ptr_row 3 rfl) rfl) (rs_c rfl) ?_
      rw [hTo, if_pos c5]; rfl

end Go.W
