/-
  Walks: what functions of the program compute. Printed by wip/gen/mk2.py.
  Conditions: none.
-/
import Derived.Test.YtnnkemdiknefaaaGreatDoorWE
set_option linter.unusedSimpArgs false
set_option linter.unusedVariables false
namespace Go.W
open Go Go.Eng Go.Proofs Go.L41 Go.Br
attribute [local irreducible] AWP RWP TD
theorem ok81 : callOk Tryz.prog 81 = true := by kernel_rfl
theorem ok91 : callOk Tryz.prog 91 = true := by kernel_rfl
theorem ok148 : callOk Tryz.prog 148 = true := by kernel_rfl
theorem ok149 : callOk Tryz.prog 149 = true := by kernel_rfl
theorem ok150 : callOk Tryz.prog 150 = true := by kernel_rfl
theorem pl33 : placesT Tryz.prog 33 = some [(0, 1), (1, 1), (2, 2), (4, 5), (9, 2), (11, 1), (12, 1)] := by kernel_rfl
theorem sz30 : (Tryz.prog.info? 30).map (·.size) = some 1 := by kernel_rfl
theorem sz31 : (Tryz.prog.info? 31).map (·.size) = some 1 := by kernel_rfl
theorem sz104 : (Tryz.prog.info? 104).map (·.size) = some 1 := by kernel_rfl
theorem mapForms_step (f : Lf → Lf × Int) (c : C) (P : Lf → Prop) (hf : ∀ l, P l → FnPur cfg c [vLin l] (.tup [vLin (f l).1, vI (f l).2])) (e : Ex) (hP : e.allF P) (ih : ∀ a, a ∈ e.Args → a.allF P → a.cnt ≤ 4294967296 → Pur cfg 81 [vE a, .c c] (.tup [vE (outE (mEx f a)), vI (errE (mEx f a))])) (he : e.cnt ≤ 4294967296) :
    Pur cfg 81 [vE e, .c c] (.tup [vE (outE (mEx f e)), vI (errE (mEx f e))]) := by
 refine con_intro Tryz.func81 rfl Tryz.ntmps81 Tryz.results81 rfl ?_
 intro z hz
 obtain ⟨hI, hA, hAt⟩ := e.cparts he
 refine awp_seq ?_
 refine awp_region rfl ?_
 refine rwp_op rfl rfl (ope_box rfl rfl) ?_
 rintro _ _ ⟨b1, rfl, rfl⟩
 refine rwp_op rfl rfl (ope_allocN [none, none, none, none, none, none, none, none, none, none, some 2, some 4, some 13] rfl zr33 rfl) ?_
 rintro _ _ ⟨b2, rfl, rfl⟩
 refine rwp_det rfl rfl (det_assign rfl rfl) ?_
 refine rwp_nil ?_
 refine awp_seq ?_
 refine awp_region rfl ?_
 refine rwp_det rfl rfl (det_load_agg rfl agg33 rfl (ptr_row 1 rfl) rfl) ?_
 refine rwp_op rfl rfl (ope_allocN [none, none, none, none, none, none, none, none, none, none, some 2, some 4, some 13] rfl zr33 rfl) ?_
 rintro _ _ ⟨b3, rfl, rfl⟩
 refine rwp_det0 rfl rfl (det_store rfl sz33 rfl rfl rfl (st_row 0 rfl rfl)) ?_
 refine rwp_nil ?_
 refine awp_seq ?_
 refine awp_region rfl ?_
 refine rwp_det rfl rfl (det_assign rfl rfl) ?_
 refine rwp_nil ?_
 refine awp_seq ?_
 refine awp_seq ?_
 refine awp_region rfl ?_
 refine rwp_det rfl rfl (det_move rfl rfl) ?_
 refine rwp_det rfl rfl (det_field_lit rfl fd33_4 rfl) ?_
 refine rwp_det rfl rfl (det_load_agg rfl agg29 rfl (ptr_row 2 rfl) rfl) ?_
 refine rwp_det rfl rfl (det_call_val rfl rfl (hf e.Lin (Ex.allF_lin hP)) ⟨VLe.refl _, rfl, trivial⟩) ?_
 refine rwp_det rfl rfl (det_move_tup rfl rfl) ?_
 refine rwp_det rfl rfl (det_ex_agg rfl rfl rfl) ?_
 refine rwp_det rfl rfl (det_ex_c rfl rfl rfl) ?_
 refine rwp_det rfl rfl (det_field_lit rfl fd33_4 rfl) ?_
 refine rwp_det0 rfl rfl (det_store rfl sz29 rfl rfl rfl (st_row 0 rfl rfl)) ?_
 refine rwp_det rfl rfl (det_assign rfl rfl) ?_
 refine rwp_nil ?_
 refine awp_seq ?_
 refine awp_region rfl ?_
 refine rwp_det rfl rfl (det_move rfl rfl) ?_
 refine rwp_det rfl rfl (det_neq rfl rfl rfl) ?_
 refine rwp_nil ?_
 refine awp_cond rfl (fun c1 => ?_) (fun c1 => ?_)
 ·try simp only [sx, List.length_map] at c1
  refine awp_seq ?_
  refine awp_region rfl ?_
  refine rwp_det rfl rfl (det_buildN [none, none, none, none, none, none, none, none, none, none, some 2, some 4, some 13] rfl zr33 pl33 rfl rfl) ?_
  refine rwp_det rfl rfl (det_move rfl rfl) ?_
  refine rwp_det0 rfl rfl (det_store rfl sz33 rfl rfl rfl (st_row 1 rfl rfl)) ?_
  refine rwp_det rfl rfl (det_assign rfl rfl) ?_
  refine rwp_nil ?_
  refine awp_ret ?_
  repeat (first | refine thenQ_ret ?_ | refine blockQ_ret ?_)
  refine fin2 (rs_cell_agg agg33 rfl (ptr_row 1 rfl) rfl) (rs_c rfl) ?_
  rw [mEx_e1 c1]; rfl
 ·try simp only [sx, List.length_map] at c1
  refine awp_skip ?_
  refine awp_seq ?_
  refine awp_region rfl ?_
  refine rwp_det rfl rfl (det_field_lit rfl fd33_5 rfl) ?_
  refine rwp_det rfl rfl (det_load_one rfl one30 rfl (ptr_row 2 rfl) rfl) ?_
  refine rwp_op rfl rfl (ope_call_own rfl ok148 (slices_Clone_ix e.Idx hI) ⟨VLe.refl _, rfl, trivial⟩) ?_
  rintro _ _ ⟨sv4, rfl, rfl⟩
  refine rwp_det rfl rfl (det_field_lit rfl fd33_5 rfl) ?_
  refine rwp_det0 rfl rfl (det_store rfl sz30 rfl rfl rfl (st_row 1 rfl rfl)) ?_
  refine rwp_nil ?_
  refine awp_seq ?_
  refine awp_seq ?_
  refine awp_region rfl ?_
  refine rwp_det rfl rfl (det_field_lit rfl fd33_5 rfl) ?_
  refine rwp_det rfl rfl (det_load_one rfl one30 rfl (ptr_row 3 rfl) rfl) ?_
  refine rwp_det rfl rfl (det_len_slm rfl el30 rfl) ?_
  refine rwp_det rfl rfl (det_move rfl rfl) ?_
  refine rwp_nil ?_
  refine awp_block ?_
  refine awp_weak ⟨[(34, .c _), (1, .c _), (2, .c _), (4, .c _), (6, .c _), (32, .c _), (33, .c _)], [_, _, _, _]⟩ (Weak.mk [true, true, true, true] ⟨VLe.of_eq rfl, VLe.of_eq rfl, VLe.of_eq rfl, VLe.of_eq rfl, VLe.of_eq rfl, VLe.of_eq rfl, VLe.of_eq rfl, trivial⟩ rfl) ?_
  refine awp_loop_k 1 1 rfl rfl (Nat × List Ix) (fun ⟨k, outs⟩ => [(34, vI k)]) (fun ⟨k, outs⟩ => [E.vec sv4 117 4 (outs.map Ix.cells ++ (e.Idx.drop k).map Ix.cells)]) (fun ⟨k, outs⟩ => k ≤ e.Idx.length ∧ (outs.length = k) ∧ (mIxs f e.Idx = mapRest outs (mIxs f (e.Idx.drop k)))) (fun ⟨k, outs⟩ => e.Idx.length - k) ⟨⟨0, []⟩, ⟨by omega, rfl, (mapRest_nil _).symm⟩, Weak.mk [true, true, true, true] ⟨VLe.refl _, VLe.refl _, VLe.refl _, VLe.refl _, VLe.refl _, VLe.refl _, VLe.refl _, trivial⟩ rfl⟩ ?_
  rintro ⟨k, outs⟩ ⟨hk, ho, hp⟩
  show AWP _ _ _ _ _ ⟨[(34, vI k)] ++ _, [E.vec sv4 117 4 (outs.map Ix.cells ++ (e.Idx.drop k).map Ix.cells)] ++ _⟩
  refine awp_seq ?_
  refine awp_region rfl ?_
  refine rwp_det rfl rfl (det_lss rfl rfl rfl) ?_
  refine rwp_nil ?_
  refine awp_seq ?_
  refine awp_cond rfl (fun c2 => ?_) (fun c2 => ?_)
  ·try simp only [sx, List.length_map] at c2
   obtain ⟨x, hx⟩ := ex_get e.Idx k (by omega)
   have hxw := hAt x (mem_of_get hx)
   refine awp_skip ?_
   refine awp_seq ?_
   refine awp_block ?_
   refine awp_seq ?_
   refine awp_region rfl ?_
   refine rwp_det rfl rfl (det_move rfl rfl) ?_
   refine rwp_det rfl rfl (det_index_sl rfl el30 rfl rfl (by omega) (getm (by assumption))) ?_
   refine rwp_det rfl rfl (det_load_agg rfl agg117 rfl ptr_imm rfl) ?_
   refine rwp_op rfl rfl (ope_allocN [none, some 2, none, some 2] rfl zr117 rfl) ?_
   rintro _ _ ⟨b5, rfl, rfl⟩
   refine rwp_det rfl rfl (det_assign rfl rfl) ?_
   refine rwp_det0 rfl rfl (det_store rfl sz117 rfl rfl rfl (st_row 0 rfl rfl)) ?_
   refine rwp_nil ?_
   refine awp_seq ?_
   refine awp_seq ?_
   refine awp_draw_s 12 [false, false, false, false, false, false, false, false, false, true, false, false] Mall mixed (by kernel_rfl) rfl rfl rfl ?_
   refine td2_det rfl rfl (det_field_lit rfl fd33_5 rfl) ?_
   refine td2_det rfl rfl (det_load_one rfl one30 rfl (ptr_row 2 rfl) rfl) ?_
   refine td2_det rfl rfl (det_move rfl rfl) ?_
   refine td2_det rfl rfl (det_move rfl rfl) ?_
   refine td2_det rfl rfl (det_field_lit rfl fd117_0 rfl) ?_
   refine td2_det rfl rfl (det_load_agg rfl agg29 rfl (ptr_row 0 rfl) rfl) ?_
   refine td2_det rfl rfl (det_call_val rfl rfl (hf x.Lin (Ex.allF_ix hP (mem_of_get hx))) ⟨VLe.refl _, rfl, trivial⟩) ?_
   refine td2_det rfl rfl (det_move_tup rfl rfl) ?_
   refine td2_det rfl rfl (det_ex_agg rfl rfl rfl) ?_
   refine td2_detA rfl rfl (fun _ => det_ex_c rfl rfl rfl) ?_
   refine td2_det rfl rfl (det_index_vec 1 rfl el30 rfl rfl rfl (by omega) (mid_len (by simp; omega) (by omega))) ?_
   refine td2_det rfl rfl (det_field_vec rfl fd117_0 rfl) ?_
   refine td2_nil ?_
   refine ⟨_, det_store rfl sz29 rfl rfl rfl (st_vec 1 rfl (mid_get (by simp; omega) hx) rfl), fun _ _ _ => trivial, ?_⟩
   rintro _ _ ⟨rfl, rfl⟩
   refine rwp_det rfl rfl (det_assign rfl rfl) ?_
   refine rwp_nil ?_
   refine awp_seq ?_
   refine awp_region rfl ?_
   refine rwp_det rfl rfl (det_move rfl rfl) ?_
   refine rwp_det rfl rfl (det_neq rfl rfl rfl) ?_
   refine rwp_nil ?_
   refine awp_cond rfl (fun c3 => ?_) (fun c3 => ?_)
   ·try simp only [sx, List.length_map] at c3
    refine awp_seq ?_
    refine awp_region rfl ?_
    refine rwp_det rfl rfl (det_buildN [none, none, none, none, none, none, none, none, none, none, some 2, some 4, some 13] rfl zr33 pl33 rfl rfl) ?_
    refine rwp_det rfl rfl (det_move rfl rfl) ?_
    refine rwp_det0 rfl rfl (det_store rfl sz33 rfl rfl rfl (st_row 3 rfl rfl)) ?_
    refine rwp_det rfl rfl (det_assign rfl rfl) ?_
    refine rwp_nil ?_
    refine awp_ret ?_
    repeat (first | refine thenQ_ret ?_ | refine blockQ_ret ?_)
    refine fin2 (rs_cell_agg agg33 rfl (ptr_row 3 rfl) rfl) (rs_c rfl) ?_
    rw [mEx_e2 c1 (mIxs_no hx hp (mIx_e1 c3))]; rfl
   ·try simp only [sx, List.length_map] at c3
    refine awp_skip ?_
    refine awp_seq ?_
    refine awp_draw_f 8 [.q, .q, .q, .q, .q, .f, .q, .q] Mall mixed (by kernel_rfl) rfl rfl rfl ?_
    refine tdq_det rfl rfl (det_field_lit rfl fd33_5 rfl) ?_
    refine tdq_det rfl rfl (det_load_one rfl one30 rfl (ptr_row 2 rfl) rfl) ?_
    refine tdq_det rfl rfl (det_move rfl rfl) ?_
    refine tdq_det rfl rfl (det_field_lit rfl fd117_2 rfl) ?_
    refine tdq_det rfl rfl (det_load_one rfl one104 rfl (ptr_row 0 rfl) rfl) ?_
    refine tdq_skip ?_
    refine tdq_det rfl rfl (det_index_vec 1 rfl el30 rfl rfl rfl (by omega) (by simp; omega)) ?_
    refine tdq_det rfl rfl (det_field_vec rfl fd117_2 rfl) ?_
    refine tdq_nil ?_
    refine tdf_q ?_
    refine tdf_q ?_
    refine tdf_q ?_
    refine tdf_q ?_
    refine tdf_q ?_
    refine tdf_fresh (fresh_own (ope_call_own rfl ok149 (slices_Clone_lin x.At (by omega)) ⟨VLe.refl _, rfl, trivial⟩)) ?_
    refine tdf_q ?_
    refine tdf_q ?_
    refine tdf_nil ?_
    refine allch_cons ?_
    rintro _ _ ⟨sv6, rfl, rfl⟩
    refine allch_nil ?_
    refine ⟨_, det_store rfl sz104 rfl rfl rfl (st_vec 2 rfl (set_get (by simp; omega)) rfl), (fun _ _ _ => trivial), ?_⟩
    rintro _ _ ⟨rfl, rfl⟩
    refine rwp_nil ?_
    refine awp_seq ?_
    refine awp_region rfl ?_
    refine rwp_det rfl rfl (det_field_lit rfl fd117_2 rfl) ?_
    refine rwp_det rfl rfl (det_load_one rfl one104 rfl (ptr_row 1 rfl) rfl) ?_
    refine rwp_det rfl rfl (det_len_slm rfl el104 rfl) ?_
    refine rwp_det rfl rfl (det_move rfl rfl) ?_
    refine rwp_nil ?_
    refine awp_block ?_
    refine awp_weak ⟨[(66, .c _), (1, .c _), (2, .c _), (4, .c _), (6, .c _), (8, .c _), (32, .c _), (33, .c _), (34, .c _), (64, .c _), (65, .c _)], [_, _, _, _, _]⟩ (Weak.mk [true, false, true, true, true, true] ⟨VLe.of_eq rfl, VLe.of_eq rfl, VLe.of_eq rfl, VLe.of_eq rfl, VLe.of_eq rfl, VLe.of_eq rfl, VLe.of_eq rfl, VLe.of_eq rfl, VLe.of_eq rfl, VLe.of_eq rfl, VLe.of_eq rfl, trivial⟩ rfl) ?_
    refine awp_loop_k 1 1 rfl rfl (Nat × List Lf) (fun ⟨j, lins⟩ => [(66, vI j)]) (fun ⟨j, lins⟩ => [E.vec sv6 29 2 (lins.map Lf.cells ++ (x.At.drop j).map Lf.cells)]) (fun ⟨j, lins⟩ => j ≤ x.At.length ∧ (lins.length = j) ∧ (mLins f x.At = mapRest lins (mLins f (x.At.drop j)))) (fun ⟨j, lins⟩ => x.At.length - j) ⟨⟨0, []⟩, ⟨by omega, rfl, (mapRest_nil _).symm⟩, Weak.mk [true, true, true, true, true] ⟨VLe.refl _, VLe.refl _, VLe.refl _, VLe.refl _, VLe.refl _, VLe.refl _, VLe.refl _, VLe.refl _, VLe.refl _, VLe.refl _, VLe.refl _, trivial⟩ rfl⟩ ?_
    rintro ⟨j, lins⟩ ⟨hj, hlo, hq⟩
    show AWP _ _ _ _ _ ⟨[(66, vI j)] ++ _, [E.vec sv6 29 2 (lins.map Lf.cells ++ (x.At.drop j).map Lf.cells)] ++ _⟩
    refine awp_seq ?_
    refine awp_region rfl ?_
    refine rwp_det rfl rfl (det_lss rfl rfl rfl) ?_
    refine rwp_nil ?_
    refine awp_seq ?_
    refine awp_cond rfl (fun c4 => ?_) (fun c4 => ?_)
    ·try simp only [sx, List.length_map] at c4
     obtain ⟨l, hl⟩ := ex_get x.At j (by omega)
     have hlw := hAt x (mem_of_get hx)
     refine awp_skip ?_
     refine awp_seq ?_
     refine awp_block ?_
     refine awp_seq ?_
     refine awp_region rfl ?_
     refine rwp_det rfl rfl (det_move rfl rfl) ?_
     refine rwp_det rfl rfl (det_index_sl rfl el104 rfl rfl (by omega) (getm (by assumption))) ?_
     refine rwp_det rfl rfl (det_load_agg rfl agg29 rfl ptr_imm rfl) ?_
     refine rwp_op rfl rfl (ope_allocN [none, some 2] rfl zr29 rfl) ?_
     rintro _ _ ⟨b7, rfl, rfl⟩
     refine rwp_det rfl rfl (det_assign rfl rfl) ?_
     refine rwp_det0 rfl rfl (det_store rfl sz29 rfl rfl rfl (st_row 0 rfl rfl)) ?_
     refine rwp_nil ?_
     refine awp_seq ?_
     refine awp_draw_s 14 [false, false, false, false, false, false, false, false, false, false, false, false, true, false] Mall mixed (by kernel_rfl) rfl rfl rfl ?_
     refine td2_det rfl rfl (det_field_lit rfl fd33_5 rfl) ?_
     refine td2_det rfl rfl (det_load_one rfl one30 rfl (ptr_row 3 rfl) rfl) ?_
     refine td2_det rfl rfl (det_move rfl rfl) ?_
     refine td2_det rfl rfl (det_index_vec 2 rfl el30 rfl rfl rfl (by omega) (by simp; omega)) ?_
     refine td2_det rfl rfl (det_field_vec rfl fd117_2 rfl) ?_
     refine td2_det rfl rfl (det_load_one rfl one104 rfl (ptr_vec 2 rfl (set_get (by simp; omega))) rfl) ?_
     refine td2_det rfl rfl (det_move rfl rfl) ?_
     refine td2_det rfl rfl (det_move rfl rfl) ?_
     refine td2_det rfl rfl (det_load_agg rfl agg29 rfl (ptr_row 0 rfl) rfl) ?_
     refine td2_det rfl rfl (det_call_val rfl rfl (hf l (Ex.allF_at hP (mem_of_get hx) (mem_of_get hl))) ⟨VLe.refl _, rfl, trivial⟩) ?_
     refine td2_det rfl rfl (det_move_tup rfl rfl) ?_
     refine td2_det rfl rfl (det_ex_agg rfl rfl rfl) ?_
     refine td2_detA rfl rfl (fun _ => det_ex_c rfl rfl rfl) ?_
     refine td2_det rfl rfl (det_index_vec 1 rfl el104 rfl rfl rfl (by omega) (mid_len (by simp; omega) (by omega))) ?_
     refine td2_nil ?_
     refine ⟨_, det_store rfl sz29 rfl rfl rfl (st_vec 1 rfl (mid_get (by simp; omega) hl) rfl), fun _ _ _ => trivial, ?_⟩
     rintro _ _ ⟨rfl, rfl⟩
     refine rwp_det rfl rfl (det_assign rfl rfl) ?_
     refine rwp_nil ?_
     refine awp_seq ?_
     refine awp_region rfl ?_
     refine rwp_det rfl rfl (det_move rfl rfl) ?_
     refine rwp_det rfl rfl (det_neq rfl rfl rfl) ?_
     refine rwp_nil ?_
     refine awp_cond rfl (fun c5 => ?_) (fun c5 => ?_)
     ·try simp only [sx, List.length_map] at c5
      refine awp_seq ?_
      refine awp_region rfl ?_
      refine rwp_det rfl rfl (det_buildN [none, none, none, none, none, none, none, none, none, none, some 2, some 4, some 13] rfl zr33 pl33 rfl rfl) ?_
      refine rwp_det rfl rfl (det_move rfl rfl) ?_
      refine rwp_det0 rfl rfl (det_store rfl sz33 rfl rfl rfl (st_row 4 rfl rfl)) ?_
      refine rwp_det rfl rfl (det_assign rfl rfl) ?_
      refine rwp_nil ?_
      refine awp_ret ?_
      repeat (first | refine thenQ_ret ?_ | refine blockQ_ret ?_)
      refine fin2 (rs_cell_agg agg33 rfl (ptr_row 4 rfl) rfl) (rs_c rfl) ?_
      rw [mEx_e2 c1 (mIxs_no hx hp (mIx_e2 c3 (mLins_no hl hq c5)))]; rfl
     ·try simp only [sx, List.length_map] at c5
      refine awp_skip ?_
      refine awp_region rfl ?_
      refine rwp_det rfl rfl (det_add_nw rfl rfl rfl ⟨by omega, by omega⟩) ?_
      refine rwp_det rfl rfl (det_move rfl rfl) ?_
      refine rwp_nil ?_
      refine ⟨⟨j + 1, lins ++ [(f l).1]⟩, ⟨by omega, by simp; omega, mLins_next hl hq c5⟩, (by show x.At.length - (j + 1) < x.At.length - j; omega), Weak.mk [false, true, true, true, true, true] ⟨VLe.refl _, VLe.refl _, VLe.refl _, VLe.refl _, VLe.refl _, VLe.refl _, VLe.refl _, VLe.refl _, VLe.refl _, VLe.refl _, VLe.refl _, trivial⟩ (by simp only [Int.toNat_natCast]; rw [mid_set (by simp; omega) hl]; simp only [List.map_append, List.map_cons, List.map_nil]; rfl)⟩
    ·try simp only [sx, List.length_map] at c4
     have hml := mLins_end hq (by omega)
     rw [drop_end (l := x.At) (k := j) (by omega)]
     simp only [List.map_nil, List.append_nil]
     refine awp_weak _ (weak_freezeM 0 rfl (regs' := []) (μ' := [_, _, _, _]) trivial ⟨EFle.vec (r' := [_, _, _, _]) (set_get (by simp; omega)) ⟨.inl rfl, .inl rfl, .inl rfl, .inr ⟨rfl, rfl⟩, trivial⟩, EFle.refl _, EFle.refl _, EFle.refl _, trivial⟩) ?_
     refine awp_exit ?_
     refine awp_region rfl ?_
     refine rwp_det rfl rfl (det_add_nw rfl rfl rfl ⟨by omega, by omega⟩) ?_
     refine rwp_det rfl rfl (det_move rfl rfl) ?_
     refine rwp_nil ?_
     refine ⟨⟨k + 1, outs ++ [⟨(f x.Lin).1, x.From, lins⟩]⟩, ⟨by omega, by simp; omega, mIxs_next hx hp (mIx_ok c3 hml)⟩, (by show e.Idx.length - (k + 1) < e.Idx.length - k; omega), Weak.mk [true, true, true, true] ⟨VLe.refl _, VLe.refl _, VLe.refl _, VLe.refl _, VLe.refl _, VLe.refl _, VLe.refl _, trivial⟩ (by simp only [Int.toNat_natCast, List.set_set]; rw [mid_set (by simp; omega) hx]; simp only [List.map_append, List.map_cons, List.map_nil]; rfl)⟩
  ·try simp only [sx, List.length_map] at c2
   have hmi := mIxs_end hp (by omega)
   rw [drop_end (l := e.Idx) (k := k) (by omega)]
   simp only [List.map_nil, List.append_nil]
   refine awp_weak _ (weak_freezeM 0 rfl (regs' := []) (μ' := [_, _, _]) trivial ⟨EFle.row (ds := [_, _, _, _, _, _, _, _, _, _, _, _, _]) ⟨.inl rfl, .inl rfl, .inl rfl, .inl rfl, .inl rfl, .inl rfl, .inl rfl, .inl rfl, .inl rfl, .inl rfl, .inl rfl, .inr ⟨rfl, rfl⟩, .inl rfl, trivial⟩, EFle.refl _, EFle.refl _, trivial⟩) ?_
   refine awp_exit ?_
   refine awp_seq ?_
   refine awp_region rfl ?_
   refine rwp_det rfl rfl (det_field_lit rfl fd33_6 rfl) ?_
   refine rwp_det rfl rfl (det_load_one rfl one31 rfl (ptr_row 2 rfl) rfl) ?_
   refine rwp_op rfl rfl (ope_call_own rfl ok150 (slices_Clone_ex e.Args hA) ⟨VLe.refl _, rfl, trivial⟩) ?_
   rintro _ _ ⟨sv8, rfl, rfl⟩
   refine rwp_det rfl rfl (det_field_lit rfl fd33_6 rfl) ?_
   refine rwp_det0 rfl rfl (det_store rfl sz31 rfl rfl rfl (st_row 1 rfl rfl)) ?_
   refine rwp_nil ?_
   refine awp_seq ?_
   refine awp_seq ?_
   refine awp_region rfl ?_
   refine rwp_det rfl rfl (det_field_lit rfl fd33_6 rfl) ?_
   refine rwp_det rfl rfl (det_load_one rfl one31 rfl (ptr_row 3 rfl) rfl) ?_
   refine rwp_det rfl rfl (det_len_slm rfl el31 rfl) ?_
   refine rwp_det rfl rfl (det_move rfl rfl) ?_
   refine rwp_nil ?_
   refine awp_block ?_
   refine awp_weak ⟨[(98, .c _), (1, .c _), (4, .c _), (6, .c _), (96, .c _), (97, .c _)], [_, _, _]⟩ (Weak.mk [true, true, true, false] ⟨VLe.of_eq rfl, VLe.of_eq rfl, VLe.of_eq rfl, VLe.of_eq rfl, VLe.of_eq rfl, VLe.of_eq rfl, trivial⟩ rfl) ?_
   refine awp_loop_k 1 1 rfl rfl (Nat × List Ex) (fun ⟨n, exs⟩ => [(98, vI n)]) (fun ⟨n, exs⟩ => [E.vec sv8 33 13 (exs.map Ex.cells ++ (e.Args.drop n).map Ex.cells)]) (fun ⟨n, exs⟩ => n ≤ e.Args.length ∧ (exs.length = n) ∧ (mExs f e.Args = mapRest exs (mExs f (e.Args.drop n)))) (fun ⟨n, exs⟩ => e.Args.length - n) ⟨⟨0, []⟩, ⟨by omega, rfl, (mapRest_nil _).symm⟩, Weak.mk [true, true, true] ⟨VLe.refl _, VLe.refl _, VLe.refl _, VLe.refl _, VLe.refl _, VLe.refl _, trivial⟩ rfl⟩ ?_
   rintro ⟨n, exs⟩ ⟨hn, hno, hr⟩
   show AWP _ _ _ _ _ ⟨[(98, vI n)] ++ _, [E.vec sv8 33 13 (exs.map Ex.cells ++ (e.Args.drop n).map Ex.cells)] ++ _⟩
   refine awp_seq ?_
   refine awp_region rfl ?_
   refine rwp_det rfl rfl (det_lss rfl rfl rfl) ?_
   refine rwp_nil ?_
   refine awp_seq ?_
   refine awp_cond rfl (fun c6 => ?_) (fun c6 => ?_)
   ·try simp only [sx, List.length_map] at c6
    obtain ⟨a, ha⟩ := ex_get e.Args n (by omega)
    refine awp_skip ?_
    refine awp_seq ?_
    refine awp_block ?_
    refine awp_seq ?_
    refine awp_region rfl ?_
    refine rwp_det rfl rfl (det_move rfl rfl) ?_
    refine rwp_det rfl rfl (det_index_sl rfl el31 rfl rfl (by omega) (getmE (by assumption))) ?_
    refine rwp_det rfl rfl (det_load_agg rfl agg33 rfl ptr_imm rfl) ?_
    refine rwp_op rfl rfl (ope_allocN [none, none, none, none, none, none, none, none, none, none, some 2, some 4, some 13] rfl zr33 rfl) ?_
    rintro _ _ ⟨b9, rfl, rfl⟩
    refine rwp_det rfl rfl (det_assign rfl rfl) ?_
    refine rwp_det0 rfl rfl (det_store rfl sz33 rfl rfl rfl (st_row 0 rfl rfl)) ?_
    refine rwp_nil ?_
    refine awp_seq ?_
    refine awp_draw_s 10 [false, false, false, false, false, false, false, false, true, false] Mall mixed (by kernel_rfl) rfl rfl rfl ?_
    refine td2_det rfl rfl (det_field_lit rfl fd33_6 rfl) ?_
    refine td2_det rfl rfl (det_load_one rfl one31 rfl (ptr_row 2 rfl) rfl) ?_
    refine td2_det rfl rfl (det_move rfl rfl) ?_
    refine td2_det rfl rfl (det_load_agg rfl agg33 rfl (ptr_row 0 rfl) rfl) ?_
    refine td2_det rfl rfl (det_move rfl rfl) ?_
    refine td2_det rfl rfl (det_call rfl ok81 (ih a (mem_of_get ha) (Ex.allF_arg hP (mem_of_get ha)) (by have := Ex.arg_cnt (mem_of_get ha); omega)) ⟨VLe.refl _, rfl, VLe.refl _, rfl, trivial⟩) ?_
    refine td2_det rfl rfl (det_move_tup rfl rfl) ?_
    refine td2_det rfl rfl (det_ex_agg rfl rfl rfl) ?_
    refine td2_detA rfl rfl (fun _ => det_ex_c rfl rfl rfl) ?_
    refine td2_det rfl rfl (det_index_vec 1 rfl el31 rfl rfl rfl (by omega) (mid_len (by simp; omega) (by omega))) ?_
    refine td2_nil ?_
    refine ⟨_, det_store rfl sz33 rfl rfl rfl (st_vec 1 rfl (mid_getE (by simp; omega) ha) rfl), fun _ _ _ => trivial, ?_⟩
    rintro _ _ ⟨rfl, rfl⟩
    refine rwp_det rfl rfl (det_assign rfl rfl) ?_
    refine rwp_nil ?_
    refine awp_seq ?_
    refine awp_region rfl ?_
    refine rwp_det rfl rfl (det_move rfl rfl) ?_
    refine rwp_det rfl rfl (det_neq rfl rfl rfl) ?_
    refine rwp_nil ?_
    refine awp_cond rfl (fun c7 => ?_) (fun c7 => ?_)
    ·try simp only [sx, List.length_map] at c7
     refine awp_seq ?_
     refine awp_region rfl ?_
     refine rwp_det rfl rfl (det_buildN [none, none, none, none, none, none, none, none, none, none, some 2, some 4, some 13] rfl zr33 pl33 rfl rfl) ?_
     refine rwp_det rfl rfl (det_move rfl rfl) ?_
     refine rwp_det0 rfl rfl (det_store rfl sz33 rfl rfl rfl (st_row 3 rfl rfl)) ?_
     refine rwp_det rfl rfl (det_assign rfl rfl) ?_
     refine rwp_nil ?_
     refine awp_ret ?_
     repeat (first | refine thenQ_ret ?_ | refine blockQ_ret ?_)
     refine fin2 (rs_cell_agg agg33 rfl (ptr_row 3 rfl) rfl) (rs_c rfl) ?_
     rw [mEx_e3 c1 hmi (mExs_no ha hr c7)]; rfl
    ·try simp only [sx, List.length_map] at c7
     refine awp_skip ?_
     refine awp_region rfl ?_
     refine rwp_det rfl rfl (det_add_nw rfl rfl rfl ⟨by omega, by omega⟩) ?_
     refine rwp_det rfl rfl (det_move rfl rfl) ?_
     refine rwp_nil ?_
     refine ⟨⟨n + 1, exs ++ [outE (mEx f a)]⟩, ⟨by omega, by simp; omega, mExs_next ha hr c7⟩, (by show e.Args.length - (n + 1) < e.Args.length - n; omega), Weak.mk [false, true, true, true] ⟨VLe.refl _, VLe.refl _, VLe.refl _, VLe.refl _, VLe.refl _, VLe.refl _, trivial⟩ (by simp only [Int.toNat_natCast]; rw [mid_set (by simp; omega) ha]; simp only [List.map_append, List.map_cons, List.map_nil, Ex.cells_eq (outE (mEx f a))]; rfl)⟩
   ·try simp only [sx, List.length_map] at c6
    have hme := mExs_end hr (by omega)
    rw [drop_end (l := e.Args) (k := n) (by omega)]
    simp only [List.map_nil, List.append_nil]
    refine awp_weak _ (weak_freezeM 0 rfl (regs' := []) (μ' := [_, _]) trivial ⟨EFle.row (ds := [_, _, _, _, _, _, _, _, _, _, _, _, _]) ⟨.inl rfl, .inl rfl, .inl rfl, .inl rfl, .inl rfl, .inl rfl, .inl rfl, .inl rfl, .inl rfl, .inl rfl, .inl rfl, .inl rfl, .inr ⟨rfl, rfl⟩, trivial⟩, EFle.refl _, trivial⟩) ?_
    refine awp_exit ?_
    refine awp_seq ?_
    refine awp_region rfl ?_
    refine rwp_det rfl rfl (det_load_agg rfl agg33 rfl (ptr_row 0 rfl) rfl) ?_
    refine rwp_det0 rfl rfl (det_store rfl sz33 rfl rfl rfl (st_row 1 rfl rfl)) ?_
    refine rwp_det rfl rfl (det_assign rfl rfl) ?_
    refine rwp_nil ?_
    refine awp_ret ?_
    repeat (first | refine thenQ_ret ?_ | refine blockQ_ret ?_)
    refine fin2 (rs_cell_agg agg33 rfl (ptr_row 1 rfl) rfl) (rs_c rfl) ?_
    rw [mEx_ok c1 hmi hme]; rfl

theorem mapForms_conW (f : Lf → Lf × Int) (c : C) (P : Lf → Prop) (hf : ∀ l, P l → FnPur cfg c [vLin l] (.tup [vLin (f l).1, vI (f l).2])) (e : Ex) (hP : e.allF P) (he : e.cnt ≤ 4294967296) : Pur cfg 81 [vE e, .c c] (.tup [vE (outE (mEx f e)), vI (errE (mEx f e))]) := by
  induction e using Ex.ind with
  | _ e ih => exact mapForms_step f c P hf e hP ih he
theorem mapForms_con (f : Lf → Lf × Int) (c : C) (P : Lf → Prop) (hf : ∀ l, P l → l.L.length ≤ 4294967296 → FnPur cfg c [vLin l] (.tup [vLin (f l).1, vI (f l).2])) (e : Ex) (hP : e.allF P) (he : e.wt ≤ 4294967296) : Pur cfg 81 [vE e, .c c] (.tup [vE (outE (mEx f e)), vI (errE (mEx f e))]) :=
  mapForms_conW f c (fun l => P l ∧ l.L.length ≤ 4294967296) (fun l h => hf l h.1 h.2) e (fun x hx l hl => ⟨hP x hx l hl, forms_wt (Nat.le_trans (node_mem_wt e x hx) he) hl⟩) (Nat.le_trans e.cnt_le he)

end Go.W
