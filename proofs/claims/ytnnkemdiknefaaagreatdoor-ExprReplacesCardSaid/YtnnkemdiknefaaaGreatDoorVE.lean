/-
  Walks: what functions of the program compute. Printed by wip/gen/mk2.py.
  Conditions: none.
-/
import Derived.Test.YtnnkemdiknefaaaGreatDoorVD
import Derived.Test.YtnnkemdiknefaaaGreatDoorEngZ
set_option linter.unusedSimpArgs false
set_option linter.unusedVariables false
namespace Go.W
open Go Go.Eng Go.Proofs Go.L41 Go.Br
attribute [local irreducible] AWP RWP TD
theorem ok43 : callOk Tryz.prog 43 = true := by kernel_rfl
theorem mapFormsO_step (f : Lf → Lf × Int) (c : C) (P : Lf → Prop) (hf : ∀ l, P l → l.L.length ≤ 4294967296 → FnPur cfg c [vLin l] (.tup [vLin (f l).1, vI (f l).2])) (h0 : ∀ l, (f l).2 = 0) (e : Ex) (hP : e.allF P) (he : e.wt ≤ 4294967296) :
    Con cfg 81 [vE e, .c c] [] fun r μ' => ∃ μ2, (∃ ν1 ν2, μ' = ν1 ++ (μ2 ++ ν2)) ∧ ∃ outs exs sv, mIxs f e.Idx = .ok outs ∧ mExs f e.Args = .ok exs ∧ r = .tup [.agg [cI e.Op, cS e.Name, cI e.Val.N, cI e.Val.D, cI e.Ty.Kind, cI e.Ty.Bits, cI e.Ty.Frac, cI e.Ty.Round, cI e.Ty.Over, cI (f e.Lin).1.K, .sl 2 ((f e.Lin).1.L.map Mono.cells), .sl 4 (outs.map Ix.cells), .lit sv], vI 0] ∧ μ2 = [E.vec sv 33 13 (exs.map Ex.cells)] := by
 refine con_intro Tryz.func81 rfl Tryz.ntmps81 Tryz.results81 rfl ?_
 intro z hz
 obtain ⟨hL, hI, hA⟩ := e.parts he
 refine awp_seq ?_
 refine awp_region rfl ?_
 refine rwp_op rfl rfl (ope_box rfl rfl) ?_
 rintro _ _ ⟨b1, rfl, rfl⟩
 refine rwp_op rfl rfl (ope_allocN [none, none, none, none, none, none, none, none, none, none, some 2, some 4, some 13] rfl zr33 rfl) ?_
 rintro _ _ ⟨b2, rfl, rfl⟩
 refine rwp_det rfl rfl (det_assign rfl rfl) ?_
 refine rwp_nil ?_
 refine awp_seq ?_
 refine awp_region rfl ?_
 refine rwp_det rfl rfl (det_load_agg rfl agg33 rfl (ptr_row 1 rfl) rfl) ?_
 refine rwp_op rfl rfl (ope_allocN [none, none, none, none, none, none, none, none, none, none, some 2, some 4, some 13] rfl zr33 rfl) ?_
 rintro _ _ ⟨b3, rfl, rfl⟩
 refine rwp_det0 rfl rfl (det_store rfl sz33 rfl rfl rfl (st_row 0 rfl rfl)) ?_
 refine rwp_nil ?_
 refine awp_seq ?_
 refine awp_region rfl ?_
 refine rwp_det rfl rfl (det_assign rfl rfl) ?_
 refine rwp_nil ?_
 refine awp_seq ?_
 refine awp_seq ?_
 refine awp_region rfl ?_
 refine rwp_det rfl rfl (det_move rfl rfl) ?_
 refine rwp_det rfl rfl (det_field_lit rfl fd33_4 rfl) ?_
 refine rwp_det rfl rfl (det_load_agg rfl agg29 rfl (ptr_row 2 rfl) rfl) ?_
 refine rwp_det rfl rfl (det_call_val rfl rfl (hf e.Lin (Ex.allF_lin hP) hL) ⟨VLe.refl _, rfl, trivial⟩) ?_
 refine rwp_det rfl rfl (det_move_tup rfl rfl) ?_
 refine rwp_det rfl rfl (det_ex_agg rfl rfl rfl) ?_
 refine rwp_det rfl rfl (det_ex_c rfl rfl rfl) ?_
 refine rwp_det rfl rfl (det_field_lit rfl fd33_4 rfl) ?_
 refine rwp_det0 rfl rfl (det_store rfl sz29 rfl rfl rfl (st_row 0 rfl rfl)) ?_
 refine rwp_det rfl rfl (det_assign rfl rfl) ?_
 refine rwp_nil ?_
 refine awp_seq ?_
 refine awp_region rfl ?_
 refine rwp_det rfl rfl (det_move rfl rfl) ?_
 refine rwp_det rfl rfl (det_neq rfl rfl rfl) ?_
 refine rwp_nil ?_
 refine awp_cond rfl (fun c1 => ?_) (fun c1 => ?_)
 ·try simp only [sx, List.length_map] at c1
  exact absurd (h0 _) c1
 ·try simp only [sx, List.length_map] at c1
  refine awp_skip ?_
  refine awp_seq ?_
  refine awp_region rfl ?_
  refine rwp_det rfl rfl (det_field_lit rfl fd33_5 rfl) ?_
  refine rwp_det rfl rfl (det_load_one rfl one30 rfl (ptr_row 2 rfl) rfl) ?_
  refine rwp_op rfl rfl (ope_call_own rfl ok148 (slices_Clone_ix e.Idx hI) ⟨VLe.refl _, rfl, trivial⟩) ?_
  rintro _ _ ⟨sv4, rfl, rfl⟩
  refine rwp_det rfl rfl (det_field_lit rfl fd33_5 rfl) ?_
  refine rwp_det0 rfl rfl (det_store rfl sz30 rfl rfl rfl (st_row 1 rfl rfl)) ?_
  refine rwp_nil ?_
  refine awp_seq ?_
  refine awp_seq ?_
  refine awp_region rfl ?_
  refine rwp_det rfl rfl (det_field_lit rfl fd33_5 rfl) ?_
  refine rwp_det rfl rfl (det_load_one rfl one30 rfl (ptr_row 3 rfl) rfl) ?_
  refine rwp_det rfl rfl (det_len_slm rfl el30 rfl) ?_
  refine rwp_det rfl rfl (det_move rfl rfl) ?_
  refine rwp_nil ?_
  refine awp_block ?_
  refine awp_weak ⟨[(34, .c _), (1, .c _), (2, .c _), (4, .c _), (6, .c _), (32, .c _), (33, .c _)], [_, _, _, _]⟩ (Weak.mk [true, true, true, true] ⟨VLe.of_eq rfl, VLe.of_eq rfl, VLe.of_eq rfl, VLe.of_eq rfl, VLe.of_eq rfl, VLe.of_eq rfl, VLe.of_eq rfl, trivial⟩ rfl) ?_
  refine awp_loop_k 1 1 rfl rfl (Nat × List Ix) (fun ⟨k, outs⟩ => [(34, vI k)]) (fun ⟨k, outs⟩ => [E.vec sv4 117 4 (outs.map Ix.cells ++ (e.Idx.drop k).map Ix.cells)]) (fun ⟨k, outs⟩ => k ≤ e.Idx.length ∧ (outs.length = k) ∧ (mIxs f e.Idx = mapRest outs (mIxs f (e.Idx.drop k)))) (fun ⟨k, outs⟩ => e.Idx.length - k) ⟨⟨0, []⟩, ⟨by omega, rfl, (mapRest_nil _).symm⟩, Weak.mk [true, true, true, true] ⟨VLe.refl _, VLe.refl _, VLe.refl _, VLe.refl _, VLe.refl _, VLe.refl _, VLe.refl _, trivial⟩ rfl⟩ ?_
  rintro ⟨k, outs⟩ ⟨hk, ho, hp⟩
  show AWP _ _ _ _ _ ⟨[(34, vI k)] ++ _, [E.vec sv4 117 4 (outs.map Ix.cells ++ (e.Idx.drop k).map Ix.cells)] ++ _⟩
  refine awp_seq ?_
  refine awp_region rfl ?_
  refine rwp_det rfl rfl (det_lss rfl rfl rfl) ?_
  refine rwp_nil ?_
  refine awp_seq ?_
  refine awp_cond rfl (fun c2 => ?_) (fun c2 => ?_)
  ·try simp only [sx, List.length_map] at c2
   obtain ⟨x, hx⟩ := ex_get e.Idx k (by omega)
   have hxw := Ex.idx_wt (mem_of_get hx)
   refine awp_skip ?_
   refine awp_seq ?_
   refine awp_block ?_
   refine awp_seq ?_
   refine awp_region rfl ?_
   refine rwp_det rfl rfl (det_move rfl rfl) ?_
   refine rwp_det rfl rfl (det_index_sl rfl el30 rfl rfl (by omega) (getm (by assumption))) ?_
   refine rwp_det rfl rfl (det_load_agg rfl agg117 rfl ptr_imm rfl) ?_
   refine rwp_op rfl rfl (ope_allocN [none, some 2, none, some 2] rfl zr117 rfl) ?_
   rintro _ _ ⟨b5, rfl, rfl⟩
   refine rwp_det rfl rfl (det_assign rfl rfl) ?_
   refine rwp_det0 rfl rfl (det_store rfl sz117 rfl rfl rfl (st_row 0 rfl rfl)) ?_
   refine rwp_nil ?_
   refine awp_seq ?_
   refine awp_seq ?_
   refine awp_draw_c 13 0 [⟨0, .q []⟩, ⟨1, .q [2]⟩, ⟨2, .q []⟩, ⟨3, .q []⟩, ⟨4, .q []⟩, ⟨5, .q [0]⟩, ⟨6, .q []⟩, ⟨7, .q []⟩, ⟨8, .q []⟩, ⟨9, .q []⟩, ⟨10, .q [1]⟩, ⟨11, .q []⟩, ⟨12, .e 1 []⟩] mixed (by kernel_rfl) (by kernel_rfl) rfl rfl rfl ?_
   refine fx_skip rfl ?_
   refine fx_skip rfl ?_
   refine fx_skip rfl ?_
   refine fx_skip rfl ?_
   refine fx_skip rfl ?_
   refine fx_skip rfl ?_
   refine fx_skip rfl ?_
   refine fx_skip rfl ?_
   refine fx_skip rfl ?_
   refine fx_skip rfl ?_
   refine fx_skip rfl ?_
   refine fx_skip rfl ?_
   refine fx_skip rfl ?_
   refine fx_nil ?_
   refine sq_det rfl (by decide) rfl rfl (det_field_lit rfl fd33_5 rfl) ?_
   refine sq_det rfl (by decide) rfl rfl (det_load_one rfl one30 rfl (ptr_row 0 rfl) rfl) ?_
   refine sq_det rfl (by decide) rfl rfl (det_move rfl rfl) ?_
   refine sq_det rfl (by decide) rfl rfl (det_move rfl rfl) ?_
   refine sq_det rfl (by decide) rfl rfl (det_field_lit rfl fd117_0 rfl) ?_
   refine sq_det rfl (by decide) rfl rfl (det_load_agg rfl agg29 rfl (ptr_row 0 rfl) rfl) ?_
   refine sq_det rfl (by decide) rfl rfl (det_call_val rfl rfl (hf x.Lin (Ex.allF_ix hP (mem_of_get hx)) (by omega)) ⟨VLe.refl _, rfl, trivial⟩) ?_
   refine sq_det rfl (by decide) rfl rfl (det_move_tup rfl rfl) ?_
   refine sq_det rfl (by decide) rfl rfl (det_ex_agg rfl rfl rfl) ?_
   refine sq_det rfl (by decide) rfl rfl (det_ex_c rfl rfl rfl) ?_
   refine sq_det rfl (by decide) rfl rfl (det_index_vec 0 rfl el30 rfl rfl rfl (by omega) (mid_len (by simp; omega) (by omega))) ?_
   refine sq_det rfl (by decide) rfl rfl (det_field_vec rfl fd117_0 rfl) ?_
   refine sq_op0 rfl rfl (by decide) rfl rfl (det_store rfl sz29 rfl rfl rfl (st_vec 0 rfl (mid_get (by simp; omega) hx) rfl)) ?_
   rintro _ _ ⟨rfl, rfl⟩
   refine ⟨_, rfl, ?_⟩
   refine sq_nil rfl ?_
   refine rwp_det rfl rfl (det_assign rfl rfl) ?_
   refine rwp_nil ?_
   refine awp_seq ?_
   refine awp_region rfl ?_
   refine rwp_det rfl rfl (det_move rfl rfl) ?_
   refine rwp_det rfl rfl (det_neq rfl rfl rfl) ?_
   refine rwp_nil ?_
   refine awp_cond rfl (fun c3 => ?_) (fun c3 => ?_)
   ·try simp only [sx, List.length_map] at c3
    exact absurd (h0 _) c3
   ·try simp only [sx, List.length_map] at c3
    refine awp_skip ?_
    refine awp_seq ?_
    refine awp_draw_c 6 1 [⟨0, .q []⟩, ⟨1, .q [3]⟩, ⟨2, .q []⟩, ⟨3, .q []⟩, ⟨4, .q [1]⟩, ⟨5, .e 0 []⟩] mixed (by kernel_rfl) (by kernel_rfl) rfl rfl rfl ?_
    refine fx_skip rfl ?_
    refine fx_skip rfl ?_
    refine fx_skip rfl ?_
    refine fx_skip rfl ?_
    refine fx_skip rfl ?_
    refine fx_skip rfl ?_
    refine fx_nil ?_
    refine sq_det rfl (by decide) rfl rfl (det_field_lit rfl fd33_5 rfl) ?_
    refine sq_det rfl (by decide) rfl rfl (det_load_one rfl one30 rfl (ptr_row 0 rfl) rfl) ?_
    refine sq_det rfl (by decide) rfl rfl (det_move rfl rfl) ?_
    refine sq_det rfl (by decide) rfl rfl (det_field_lit rfl fd117_2 rfl) ?_
    refine sq_det rfl (by decide) rfl rfl (det_load_one rfl one104 rfl (ptr_row 0 rfl) rfl) ?_
    refine sq_op rfl rfl (by decide) rfl rfl (ope_call_own rfl ok149 (slices_Clone_lin x.At (by omega)) ⟨VLe.refl _, rfl, trivial⟩) ?_
    rintro _ _ ⟨sv6, rfl, rfl⟩
    refine ⟨_, rfl, ?_⟩
    refine sq_nil rfl ?_
    refine rwp_det rfl rfl (det_index_vec 2 rfl el30 rfl rfl rfl (by omega) (by simp; omega)) ?_
    refine rwp_det rfl rfl (det_field_vec rfl fd117_2 rfl) ?_
    refine rwp_det0 rfl rfl (det_store rfl sz104 rfl rfl rfl (st_vec 2 rfl (set_get (by simp; omega)) rfl)) ?_
    refine rwp_nil ?_
    refine awp_seq ?_
    refine awp_region rfl ?_
    refine rwp_det rfl rfl (det_field_lit rfl fd117_2 rfl) ?_
    refine rwp_det rfl rfl (det_load_one rfl one104 rfl (ptr_row 1 rfl) rfl) ?_
    refine rwp_det rfl rfl (det_len_slm rfl el104 rfl) ?_
    refine rwp_det rfl rfl (det_move rfl rfl) ?_
    refine rwp_nil ?_
    refine awp_block ?_
    refine awp_weak ⟨[(66, .c _), (1, .c _), (2, .c _), (4, .c _), (6, .c _), (8, .c _), (32, .c _), (33, .c _), (34, .c _), (64, .c _), (65, .c _)], [_, _, _, _, _]⟩ (Weak.mk [true, false, true, true, true, true] ⟨VLe.of_eq rfl, VLe.of_eq rfl, VLe.of_eq rfl, VLe.of_eq rfl, VLe.of_eq rfl, VLe.of_eq rfl, VLe.of_eq rfl, VLe.of_eq rfl, VLe.of_eq rfl, VLe.of_eq rfl, VLe.of_eq rfl, trivial⟩ rfl) ?_
    refine awp_loop_k 1 1 rfl rfl (Nat × List Lf) (fun ⟨j, lins⟩ => [(66, vI j)]) (fun ⟨j, lins⟩ => [E.vec sv6 29 2 (lins.map Lf.cells ++ (x.At.drop j).map Lf.cells)]) (fun ⟨j, lins⟩ => j ≤ x.At.length ∧ (lins.length = j) ∧ (mLins f x.At = mapRest lins (mLins f (x.At.drop j)))) (fun ⟨j, lins⟩ => x.At.length - j) ⟨⟨0, []⟩, ⟨by omega, rfl, (mapRest_nil _).symm⟩, Weak.mk [true, true, true, true, true] ⟨VLe.refl _, VLe.refl _, VLe.refl _, VLe.refl _, VLe.refl _, VLe.refl _, VLe.refl _, VLe.refl _, VLe.refl _, VLe.refl _, VLe.refl _, trivial⟩ rfl⟩ ?_
    rintro ⟨j, lins⟩ ⟨hj, hlo, hq⟩
    show AWP _ _ _ _ _ ⟨[(66, vI j)] ++ _, [E.vec sv6 29 2 (lins.map Lf.cells ++ (x.At.drop j).map Lf.cells)] ++ _⟩
    refine awp_seq ?_
    refine awp_region rfl ?_
    refine rwp_det rfl rfl (det_lss rfl rfl rfl) ?_
    refine rwp_nil ?_
    refine awp_seq ?_
    refine awp_cond rfl (fun c4 => ?_) (fun c4 => ?_)
    ·try simp only [sx, List.length_map] at c4
     obtain ⟨l, hl⟩ := ex_get x.At j (by omega)
     have hlw := linsWt_mem (mem_of_get hl)
     refine awp_skip ?_
     refine awp_seq ?_
     refine awp_block ?_
     refine awp_seq ?_
     refine awp_region rfl ?_
     refine rwp_det rfl rfl (det_move rfl rfl) ?_
     refine rwp_det rfl rfl (det_index_sl rfl el104 rfl rfl (by omega) (getm (by assumption))) ?_
     refine rwp_det rfl rfl (det_load_agg rfl agg29 rfl ptr_imm rfl) ?_
     refine rwp_op rfl rfl (ope_allocN [none, some 2] rfl zr29 rfl) ?_
     rintro _ _ ⟨b7, rfl, rfl⟩
     refine rwp_det rfl rfl (det_assign rfl rfl) ?_
     refine rwp_det0 rfl rfl (det_store rfl sz29 rfl rfl rfl (st_row 0 rfl rfl)) ?_
     refine rwp_nil ?_
     refine awp_seq ?_
     refine awp_draw_c 15 0 [⟨0, .q []⟩, ⟨1, .q [3]⟩, ⟨2, .q []⟩, ⟨3, .q [2]⟩, ⟨4, .q []⟩, ⟨5, .q [2]⟩, ⟨6, .q []⟩, ⟨7, .q []⟩, ⟨8, .q [0]⟩, ⟨9, .q []⟩, ⟨10, .q []⟩, ⟨11, .q []⟩, ⟨12, .q []⟩, ⟨13, .q [1]⟩, ⟨14, .e 1 []⟩] mixed (by kernel_rfl) (by kernel_rfl) rfl rfl rfl ?_
     refine fx_skip rfl ?_
     refine fx_skip rfl ?_
     refine fx_skip rfl ?_
     refine fx_skip rfl ?_
     refine fx_skip rfl ?_
     refine fx_skip rfl ?_
     refine fx_skip rfl ?_
     refine fx_skip rfl ?_
     refine fx_skip rfl ?_
     refine fx_skip rfl ?_
     refine fx_skip rfl ?_
     refine fx_skip rfl ?_
     refine fx_skip rfl ?_
     refine fx_skip rfl ?_
     refine fx_skip rfl ?_
     refine fx_nil ?_
     refine sq_det rfl (by decide) rfl rfl (det_field_lit rfl fd33_5 rfl) ?_
     refine sq_det rfl (by decide) rfl rfl (det_load_one rfl one30 rfl (ptr_row 0 rfl) rfl) ?_
     refine sq_det rfl (by decide) rfl rfl (det_move rfl rfl) ?_
     refine sq_det rfl (by decide) rfl rfl (det_index_vec 0 rfl el30 rfl rfl rfl (by omega) (by simp; omega)) ?_
     refine sq_det rfl (by decide) rfl rfl (det_field_vec rfl fd117_2 rfl) ?_
     refine sq_det rfl (by decide) rfl rfl (det_load_one rfl one104 rfl (ptr_vec 0 rfl (set_get (by simp; omega))) rfl) ?_
     refine sq_det rfl (by decide) rfl rfl (det_move rfl rfl) ?_
     refine sq_det rfl (by decide) rfl rfl (det_move rfl rfl) ?_
     refine sq_det rfl (by decide) rfl rfl (det_load_agg rfl agg29 rfl (ptr_row 0 rfl) rfl) ?_
     refine sq_det rfl (by decide) rfl rfl (det_call_val rfl rfl (hf l (Ex.allF_at hP (mem_of_get hx) (mem_of_get hl)) (by omega)) ⟨VLe.refl _, rfl, trivial⟩) ?_
     refine sq_det rfl (by decide) rfl rfl (det_move_tup rfl rfl) ?_
     refine sq_det rfl (by decide) rfl rfl (det_ex_agg rfl rfl rfl) ?_
     refine sq_det rfl (by decide) rfl rfl (det_ex_c rfl rfl rfl) ?_
     refine sq_det rfl (by decide) rfl rfl (det_index_vec 0 rfl el104 rfl rfl rfl (by omega) (mid_len (by simp; omega) (by omega))) ?_
     refine sq_op0 rfl rfl (by decide) rfl rfl (det_store rfl sz29 rfl rfl rfl (st_vec 0 rfl (mid_get (by simp; omega) hl) rfl)) ?_
     rintro _ _ ⟨rfl, rfl⟩
     refine ⟨_, rfl, ?_⟩
     refine sq_nil rfl ?_
     refine rwp_det rfl rfl (det_assign rfl rfl) ?_
     refine rwp_nil ?_
     refine awp_seq ?_
     refine awp_region rfl ?_
     refine rwp_det rfl rfl (det_move rfl rfl) ?_
     refine rwp_det rfl rfl (det_neq rfl rfl rfl) ?_
     refine rwp_nil ?_
     refine awp_cond rfl (fun c5 => ?_) (fun c5 => ?_)
     ·try simp only [sx, List.length_map] at c5
      exact absurd (h0 _) c5
     ·try simp only [sx, List.length_map] at c5
      refine awp_skip ?_
      refine awp_region rfl ?_
      refine rwp_det rfl rfl (det_add_nw rfl rfl rfl ⟨by omega, by omega⟩) ?_
      refine rwp_det rfl rfl (det_move rfl rfl) ?_
      refine rwp_nil ?_
      refine ⟨⟨j + 1, lins ++ [(f l).1]⟩, ⟨by omega, by simp; omega, mLins_next hl hq c5⟩, (by show x.At.length - (j + 1) < x.At.length - j; omega), Weak.mk [false, true, true, true, true, true] ⟨VLe.refl _, VLe.refl _, VLe.refl _, VLe.refl _, VLe.refl _, VLe.refl _, VLe.refl _, VLe.refl _, VLe.refl _, VLe.refl _, VLe.refl _, trivial⟩ (by simp only [Int.toNat_natCast]; rw [mid_set (by simp; omega) hl]; simp only [List.map_append, List.map_cons, List.map_nil]; rfl)⟩
    ·try simp only [sx, List.length_map] at c4
     have hml := mLins_end hq (by omega)
     rw [drop_end (l := x.At) (k := j) (by omega)]
     simp only [List.map_nil, List.append_nil]
     refine awp_weak _ (weak_freezeM 0 rfl (regs' := []) (μ' := [_, _, _, _]) trivial ⟨EFle.vec (r' := [_, _, _, _]) (set_get (by simp; omega)) ⟨.inl rfl, .inl rfl, .inl rfl, .inr ⟨rfl, rfl⟩, trivial⟩, EFle.refl _, EFle.refl _, EFle.refl _, trivial⟩) ?_
     refine awp_exit ?_
     refine awp_region rfl ?_
     refine rwp_det rfl rfl (det_add_nw rfl rfl rfl ⟨by omega, by omega⟩) ?_
     refine rwp_det rfl rfl (det_move rfl rfl) ?_
     refine rwp_nil ?_
     refine ⟨⟨k + 1, outs ++ [⟨(f x.Lin).1, x.From, lins⟩]⟩, ⟨by omega, by simp; omega, mIxs_next hx hp (mIx_ok c3 hml)⟩, (by show e.Idx.length - (k + 1) < e.Idx.length - k; omega), Weak.mk [true, true, true, true] ⟨VLe.refl _, VLe.refl _, VLe.refl _, VLe.refl _, VLe.refl _, VLe.refl _, VLe.refl _, trivial⟩ (by simp only [Int.toNat_natCast, List.set_set]; rw [mid_set (by simp; omega) hx]; simp only [List.map_append, List.map_cons, List.map_nil]; rfl)⟩
  ·try simp only [sx, List.length_map] at c2
   have hmi := mIxs_end hp (by omega)
   rw [drop_end (l := e.Idx) (k := k) (by omega)]
   simp only [List.map_nil, List.append_nil]
   refine awp_weak _ (weak_freezeM 0 rfl (regs' := []) (μ' := [_, _, _]) trivial ⟨EFle.row (ds := [_, _, _, _, _, _, _, _, _, _, _, _, _]) ⟨.inl rfl, .inl rfl, .inl rfl, .inl rfl, .inl rfl, .inl rfl, .inl rfl, .inl rfl, .inl rfl, .inl rfl, .inl rfl, .inr ⟨rfl, rfl⟩, .inl rfl, trivial⟩, EFle.refl _, EFle.refl _, trivial⟩) ?_
   refine awp_exit ?_
   refine awp_seq ?_
   refine awp_region rfl ?_
   refine rwp_det rfl rfl (det_field_lit rfl fd33_6 rfl) ?_
   refine rwp_det rfl rfl (det_load_one rfl one31 rfl (ptr_row 2 rfl) rfl) ?_
   refine rwp_op rfl rfl (ope_call_own rfl ok150 (slices_Clone_ex e.Args hA) ⟨VLe.refl _, rfl, trivial⟩) ?_
   rintro _ _ ⟨sv8, rfl, rfl⟩
   refine rwp_det rfl rfl (det_field_lit rfl fd33_6 rfl) ?_
   refine rwp_det0 rfl rfl (det_store rfl sz31 rfl rfl rfl (st_row 1 rfl rfl)) ?_
   refine rwp_nil ?_
   refine awp_seq ?_
   refine awp_seq ?_
   refine awp_region rfl ?_
   refine rwp_det rfl rfl (det_field_lit rfl fd33_6 rfl) ?_
   refine rwp_det rfl rfl (det_load_one rfl one31 rfl (ptr_row 3 rfl) rfl) ?_
   refine rwp_det rfl rfl (det_len_slm rfl el31 rfl) ?_
   refine rwp_det rfl rfl (det_move rfl rfl) ?_
   refine rwp_nil ?_
   refine awp_block ?_
   refine awp_weak ⟨[(98, .c _), (1, .c _), (4, .c _), (6, .c _), (96, .c _), (97, .c _)], [_, _, _]⟩ (Weak.mk [true, true, true, false] ⟨VLe.of_eq rfl, VLe.of_eq rfl, VLe.of_eq rfl, VLe.of_eq rfl, VLe.of_eq rfl, VLe.of_eq rfl, trivial⟩ rfl) ?_
   refine awp_loop_k 1 1 rfl rfl (Nat × List Ex) (fun ⟨n, exs⟩ => [(98, vI n)]) (fun ⟨n, exs⟩ => [E.vec sv8 33 13 (exs.map Ex.cells ++ (e.Args.drop n).map Ex.cells)]) (fun ⟨n, exs⟩ => n ≤ e.Args.length ∧ (exs.length = n) ∧ (mExs f e.Args = mapRest exs (mExs f (e.Args.drop n)))) (fun ⟨n, exs⟩ => e.Args.length - n) ⟨⟨0, []⟩, ⟨by omega, rfl, (mapRest_nil _).symm⟩, Weak.mk [true, true, true] ⟨VLe.refl _, VLe.refl _, VLe.refl _, VLe.refl _, VLe.refl _, VLe.refl _, trivial⟩ rfl⟩ ?_
   rintro ⟨n, exs⟩ ⟨hn, hno, hr⟩
   show AWP _ _ _ _ _ ⟨[(98, vI n)] ++ _, [E.vec sv8 33 13 (exs.map Ex.cells ++ (e.Args.drop n).map Ex.cells)] ++ _⟩
   refine awp_seq ?_
   refine awp_region rfl ?_
   refine rwp_det rfl rfl (det_lss rfl rfl rfl) ?_
   refine rwp_nil ?_
   refine awp_seq ?_
   refine awp_cond rfl (fun c6 => ?_) (fun c6 => ?_)
   ·try simp only [sx, List.length_map] at c6
    obtain ⟨a, ha⟩ := ex_get e.Args n (by omega)
    refine awp_skip ?_
    refine awp_seq ?_
    refine awp_block ?_
    refine awp_seq ?_
    refine awp_region rfl ?_
    refine rwp_det rfl rfl (det_move rfl rfl) ?_
    refine rwp_det rfl rfl (det_index_sl rfl el31 rfl rfl (by omega) (getmE (by assumption))) ?_
    refine rwp_det rfl rfl (det_load_agg rfl agg33 rfl ptr_imm rfl) ?_
    refine rwp_op rfl rfl (ope_allocN [none, none, none, none, none, none, none, none, none, none, some 2, some 4, some 13] rfl zr33 rfl) ?_
    rintro _ _ ⟨b9, rfl, rfl⟩
    refine rwp_det rfl rfl (det_assign rfl rfl) ?_
    refine rwp_det0 rfl rfl (det_store rfl sz33 rfl rfl rfl (st_row 0 rfl rfl)) ?_
    refine rwp_nil ?_
    refine awp_seq ?_
    refine awp_draw_c 11 0 [⟨0, .q []⟩, ⟨1, .q [2]⟩, ⟨2, .q []⟩, ⟨3, .q [0]⟩, ⟨4, .q []⟩, ⟨5, .q []⟩, ⟨6, .q []⟩, ⟨7, .q []⟩, ⟨8, .q []⟩, ⟨9, .q [1]⟩, ⟨10, .e 1 []⟩] mixed (by kernel_rfl) (by kernel_rfl) rfl rfl rfl ?_
    refine fx_skip rfl ?_
    refine fx_skip rfl ?_
    refine fx_skip rfl ?_
    refine fx_skip rfl ?_
    refine fx_skip rfl ?_
    refine fx_skip rfl ?_
    refine fx_skip rfl ?_
    refine fx_skip rfl ?_
    refine fx_skip rfl ?_
    refine fx_skip rfl ?_
    refine fx_skip rfl ?_
    refine fx_nil ?_
    refine sq_det rfl (by decide) rfl rfl (det_field_lit rfl fd33_6 rfl) ?_
    refine sq_det rfl (by decide) rfl rfl (det_load_one rfl one31 rfl (ptr_row 0 rfl) rfl) ?_
    refine sq_det rfl (by decide) rfl rfl (det_move rfl rfl) ?_
    refine sq_det rfl (by decide) rfl rfl (det_load_agg rfl agg33 rfl (ptr_row 0 rfl) rfl) ?_
    refine sq_det rfl (by decide) rfl rfl (det_move rfl rfl) ?_
    refine sq_det rfl (by decide) rfl rfl (det_call rfl ok81 (mapForms_con f c P hf a (Ex.allF_arg hP (mem_of_get ha)) (by have := Ex.arg_wt (mem_of_get ha); omega)) ⟨VLe.refl _, rfl, VLe.refl _, rfl, trivial⟩) ?_
    refine sq_det rfl (by decide) rfl rfl (det_move_tup rfl rfl) ?_
    refine sq_det rfl (by decide) rfl rfl (det_ex_agg rfl rfl rfl) ?_
    refine sq_det rfl (by decide) rfl rfl (det_ex_c rfl rfl rfl) ?_
    refine sq_det rfl (by decide) rfl rfl (det_index_vec 0 rfl el31 rfl rfl rfl (by omega) (mid_len (by simp; omega) (by omega))) ?_
    refine sq_op0 rfl rfl (by decide) rfl rfl (det_store rfl sz33 rfl rfl rfl (st_vec 0 rfl (mid_getE (by simp; omega) ha) rfl)) ?_
    rintro _ _ ⟨rfl, rfl⟩
    refine ⟨_, rfl, ?_⟩
    refine sq_nil rfl ?_
    refine rwp_det rfl rfl (det_assign rfl rfl) ?_
    refine rwp_nil ?_
    refine awp_seq ?_
    refine awp_region rfl ?_
    refine rwp_det rfl rfl (det_move rfl rfl) ?_
    refine rwp_det rfl rfl (det_neq rfl rfl rfl) ?_
    refine rwp_nil ?_
    refine awp_cond rfl (fun c7 => ?_) (fun c7 => ?_)
    ·try simp only [sx, List.length_map] at c7
     exact absurd (mEx_tot h0 _) c7
    ·try simp only [sx, List.length_map] at c7
     refine awp_skip ?_
     refine awp_region rfl ?_
     refine rwp_det rfl rfl (det_add_nw rfl rfl rfl ⟨by omega, by omega⟩) ?_
     refine rwp_det rfl rfl (det_move rfl rfl) ?_
     refine rwp_nil ?_
     refine ⟨⟨n + 1, exs ++ [outE (mEx f a)]⟩, ⟨by omega, by simp; omega, mExs_next ha hr c7⟩, (by show e.Args.length - (n + 1) < e.Args.length - n; omega), Weak.mk [false, true, true, true] ⟨VLe.refl _, VLe.refl _, VLe.refl _, VLe.refl _, VLe.refl _, VLe.refl _, trivial⟩ (by simp only [Int.toNat_natCast]; rw [mid_set (by simp; omega) ha]; simp only [List.map_append, List.map_cons, List.map_nil, Ex.cells_eq (outE (mEx f a))]; rfl)⟩
   ·try simp only [sx, List.length_map] at c6
    have hme := mExs_end hr (by omega)
    rw [drop_end (l := e.Args) (k := n) (by omega)]
    simp only [List.map_nil, List.append_nil]
    refine awp_exit ?_
    refine awp_seq ?_
    refine awp_region rfl ?_
    refine rwp_det rfl rfl (det_load_agg rfl agg33 rfl (ptr_row 1 rfl) rfl) ?_
    refine rwp_det0 rfl rfl (det_store rfl sz33 rfl rfl rfl (st_row 2 rfl rfl)) ?_
    refine rwp_det rfl rfl (det_assign rfl rfl) ?_
    refine rwp_nil ?_
    refine awp_weak _ (Weak.mem [true, false, true] rfl) ?_
    refine awp_ret ?_
    repeat (first | refine thenQ_ret ?_ | refine blockQ_ret ?_)
    refine fin2 (rs_cell_agg agg33 rfl (ptr_row 1 rfl) rfl) (rs_c rfl) ?_
    exact ⟨[E.vec _ _ _ _], ⟨[], [E.row _ _ _], rfl⟩, _, _, _, hmi, hme, rfl, rfl⟩

def csW (e : Ex) (sv : Value) : List C := [cI e.Op, cS e.Name, cI e.Val.N, cI e.Val.D, cI e.Ty.Kind, cI e.Ty.Bits, cI e.Ty.Frac, cI e.Ty.Round, cI e.Ty.Over, cI e.Lin.K, .sl 2 (e.Lin.L.map Mono.cells), .sl 4 (e.Idx.map Ix.cells), .lit sv]
theorem mapFormsO_id (c : C) (hf : ∀ l : Lf, True → l.L.length ≤ 4294967296 → FnPur cfg c [vLin l] (.tup [vLin (idF l).1, vI (idF l).2])) (e : Ex) (he : e.wt ≤ 4294967296) :
    Con cfg 81 [vE e, .c c] [] fun r μ' => ∃ sv, r = .tup [.agg (csW e sv), vI 0] ∧ μ' = [E.vec sv 33 13 (e.Args.map Ex.cells)] := by
  refine (Con.dropG (mapFormsO_step idF c (fun _ => True) hf (fun _ => rfl) e e.allF_true he)).mono ?_
  rintro r μ' ⟨outs, exs, sv, h1, h2, rfl, rfl⟩
  rw [mIxs_id] at h1
  rw [mExs_id] at h2
  injection h1 with h1
  injection h2 with h2
  subst h1 h2
  exact ⟨sv, rfl, rfl⟩

theorem expr_CopyO_step (e : Ex) (he : e.wt ≤ 4294967296) :
    Con cfg 31 [vE e] [] fun r μ' => ∃ μ2, (∃ ν1 ν2, μ' = ν1 ++ (μ2 ++ ν2)) ∧ ∃ sv, r = .agg (csW e sv) ∧ μ2 = [E.vec sv 33 13 (e.Args.map Ex.cells)] := by
 refine con_intro Tryz.func31 rfl Tryz.ntmps31 Tryz.results31 rfl ?_
 intro z hz
 refine awp_seq ?_
 refine awp_region rfl ?_
 refine rwp_op rfl rfl (ope_box rfl rfl) ?_
 rintro _ _ ⟨b1, rfl, rfl⟩
 refine rwp_op rfl rfl (ope_allocN [none, none, none, none, none, none, none, none, none, none, some 2, some 4, some 13] rfl zr33 rfl) ?_
 rintro _ _ ⟨b2, rfl, rfl⟩
 refine rwp_nil ?_
 refine awp_seq ?_
 refine awp_region rfl ?_
 refine rwp_det rfl rfl (det_load_agg rfl agg33 rfl (ptr_row 1 rfl) rfl) ?_
 refine rwp_op rfl rfl (ope_call rfl ok81 (Con.frame (mapFormsO_id _ (fun l _ hl => FnPur.of_pur (first := []) (cap := []) ok91 (expr_Copy_1 l hl)) e he) _) ⟨VLe.refl _, rfl, VLe.refl _, rfl, trivial⟩) ?_
 rintro _ _ ⟨_, ⟨svO, rfl, rfl⟩, rfl⟩
 refine rwp_det rfl rfl (det_move_tup rfl rfl) ?_
 refine rwp_det rfl rfl (det_ex_agg rfl rfl rfl) ?_
 refine rwp_det rfl rfl (det_ex_c rfl rfl rfl) ?_
 refine rwp_op rfl rfl (ope_allocN [none, none, none, none, none, none, none, none, none, none, some 2, some 4, some 13] rfl zr33 rfl) ?_
 rintro _ _ ⟨b4, rfl, rfl⟩
 refine rwp_det0 rfl rfl (det_store rfl sz33 rfl rfl rfl (st_row 0 rfl rfl)) ?_
 refine rwp_det rfl rfl (det_assign rfl rfl) ?_
 refine rwp_nil ?_
 refine awp_seq ?_
 refine awp_region rfl ?_
 refine rwp_det rfl rfl (det_load_agg rfl agg33 rfl (ptr_row 0 rfl) rfl) ?_
 refine rwp_det0 rfl rfl (det_store rfl sz33 rfl rfl rfl (st_row 2 rfl rfl)) ?_
 refine rwp_nil ?_
 refine awp_weak _ (Weak.mem [false, true, true, false] rfl) ?_
 refine awp_ret ?_
 repeat (first | refine thenQ_ret ?_ | refine blockQ_ret ?_)
 refine fin1 (rs_cell_agg agg33 rfl (ptr_row 1 rfl) rfl) ?_
 exact ⟨[E.vec _ _ _ _], ⟨[], [E.row _ _ _], rfl⟩, _, rfl, rfl⟩

theorem expr_CopyO (e : Ex) (he : e.wt ≤ 4294967296) : Con cfg 31 [vE e] [] fun r μ' => ∃ sv, r = .agg (csW e sv) ∧ μ' = [E.vec sv 33 13 (e.Args.map Ex.cells)] :=
  Con.dropG (expr_CopyO_step e he)

theorem expr_Replace_step (e f t : Ex) (ih : ∀ a, a ∈ e.Args → a.wt ≤ 4294967296 → Pur cfg 43 [vE a, vE f, vE t] (vE (replE f t a))) (he : e.wt ≤ 4294967296) (hf : f.wt ≤ 4294967296) (ht : t.wt ≤ 4294967296) :
    Pur cfg 43 [vE e, vE f, vE t] (vE (replE f t e)) := by
 refine con_intro Tryz.func43 rfl Tryz.ntmps43 Tryz.results43 rfl ?_
 intro z hz
 obtain ⟨hL, hI, hA⟩ := e.parts he
 refine awp_seq ?_
 refine awp_region rfl ?_
 refine rwp_op rfl rfl (ope_box rfl rfl) ?_
 rintro _ _ ⟨b1, rfl, rfl⟩
 refine rwp_op rfl rfl (ope_box rfl rfl) ?_
 rintro _ _ ⟨b2, rfl, rfl⟩
 refine rwp_op rfl rfl (ope_box rfl rfl) ?_
 rintro _ _ ⟨b3, rfl, rfl⟩
 refine rwp_op rfl rfl (ope_allocN [none, none, none, none, none, none, none, none, none, none, some 2, some 4, some 13] rfl zr33 rfl) ?_
 rintro _ _ ⟨b4, rfl, rfl⟩
 refine rwp_nil ?_
 refine awp_seq ?_
 refine awp_seq ?_
 refine awp_region rfl ?_
 refine rwp_det rfl rfl (det_load_agg rfl agg33 rfl (ptr_row 3 rfl) rfl) ?_
 refine rwp_det rfl rfl (det_load_agg rfl agg33 rfl (ptr_row 2 rfl) rfl) ?_
 refine rwp_det rfl rfl (det_call rfl ok34 (expr_Same e f he hf) ⟨VLe.refl _, rfl, VLe.refl _, rfl, trivial⟩) ?_
 refine rwp_nil ?_
 refine awp_cond rfl (fun c1 => ?_) (fun c1 => ?_)
 ·try simp only [sx, List.length_map] at c1
  refine awp_seq ?_
  refine awp_region rfl ?_
  refine rwp_det rfl rfl (det_load_agg rfl agg33 rfl (ptr_row 1 rfl) rfl) ?_
  refine rwp_det rfl rfl (det_call rfl ok31 (expr_Copy t ht) ⟨VLe.refl _, rfl, trivial⟩) ?_
  refine rwp_det0 rfl rfl (det_store rfl sz33 rfl rfl rfl (st_row 0 rfl rfl)) ?_
  refine rwp_nil ?_
  refine awp_ret ?_
  repeat (first | refine thenQ_ret ?_ | refine blockQ_ret ?_)
  refine fin1 (rs_cell_agg agg33 rfl (ptr_row 0 rfl) rfl) ?_
  rw [replE_yes c1]; rfl
 ·try simp only [sx, List.length_map] at c1
  refine awp_skip ?_
  refine awp_seq ?_
  refine awp_region rfl ?_
  refine rwp_det rfl rfl (det_load_agg rfl agg33 rfl (ptr_row 3 rfl) rfl) ?_
  refine rwp_op rfl rfl (ope_call rfl ok31 (Con.frame (expr_CopyO e he) _) ⟨VLe.refl _, rfl, trivial⟩) ?_
  rintro _ _ ⟨_, ⟨svO, rfl, rfl⟩, rfl⟩
  refine rwp_op rfl rfl (ope_allocN [none, none, none, none, none, none, none, none, none, none, some 2, some 4, some 13] rfl zr33 rfl) ?_
  rintro _ _ ⟨b6, rfl, rfl⟩
  refine rwp_det0 rfl rfl (det_store rfl sz33 rfl rfl rfl (st_row 0 rfl rfl)) ?_
  refine rwp_nil ?_
  refine awp_seq ?_
  refine awp_seq ?_
  refine awp_region rfl ?_
  refine rwp_det rfl rfl (det_field_lit rfl fd33_6 rfl) ?_
  refine rwp_det rfl rfl (det_load_one rfl one31 rfl (ptr_row 5 rfl) rfl) ?_
  refine rwp_det rfl rfl (det_len_slm rfl el31 rfl) ?_
  refine rwp_det rfl rfl (det_move rfl rfl) ?_
  refine rwp_nil ?_
  refine awp_block ?_
  refine awp_weak ⟨[(20, .c _), (4, .c _), (5, .c _), (6, .c _), (7, .c _), (18, .c _), (19, .c _)], [_, _, _, _, _]⟩ (Weak.mk [true, true, true, true, true, false] ⟨VLe.of_eq rfl, VLe.of_eq rfl, VLe.of_eq rfl, VLe.of_eq rfl, VLe.of_eq rfl, VLe.of_eq rfl, VLe.of_eq rfl, trivial⟩ rfl) ?_
  refine awp_loop_k 1 2 rfl rfl (Nat) (fun k => [(20, vI k)]) (fun k => [E.row b6 33 (csW e svO), E.vec svO 33 13 (((e.Args.take k).map (replE f t)).map Ex.cells ++ (e.Args.drop k).map Ex.cells)]) (fun k => k ≤ e.Args.length) (fun k => e.Args.length - k) ⟨0, (by omega), Weak.mk [true, true, true, true, true] ⟨VLe.refl _, VLe.refl _, VLe.refl _, VLe.refl _, VLe.refl _, VLe.refl _, VLe.refl _, trivial⟩ rfl⟩ ?_
  rintro k hk
  refine awp_seq ?_
  refine awp_region rfl ?_
  refine rwp_det rfl rfl (det_lss rfl rfl rfl) ?_
  refine rwp_nil ?_
  refine awp_seq ?_
  refine awp_cond rfl (fun c2 => ?_) (fun c2 => ?_)
  ·try simp only [sx, List.length_map] at c2
   obtain ⟨x, hx⟩ := ex_get e.Args k (by omega)
   refine awp_skip ?_
   refine awp_seq ?_
   refine awp_block ?_
   refine awp_seq ?_
   refine awp_region rfl ?_
   refine rwp_det rfl rfl (det_move rfl rfl) ?_
   refine rwp_det rfl rfl (det_index_sl rfl el31 rfl rfl (by omega) (getmE (by assumption))) ?_
   refine rwp_det rfl rfl (det_load_agg rfl agg33 rfl ptr_imm rfl) ?_
   refine rwp_op rfl rfl (ope_allocN [none, none, none, none, none, none, none, none, none, none, some 2, some 4, some 13] rfl zr33 rfl) ?_
   rintro _ _ ⟨b7, rfl, rfl⟩
   refine rwp_det rfl rfl (det_assign rfl rfl) ?_
   refine rwp_det0 rfl rfl (det_store rfl sz33 rfl rfl rfl (st_row 0 rfl rfl)) ?_
   refine rwp_nil ?_
   refine awp_draw 8 mixed (by kernel_rfl) rfl rfl ?_
   refine td_det rfl rfl (det_field_lit rfl fd33_6 rfl) ?_
   refine td_det rfl rfl (det_load_one rfl one31 rfl (ptr_row 1 rfl) rfl) ?_
   refine td_det rfl rfl (det_move rfl rfl) ?_
   refine td_det rfl rfl (det_load_agg rfl agg33 rfl (ptr_row 0 rfl) rfl) ?_
   refine td_det rfl rfl (det_load_agg rfl agg33 rfl (ptr_row 5 rfl) rfl) ?_
   refine td_det rfl rfl (det_load_agg rfl agg33 rfl (ptr_row 4 rfl) rfl) ?_
   refine td_det rfl rfl (det_call rfl ok43 (ih x (mem_of_get hx) (by have := Ex.arg_wt (mem_of_get hx); omega)) ⟨VLe.refl _, rfl, VLe.refl _, rfl, VLe.refl _, rfl, trivial⟩) ?_
   refine td_det rfl rfl (det_index_vec 2 rfl el31 rfl rfl rfl (by omega) (mid_len (by simp; omega) (by omega))) ?_
   refine td_nil ?_
   refine rwp_det0 rfl rfl (det_store rfl sz33 rfl rfl rfl (st_vec 2 rfl (mid_getE (by simp; omega) hx) rfl)) ?_
   refine rwp_nil ?_
   refine awp_region rfl ?_
   refine rwp_det rfl rfl (det_add_nw rfl rfl rfl ⟨by omega, by omega⟩) ?_
   refine rwp_det rfl rfl (det_move rfl rfl) ?_
   refine rwp_nil ?_
   refine ⟨k + 1, (by omega), (by omega), Weak.mk [false, true, true, true, true, true] ⟨VLe.refl _, VLe.refl _, VLe.refl _, VLe.refl _, VLe.refl _, VLe.refl _, VLe.refl _, trivial⟩ (by exact mem2r_eq (by rw [show ((k : Int)).toNat = k from rfl, mid_set (by simp; omega) hx, take_next hx, List.map_append, List.map_append]; simp only [List.map_cons, List.map_nil, Ex.cells_eq (replE f t x)]; rfl))⟩
  ·try simp only [sx, List.length_map] at c2
   rw [take_all (l := e.Args) (k := k) (by omega), drop_end (l := e.Args) (k := k) (by omega)]
   simp only [List.map_nil, List.append_nil]
   refine awp_weak _ (weak_freezeM 1 rfl (regs' := []) (μ' := [_, _, _, _]) trivial ⟨EFle.row (ds := [_, _, _, _, _, _, _, _, _, _, _, _, _]) ⟨.inl rfl, .inl rfl, .inl rfl, .inl rfl, .inl rfl, .inl rfl, .inl rfl, .inl rfl, .inl rfl, .inl rfl, .inl rfl, .inl rfl, .inr ⟨rfl, rfl⟩, trivial⟩, EFle.refl _, EFle.refl _, EFle.refl _, trivial⟩) ?_
   refine awp_exit ?_
   refine awp_seq ?_
   refine awp_region rfl ?_
   refine rwp_det rfl rfl (det_load_agg rfl agg33 rfl (ptr_row 0 rfl) rfl) ?_
   refine rwp_det0 rfl rfl (det_store rfl sz33 rfl rfl rfl (st_row 1 rfl rfl)) ?_
   refine rwp_nil ?_
   refine awp_ret ?_
   repeat (first | refine thenQ_ret ?_ | refine blockQ_ret ?_)
   refine fin1 (rs_cell_agg agg33 rfl (ptr_row 1 rfl) rfl) ?_
   rw [replE_no c1]; rfl

theorem expr_Replace (e f t : Ex) (he : e.wt ≤ 4294967296) (hf : f.wt ≤ 4294967296) (ht : t.wt ≤ 4294967296) : Pur cfg 43 [vE e, vE f, vE t] (vE (replE f t e)) := by
  induction e using Ex.ind with
  | _ e ih => exact expr_Replace_step e f t (fun a ha h => ih a ha h) he hf ht
theorem expr_Replace_self (e f : Ex) (he : e.wt ≤ 4294967296) (hf : f.wt ≤ 4294967296) : Pur cfg 43 [vE e, vE f, vE f] (vE e) := by
  have h := expr_Replace e f f he hf hf
  rw [replE_self] at h; exact h

theorem law_ExprReplaces (e f t : Ex) (hfe : e.fit) (hff : f.fit) (hft : t.fit) :
    Pur cfg 10 [vE e, vE f, vE t] (vB true) := by
 refine con_intro Tryz.func10 rfl Tryz.ntmps10 Tryz.results10 rfl ?_
 intro z hz
 refine awp_seq ?_
 refine awp_region rfl ?_
 refine rwp_op rfl rfl (ope_box rfl rfl) ?_
 rintro _ _ ⟨b1, rfl, rfl⟩
 refine rwp_op rfl rfl (ope_box rfl rfl) ?_
 rintro _ _ ⟨b2, rfl, rfl⟩
 refine rwp_op rfl rfl (ope_box rfl rfl) ?_
 rintro _ _ ⟨b3, rfl, rfl⟩
 refine rwp_det rfl rfl (det_assign rfl rfl) ?_
 refine rwp_nil ?_
 refine awp_seq ?_
 refine awp_seq ?_
 refine awp_region rfl ?_
 refine rwp_det rfl rfl (det_load_agg rfl agg33 rfl (ptr_row 2 rfl) rfl) ?_
 refine rwp_det rfl rfl (det_call rfl ok22 (law14_Few e 200 200 hfe (by omega) rfl) ⟨VLe.refl _, rfl, VLe.refl _, rfl, trivial⟩) ?_
 refine rwp_det rfl rfl (det_not rfl rfl) ?_
 refine rwp_det rfl rfl (det_move rfl rfl) ?_
 refine rwp_lazy [] rfl rfl rfl rfl gv1 trivial (fun g1_3 => det_load_agg rfl agg33 rfl (ptr_row 1 rfl) rfl) rfl ?_
 refine rwp_lazy [(11, _)] rfl rfl rfl rfl gv1 ⟨rfl, rfl, trivial⟩ (fun g1_3 => det_call rfl ok22 (law14_Few f 200 200 hff (by omega) rfl) ⟨VLe.refl _, rfl, VLe.refl _, rfl, trivial⟩) rfl ?_
 refine rwp_lazy [(12, _)] rfl rfl rfl rfl gv1 ⟨rfl, rfl, trivial⟩ (fun g1_3 => det_not rfl rfl) rfl ?_
 refine rwp_det rfl rfl (det_or rfl rfl rfl rfl (fun h => (lzf h))) ?_
 refine rwp_det rfl rfl (det_move rfl rfl) ?_
 refine rwp_lazy [] rfl rfl rfl rfl gv1 trivial (fun g1_8 => det_load_agg rfl agg33 rfl (ptr_row 0 rfl) rfl) rfl ?_
 refine rwp_lazy [(16, _)] rfl rfl rfl rfl gv1 ⟨rfl, rfl, trivial⟩ (fun g1_8 => det_call rfl ok22 (law14_Few t 200 200 hft (by omega) rfl) ⟨VLe.refl _, rfl, VLe.refl _, rfl, trivial⟩) rfl ?_
 refine rwp_lazy [(17, _)] rfl rfl rfl rfl gv1 ⟨rfl, rfl, trivial⟩ (fun g1_8 => det_not rfl rfl) rfl ?_
 refine rwp_det rfl rfl (det_or rfl rfl rfl rfl (fun h => (lzf h))) ?_
 refine rwp_nil ?_
 refine awp_cond rfl (fun c1 => ?_) (fun c1 => ?_)
 ·try simp only [sx, List.length_map] at c1
  refine awp_seq ?_
  refine awp_region rfl ?_
  refine rwp_det rfl rfl (det_call rfl ok23 law14_live trivial) ?_
  refine rwp_det rfl rfl (det_assign rfl rfl) ?_
  refine rwp_nil ?_
  refine awp_ret ?_
  repeat (first | refine thenQ_ret ?_ | refine blockQ_ret ?_)
  refine fin1 (rs_c rfl) ?_
  rfl
 ·try simp only [sx, List.length_map] at c1
  obtain ⟨⟨w1, w2⟩, w3⟩ := c1
  have w1 := few_wt w1
  have w2 := few_wt w2
  have w3 := few_wt w3
  have hw := replE_wt (f := f) (t := t) e
  have hm := Nat.mul_le_mul w1 w3
  refine awp_skip ?_
  refine awp_seq ?_
  refine awp_draw 21 mixed (by kernel_rfl) rfl rfl ?_
  refine td_det rfl rfl (det_load_agg rfl agg33 rfl (ptr_row 2 rfl) rfl) ?_
  refine td_det rfl rfl (det_load_agg rfl agg33 rfl (ptr_row 1 rfl) rfl) ?_
  refine td_det rfl rfl (det_load_agg rfl agg33 rfl (ptr_row 0 rfl) rfl) ?_
  refine td_det rfl rfl (det_call rfl ok43 (expr_Replace e f t (by omega) (by omega) (by omega)) ⟨VLe.refl _, rfl, VLe.refl _, rfl, VLe.refl _, rfl, trivial⟩) ?_
  refine td_det rfl rfl (det_load_agg rfl agg33 rfl (ptr_row 2 rfl) rfl) ?_
  refine td_det rfl rfl (det_load_agg rfl agg33 rfl (ptr_row 1 rfl) rfl) ?_
  refine td_det rfl rfl (det_load_agg rfl agg33 rfl (ptr_row 0 rfl) rfl) ?_
  refine td_det rfl rfl (det_call rfl ok44 (ref14_Replace e f t (by omega)) ⟨VLe.refl _, rfl, VLe.refl _, rfl, VLe.refl _, rfl, trivial⟩) ?_
  refine td_det rfl rfl (det_call rfl ok26 (base_Expr _ _ (by omega)) ⟨VLe.refl _, rfl, VLe.refl _, rfl, trivial⟩) ?_
  refine td_det rfl rfl (det_move rfl rfl) ?_
  refine td_lazy [] rfl rfl rfl rfl gv1 trivial (fun g3_9 => det_load_agg rfl agg33 rfl (ptr_row 2 rfl) rfl) rfl ?_
  refine td_lazy [] rfl rfl rfl rfl gv1 trivial (fun g3_9 => det_load_agg rfl agg33 rfl (ptr_row 1 rfl) rfl) rfl ?_
  refine td_lazy [] rfl rfl rfl rfl gv1 trivial (fun g3_9 => det_load_agg rfl agg33 rfl (ptr_row 1 rfl) rfl) rfl ?_
  refine td_lazy [(31, _), (32, _), (33, _)] rfl rfl rfl rfl gv1 ⟨rfl, rfl, rfl, rfl, rfl, rfl, trivial⟩ (fun g3_9 => det_call rfl ok43 (expr_Replace_self e f (by omega) (by omega)) ⟨VLe.refl _, rfl, VLe.refl _, rfl, VLe.refl _, rfl, trivial⟩) rfl ?_
  refine td_lazy [] rfl rfl rfl rfl gv1 trivial (fun g3_9 => det_load_agg rfl agg33 rfl (ptr_row 2 rfl) rfl) rfl ?_
  refine td_lazy [(34, _), (35, _)] rfl rfl rfl rfl gv1 ⟨rfl, rfl, rfl, rfl, trivial⟩ (fun g3_9 => det_call rfl ok26 (base_Expr e e (by omega)) ⟨VLe.refl _, rfl, VLe.refl _, rfl, trivial⟩) rfl ?_
  refine td_det rfl rfl (det_and rfl rfl rfl (fun h => h) rfl) ?_
  refine td_det rfl rfl (det_move rfl rfl) ?_
  refine td_lazy [] rfl rfl rfl rfl gv1 trivial (fun g3_17 => det_call rfl ok23 law14_live trivial) rfl ?_
  refine td_det rfl rfl (det_and rfl rfl rfl (fun h => h) rfl) ?_
  refine td_det rfl rfl (det_assign rfl rfl) ?_
  refine td_nil ?_
  refine rwp_nil ?_
  refine awp_ret ?_
  repeat (first | refine thenQ_ret ?_ | refine blockQ_ret ?_)
  refine fin1 (rs_c rfl) ?_
  simp

end Go.W
