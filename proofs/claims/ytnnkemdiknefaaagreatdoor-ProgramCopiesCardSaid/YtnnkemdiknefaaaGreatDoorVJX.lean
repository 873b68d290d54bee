/-
  Walks: what functions of the program compute. Printed by wip/gen/mk2.py.
  Walks: what functions of the program compute. Printed by wip/gen/mk2.py.
  Walks: what functions of the program compute. Printed by wip/gen/mk2.py.
  Conditions: none.
-/
import Derived.Test.YtnnkemdiknefaaaGreatDoorVF
import Derived.Test.YtnnkemdiknefaaaGreatDoorEngZ
import Derived.Test.YtnnkemdiknefaaaGreatDoorPlain2
section
set_option linter.unusedSimpArgs false
set_option linter.unusedVariables false
namespace Go.W
open Go Go.Eng Go.Proofs Go.L41 Go.Br
attribute [local irreducible] AWP RWP TD
/-! Fresh trees: the cells of forms, indices and expressions all of whose slices are new. -/
def cfL (n : Nat) (l : Lf) : List C := [cI l.K, .fr n (.sl 2 (l.L.map Mono.cells))]
def cfI (n : Nat) (x : Ix) : List C := [cI x.Lin.K, .fr n (.sl 2 (x.Lin.L.map Mono.cells)), cS x.From, .fr n (.sl 2 (x.At.map Lf.cells))]
def cfE (n : Nat) (e : Ex) : List C := [cI e.Op, cS e.Name, cI e.Val.N, cI e.Val.D, cI e.Ty.Kind, cI e.Ty.Bits, cI e.Ty.Frac, cI e.Ty.Round, cI e.Ty.Over, cI e.Lin.K, .fr n (.sl 2 (e.Lin.L.map Mono.cells)), .fr n (.sl 4 (e.Idx.map Ix.cells)), .fr n (.sl 13 (e.Args.map Ex.cells))]
theorem frM (n : Nat) (x : Mono) : frCs n x.cells x.cells := ⟨.inl ⟨_, rfl, rfl⟩, .inl ⟨_, rfl, rfl⟩, trivial⟩
theorem frL (n : Nat) (x : Lf) : frCs n (cfL n x) x.cells := ⟨.inl ⟨_, rfl, rfl⟩, .inr rfl, trivial⟩
theorem frI (n : Nat) (x : Ix) : frCs n (cfI n x) x.cells := ⟨.inl ⟨_, rfl, rfl⟩, .inr rfl, .inl ⟨_, rfl, rfl⟩, .inr rfl, trivial⟩
theorem frE (n : Nat) (e : Ex) : frCs n (cfE n e) e.cs :=
  ⟨.inl ⟨_, rfl, rfl⟩, .inl ⟨_, rfl, rfl⟩, .inl ⟨_, rfl, rfl⟩, .inl ⟨_, rfl, rfl⟩, .inl ⟨_, rfl, rfl⟩, .inl ⟨_, rfl, rfl⟩, .inl ⟨_, rfl, rfl⟩, .inl ⟨_, rfl, rfl⟩, .inl ⟨_, rfl, rfl⟩, .inl ⟨_, rfl, rfl⟩, .inr rfl, .inr rfl, .inr rfl, trivial⟩
theorem frE' (n : Nat) (e : Ex) : frCs n (cfE n e) e.cells := by rw [Ex.cells_eq]; exact frE n e

theorem expr_Copy_1F (N0 : Nat) (hN : cfg.N ≤ N0) (l : Lf) (hl : l.L.length ≤ 5864062014805) :
    Pur (cfg.up N0 hN) 91 [vLin l] (.tup [.agg (cfL N0 l), vI 0]) := by
 refine con_intro Tryz.func91 rfl Tryz.ntmps91 Tryz.results91 rfl ?_
 intro z hz
 refine awp_seq ?_
 refine awp_region rfl ?_
 refine rwp_op rfl rfl (ope_box rfl rfl) ?_
 rintro _ _ ⟨b1, rfl, rfl⟩
 refine rwp_op rfl rfl (ope_allocN [none, some 2] rfl zr29 rfl) ?_
 rintro _ _ ⟨b2, rfl, rfl⟩
 refine rwp_det rfl rfl (det_assign rfl rfl) ?_
 refine rwp_nil ?_
 refine awp_seq ?_
 refine awp_draw_c 5 1 [⟨0, .q []⟩, ⟨1, .q [2]⟩, ⟨2, .q []⟩, ⟨3, .q [2]⟩, ⟨4, .e 0 []⟩] mixed (by kernel_rfl) (by kernel_rfl) rfl rfl rfl ?_
 refine fx_skip rfl ?_
 refine fx_skip rfl ?_
 refine fx_skip rfl ?_
 refine fx_skip rfl ?_
 refine fx_skip rfl ?_
 refine fx_nil ?_
 refine sq_det rfl (by decide) rfl rfl (det_field_lit rfl fd29_0 rfl) ?_
 refine sq_det rfl (by decide) rfl rfl (det_load_one rfl one2 rfl (ptr_row 0 rfl) rfl) ?_
 refine sq_det rfl (by decide) rfl rfl (det_field_lit rfl fd29_1 rfl) ?_
 refine sq_det rfl (by decide) rfl rfl (det_load_one rfl one27 rfl (ptr_row 0 rfl) rfl) ?_
 refine sq_op rfl rfl (by decide) rfl rfl (ope_call_own rfl ok92 (Con.up (slices_Clone_mono l.L hl) N0 hN) ⟨VLe.refl _, rfl, trivial⟩) ?_
 rintro _ _ ⟨sv3, rfl, rfl⟩
 refine ⟨_, rfl, ?_⟩
 refine sq_nil rfl ?_
 refine rwp_weakF _ (st_freezeF 0 rfl (rows' := l.L.map Mono.cells) (frRows_map (frM N0) _) (regs' := [(8, _)]) (μ' := [_, _]) ⟨FLC.sl, trivial⟩ ⟨EFlC.refl _, EFlC.refl _, trivial⟩) ?_
 refine rwp_det rfl rfl (det_build rfl zr29 pl29 rfl) ?_
 refine rwp_det0 rfl rfl (det_store rfl sz29 rfl rfl rfl (st_row 0 rfl rfl)) ?_
 refine rwp_det rfl rfl (det_assign rfl rfl) ?_
 refine rwp_nil ?_
 refine awp_ret ?_
 repeat (first | refine thenQ_ret ?_ | refine blockQ_ret ?_)
 refine fin2 (rs_cell_agg agg29 rfl (ptr_row 0 rfl) rfl) (rs_c rfl) ?_
 rfl

theorem mapFormsF_step (N0 : Nat) (hN : cfg.N ≤ N0) (c : C) (P : Lf → Prop) (hf : ∀ l, P l → FnPur (cfg.up N0 hN) c [vLin l] (.tup [.agg (cfL N0 l), vI 0])) (e : Ex) (hP : e.allF P) (ih : ∀ a, a ∈ e.Args → a.allF P → a.cnt ≤ 4294967296 → Pur (cfg.up N0 hN) 81 [vE a, .c c] (.tup [.agg (cfE N0 a), vI 0])) (he : e.cnt ≤ 4294967296) :
    Pur (cfg.up N0 hN) 81 [vE e, .c c] (.tup [.agg (cfE N0 e), vI 0]) := by
 refine con_intro Tryz.func81 rfl Tryz.ntmps81 Tryz.results81 rfl ?_
 intro z hz
 obtain ⟨hI, hA, hAt⟩ := e.cparts he
 refine awp_seq ?_
 refine awp_region rfl ?_
 refine rwp_op rfl rfl (ope_box rfl rfl) ?_
 rintro _ _ ⟨b1, rfl, rfl⟩
 refine rwp_op rfl rfl (ope_allocN [none, none, none, none, none, none, none, none, none, none, some 2, some 4, some 13] rfl zr33 rfl) ?_
 rintro _ _ ⟨b2, rfl, rfl⟩
 refine rwp_det rfl rfl (det_assign rfl rfl) ?_
 refine rwp_nil ?_
 refine awp_seq ?_
 refine awp_region rfl ?_
 refine rwp_det rfl rfl (det_load_agg rfl agg33 rfl (ptr_row 1 rfl) rfl) ?_
 refine rwp_op rfl rfl (ope_allocN [none, none, none, none, none, none, none, none, none, none, some 2, some 4, some 13] rfl zr33 rfl) ?_
 rintro _ _ ⟨b3, rfl, rfl⟩
 refine rwp_det0 rfl rfl (det_store rfl sz33 rfl rfl rfl (st_row 0 rfl rfl)) ?_
 refine rwp_nil ?_
 refine awp_seq ?_
 refine awp_region rfl ?_
 refine rwp_det rfl rfl (det_assign rfl rfl) ?_
 refine rwp_nil ?_
 refine awp_seq ?_
 refine awp_seq ?_
 refine awp_region rfl ?_
 refine rwp_det rfl rfl (det_move rfl rfl) ?_
 refine rwp_det rfl rfl (det_field_lit rfl fd33_4 rfl) ?_
 refine rwp_det rfl rfl (det_load_agg rfl agg29 rfl (ptr_row 2 rfl) rfl) ?_
 refine rwp_det rfl rfl (det_call_val rfl rfl (hf e.Lin (Ex.allF_lin hP)) ⟨VLe.refl _, rfl, trivial⟩) ?_
 refine rwp_det rfl rfl (det_move_tup rfl rfl) ?_
 refine rwp_det rfl rfl (det_ex_agg rfl rfl rfl) ?_
 refine rwp_det rfl rfl (det_ex_c rfl rfl rfl) ?_
 refine rwp_det rfl rfl (det_field_lit rfl fd33_4 rfl) ?_
 refine rwp_det0 rfl rfl (det_store rfl sz29 rfl rfl rfl (st_row 0 rfl rfl)) ?_
 refine rwp_det rfl rfl (det_assign rfl rfl) ?_
 refine rwp_nil ?_
 refine awp_seq ?_
 refine awp_region rfl ?_
 refine rwp_det rfl rfl (det_move rfl rfl) ?_
 refine rwp_det rfl rfl (det_neq rfl rfl rfl) ?_
 refine rwp_nil ?_
 refine awp_cond rfl (fun c1 => ?_) (fun c1 => ?_)
 ·try simp only [sx, List.length_map] at c1
  exact (c1 trivial).elim
 ·try simp only [sx, List.length_map] at c1
  refine awp_skip ?_
  refine awp_seq ?_
  refine awp_region rfl ?_
  refine rwp_det rfl rfl (det_field_lit rfl fd33_5 rfl) ?_
  refine rwp_det rfl rfl (det_load_one rfl one30 rfl (ptr_row 2 rfl) rfl) ?_
  refine rwp_op rfl rfl (ope_call_own rfl ok148 (Con.up (slices_Clone_ix e.Idx hI) N0 hN) ⟨VLe.refl _, rfl, trivial⟩) ?_
  rintro _ _ ⟨sv4, rfl, rfl⟩
  refine rwp_det rfl rfl (det_field_lit rfl fd33_5 rfl) ?_
  refine rwp_det0 rfl rfl (det_store rfl sz30 rfl rfl rfl (st_row 1 rfl rfl)) ?_
  refine rwp_nil ?_
  refine awp_seq ?_
  refine awp_seq ?_
  refine awp_region rfl ?_
  refine rwp_det rfl rfl (det_field_lit rfl fd33_5 rfl) ?_
  refine rwp_det rfl rfl (det_load_one rfl one30 rfl (ptr_row 3 rfl) rfl) ?_
  refine rwp_det rfl rfl (det_len_slm rfl el30 rfl) ?_
  refine rwp_det rfl rfl (det_move rfl rfl) ?_
  refine rwp_nil ?_
  refine awp_block ?_
  refine awp_weak ⟨[(34, .c _), (1, .c _), (2, .c _), (4, .c _), (6, .c _), (32, .c _), (33, .c _)], [_, _, _, _]⟩ (Weak.mk [true, true, true, true] ⟨VLe.of_eq rfl, VLe.of_eq rfl, VLe.of_eq rfl, VLe.of_eq rfl, VLe.of_eq rfl, VLe.of_eq rfl, VLe.of_eq rfl, trivial⟩ rfl) ?_
  refine awp_loop_k 1 1 rfl rfl (Nat) (fun k => [(34, vI k)]) (fun k => [E.vec sv4 117 4 ((e.Idx.take k).map (cfI N0) ++ (e.Idx.drop k).map Ix.cells)]) (fun k => k ≤ e.Idx.length) (fun k => e.Idx.length - k) ⟨0, (by omega), Weak.mk [true, true, true, true] ⟨VLe.refl _, VLe.refl _, VLe.refl _, VLe.refl _, VLe.refl _, VLe.refl _, VLe.refl _, trivial⟩ rfl⟩ ?_
  rintro k hk
  refine awp_seq ?_
  refine awp_region rfl ?_
  refine rwp_det rfl rfl (det_lss rfl rfl rfl) ?_
  refine rwp_nil ?_
  refine awp_seq ?_
  refine awp_cond rfl (fun c2 => ?_) (fun c2 => ?_)
  ·try simp only [sx, List.length_map] at c2
   obtain ⟨x, hx⟩ := ex_get e.Idx k (by omega)
   have hxw := hAt x (mem_of_get hx)
   refine awp_skip ?_
   refine awp_seq ?_
   refine awp_block ?_
   refine awp_seq ?_
   refine awp_region rfl ?_
   refine rwp_det rfl rfl (det_move rfl rfl) ?_
   refine rwp_det rfl rfl (det_index_sl rfl el30 rfl rfl (by omega) (getm (by assumption))) ?_
   refine rwp_det rfl rfl (det_load_agg rfl agg117 rfl ptr_imm rfl) ?_
   refine rwp_op rfl rfl (ope_allocN [none, some 2, none, some 2] rfl zr117 rfl) ?_
   rintro _ _ ⟨b5, rfl, rfl⟩
   refine rwp_det rfl rfl (det_assign rfl rfl) ?_
   refine rwp_det0 rfl rfl (det_store rfl sz117 rfl rfl rfl (st_row 0 rfl rfl)) ?_
   refine rwp_nil ?_
   refine awp_seq ?_
   refine awp_seq ?_
   refine awp_draw_c 13 0 [⟨0, .q []⟩, ⟨1, .q [2]⟩, ⟨2, .q []⟩, ⟨3, .q []⟩, ⟨4, .q []⟩, ⟨5, .q [0]⟩, ⟨6, .q []⟩, ⟨7, .q []⟩, ⟨8, .q []⟩, ⟨9, .q []⟩, ⟨10, .q [1]⟩, ⟨11, .q []⟩, ⟨12, .e 1 []⟩] mixed (by kernel_rfl) (by kernel_rfl) rfl rfl rfl ?_
   refine fx_skip rfl ?_
   refine fx_skip rfl ?_
   refine fx_skip rfl ?_
   refine fx_skip rfl ?_
   refine fx_skip rfl ?_
   refine fx_skip rfl ?_
   refine fx_skip rfl ?_
   refine fx_skip rfl ?_
   refine fx_skip rfl ?_
   refine fx_skip rfl ?_
   refine fx_skip rfl ?_
   refine fx_skip rfl ?_
   refine fx_skip rfl ?_
   refine fx_nil ?_
   refine sq_det rfl (by decide) rfl rfl (det_field_lit rfl fd33_5 rfl) ?_
   refine sq_det rfl (by decide) rfl rfl (det_load_one rfl one30 rfl (ptr_row 0 rfl) rfl) ?_
   refine sq_det rfl (by decide) rfl rfl (det_move rfl rfl) ?_
   refine sq_det rfl (by decide) rfl rfl (det_move rfl rfl) ?_
   refine sq_det rfl (by decide) rfl rfl (det_field_lit rfl fd117_0 rfl) ?_
   refine sq_det rfl (by decide) rfl rfl (det_load_agg rfl agg29 rfl (ptr_row 0 rfl) rfl) ?_
   refine sq_det rfl (by decide) rfl rfl (det_call_val rfl rfl (hf x.Lin (Ex.allF_ix hP (mem_of_get hx))) ⟨VLe.refl _, rfl, trivial⟩) ?_
   refine sq_det rfl (by decide) rfl rfl (det_move_tup rfl rfl) ?_
   refine sq_det rfl (by decide) rfl rfl (det_ex_agg rfl rfl rfl) ?_
   refine sq_det rfl (by decide) rfl rfl (det_ex_c rfl rfl rfl) ?_
   refine sq_det rfl (by decide) rfl rfl (det_index_vec 0 rfl el30 rfl rfl rfl (by omega) (mid_len (by simp; omega) (by omega))) ?_
   refine sq_det rfl (by decide) rfl rfl (det_field_vec rfl fd117_0 rfl) ?_
   refine sq_op0 rfl rfl (by decide) rfl rfl (det_store rfl sz29 rfl rfl rfl (st_vec 0 rfl (mid_get (by simp; omega) hx) rfl)) ?_
   rintro _ _ ⟨rfl, rfl⟩
   refine ⟨_, rfl, ?_⟩
   refine sq_nil rfl ?_
   refine rwp_det rfl rfl (det_assign rfl rfl) ?_
   refine rwp_nil ?_
   refine awp_seq ?_
   refine awp_region rfl ?_
   refine rwp_det rfl rfl (det_move rfl rfl) ?_
   refine rwp_det rfl rfl (det_neq rfl rfl rfl) ?_
   refine rwp_nil ?_
   refine awp_cond rfl (fun c3 => ?_) (fun c3 => ?_)
   ·try simp only [sx, List.length_map] at c3
    exact (c3 trivial).elim
   ·try simp only [sx, List.length_map] at c3
    refine awp_skip ?_
    refine awp_seq ?_
    refine awp_draw_c 6 1 [⟨0, .q []⟩, ⟨1, .q [3]⟩, ⟨2, .q []⟩, ⟨3, .q []⟩, ⟨4, .q [1]⟩, ⟨5, .e 0 []⟩] mixed (by kernel_rfl) (by kernel_rfl) rfl rfl rfl ?_
    refine fx_skip rfl ?_
    refine fx_skip rfl ?_
    refine fx_skip rfl ?_
    refine fx_skip rfl ?_
    refine fx_skip rfl ?_
    refine fx_skip rfl ?_
    refine fx_nil ?_
    refine sq_det rfl (by decide) rfl rfl (det_field_lit rfl fd33_5 rfl) ?_
    refine sq_det rfl (by decide) rfl rfl (det_load_one rfl one30 rfl (ptr_row 0 rfl) rfl) ?_
    refine sq_det rfl (by decide) rfl rfl (det_move rfl rfl) ?_
    refine sq_det rfl (by decide) rfl rfl (det_field_lit rfl fd117_2 rfl) ?_
    refine sq_det rfl (by decide) rfl rfl (det_load_one rfl one104 rfl (ptr_row 0 rfl) rfl) ?_
    refine sq_op rfl rfl (by decide) rfl rfl (ope_call_own rfl ok149 (Con.up (slices_Clone_lin x.At (by omega)) N0 hN) ⟨VLe.refl _, rfl, trivial⟩) ?_
    rintro _ _ ⟨sv6, rfl, rfl⟩
    refine ⟨_, rfl, ?_⟩
    refine sq_nil rfl ?_
    refine rwp_det rfl rfl (det_index_vec 2 rfl el30 rfl rfl rfl (by omega) (by simp; omega)) ?_
    refine rwp_det rfl rfl (det_field_vec rfl fd117_2 rfl) ?_
    refine rwp_det0 rfl rfl (det_store rfl sz104 rfl rfl rfl (st_vec 2 rfl (set_get (by simp; omega)) rfl)) ?_
    refine rwp_nil ?_
    refine awp_seq ?_
    refine awp_region rfl ?_
    refine rwp_det rfl rfl (det_field_lit rfl fd117_2 rfl) ?_
    refine rwp_det rfl rfl (det_load_one rfl one104 rfl (ptr_row 1 rfl) rfl) ?_
    refine rwp_det rfl rfl (det_len_slm rfl el104 rfl) ?_
    refine rwp_det rfl rfl (det_move rfl rfl) ?_
    refine rwp_nil ?_
    refine awp_block ?_
    refine awp_weak ⟨[(66, .c _), (1, .c _), (2, .c _), (4, .c _), (6, .c _), (8, .c _), (32, .c _), (33, .c _), (34, .c _), (64, .c _), (65, .c _)], [_, _, _, _, _]⟩ (Weak.mk [true, false, true, true, true, true] ⟨VLe.of_eq rfl, VLe.of_eq rfl, VLe.of_eq rfl, VLe.of_eq rfl, VLe.of_eq rfl, VLe.of_eq rfl, VLe.of_eq rfl, VLe.of_eq rfl, VLe.of_eq rfl, VLe.of_eq rfl, VLe.of_eq rfl, trivial⟩ rfl) ?_
    refine awp_loop_k 1 1 rfl rfl (Nat) (fun j => [(66, vI j)]) (fun j => [E.vec sv6 29 2 ((x.At.take j).map (cfL N0) ++ (x.At.drop j).map Lf.cells)]) (fun j => j ≤ x.At.length) (fun j => x.At.length - j) ⟨0, (by omega), Weak.mk [true, true, true, true, true] ⟨VLe.refl _, VLe.refl _, VLe.refl _, VLe.refl _, VLe.refl _, VLe.refl _, VLe.refl _, VLe.refl _, VLe.refl _, VLe.refl _, VLe.refl _, trivial⟩ rfl⟩ ?_
    rintro j hj
    refine awp_seq ?_
    refine awp_region rfl ?_
    refine rwp_det rfl rfl (det_lss rfl rfl rfl) ?_
    refine rwp_nil ?_
    refine awp_seq ?_
    refine awp_cond rfl (fun c4 => ?_) (fun c4 => ?_)
    ·try simp only [sx, List.length_map] at c4
     obtain ⟨l, hl⟩ := ex_get x.At j (by omega)
     have hlw := hAt x (mem_of_get hx)
     refine awp_skip ?_
     refine awp_seq ?_
     refine awp_block ?_
     refine awp_seq ?_
     refine awp_region rfl ?_
     refine rwp_det rfl rfl (det_move rfl rfl) ?_
     refine rwp_det rfl rfl (det_index_sl rfl el104 rfl rfl (by omega) (getm (by assumption))) ?_
     refine rwp_det rfl rfl (det_load_agg rfl agg29 rfl ptr_imm rfl) ?_
     refine rwp_op rfl rfl (ope_allocN [none, some 2] rfl zr29 rfl) ?_
     rintro _ _ ⟨b7, rfl, rfl⟩
     refine rwp_det rfl rfl (det_assign rfl rfl) ?_
     refine rwp_det0 rfl rfl (det_store rfl sz29 rfl rfl rfl (st_row 0 rfl rfl)) ?_
     refine rwp_nil ?_
     refine awp_seq ?_
     refine awp_draw_c 15 0 [⟨0, .q []⟩, ⟨1, .q [3]⟩, ⟨2, .q []⟩, ⟨3, .q [2]⟩, ⟨4, .q []⟩, ⟨5, .q [2]⟩, ⟨6, .q []⟩, ⟨7, .q []⟩, ⟨8, .q [0]⟩, ⟨9, .q []⟩, ⟨10, .q []⟩, ⟨11, .q []⟩, ⟨12, .q []⟩, ⟨13, .q [1]⟩, ⟨14, .e 1 []⟩] mixed (by kernel_rfl) (by kernel_rfl) rfl rfl rfl ?_
     refine fx_skip rfl ?_
     refine fx_skip rfl ?_
     refine fx_skip rfl ?_
     refine fx_skip rfl ?_
     refine fx_skip rfl ?_
     refine fx_skip rfl ?_
     refine fx_skip rfl ?_
     refine fx_skip rfl ?_
     refine fx_skip rfl ?_
     refine fx_skip rfl ?_
     refine fx_skip rfl ?_
     refine fx_skip rfl ?_
     refine fx_skip rfl ?_
     refine fx_skip rfl ?_
     refine fx_skip rfl ?_
     refine fx_nil ?_
     refine sq_det rfl (by decide) rfl rfl (det_field_lit rfl fd33_5 rfl) ?_
     refine sq_det rfl (by decide) rfl rfl (det_load_one rfl one30 rfl (ptr_row 0 rfl) rfl) ?_
     refine sq_det rfl (by decide) rfl rfl (det_move rfl rfl) ?_
     refine sq_det rfl (by decide) rfl rfl (det_index_vec 0 rfl el30 rfl rfl rfl (by omega) (by simp; omega)) ?_
     refine sq_det rfl (by decide) rfl rfl (det_field_vec rfl fd117_2 rfl) ?_
     refine sq_det rfl (by decide) rfl rfl (det_load_one rfl one104 rfl (ptr_vec 0 rfl (set_get (by simp; omega))) rfl) ?_
     refine sq_det rfl (by decide) rfl rfl (det_move rfl rfl) ?_
     refine sq_det rfl (by decide) rfl rfl (det_move rfl rfl) ?_
     refine sq_det rfl (by decide) rfl rfl (det_load_agg rfl agg29 rfl (ptr_row 0 rfl) rfl) ?_
     refine sq_det rfl (by decide) rfl rfl (det_call_val rfl rfl (hf l (Ex.allF_at hP (mem_of_get hx) (mem_of_get hl))) ⟨VLe.refl _, rfl, trivial⟩) ?_
     refine sq_det rfl (by decide) rfl rfl (det_move_tup rfl rfl) ?_
     refine sq_det rfl (by decide) rfl rfl (det_ex_agg rfl rfl rfl) ?_
     refine sq_det rfl (by decide) rfl rfl (det_ex_c rfl rfl rfl) ?_
     refine sq_det rfl (by decide) rfl rfl (det_index_vec 0 rfl el104 rfl rfl rfl (by omega) (mid_len (by simp; omega) (by omega))) ?_
     refine sq_op0 rfl rfl (by decide) rfl rfl (det_store rfl sz29 rfl rfl rfl (st_vec 0 rfl (mid_get (by simp; omega) hl) rfl)) ?_
     rintro _ _ ⟨rfl, rfl⟩
     refine ⟨_, rfl, ?_⟩
     refine sq_nil rfl ?_
     refine rwp_det rfl rfl (det_assign rfl rfl) ?_
     refine rwp_nil ?_
     refine awp_seq ?_
     refine awp_region rfl ?_
     refine rwp_det rfl rfl (det_move rfl rfl) ?_
     refine rwp_det rfl rfl (det_neq rfl rfl rfl) ?_
     refine rwp_nil ?_
     refine awp_cond rfl (fun c5 => ?_) (fun c5 => ?_)
     ·try simp only [sx, List.length_map] at c5
      exact (c5 trivial).elim
     ·try simp only [sx, List.length_map] at c5
      refine awp_skip ?_
      refine awp_region rfl ?_
      refine rwp_det rfl rfl (det_add_nw rfl rfl rfl ⟨by omega, by omega⟩) ?_
      refine rwp_det rfl rfl (det_move rfl rfl) ?_
      refine rwp_nil ?_
      refine ⟨j + 1, (by omega), (by omega), Weak.mk [false, true, true, true, true, true] ⟨VLe.refl _, VLe.refl _, VLe.refl _, VLe.refl _, VLe.refl _, VLe.refl _, VLe.refl _, VLe.refl _, VLe.refl _, VLe.refl _, VLe.refl _, trivial⟩ (by simp only [Int.toNat_natCast, List.set_set]; rw [mid_set (by simp; omega) hl, take_next hl]; simp only [List.map_append, List.map_cons, List.map_nil]; rfl)⟩
    ·try simp only [sx, List.length_map] at c4
     rw [take_all (l := x.At) (k := j) (by omega), drop_end (l := x.At) (k := j) (by omega)]
     simp only [List.map_nil, List.append_nil]
     refine awp_weakF _ (st_freezeF 0 rfl (rows' := x.At.map Lf.cells) (frRows_map (frL N0) _) (regs' := []) (μ' := [_, _, _, _]) trivial ⟨EFlC.vec (r' := [_, _, _, _]) (set_get (by simp; omega)) ⟨.inl rfl, .inl rfl, .inl rfl, .inr ⟨rfl, rfl⟩, trivial⟩, EFlC.refl _, EFlC.refl _, EFlC.refl _, trivial⟩) ?_
     refine awp_exit ?_
     refine awp_region rfl ?_
     refine rwp_det rfl rfl (det_add_nw rfl rfl rfl ⟨by omega, by omega⟩) ?_
     refine rwp_det rfl rfl (det_move rfl rfl) ?_
     refine rwp_nil ?_
     refine ⟨k + 1, (by omega), (by omega), Weak.mk [true, true, true, true] ⟨VLe.refl _, VLe.refl _, VLe.refl _, VLe.refl _, VLe.refl _, VLe.refl _, VLe.refl _, trivial⟩ (by simp only [Int.toNat_natCast, List.set_set]; rw [mid_set (by simp; omega) hx, take_next hx]; simp only [List.map_append, List.map_cons, List.map_nil]; rfl)⟩
  ·try simp only [sx, List.length_map] at c2
   rw [take_all (l := e.Idx) (k := k) (by omega), drop_end (l := e.Idx) (k := k) (by omega)]
   simp only [List.map_nil, List.append_nil]
   refine awp_weakF _ (st_freezeF 0 rfl (rows' := e.Idx.map Ix.cells) (frRows_map (frI N0) _) (regs' := []) (μ' := [_, _, _]) trivial ⟨EFlC.row (ds := [_, _, _, _, _, _, _, _, _, _, _, _, _]) ⟨.inl rfl, .inl rfl, .inl rfl, .inl rfl, .inl rfl, .inl rfl, .inl rfl, .inl rfl, .inl rfl, .inl rfl, .inl rfl, .inr ⟨rfl, rfl⟩, .inl rfl, trivial⟩, EFlC.refl _, EFlC.refl _, trivial⟩) ?_
   refine awp_exit ?_
   refine awp_seq ?_
   refine awp_region rfl ?_
   refine rwp_det rfl rfl (det_field_lit rfl fd33_6 rfl) ?_
   refine rwp_det rfl rfl (det_load_one rfl one31 rfl (ptr_row 2 rfl) rfl) ?_
   refine rwp_op rfl rfl (ope_call_own rfl ok150 (Con.up (slices_Clone_ex e.Args hA) N0 hN) ⟨VLe.refl _, rfl, trivial⟩) ?_
   rintro _ _ ⟨sv8, rfl, rfl⟩
   refine rwp_det rfl rfl (det_field_lit rfl fd33_6 rfl) ?_
   refine rwp_det0 rfl rfl (det_store rfl sz31 rfl rfl rfl (st_row 1 rfl rfl)) ?_
   refine rwp_nil ?_
   refine awp_seq ?_
   refine awp_seq ?_
   refine awp_region rfl ?_
   refine rwp_det rfl rfl (det_field_lit rfl fd33_6 rfl) ?_
   refine rwp_det rfl rfl (det_load_one rfl one31 rfl (ptr_row 3 rfl) rfl) ?_
   refine rwp_det rfl rfl (det_len_slm rfl el31 rfl) ?_
   refine rwp_det rfl rfl (det_move rfl rfl) ?_
   refine rwp_nil ?_
   refine awp_block ?_
   refine awp_weak ⟨[(98, .c _), (1, .c _), (4, .c _), (6, .c _), (96, .c _), (97, .c _)], [_, _, _]⟩ (Weak.mk [true, true, true, false] ⟨VLe.of_eq rfl, VLe.of_eq rfl, VLe.of_eq rfl, VLe.of_eq rfl, VLe.of_eq rfl, VLe.of_eq rfl, trivial⟩ rfl) ?_
   refine awp_loop_k 1 1 rfl rfl (Nat) (fun n => [(98, vI n)]) (fun n => [E.vec sv8 33 13 ((e.Args.take n).map (cfE N0) ++ (e.Args.drop n).map Ex.cells)]) (fun n => n ≤ e.Args.length) (fun n => e.Args.length - n) ⟨0, (by omega), Weak.mk [true, true, true] ⟨VLe.refl _, VLe.refl _, VLe.refl _, VLe.refl _, VLe.refl _, VLe.refl _, trivial⟩ rfl⟩ ?_
   rintro n hn
   refine awp_seq ?_
   refine awp_region rfl ?_
   refine rwp_det rfl rfl (det_lss rfl rfl rfl) ?_
   refine rwp_nil ?_
   refine awp_seq ?_
   refine awp_cond rfl (fun c6 => ?_) (fun c6 => ?_)
   ·try simp only [sx, List.length_map] at c6
    obtain ⟨a, ha⟩ := ex_get e.Args n (by omega)
    refine awp_skip ?_
    refine awp_seq ?_
    refine awp_block ?_
    refine awp_seq ?_
    refine awp_region rfl ?_
    refine rwp_det rfl rfl (det_move rfl rfl) ?_
    refine rwp_det rfl rfl (det_index_sl rfl el31 rfl rfl (by omega) (getmE (by assumption))) ?_
    refine rwp_det rfl rfl (det_load_agg rfl agg33 rfl ptr_imm rfl) ?_
    refine rwp_op rfl rfl (ope_allocN [none, none, none, none, none, none, none, none, none, none, some 2, some 4, some 13] rfl zr33 rfl) ?_
    rintro _ _ ⟨b9, rfl, rfl⟩
    refine rwp_det rfl rfl (det_assign rfl rfl) ?_
    refine rwp_det0 rfl rfl (det_store rfl sz33 rfl rfl rfl (st_row 0 rfl rfl)) ?_
    refine rwp_nil ?_
    refine awp_seq ?_
    refine awp_draw_c 11 0 [⟨0, .q []⟩, ⟨1, .q [2]⟩, ⟨2, .q []⟩, ⟨3, .q [0]⟩, ⟨4, .q []⟩, ⟨5, .q []⟩, ⟨6, .q []⟩, ⟨7, .q []⟩, ⟨8, .q []⟩, ⟨9, .q [1]⟩, ⟨10, .e 1 []⟩] mixed (by kernel_rfl) (by kernel_rfl) rfl rfl rfl ?_
    refine fx_skip rfl ?_
    refine fx_skip rfl ?_
    refine fx_skip rfl ?_
    refine fx_skip rfl ?_
    refine fx_skip rfl ?_
    refine fx_skip rfl ?_
    refine fx_skip rfl ?_
    refine fx_skip rfl ?_
    refine fx_skip rfl ?_
    refine fx_skip rfl ?_
    refine fx_skip rfl ?_
    refine fx_nil ?_
    refine sq_det rfl (by decide) rfl rfl (det_field_lit rfl fd33_6 rfl) ?_
    refine sq_det rfl (by decide) rfl rfl (det_load_one rfl one31 rfl (ptr_row 0 rfl) rfl) ?_
    refine sq_det rfl (by decide) rfl rfl (det_move rfl rfl) ?_
    refine sq_det rfl (by decide) rfl rfl (det_load_agg rfl agg33 rfl (ptr_row 0 rfl) rfl) ?_
    refine sq_det rfl (by decide) rfl rfl (det_move rfl rfl) ?_
    refine sq_det rfl (by decide) rfl rfl (det_call rfl ok81 (ih a (mem_of_get ha) (Ex.allF_arg hP (mem_of_get ha)) (by have := Ex.arg_cnt (mem_of_get ha); omega)) ⟨VLe.refl _, rfl, VLe.refl _, rfl, trivial⟩) ?_
    refine sq_det rfl (by decide) rfl rfl (det_move_tup rfl rfl) ?_
    refine sq_det rfl (by decide) rfl rfl (det_ex_agg rfl rfl rfl) ?_
    refine sq_det rfl (by decide) rfl rfl (det_ex_c rfl rfl rfl) ?_
    refine sq_det rfl (by decide) rfl rfl (det_index_vec 0 rfl el31 rfl rfl rfl (by omega) (mid_len (by simp; omega) (by omega))) ?_
    refine sq_op0 rfl rfl (by decide) rfl rfl (det_store rfl sz33 rfl rfl rfl (st_vec 0 rfl (mid_getE (by simp; omega) ha) rfl)) ?_
    rintro _ _ ⟨rfl, rfl⟩
    refine ⟨_, rfl, ?_⟩
    refine sq_nil rfl ?_
    refine rwp_det rfl rfl (det_assign rfl rfl) ?_
    refine rwp_nil ?_
    refine awp_seq ?_
    refine awp_region rfl ?_
    refine rwp_det rfl rfl (det_move rfl rfl) ?_
    refine rwp_det rfl rfl (det_neq rfl rfl rfl) ?_
    refine rwp_nil ?_
    refine awp_cond rfl (fun c7 => ?_) (fun c7 => ?_)
    ·try simp only [sx, List.length_map] at c7
     exact (c7 trivial).elim
    ·try simp only [sx, List.length_map] at c7
     refine awp_skip ?_
     refine awp_region rfl ?_
     refine rwp_det rfl rfl (det_add_nw rfl rfl rfl ⟨by omega, by omega⟩) ?_
     refine rwp_det rfl rfl (det_move rfl rfl) ?_
     refine rwp_nil ?_
     refine ⟨n + 1, (by omega), (by omega), Weak.mk [false, true, true, true] ⟨VLe.refl _, VLe.refl _, VLe.refl _, VLe.refl _, VLe.refl _, VLe.refl _, trivial⟩ (by simp only [Int.toNat_natCast, List.set_set]; rw [mid_set (by simp; omega) ha, take_next ha]; simp only [List.map_append, List.map_cons, List.map_nil]; rfl)⟩
   ·try simp only [sx, List.length_map] at c6
    rw [take_all (l := e.Args) (k := n) (by omega), drop_end (l := e.Args) (k := n) (by omega)]
    simp only [List.map_nil, List.append_nil]
    refine awp_weakF _ (st_freezeF 0 rfl (rows' := e.Args.map Ex.cells) (frRows_map (frE' N0) _) (regs' := []) (μ' := [_, _]) trivial ⟨EFlC.row (ds := [_, _, _, _, _, _, _, _, _, _, _, _, _]) ⟨.inl rfl, .inl rfl, .inl rfl, .inl rfl, .inl rfl, .inl rfl, .inl rfl, .inl rfl, .inl rfl, .inl rfl, .inl rfl, .inl rfl, .inr ⟨rfl, rfl⟩, trivial⟩, EFlC.refl _, trivial⟩) ?_
    refine awp_exit ?_
    refine awp_seq ?_
    refine awp_region rfl ?_
    refine rwp_det rfl rfl (det_load_agg rfl agg33 rfl (ptr_row 0 rfl) rfl) ?_
    refine rwp_det0 rfl rfl (det_store rfl sz33 rfl rfl rfl (st_row 1 rfl rfl)) ?_
    refine rwp_det rfl rfl (det_assign rfl rfl) ?_
    refine rwp_nil ?_
    refine awp_ret ?_
    repeat (first | refine thenQ_ret ?_ | refine blockQ_ret ?_)
    refine fin2 (rs_cell_agg agg33 rfl (ptr_row 1 rfl) rfl) (rs_c rfl) ?_
    exact rfl

theorem mapFormsF (N0 : Nat) (hN : cfg.N ≤ N0) (c : C) (P : Lf → Prop) (hf : ∀ l, P l → FnPur (cfg.up N0 hN) c [vLin l] (.tup [.agg (cfL N0 l), vI 0])) (e : Ex) (hP : e.allF P) (he : e.cnt ≤ 4294967296) : Pur (cfg.up N0 hN) 81 [vE e, .c c] (.tup [.agg (cfE N0 e), vI 0]) := by
  induction e using Ex.ind with
  | _ e ih => exact mapFormsF_step N0 hN c P hf e hP ih he

theorem expr_CopyF (N0 : Nat) (hN : cfg.N ≤ N0) (e : Ex) (he : e.wt ≤ 4294967296) :
    Pur (cfg.up N0 hN) 31 [vE e] (.agg (cfE N0 e)) := by
 refine con_intro Tryz.func31 rfl Tryz.ntmps31 Tryz.results31 rfl ?_
 intro z hz
 refine awp_seq ?_
 refine awp_region rfl ?_
 refine rwp_op rfl rfl (ope_box rfl rfl) ?_
 rintro _ _ ⟨b1, rfl, rfl⟩
 refine rwp_op rfl rfl (ope_allocN [none, none, none, none, none, none, none, none, none, none, some 2, some 4, some 13] rfl zr33 rfl) ?_
 rintro _ _ ⟨b2, rfl, rfl⟩
 refine rwp_nil ?_
 refine awp_seq ?_
 refine awp_region rfl ?_
 refine rwp_det rfl rfl (det_load_agg rfl agg33 rfl (ptr_row 1 rfl) rfl) ?_
 refine rwp_det rfl rfl (det_call rfl ok81 (mapFormsF N0 hN _ (fun l => l.L.length ≤ 5864062014805) (fun l hl => FnPur.of_pur (first := []) (cap := []) ok91 (expr_Copy_1F N0 hN l hl)) e (fun x hx l hl => by have := forms_wt (Nat.le_trans (node_mem_wt e x hx) he) hl; omega) (Nat.le_trans e.cnt_le he)) ⟨VLe.refl _, rfl, VLe.refl _, rfl, trivial⟩) ?_
 refine rwp_det rfl rfl (det_move_tup rfl rfl) ?_
 refine rwp_det rfl rfl (det_ex_agg rfl rfl rfl) ?_
 refine rwp_det rfl rfl (det_ex_c rfl rfl rfl) ?_
 refine rwp_op rfl rfl (ope_allocN [none, none, none, none, none, none, none, none, none, none, some 2, some 4, some 13] rfl zr33 rfl) ?_
 rintro _ _ ⟨b3, rfl, rfl⟩
 refine rwp_det0 rfl rfl (det_store rfl sz33 rfl rfl rfl (st_row 0 rfl rfl)) ?_
 refine rwp_det rfl rfl (det_assign rfl rfl) ?_
 refine rwp_nil ?_
 refine awp_seq ?_
 refine awp_region rfl ?_
 refine rwp_det rfl rfl (det_load_agg rfl agg33 rfl (ptr_row 0 rfl) rfl) ?_
 refine rwp_det0 rfl rfl (det_store rfl sz33 rfl rfl rfl (st_row 1 rfl rfl)) ?_
 refine rwp_nil ?_
 refine awp_ret ?_
 repeat (first | refine thenQ_ret ?_ | refine blockQ_ret ?_)
 refine fin1 (rs_cell_agg agg33 rfl (ptr_row 1 rfl) rfl) ?_
 rfl

end Go.W
end
section
set_option linter.unusedSimpArgs false
set_option linter.unusedVariables false
namespace Go.W
open Go Go.Eng Go.Proofs Go.L41 Go.Br
attribute [local irreducible] AWP RWP TD
theorem ok30 : callOk Tryz.prog 30 = true := by kernel_rfl
theorem ok90 : callOk Tryz.prog 90 = true := by kernel_rfl
theorem ref14_twin (l : Lf) (hl : l.L.length ≤ 4294967296) :
    Pur cfg 90 [vLin l] (vLin l) := by
 refine con_intro Tryz.func90 rfl Tryz.ntmps90 Tryz.results90 rfl ?_
 intro z hz
 refine awp_seq ?_
 refine awp_region rfl ?_
 refine rwp_op rfl rfl (ope_box rfl rfl) ?_
 rintro _ _ ⟨b1, rfl, rfl⟩
 refine rwp_op rfl rfl (ope_allocN [none, some 2] rfl zr29 rfl) ?_
 rintro _ _ ⟨b2, rfl, rfl⟩
 refine rwp_nil ?_
 refine awp_seq ?_
 refine awp_region rfl ?_
 refine rwp_det rfl rfl (det_field_lit rfl fd29_0 rfl) ?_
 refine rwp_det rfl rfl (det_load_one rfl one2 rfl (ptr_row 1 rfl) rfl) ?_
 refine rwp_det rfl rfl (det_build rfl zr29 pl29 rfl) ?_
 refine rwp_op rfl rfl (ope_alloc rfl zr29) ?_
 rintro _ _ ⟨b3, rfl, rfl⟩
 refine rwp_weak _ (weak_own 75 2) ?_
 refine rwp_det0 rfl rfl (det_store rfl sz29 rfl rfl rfl (st_row 1 rfl rfl)) ?_
 refine rwp_nil ?_
 refine awp_seq ?_
 refine awp_region rfl ?_
 refine rwp_det rfl rfl (det_field_lit rfl fd29_1 rfl) ?_
 refine rwp_det rfl rfl (det_load_one rfl one27 rfl (ptr_row 1 rfl) rfl) ?_
 refine rwp_det rfl rfl (det_field_lit rfl fd29_1 rfl) ?_
 refine rwp_det rfl rfl (det_load_one rfl one27 rfl (ptr_row 3 rfl) rfl) ?_
 refine rwp_op rfl rfl (ope_append 0 rfl el27 rfl rfl rfl (by simp; omega) (by simp; omega)) ?_
 rintro _ _ ⟨sv5, rfl, rfl⟩
 refine rwp_det rfl rfl (det_field_lit rfl fd29_1 rfl) ?_
 refine rwp_det0 rfl rfl (det_store rfl sz27 rfl rfl rfl (st_row 1 rfl rfl)) ?_
 refine rwp_nil ?_
 refine awp_seq ?_
 refine awp_region rfl ?_
 refine rwp_weak _ (weak_freezeM 0 rfl (regs' := [(11, _)]) (μ' := [_, _, _]) ⟨FLe.sl, trivial⟩ ⟨EFle.row (ds := [_, _]) ⟨.inl rfl, .inr ⟨rfl, rfl⟩, trivial⟩, EFle.refl _, EFle.refl _, trivial⟩) ?_
 refine rwp_det rfl rfl (det_load_agg rfl agg29 rfl (ptr_row 0 rfl) rfl) ?_
 refine rwp_det0 rfl rfl (det_store rfl sz29 rfl rfl rfl (st_row 1 rfl rfl)) ?_
 refine rwp_nil ?_
 refine awp_ret ?_
 repeat (first | refine thenQ_ret ?_ | refine blockQ_ret ?_)
 refine fin1 (rs_cell_agg agg29 rfl (ptr_row 1 rfl) rfl) ?_
 rfl

theorem ref14_Twin_step (e : Ex) (ih : ∀ a, a ∈ e.Args → a.wt ≤ 4294967296 → Pur cfg 30 [vE a] (vE a)) (he : e.wt ≤ 4294967296) :
    Pur cfg 30 [vE e] (vE e) := by
 refine con_intro Tryz.func30 rfl Tryz.ntmps30 Tryz.results30 rfl ?_
 intro z hz
 obtain ⟨hL, hI, hA⟩ := e.parts he
 refine awp_seq ?_
 refine awp_region rfl ?_
 refine rwp_op rfl rfl (ope_box rfl rfl) ?_
 rintro _ _ ⟨b1, rfl, rfl⟩
 refine rwp_op rfl rfl (ope_allocN [none, none, none, none, none, none, none, none, none, none, some 2, some 4, some 13] rfl zr33 rfl) ?_
 rintro _ _ ⟨b2, rfl, rfl⟩
 refine rwp_nil ?_
 refine awp_seq ?_
 refine awp_draw_c 13 1 [⟨0, .q []⟩, ⟨1, .q [2]⟩, ⟨2, .q []⟩, ⟨3, .q [2]⟩, ⟨4, .q []⟩, ⟨5, .q [2]⟩, ⟨6, .q []⟩, ⟨7, .q [2]⟩, ⟨8, .q []⟩, ⟨9, .q [2]⟩, ⟨10, .q []⟩, ⟨11, .q []⟩, ⟨12, .f 0⟩] mixed (by kernel_rfl) (by kernel_rfl) rfl rfl rfl ?_
 refine fx_skip rfl ?_
 refine fx_skip rfl ?_
 refine fx_skip rfl ?_
 refine fx_skip rfl ?_
 refine fx_skip rfl ?_
 refine fx_skip rfl ?_
 refine fx_skip rfl ?_
 refine fx_skip rfl ?_
 refine fx_skip rfl ?_
 refine fx_skip rfl ?_
 refine fx_skip rfl ?_
 refine fx_skip rfl ?_
 refine fx_fresh rfl rfl (fresh_alloc' (ope_allocN [none, none, none, none, none, none, none, none, none, none, some 2, some 4, some 13] rfl zr33 rfl)) ?_
 refine fx_nil ?_
 refine sq_det rfl (by decide) rfl rfl (det_field_lit rfl fd33_0 rfl) ?_
 refine sq_det rfl (by decide) rfl rfl (det_load_one rfl one3 rfl (ptr_row 0 rfl) rfl) ?_
 refine sq_det rfl (by decide) rfl rfl (det_field_lit rfl fd33_1 rfl) ?_
 refine sq_det rfl (by decide) rfl rfl (det_load_one rfl one9 rfl (ptr_row 0 rfl) rfl) ?_
 refine sq_det rfl (by decide) rfl rfl (det_field_lit rfl fd33_2 rfl) ?_
 refine sq_det rfl (by decide) rfl rfl (det_load_agg rfl agg26 rfl (ptr_row 0 rfl) rfl) ?_
 refine sq_det rfl (by decide) rfl rfl (det_field_lit rfl fd33_3 rfl) ?_
 refine sq_det rfl (by decide) rfl rfl (det_load_agg rfl agg23 rfl (ptr_row 0 rfl) rfl) ?_
 refine sq_det rfl (by decide) rfl rfl (det_field_lit rfl fd33_4 rfl) ?_
 refine sq_det rfl (by decide) rfl rfl (det_load_agg rfl agg29 rfl (ptr_row 0 rfl) rfl) ?_
 refine sq_det rfl (by decide) rfl rfl (det_call rfl ok90 (ref14_twin e.Lin hL) ⟨VLe.refl _, rfl, trivial⟩) ?_
 refine sq_det rfl (by decide) rfl rfl (det_build rfl zr33 pl33 rfl) ?_
 refine sq_fresh rfl rfl ?_
 rintro _ _ ⟨b3, rfl, rfl⟩
 refine sq_nil rfl ?_
 refine rwp_det0 rfl rfl (det_store rfl sz33 rfl rfl rfl (st_row 0 rfl rfl)) ?_
 refine rwp_nil ?_
 refine awp_seq ?_
 refine awp_seq ?_
 refine awp_region rfl ?_
 refine rwp_weak _ (weak_own 117 4) ?_
 refine rwp_weak _ (weak_own 33 13) ?_
 refine rwp_det rfl rfl (det_assign rfl rfl) ?_
 refine rwp_nil ?_
 refine awp_block ?_
 refine awp_weak ⟨[(4, .c _), (1, .c _), (2, .c _), (3, .c _)], [_, _, _, _, _]⟩ (Weak.mk [true, true, true, true, true] ⟨VLe.of_eq rfl, VLe.of_eq rfl, VLe.of_eq rfl, VLe.of_eq rfl, trivial⟩ rfl) ?_
 refine awp_loop_k 1 3 rfl rfl (Nat × Value) (fun ⟨k, sv⟩ => [(4, vI k)]) (fun ⟨k, sv⟩ => [E.vec (.slice none 0 0) 33 13 [], E.vec sv 117 4 ((e.Idx.take k).map Ix.cells), E.row b3 33 [cI e.Op, cS e.Name, cI e.Val.N, cI e.Val.D, cI e.Ty.Kind, cI e.Ty.Bits, cI e.Ty.Frac, cI e.Ty.Round, cI e.Ty.Over, cI e.Lin.K, .sl 2 (e.Lin.L.map Mono.cells), .lit sv, .lit (.slice none 0 0)]]) (fun ⟨k, sv⟩ => k ≤ e.Idx.length) (fun ⟨k, sv⟩ => e.Idx.length - k) ⟨⟨0, (.slice none 0 0)⟩, (by omega), Weak.mk [true, true, true, true, true] ⟨VLe.refl _, VLe.refl _, VLe.refl _, VLe.refl _, trivial⟩ rfl⟩ ?_
 rintro ⟨k, sv⟩ hk
 show AWP _ _ _ _ _ ⟨[(4, vI k)] ++ _, [E.vec (.slice none 0 0) 33 13 [], E.vec sv 117 4 ((e.Idx.take k).map Ix.cells), E.row b3 33 [cI e.Op, cS e.Name, cI e.Val.N, cI e.Val.D, cI e.Ty.Kind, cI e.Ty.Bits, cI e.Ty.Frac, cI e.Ty.Round, cI e.Ty.Over, cI e.Lin.K, .sl 2 (e.Lin.L.map Mono.cells), .lit sv, .lit (.slice none 0 0)]] ++ _⟩
 refine awp_seq ?_
 refine awp_seq ?_
 refine awp_region rfl ?_
 refine rwp_det rfl rfl (det_move rfl rfl) ?_
 refine rwp_det rfl rfl (det_field_lit rfl fd33_5 rfl) ?_
 refine rwp_det rfl rfl (det_load_one rfl one30 rfl (ptr_row 4 rfl) rfl) ?_
 refine rwp_det rfl rfl (det_len_slm rfl el30 rfl) ?_
 refine rwp_det rfl rfl (det_lss rfl rfl rfl) ?_
 refine rwp_nil ?_
 refine awp_cond rfl (fun c1 => ?_) (fun c1 => ?_)
 ·try simp only [sx, List.length_map] at c1
  obtain ⟨x, hx⟩ := ex_get e.Idx k (by omega)
  have hxw := Ex.idx_wt (mem_of_get hx)
  refine awp_skip ?_
  refine awp_seq ?_
  refine awp_block ?_
  refine awp_seq ?_
  refine awp_draw_c 15 1 [⟨0, .q []⟩, ⟨1, .q [5]⟩, ⟨2, .q []⟩, ⟨3, .q []⟩, ⟨4, .q []⟩, ⟨5, .q []⟩, ⟨6, .q []⟩, ⟨7, .q []⟩, ⟨8, .q [5]⟩, ⟨9, .q []⟩, ⟨10, .q []⟩, ⟨11, .q []⟩, ⟨12, .q []⟩, ⟨13, .q []⟩, ⟨14, .f 0⟩] mixed (by kernel_rfl) (by kernel_rfl) rfl rfl rfl ?_
  refine fx_skip rfl ?_
  refine fx_skip rfl ?_
  refine fx_skip rfl ?_
  refine fx_skip rfl ?_
  refine fx_skip rfl ?_
  refine fx_skip rfl ?_
  refine fx_skip rfl ?_
  refine fx_skip rfl ?_
  refine fx_skip rfl ?_
  refine fx_skip rfl ?_
  refine fx_skip rfl ?_
  refine fx_skip rfl ?_
  refine fx_skip rfl ?_
  refine fx_skip rfl ?_
  refine fx_fresh rfl rfl (fresh_alloc' (ope_allocN [none, some 2, none, some 2] rfl zr117 rfl)) ?_
  refine fx_nil ?_
  refine sq_det rfl (by decide) rfl rfl (det_field_lit rfl fd33_5 rfl) ?_
  refine sq_det rfl (by decide) rfl rfl (det_load_one rfl one30 rfl (ptr_row 0 rfl) rfl) ?_
  refine sq_det rfl (by decide) rfl rfl (det_move rfl rfl) ?_
  refine sq_det rfl (by decide) rfl rfl (det_index_sl rfl el30 rfl rfl (by omega) (getm (by assumption))) ?_
  refine sq_det rfl (by decide) rfl rfl (det_field_imm rfl fd117_0 rfl) ?_
  refine sq_det rfl (by decide) rfl rfl (det_load_agg rfl agg29 rfl ptr_imm rfl) ?_
  refine sq_det rfl (by decide) rfl rfl (det_call rfl ok90 (ref14_twin x.Lin (by have := Ex.idx_wt (mem_of_get hx); omega)) ⟨VLe.refl _, rfl, trivial⟩) ?_
  refine sq_det rfl (by decide) rfl rfl (det_field_lit rfl fd33_5 rfl) ?_
  refine sq_det rfl (by decide) rfl rfl (det_load_one rfl one30 rfl (ptr_row 0 rfl) rfl) ?_
  refine sq_det rfl (by decide) rfl rfl (det_move rfl rfl) ?_
  refine sq_det rfl (by decide) rfl rfl (det_index_sl rfl el30 rfl rfl (by omega) (getm (by assumption))) ?_
  refine sq_det rfl (by decide) rfl rfl (det_field_imm rfl fd117_1 rfl) ?_
  refine sq_det rfl (by decide) rfl rfl (det_load_one rfl one9 rfl ptr_imm rfl) ?_
  refine sq_det rfl (by decide) rfl rfl (det_build rfl zr117 pl117 rfl) ?_
  refine sq_fresh rfl rfl ?_
  rintro _ _ ⟨b4, rfl, rfl⟩
  refine sq_nil rfl ?_
  refine rwp_det0 rfl rfl (det_store rfl sz117 rfl rfl rfl (st_row 0 rfl rfl)) ?_
  refine rwp_nil ?_
  refine awp_seq ?_
  refine awp_seq ?_
  refine awp_region rfl ?_
  refine rwp_weak _ (weak_own 29 2) ?_
  refine rwp_det rfl rfl (det_assign rfl rfl) ?_
  refine rwp_nil ?_
  refine awp_block ?_
  refine awp_weak ⟨[(6, .c _), (1, .c _), (2, .c _), (3, .c _), (4, .c _), (5, .c _)], [_, _, _, _, _, _, _]⟩ (Weak.mk [true, true, true, true, true, true, true] ⟨VLe.of_eq rfl, VLe.of_eq rfl, VLe.of_eq rfl, VLe.of_eq rfl, VLe.of_eq rfl, VLe.of_eq rfl, trivial⟩ rfl) ?_
  refine awp_loop_k 1 2 rfl rfl (Nat × Value) (fun ⟨j, sw⟩ => [(6, vI j)]) (fun ⟨j, sw⟩ => [E.vec sw 29 2 ((x.At.take j).map Lf.cells), E.row b4 117 [cI x.Lin.K, .sl 2 (x.Lin.L.map Mono.cells), cS x.From, .lit sw]]) (fun ⟨j, sw⟩ => j ≤ x.At.length) (fun ⟨j, sw⟩ => x.At.length - j) ⟨⟨0, (.slice none 0 0)⟩, (by omega), Weak.mk [true, true, true, true, true, true, true] ⟨VLe.refl _, VLe.refl _, VLe.refl _, VLe.refl _, VLe.refl _, VLe.refl _, trivial⟩ rfl⟩ ?_
  rintro ⟨j, sw⟩ hj
  show AWP _ _ _ _ _ ⟨[(6, vI j)] ++ _, [E.vec sw 29 2 ((x.At.take j).map Lf.cells), E.row b4 117 [cI x.Lin.K, .sl 2 (x.Lin.L.map Mono.cells), cS x.From, .lit sw]] ++ _⟩
  refine awp_seq ?_
  refine awp_seq ?_
  refine awp_region rfl ?_
  refine rwp_det rfl rfl (det_move rfl rfl) ?_
  refine rwp_det rfl rfl (det_field_lit rfl fd33_5 rfl) ?_
  refine rwp_det rfl rfl (det_load_one rfl one30 rfl (ptr_row 6 rfl) rfl) ?_
  refine rwp_det rfl rfl (det_move rfl rfl) ?_
  refine rwp_det rfl rfl (det_index_sl rfl el30 rfl rfl (by omega) (getm (by assumption))) ?_
  refine rwp_det rfl rfl (det_field_imm rfl fd117_2 rfl) ?_
  refine rwp_det rfl rfl (det_load_one rfl one104 rfl ptr_imm rfl) ?_
  refine rwp_det rfl rfl (det_len_slm rfl el104 rfl) ?_
  refine rwp_det rfl rfl (det_lss rfl rfl rfl) ?_
  refine rwp_nil ?_
  refine awp_cond rfl (fun c2 => ?_) (fun c2 => ?_)
  ·try simp only [sx, List.length_map] at c2
   obtain ⟨l, hl⟩ := ex_get x.At j (by omega)
   refine awp_skip ?_
   refine awp_seq ?_
   refine awp_block ?_
   refine awp_draw 13 mixed (by kernel_rfl) rfl rfl ?_
   refine td_det rfl rfl (det_field_lit rfl fd117_2 rfl) ?_
   refine td_det rfl rfl (det_load_one rfl one104 rfl (ptr_row 1 rfl) rfl) ?_
   refine td_det rfl rfl (det_field_lit rfl fd33_5 rfl) ?_
   refine td_det rfl rfl (det_load_one rfl one30 rfl (ptr_row 6 rfl) rfl) ?_
   refine td_det rfl rfl (det_move rfl rfl) ?_
   refine td_det rfl rfl (det_index_sl rfl el30 rfl rfl (by omega) (getm (by assumption))) ?_
   refine td_det rfl rfl (det_field_imm rfl fd117_2 rfl) ?_
   refine td_det rfl rfl (det_load_one rfl one104 rfl ptr_imm rfl) ?_
   refine td_det rfl rfl (det_move rfl rfl) ?_
   refine td_det rfl rfl (det_index_sl rfl el104 rfl rfl (by omega) (getm (by assumption))) ?_
   refine td_det rfl rfl (det_load_agg rfl agg29 rfl ptr_imm rfl) ?_
   refine td_det rfl rfl (det_call rfl ok90 (ref14_twin l (by have := Ex.idx_wt (mem_of_get hx); have := linsWt_mem (mem_of_get hl); omega)) ⟨VLe.refl _, rfl, trivial⟩) ?_
   refine td_det rfl rfl (det_bslice rfl el104 zr29 rfl rfl rfl rfl) ?_
   refine td_nil ?_
   refine rwp_op rfl rfl (ope_append 0 rfl el104 rfl rfl rfl (by simp only [List.length_take, List.length_map, List.length_append, List.length_cons, List.length_nil]; omega) (by simp only [List.length_take, List.length_map, List.length_append, List.length_cons, List.length_nil]; omega)) ?_
   rintro _ _ ⟨sv5, rfl, rfl⟩
   refine rwp_det rfl rfl (det_field_lit rfl fd117_2 rfl) ?_
   refine rwp_det0 rfl rfl (det_store rfl sz104 rfl rfl rfl (st_row 1 rfl rfl)) ?_
   refine rwp_nil ?_
   refine awp_region rfl ?_
   refine rwp_det rfl rfl (det_move rfl rfl) ?_
   refine rwp_det rfl rfl (det_add_nw rfl rfl rfl ⟨by omega, by omega⟩) ?_
   refine rwp_det rfl rfl (det_assign rfl rfl) ?_
   refine rwp_nil ?_
   refine ⟨⟨j + 1, sv5⟩, (by omega), (by show x.At.length - (j + 1) < x.At.length - j; omega), Weak.mk [true, true, true, true, true, true, true] ⟨VLe.refl _, VLe.refl _, VLe.refl _, VLe.refl _, VLe.refl _, VLe.refl _, trivial⟩ (by exact mem2_eq' (by rw [take_next hl, List.map_append]; rfl))⟩
  ·try simp only [sx, List.length_map] at c2
   rw [take_all (l := x.At) (k := j) (by omega)]
   refine awp_weak _ (weak_freezeM 0 rfl (regs' := []) (μ' := [_, _, _, _, _, _]) trivial ⟨EFle.row (ds := [_, _, _, _]) ⟨.inl rfl, .inl rfl, .inl rfl, .inr ⟨rfl, rfl⟩, trivial⟩, EFle.refl _, EFle.refl _, EFle.refl _, EFle.refl _, EFle.refl _, trivial⟩) ?_
   refine awp_exit ?_
   refine awp_region rfl ?_
   refine rwp_det rfl rfl (det_field_lit rfl fd33_5 rfl) ?_
   refine rwp_det rfl rfl (det_load_one rfl one30 rfl (ptr_row 3 rfl) rfl) ?_
   refine rwp_det rfl rfl (det_load_agg rfl agg117 rfl (ptr_row 0 rfl) rfl) ?_
   refine rwp_det rfl rfl (det_bslice rfl el30 zr117 rfl rfl rfl rfl) ?_
   refine rwp_op rfl rfl (ope_append 2 rfl el30 rfl rfl rfl (by simp only [List.length_take, List.length_map, List.length_append, List.length_cons, List.length_nil]; omega) (by simp only [List.length_take, List.length_map, List.length_append, List.length_cons, List.length_nil]; omega)) ?_
   rintro _ _ ⟨sv6, rfl, rfl⟩
   refine rwp_det rfl rfl (det_field_lit rfl fd33_5 rfl) ?_
   refine rwp_det0 rfl rfl (det_store rfl sz30 rfl rfl rfl (st_row 3 rfl rfl)) ?_
   refine rwp_nil ?_
   refine awp_region rfl ?_
   refine rwp_det rfl rfl (det_move rfl rfl) ?_
   refine rwp_det rfl rfl (det_add_nw rfl rfl rfl ⟨by omega, by omega⟩) ?_
   refine rwp_det rfl rfl (det_assign rfl rfl) ?_
   refine rwp_nil ?_
   refine ⟨⟨k + 1, sv6⟩, (by omega), (by show e.Idx.length - (k + 1) < e.Idx.length - k; omega), Weak.mk [false, true, true, true, true, true] ⟨VLe.refl _, VLe.refl _, VLe.refl _, VLe.refl _, trivial⟩ (by exact mem3_eq (by rw [take_next hx, List.map_append]; rfl))⟩
 ·try simp only [sx, List.length_map] at c1
  rw [take_all (l := e.Idx) (k := k) (by omega)]
  refine awp_weak _ (weak_freezeM 1 rfl (regs' := []) (μ' := [_, _, _, _]) trivial ⟨EFle.refl _, EFle.row (ds := [_, _, _, _, _, _, _, _, _, _, _, _, _]) ⟨.inl rfl, .inl rfl, .inl rfl, .inl rfl, .inl rfl, .inl rfl, .inl rfl, .inl rfl, .inl rfl, .inl rfl, .inl rfl, .inr ⟨rfl, rfl⟩, .inl rfl, trivial⟩, EFle.refl _, EFle.refl _, trivial⟩) ?_
  refine awp_exit ?_
  refine awp_seq ?_
  refine awp_seq ?_
  refine awp_region rfl ?_
  refine rwp_det rfl rfl (det_assign rfl rfl) ?_
  refine rwp_nil ?_
  refine awp_block ?_
  refine awp_weak ⟨[(7, .c _), (1, .c _), (2, .c _), (3, .c _)], [_, _, _, _]⟩ (Weak.mk [true, true, true, true] ⟨VLe.of_eq rfl, VLe.of_eq rfl, VLe.of_eq rfl, VLe.of_eq rfl, trivial⟩ rfl) ?_
  refine awp_loop_k 1 2 rfl rfl (Nat × Value) (fun ⟨n, su⟩ => [(7, vI n)]) (fun ⟨n, su⟩ => [E.vec su 33 13 ((e.Args.take n).map Ex.cells), E.row b3 33 [cI e.Op, cS e.Name, cI e.Val.N, cI e.Val.D, cI e.Ty.Kind, cI e.Ty.Bits, cI e.Ty.Frac, cI e.Ty.Round, cI e.Ty.Over, cI e.Lin.K, .sl 2 (e.Lin.L.map Mono.cells), .sl 4 (e.Idx.map Ix.cells), .lit su]]) (fun ⟨n, su⟩ => n ≤ e.Args.length) (fun ⟨n, su⟩ => e.Args.length - n) ⟨⟨0, (.slice none 0 0)⟩, (by omega), Weak.mk [true, true, true, true] ⟨VLe.refl _, VLe.refl _, VLe.refl _, VLe.refl _, trivial⟩ rfl⟩ ?_
  rintro ⟨n, su⟩ hn
  show AWP _ _ _ _ _ ⟨[(7, vI n)] ++ _, [E.vec su 33 13 ((e.Args.take n).map Ex.cells), E.row b3 33 [cI e.Op, cS e.Name, cI e.Val.N, cI e.Val.D, cI e.Ty.Kind, cI e.Ty.Bits, cI e.Ty.Frac, cI e.Ty.Round, cI e.Ty.Over, cI e.Lin.K, .sl 2 (e.Lin.L.map Mono.cells), .sl 4 (e.Idx.map Ix.cells), .lit su]] ++ _⟩
  refine awp_seq ?_
  refine awp_seq ?_
  refine awp_region rfl ?_
  refine rwp_det rfl rfl (det_move rfl rfl) ?_
  refine rwp_det rfl rfl (det_field_lit rfl fd33_6 rfl) ?_
  refine rwp_det rfl rfl (det_load_one rfl one31 rfl (ptr_row 3 rfl) rfl) ?_
  refine rwp_det rfl rfl (det_len_slm rfl el31 rfl) ?_
  refine rwp_det rfl rfl (det_lss rfl rfl rfl) ?_
  refine rwp_nil ?_
  refine awp_cond rfl (fun c3 => ?_) (fun c3 => ?_)
  ·try simp only [sx, List.length_map] at c3
   obtain ⟨a, ha⟩ := ex_get e.Args n (by omega)
   refine awp_skip ?_
   refine awp_seq ?_
   refine awp_block ?_
   refine awp_draw 9 mixed (by kernel_rfl) rfl rfl ?_
   refine td_det rfl rfl (det_field_lit rfl fd33_6 rfl) ?_
   refine td_det rfl rfl (det_load_one rfl one31 rfl (ptr_row 1 rfl) rfl) ?_
   refine td_det rfl rfl (det_field_lit rfl fd33_6 rfl) ?_
   refine td_det rfl rfl (det_load_one rfl one31 rfl (ptr_row 3 rfl) rfl) ?_
   refine td_det rfl rfl (det_move rfl rfl) ?_
   refine td_det rfl rfl (det_index_sl rfl el31 rfl rfl (by omega) (getmE (by assumption))) ?_
   refine td_det rfl rfl (det_load_agg rfl agg33 rfl ptr_imm rfl) ?_
   refine td_det rfl rfl (det_call rfl ok30 (ih a (mem_of_get ha) (by have := Ex.arg_wt (mem_of_get ha); omega)) ⟨VLe.refl _, rfl, trivial⟩) ?_
   refine td_det rfl rfl (det_bslice rfl el31 zr33 rfl rfl rfl rfl) ?_
   refine td_nil ?_
   refine rwp_op rfl rfl (ope_append 0 rfl el31 rfl rfl rfl (by simp only [List.length_take, List.length_map, List.length_append, List.length_cons, List.length_nil]; omega) (by simp only [List.length_take, List.length_map, List.length_append, List.length_cons, List.length_nil]; omega)) ?_
   rintro _ _ ⟨sv7, rfl, rfl⟩
   refine rwp_det rfl rfl (det_field_lit rfl fd33_6 rfl) ?_
   refine rwp_det0 rfl rfl (det_store rfl sz31 rfl rfl rfl (st_row 1 rfl rfl)) ?_
   refine rwp_nil ?_
   refine awp_region rfl ?_
   refine rwp_det rfl rfl (det_move rfl rfl) ?_
   refine rwp_det rfl rfl (det_add_nw rfl rfl rfl ⟨by omega, by omega⟩) ?_
   refine rwp_det rfl rfl (det_assign rfl rfl) ?_
   refine rwp_nil ?_
   refine ⟨⟨n + 1, sv7⟩, (by omega), (by show e.Args.length - (n + 1) < e.Args.length - n; omega), Weak.mk [true, true, true, true] ⟨VLe.refl _, VLe.refl _, VLe.refl _, VLe.refl _, trivial⟩ (by exact mem2_eq' (by rw [take_next ha, List.map_append]; simp only [List.map_cons, List.map_nil, Ex.cells_eq]))⟩
  ·try simp only [sx, List.length_map] at c3
   rw [take_all (l := e.Args) (k := n) (by omega)]
   refine awp_weak _ (weak_freezeM 0 rfl (regs' := []) (μ' := [_, _, _]) trivial ⟨EFle.row (ds := [_, _, _, _, _, _, _, _, _, _, _, _, _]) ⟨.inl rfl, .inl rfl, .inl rfl, .inl rfl, .inl rfl, .inl rfl, .inl rfl, .inl rfl, .inl rfl, .inl rfl, .inl rfl, .inl rfl, .inr ⟨rfl, rfl⟩, trivial⟩, EFle.refl _, EFle.refl _, trivial⟩) ?_
   refine awp_exit ?_
   refine awp_seq ?_
   refine awp_region rfl ?_
   refine rwp_det rfl rfl (det_load_agg rfl agg33 rfl (ptr_row 0 rfl) rfl) ?_
   refine rwp_det0 rfl rfl (det_store rfl sz33 rfl rfl rfl (st_row 1 rfl rfl)) ?_
   refine rwp_nil ?_
   refine awp_ret ?_
   repeat (first | refine thenQ_ret ?_ | refine blockQ_ret ?_)
   refine fin1 (rs_cell_agg agg33 rfl (ptr_row 1 rfl) rfl) ?_
   rfl

theorem ref14_Twin (e : Ex) (he : e.wt ≤ 4294967296) : Pur cfg 30 [vE e] (vE e) := by
  induction e using Ex.ind with
  | _ e ih => exact ref14_Twin_step e (fun a ha h => ih a ha h) he

end Go.W
end
section
set_option linter.unusedSimpArgs false
set_option linter.unusedVariables false
namespace Go.W
open Go Go.Eng Go.Proofs Go.L41 Go.Br
attribute [local irreducible] AWP RWP TD
theorem sz9 : (Tryz.prog.info? 9).map (·.size) = some 1 := by kernel_rfl
end Go.W
end
