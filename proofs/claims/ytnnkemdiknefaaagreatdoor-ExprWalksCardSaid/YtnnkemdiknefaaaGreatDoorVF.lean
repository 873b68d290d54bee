/-
  Walks: what functions of the program compute. Printed by wip/gen/mk2.py.
  Conditions: none.
-/
import Derived.Test.YtnnkemdiknefaaaGreatDoorVE
import Derived.Test.YtnnkemdiknefaaaGreatDoorPlain2
set_option linter.unusedSimpArgs false
set_option linter.unusedVariables false
namespace Go.W
open Go Go.Eng Go.Proofs Go.L41 Go.Br
attribute [local irreducible] AWP RWP TD
theorem one5 : oneT Tryz.prog 5 = true := by kernel_rfl
theorem zr31 : zeroT Tryz.prog 31 = some [(Value.slice none 0 0)] := by kernel_rfl
theorem law_ExprWalks (e : Ex) (m : Nat) (hfe : e.fit) (hm : m < 256) :
    Pur cfg 6 [vE e, .c (.lit (.int .u8 m))] (vB true) := by
 refine con_intro Tryz.func6 rfl Tryz.ntmps6 Tryz.results6 rfl ?_
 intro z hz
 have hw : IntKind.i64.wrap (m : Int) = m := IntWalk.i64_in _ ⟨by omega, by omega⟩
 refine awp_seq ?_
 refine awp_region rfl ?_
 refine rwp_op rfl rfl (ope_box rfl rfl) ?_
 rintro _ _ ⟨b1, rfl, rfl⟩
 refine rwp_op rfl rfl (ope_box rfl rfl) ?_
 rintro _ _ ⟨b2, rfl, rfl⟩
 refine rwp_op rfl rfl (ope_alloc rfl zr4) ?_
 rintro _ _ ⟨b3, rfl, rfl⟩
 refine rwp_nil ?_
 refine awp_seq ?_
 refine awp_seq ?_
 refine awp_region rfl ?_
 refine rwp_det rfl rfl (det_load_agg rfl agg33 rfl (ptr_row 2 rfl) rfl) ?_
 refine rwp_det rfl rfl (det_call rfl ok22 (law14_Few e 200 200 hfe (by omega) rfl) ⟨VLe.refl _, rfl, VLe.refl _, rfl, trivial⟩) ?_
 refine rwp_det rfl rfl (det_not rfl rfl) ?_
 refine rwp_nil ?_
 refine awp_cond rfl (fun c1 => ?_) (fun c1 => ?_)
 ·try simp only [sx, List.length_map] at c1
  refine awp_seq ?_
  refine awp_region rfl ?_
  refine rwp_det rfl rfl (det_call rfl ok23 law14_live trivial) ?_
  refine rwp_det0 rfl rfl (det_store rfl sz4 rfl rfl rfl (st_row 0 rfl rfl)) ?_
  refine rwp_nil ?_
  refine awp_ret ?_
  repeat (first | refine thenQ_ret ?_ | refine blockQ_ret ?_)
  refine fin1 (rs_cell_one one4 rfl (ptr_row 0 rfl) rfl) ?_
  rfl
 ·try simp only [sx, List.length_map] at c1
  have w1 := few_wt c1
  have hn := nodes_wt e
  refine awp_skip ?_
  refine awp_seq ?_
  refine awp_region rfl ?_
  refine rwp_det rfl rfl (det_load_agg rfl agg33 rfl (ptr_row 2 rfl) rfl) ?_
  refine rwp_det rfl rfl (det_call rfl ok27 (OwnR.pur (ref14_All e (by omega))) ⟨VLe.refl _, rfl, trivial⟩) ?_
  refine rwp_det rfl rfl (det_assign rfl rfl) ?_
  refine rwp_nil ?_
  refine awp_seq ?_
  refine awp_seq ?_
  refine awp_region rfl ?_
  refine rwp_det rfl rfl (det_load_agg rfl agg33 rfl (ptr_row 2 rfl) rfl) ?_
  refine rwp_det rfl rfl (det_call rfl ok28 (expr_Walk _) ⟨VLe.refl _, rfl, trivial⟩) ?_
  refine rwp_det rfl rfl (det_fn_nil rfl rfl Tryz.underlying62 rfl rfl) ?_
  refine rwp_nil ?_
  refine awp_cond rfl (fun c2 => ?_) (fun c2 => ?_)
  ·try simp only [sx, List.length_map] at c2
   exact absurd c2 (by decide)
  ·try simp only [sx, List.length_map] at c2
   refine awp_skip ?_
   refine awp_seq ?_
   refine awp_region rfl ?_
   refine rwp_op rfl rfl (ope_alloc rfl zr31) ?_
   rintro _ _ ⟨b4, rfl, rfl⟩
   refine rwp_weak _ (weak_own 33 13) ?_
   refine rwp_op rfl rfl (ope_alloc rfl zr31) ?_
   rintro _ _ ⟨b6, rfl, rfl⟩
   refine rwp_weak _ (weak_own 33 13) ?_
   refine rwp_nil ?_
   refine awp_seq ?_
   refine awp_seq ?_
   refine awp_region rfl ?_
   refine rwp_det rfl rfl (det_load_agg rfl agg33 rfl (ptr_row 6 rfl) rfl) ?_
   refine rwp_det rfl rfl (det_call rfl ok28 (expr_Walk _) ⟨VLe.refl _, rfl, trivial⟩) ?_
   refine rwp_nil ?_
   refine awp_block ?_
   refine awp_range_g (ps := [21]) hz (Value) 4 rfl rfl ok88 (walk_iter e (by omega)) (fun _ _ => rfl) rfl (fun pre sv => True) (fun pre sv => [E.vec (.slice none 0 0) 33 13 ([]), E.row b6 31 [.lit (.slice none 0 0)], E.vec sv 33 13 (pre.map Ex.cells), E.row b4 31 [.lit sv]]) ⟨.slice none 0 0, trivial, rfl⟩ ?_ ?_
   ·intro pre x suf sv hxs hi z hz
    show AWP _ _ _ _ _ ⟨_, [E.vec (.slice none 0 0) 33 13 ([]), E.row b6 31 [.lit (.slice none 0 0)], E.vec sv 33 13 (pre.map Ex.cells), E.row b4 31 [.lit sv]] ++ _⟩
    have hlen := congrArg List.length hxs
    rw [List.length_append, List.length_cons] at hlen
    refine awp_region rfl ?_
    refine rwp_op rfl rfl (ope_allocN [none, none, none, none, none, none, none, none, none, none, some 2, some 4, some 13] rfl zr33 rfl) ?_
    rintro _ _ ⟨b8, rfl, rfl⟩
    refine rwp_det0 rfl rfl (det_store rfl sz33 rfl rfl rfl (st_row 0 rfl rfl)) ?_
    refine rwp_nil ?_
    intro z hz
    refine awp_block ?_
    refine awp_seq ?_
    refine awp_draw_c 8 0 [⟨0, .q [4]⟩, ⟨1, .q [0]⟩, ⟨2, .q [3]⟩, ⟨3, .q []⟩, ⟨4, .e 3 []⟩, ⟨5, .q [3]⟩, ⟨6, .w 3 []⟩, ⟨7, .e 4 []⟩] mixed (by kernel_rfl) (by kernel_rfl) rfl rfl rfl ?_
    refine fx_skip rfl ?_
    refine fx_skip rfl ?_
    refine fx_skip rfl ?_
    refine fx_skip rfl ?_
    refine fx_skip rfl ?_
    refine fx_skip rfl ?_
    refine fx_skip rfl ?_
    refine fx_skip rfl ?_
    refine fx_nil ?_
    refine sq_det rfl (by decide) rfl rfl (det_load_one rfl one31 rfl (ptr_row 0 rfl) rfl) ?_
    refine sq_det rfl (by decide) rfl rfl (det_load_agg rfl agg33 rfl (ptr_row 0 rfl) rfl) ?_
    refine sq_det rfl (by decide) rfl rfl (det_len_vec 0 rfl el31 rfl rfl) ?_
    refine sq_det rfl (by decide) rfl rfl (det_bslice rfl el31 zr33 rfl rfl rfl (rows_const rfl rfl)) ?_
    refine sq_op rfl rfl (by decide) rfl rfl (ope_append 0 rfl el31 rfl rfl rfl (by simp only [List.length_set, List.length_append, List.length_map, List.length_cons, List.length_nil]; omega) (by simp only [List.length_set, List.length_append, List.length_map, List.length_cons, List.length_nil]; omega)) ?_
    rintro _ _ ⟨sv9, rfl, rfl⟩
    refine ⟨_, rfl, ?_⟩
    refine sq_det rfl (by decide) rfl rfl (det_index_vec 0 rfl el31 rfl rfl rfl (by omega) (by simp only [List.length_append, List.length_map, List.length_cons, List.length_nil]; omega)) ?_
    refine sq_w0 rfl rfl (by decide) rfl rfl (det_store rfl sz33 rfl rfl rfl (st_vec 0 rfl (last_get (by simp)) rfl)) ?_
    refine sq_op0 rfl rfl (by decide) rfl rfl (det_store rfl sz31 rfl rfl rfl (st_row 0 rfl rfl)) ?_
    rintro _ _ ⟨rfl, rfl⟩
    refine ⟨_, rfl, ?_⟩
    refine sq_nil rfl ?_
    refine rwp_nil ?_
    refine awp_seq ?_
    refine awp_region rfl ?_
    refine rwp_det rfl rfl (det_load_one rfl one31 rfl (ptr_row 4 rfl) rfl) ?_
    refine rwp_det rfl rfl (det_len_vec 3 rfl el31 rfl rfl) ?_
    refine rwp_det rfl rfl (det_gtr rfl rfl rfl) ?_
    refine rwp_nil ?_
    refine awp_cond rfl (fun c3 => ?_) (fun c3 => ?_)
    ·try simp only [sx, List.length_map] at c3
     exact absurd c3 (by simp only [List.length_set, List.length_append, List.length_map, List.length_cons, List.length_nil]; omega)
    ·try simp only [sx, List.length_map] at c3
     refine awp_skip ?_
     exact round_fin (τ := ⟨[], _⟩) (Weak.mk [false, true, true, true, true, true, true, true] trivial rfl) ⟨_, trivial, (by exact mem4_eq (by rw [set_last (by simp), List.map_append]; simp only [List.map_cons, List.map_nil, Ex.cells_eq]; rfl))⟩
   ·intro sv hd
    refine awp_seq ?_
    refine awp_seq ?_
    refine awp_region rfl ?_
    refine rwp_det rfl rfl (det_load_agg rfl agg33 rfl (ptr_row 6 rfl) rfl) ?_
    refine rwp_det rfl rfl (det_call rfl ok28 (expr_Walk _) ⟨VLe.refl _, rfl, trivial⟩) ?_
    refine rwp_nil ?_
    refine awp_block ?_
    refine awp_weak _ (Weak.mem [true, true, true, true, true, true, false] rfl) ?_
    refine awp_range_gx (ps := [33]) hz (Value) 2 rfl rfl ok88 (walk_iter e (by omega)) (fun _ _ => rfl) rfl (fun pre sw => pre.length ≤ m) (fun pre sw => [E.vec sw 33 13 (pre.map Ex.cells), E.row b6 31 [.lit sw]]) (fun c pre sw => (c = .exit 2 ∧ pre.length = m + 1)) (fun c pre sw => [E.vec sw 33 13 ((pre.take m).map Ex.cells), E.row b6 31 [.lit sw]]) ⟨.slice none 0 0, (by simp), rfl⟩ ?_ ?_ ?_ ?_
    ·intro pre x suf sw hxs hi z hz
     show AWP _ _ _ _ _ ⟨_, [E.vec sw 33 13 (pre.map Ex.cells), E.row b6 31 [.lit sw]] ++ _⟩
     have hlen := congrArg List.length hxs
     rw [List.length_append, List.length_cons] at hlen
     refine awp_region rfl ?_
     refine rwp_op rfl rfl (ope_allocN [none, none, none, none, none, none, none, none, none, none, some 2, some 4, some 13] rfl zr33 rfl) ?_
     rintro _ _ ⟨b10, rfl, rfl⟩
     refine rwp_det0 rfl rfl (det_store rfl sz33 rfl rfl rfl (st_row 0 rfl rfl)) ?_
     refine rwp_nil ?_
     intro z hz
     refine awp_block ?_
     refine awp_seq ?_
     refine awp_seq ?_
     refine awp_region rfl ?_
     refine rwp_det rfl rfl (det_load_one rfl one31 rfl (ptr_row 2 rfl) rfl) ?_
     refine rwp_det rfl rfl (det_len_vec 1 rfl el31 rfl rfl) ?_
     refine rwp_det rfl rfl (det_load_one rfl one5 rfl (ptr_row 6 rfl) rfl) ?_
     refine rwp_det rfl rfl (det_conv rfl us5 ik3 rfl) ?_
     refine rwp_det rfl rfl (det_geq rfl rfl rfl) ?_
     refine rwp_nil ?_
     refine awp_cond rfl (fun c4 => ?_) (fun c4 => ?_)
     ·try simp only [sx, List.length_map] at c4
      rw [hw] at c4
      try simp only [List.length_map] at c4
      refine awp_exit ?_
      exact round_fin (τ := ⟨[], _⟩) (Weak.mk [false, true, true, true, true, true, true] trivial rfl) ⟨_, ⟨rfl, by simp; omega⟩, (by exact mem2_eq (by rw [List.take_append_of_le_length (by omega), List.take_of_length_le (by omega)]))⟩
     ·try simp only [sx, List.length_map] at c4
      rw [hw] at c4
      try simp only [List.length_map] at c4
      refine awp_skip ?_
      refine awp_draw_c 8 0 [⟨0, .q [2]⟩, ⟨1, .q [0]⟩, ⟨2, .q [1]⟩, ⟨3, .q []⟩, ⟨4, .e 1 []⟩, ⟨5, .q [1]⟩, ⟨6, .w 1 []⟩, ⟨7, .e 2 []⟩] mixed (by kernel_rfl) (by kernel_rfl) rfl rfl rfl ?_
      refine fx_skip rfl ?_
      refine fx_skip rfl ?_
      refine fx_skip rfl ?_
      refine fx_skip rfl ?_
      refine fx_skip rfl ?_
      refine fx_skip rfl ?_
      refine fx_skip rfl ?_
      refine fx_skip rfl ?_
      refine fx_nil ?_
      refine sq_det rfl (by decide) rfl rfl (det_load_one rfl one31 rfl (ptr_row 0 rfl) rfl) ?_
      refine sq_det rfl (by decide) rfl rfl (det_load_agg rfl agg33 rfl (ptr_row 0 rfl) rfl) ?_
      refine sq_det rfl (by decide) rfl rfl (det_len_vec 0 rfl el31 rfl rfl) ?_
      refine sq_det rfl (by decide) rfl rfl (det_bslice rfl el31 zr33 rfl rfl rfl (rows_const rfl rfl)) ?_
      refine sq_op rfl rfl (by decide) rfl rfl (ope_append 0 rfl el31 rfl rfl rfl (by simp only [List.length_set, List.length_append, List.length_map, List.length_cons, List.length_nil]; omega) (by simp only [List.length_set, List.length_append, List.length_map, List.length_cons, List.length_nil]; omega)) ?_
      rintro _ _ ⟨sv11, rfl, rfl⟩
      refine ⟨_, rfl, ?_⟩
      refine sq_det rfl (by decide) rfl rfl (det_index_vec 0 rfl el31 rfl rfl rfl (by omega) (by simp only [List.length_append, List.length_map, List.length_cons, List.length_nil]; omega)) ?_
      refine sq_w0 rfl rfl (by decide) rfl rfl (det_store rfl sz33 rfl rfl rfl (st_vec 0 rfl (last_get (by simp)) rfl)) ?_
      refine sq_op0 rfl rfl (by decide) rfl rfl (det_store rfl sz31 rfl rfl rfl (st_row 0 rfl rfl)) ?_
      rintro _ _ ⟨rfl, rfl⟩
      refine ⟨_, rfl, ?_⟩
      refine sq_nil rfl ?_
      refine rwp_nil ?_
      exact round_fin (τ := ⟨[], _⟩) (Weak.mk [false, true, true, true, true, true, true] trivial rfl) ⟨_, (by simp; omega), (by exact mem2_eq (by rw [set_last (by simp), List.map_append]; simp only [List.map_cons, List.map_nil, Ex.cells_eq]; rfl))⟩
    ·intro sw hd
     refine awp_seq ?_
     refine awp_draw_c 19 0 [⟨0, .q [3]⟩, ⟨1, .q []⟩, ⟨2, .q [2]⟩, ⟨3, .q []⟩, ⟨4, .q [1]⟩, ⟨5, .q [0]⟩, ⟨6, .q [5]⟩, ⟨7, .q []⟩, ⟨8, .q []⟩, ⟨9, .q []⟩, ⟨10, .q []⟩, ⟨11, .q []⟩, ⟨12, .q []⟩, ⟨13, .q []⟩, ⟨14, .q [1]⟩, ⟨15, .q []⟩, ⟨16, .q [1]⟩, ⟨17, .q [0]⟩, ⟨18, .q []⟩] mixed (by kernel_rfl) (by kernel_rfl) rfl rfl rfl ?_
     refine fx_skip rfl ?_
     refine fx_skip rfl ?_
     refine fx_skip rfl ?_
     refine fx_skip rfl ?_
     refine fx_skip rfl ?_
     refine fx_skip rfl ?_
     refine fx_skip rfl ?_
     refine fx_skip rfl ?_
     refine fx_skip rfl ?_
     refine fx_skip rfl ?_
     refine fx_skip rfl ?_
     refine fx_skip rfl ?_
     refine fx_skip rfl ?_
     refine fx_skip rfl ?_
     refine fx_skip rfl ?_
     refine fx_skip rfl ?_
     refine fx_skip rfl ?_
     refine fx_skip rfl ?_
     refine fx_skip rfl ?_
     refine fx_nil ?_
     refine sq_det rfl (by decide) rfl rfl (det_load_one rfl one31 rfl (ptr_row 0 rfl) rfl) ?_
     refine sq_det rfl (by decide) rfl rfl (det_move rfl rfl) ?_
     refine sq_det rfl (by decide) rfl rfl (det_call_lend 0 rfl ok29 rfl (base_Exprs _ _ (by have := nodesWt (l := nodes e) w1 (fun _ h => h); omega)) rfl ⟨.inl ⟨rfl, rfl⟩, .inr ⟨VLe.refl _, rfl⟩, trivial⟩) ?_
     refine sq_det rfl (by decide) rfl rfl (det_move rfl rfl) ?_
     refine sq_lazy [] rfl (by decide) rfl rfl rfl rfl gv1 trivial (fun g16_3 => det_load_one rfl one31 rfl (ptr_row 0 rfl) rfl) rfl ?_
     refine sq_lazy [(49, _)] rfl (by decide) rfl rfl rfl rfl gv1 ⟨rfl, rfl, trivial⟩ (fun g16_3 => det_len_vec 0 rfl el31 rfl rfl) rfl ?_
     refine sq_lazy [] rfl (by decide) rfl rfl rfl rfl gv1 trivial (fun g16_3 => det_load_one rfl one5 rfl (ptr_row 0 rfl) rfl) rfl ?_
     refine sq_lazy [(51, _)] rfl (by decide) rfl rfl rfl rfl gv1 ⟨rfl, rfl, trivial⟩ (fun g16_3 => det_conv rfl us5 ik3 rfl) rfl ?_
     refine sq_lazy [] rfl (by decide) rfl rfl rfl rfl gv1 trivial (fun g16_3 => det_move rfl rfl) rfl ?_
     refine sq_lazy [(53, _)] rfl (by decide) rfl rfl rfl rfl gv1 ⟨rfl, rfl, trivial⟩ (fun g16_3 => det_len_slm rfl el31 rfl) rfl ?_
     refine sq_lazy [(52, _), (54, _)] rfl (by decide) rfl rfl rfl rfl gv1 ⟨rfl, rfl, rfl, rfl, trivial⟩ (fun g16_3 => det_min rfl rfl rfl) rfl ?_
     refine sq_lazy [(50, _), (55, _)] rfl (by decide) rfl rfl rfl rfl gv1 ⟨rfl, rfl, rfl, rfl, trivial⟩ (fun g16_3 => det_eql rfl rfl rfl) rfl ?_
     refine sq_det rfl (by decide) rfl rfl (det_and rfl rfl rfl (fun h => h) rfl) ?_
     refine sq_det rfl (by decide) rfl rfl (det_move rfl rfl) ?_
     refine sq_lazy [] rfl (by decide) rfl rfl rfl rfl gv1 trivial (fun g16_13 => det_load_one rfl one31 rfl (ptr_row 0 rfl) rfl) rfl ?_
     refine sq_lazy [] rfl (by decide) rfl rfl rfl rfl gv1 trivial (fun g16_13 => det_move rfl rfl) rfl ?_
     refine sq_lazy [] rfl (by decide) rfl rfl rfl rfl gv1 trivial (fun g16_13 => det_load_one rfl one31 rfl (ptr_row 0 rfl) rfl) rfl ?_
     refine sq_lazy [(61, _)] rfl (by decide) rfl rfl rfl rfl gv1 ⟨rfl, rfl, trivial⟩ (fun g16_13 => det_len_vec 0 rfl el31 rfl rfl) rfl ?_
     refine sq_lazy [(60, _), (62, _)] rfl (by decide) rfl rfl rfl rfl gv1 ⟨rfl, rfl, rfl, rfl, trivial⟩ (fun g16_13 => det_cut_take rfl el31 rfl rfl (by first | exact Nat.le_of_eq (List.length_map ..) | (have hq := congrArg List.length hxs; simp only [List.length_map, List.length_take, List.length_append, List.length_cons, List.length_nil] at *; omega))) rfl ?_
     refine sq_nil rfl ?_
     refine rwp_lazy [(59, _), (63, _)] rfl rfl rfl rfl gv1 ⟨rfl, rfl, rfl, rfl, trivial⟩ (fun g16_13 => det_call_lend 0 rfl ok29 rfl (base_Exprs _ _ (by first | (have := nodesWt (l := nodes e) w1 (fun _ h => h); omega) | (have := nodesWt (l := (pre ++ [x]).take m) w1 (fun y hy => by have h2 := List.mem_of_mem_take hy; rw [hxs]; simp only [List.mem_append, List.mem_cons, List.not_mem_nil, or_false] at h2 ⊢; rcases h2 with h | h; exact .inl h; exact .inr (.inl h)); have hq := List.length_take_le m (pre ++ [x]); omega))) rfl ⟨.inl ⟨rfl, rfl⟩, .inr ⟨VLe.refl _, rfl⟩, trivial⟩) rfl ?_
     refine rwp_det rfl rfl (det_and rfl rfl rfl (fun h => h) rfl) ?_
     refine rwp_det rfl rfl (det_move rfl rfl) ?_
     refine rwp_lazy [] rfl rfl rfl rfl gv1 trivial (fun g16_21 => det_call rfl ok23 law14_live trivial) rfl ?_
     refine rwp_det rfl rfl (det_and rfl rfl rfl (fun h => h) rfl) ?_
     refine rwp_det0 rfl rfl (det_store rfl sz4 rfl rfl rfl (st_row 4 rfl rfl)) ?_
     refine rwp_nil ?_
     refine awp_ret ?_
     repeat (first | refine thenQ_ret ?_ | refine blockQ_ret ?_)
     refine fin1 (rs_cell_one one4 rfl (ptr_row 4 rfl) rfl) ?_
     exact congrArg vB (walks_done hw hd)
    ·rintro pre x suf sw hxs hx
     rcases hx with ⟨hc, hx⟩
     cases hc
    ·rintro i pre x suf sw hxs hx
     rcases hx with ⟨hc, hx⟩
     injection hc with hc
     subst hc
     refine awp_seq ?_
     refine awp_draw_c 19 0 [⟨0, .q [3]⟩, ⟨1, .q []⟩, ⟨2, .q [2]⟩, ⟨3, .q []⟩, ⟨4, .q [1]⟩, ⟨5, .q [0]⟩, ⟨6, .q [5]⟩, ⟨7, .q []⟩, ⟨8, .q []⟩, ⟨9, .q []⟩, ⟨10, .q []⟩, ⟨11, .q []⟩, ⟨12, .q []⟩, ⟨13, .q []⟩, ⟨14, .q [1]⟩, ⟨15, .q []⟩, ⟨16, .q [1]⟩, ⟨17, .q [0]⟩, ⟨18, .q []⟩] mixed (by kernel_rfl) (by kernel_rfl) rfl rfl rfl ?_
     refine fx_skip rfl ?_
     refine fx_skip rfl ?_
     refine fx_skip rfl ?_
     refine fx_skip rfl ?_
     refine fx_skip rfl ?_
     refine fx_skip rfl ?_
     refine fx_skip rfl ?_
     refine fx_skip rfl ?_
     refine fx_skip rfl ?_
     refine fx_skip rfl ?_
     refine fx_skip rfl ?_
     refine fx_skip rfl ?_
     refine fx_skip rfl ?_
     refine fx_skip rfl ?_
     refine fx_skip rfl ?_
     refine fx_skip rfl ?_
     refine fx_skip rfl ?_
     refine fx_skip rfl ?_
     refine fx_skip rfl ?_
     refine fx_nil ?_
     refine sq_det rfl (by decide) rfl rfl (det_load_one rfl one31 rfl (ptr_row 0 rfl) rfl) ?_
     refine sq_det rfl (by decide) rfl rfl (det_move rfl rfl) ?_
     refine sq_det rfl (by decide) rfl rfl (det_call_lend 0 rfl ok29 rfl (base_Exprs _ _ (by have := nodesWt (l := nodes e) w1 (fun _ h => h); omega)) rfl ⟨.inl ⟨rfl, rfl⟩, .inr ⟨VLe.refl _, rfl⟩, trivial⟩) ?_
     refine sq_det rfl (by decide) rfl rfl (det_move rfl rfl) ?_
     refine sq_lazy [] rfl (by decide) rfl rfl rfl rfl gv1 trivial (fun g16_3 => det_load_one rfl one31 rfl (ptr_row 0 rfl) rfl) rfl ?_
     refine sq_lazy [(49, _)] rfl (by decide) rfl rfl rfl rfl gv1 ⟨rfl, rfl, trivial⟩ (fun g16_3 => det_len_vec 0 rfl el31 rfl rfl) rfl ?_
     refine sq_lazy [] rfl (by decide) rfl rfl rfl rfl gv1 trivial (fun g16_3 => det_load_one rfl one5 rfl (ptr_row 0 rfl) rfl) rfl ?_
     refine sq_lazy [(51, _)] rfl (by decide) rfl rfl rfl rfl gv1 ⟨rfl, rfl, trivial⟩ (fun g16_3 => det_conv rfl us5 ik3 rfl) rfl ?_
     refine sq_lazy [] rfl (by decide) rfl rfl rfl rfl gv1 trivial (fun g16_3 => det_move rfl rfl) rfl ?_
     refine sq_lazy [(53, _)] rfl (by decide) rfl rfl rfl rfl gv1 ⟨rfl, rfl, trivial⟩ (fun g16_3 => det_len_slm rfl el31 rfl) rfl ?_
     refine sq_lazy [(52, _), (54, _)] rfl (by decide) rfl rfl rfl rfl gv1 ⟨rfl, rfl, rfl, rfl, trivial⟩ (fun g16_3 => det_min rfl rfl rfl) rfl ?_
     refine sq_lazy [(50, _), (55, _)] rfl (by decide) rfl rfl rfl rfl gv1 ⟨rfl, rfl, rfl, rfl, trivial⟩ (fun g16_3 => det_eql rfl rfl rfl) rfl ?_
     refine sq_det rfl (by decide) rfl rfl (det_and rfl rfl rfl (fun h => h) rfl) ?_
     refine sq_det rfl (by decide) rfl rfl (det_move rfl rfl) ?_
     refine sq_lazy [] rfl (by decide) rfl rfl rfl rfl gv1 trivial (fun g16_13 => det_load_one rfl one31 rfl (ptr_row 0 rfl) rfl) rfl ?_
     refine sq_lazy [] rfl (by decide) rfl rfl rfl rfl gv1 trivial (fun g16_13 => det_move rfl rfl) rfl ?_
     refine sq_lazy [] rfl (by decide) rfl rfl rfl rfl gv1 trivial (fun g16_13 => det_load_one rfl one31 rfl (ptr_row 0 rfl) rfl) rfl ?_
     refine sq_lazy [(61, _)] rfl (by decide) rfl rfl rfl rfl gv1 ⟨rfl, rfl, trivial⟩ (fun g16_13 => det_len_vec 0 rfl el31 rfl rfl) rfl ?_
     refine sq_lazy [(60, _), (62, _)] rfl (by decide) rfl rfl rfl rfl gv1 ⟨rfl, rfl, rfl, rfl, trivial⟩ (fun g16_13 => det_cut_take rfl el31 rfl rfl (by first | exact Nat.le_of_eq (List.length_map ..) | (have hq := congrArg List.length hxs; simp only [List.length_map, List.length_take, List.length_append, List.length_cons, List.length_nil] at *; omega))) rfl ?_
     refine sq_nil rfl ?_
     refine rwp_lazy [(59, _), (63, _)] rfl rfl rfl rfl gv1 ⟨rfl, rfl, rfl, rfl, trivial⟩ (fun g16_13 => det_call_lend 0 rfl ok29 rfl (base_Exprs _ _ (by first | (have := nodesWt (l := nodes e) w1 (fun _ h => h); omega) | (have := nodesWt (l := (pre ++ [x]).take m) w1 (fun y hy => by have h2 := List.mem_of_mem_take hy; rw [hxs]; simp only [List.mem_append, List.mem_cons, List.not_mem_nil, or_false] at h2 ⊢; rcases h2 with h | h; exact .inl h; exact .inr (.inl h)); have hq := List.length_take_le m (pre ++ [x]); omega))) rfl ⟨.inl ⟨rfl, rfl⟩, .inr ⟨VLe.refl _, rfl⟩, trivial⟩) rfl ?_
     refine rwp_det rfl rfl (det_and rfl rfl rfl (fun h => h) rfl) ?_
     refine rwp_det rfl rfl (det_move rfl rfl) ?_
     refine rwp_lazy [] rfl rfl rfl rfl gv1 trivial (fun g16_21 => det_call rfl ok23 law14_live trivial) rfl ?_
     refine rwp_det rfl rfl (det_and rfl rfl rfl (fun h => h) rfl) ?_
     refine rwp_det0 rfl rfl (det_store rfl sz4 rfl rfl rfl (st_row 4 rfl rfl)) ?_
     refine rwp_nil ?_
     refine awp_ret ?_
     repeat (first | refine thenQ_ret ?_ | refine blockQ_ret ?_)
     refine fin1 (rs_cell_one one4 rfl (ptr_row 4 rfl) rfl) ?_
     exact congrArg vB (walks_exit hw hxs hx)

end Go.W
