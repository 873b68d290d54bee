/-
  Walks: what functions of the program compute. Printed by wip/gen/mk2.py.
  Conditions: none.
-/
import Derived.Test.YticdknfcoinbaaaGreatDoorWV
import Derived.Test.YticdknfcoinbaaaGreatDoorPlain
set_option linter.unusedSimpArgs false
set_option linter.unusedVariables false
namespace Go.W
open Go Go.Eng Go.Proofs Go.L41 Go.Br
attribute [local irreducible] AWP RWP TD
theorem ok31 : callOk Tryz.prog 31 = true := by kernel_rfl
theorem law_ProgramPrefixes (p : Pg) (n : Nat) (hF : p.Fit) (hn : n < 256) :
    Pur cfg 8 [vPg p, .c (.lit (.int .u8 n))] (vB true) := by
 refine con_intro Tryz.func8 rfl Tryz.ntmps8 Tryz.results8 rfl ?_
 intro z hz
 have hw : IntKind.i64.wrap (n : Int) = n := IntWalk.i64_in _ ⟨by omega, by omega⟩
 refine awp_seq ?_
 refine awp_region rfl ?_
 refine rwp_op rfl rfl (ope_box rfl rfl) ?_
 rintro _ _ ⟨b1, rfl, rfl⟩
 refine rwp_det rfl rfl (det_assign rfl rfl) ?_
 refine rwp_nil ?_
 refine awp_seq ?_
 refine awp_seq ?_
 refine awp_region rfl ?_
 refine rwp_det rfl rfl (det_load_agg rfl agg27 rfl (ptr_row 0 rfl) rfl) ?_
 refine rwp_det rfl rfl (det_call rfl ok11 (ref17_Long p 300 hF (by omega)) ⟨VLe.refl _, rfl, VLe.refl _, rfl, trivial⟩) ?_
 refine rwp_nil ?_
 refine awp_cond rfl (fun c1 => ?_) (fun c1 => ?_)
 ·try simp only [sx, List.length_map] at c1
  refine awp_seq ?_
  refine awp_region rfl ?_
  refine rwp_det rfl rfl (det_call rfl ok12 law17_examples trivial) ?_
  refine rwp_det rfl rfl (det_assign rfl rfl) ?_
  refine rwp_nil ?_
  refine awp_ret ?_
  repeat (first | refine thenQ_ret ?_ | refine blockQ_ret ?_)
  refine fin1 (rs_c rfl) ?_
  exact rfl
 ·try simp only [sx, List.length_map] at c1
  have hS := long_short c1
  have hP := hS.ok
  have hd12 := hS.defs
  refine awp_skip ?_
  refine awp_seq ?_
  refine awp_seq ?_
  refine awp_region rfl ?_
  refine rwp_det rfl rfl (det_load_agg rfl agg27 rfl (ptr_row 0 rfl) rfl) ?_
  refine rwp_det rfl rfl (det_call rfl ok13 (program_Validate p hP) ⟨VLe.refl _, rfl, trivial⟩) ?_
  refine rwp_det rfl rfl (det_move_tup rfl rfl) ?_
  refine rwp_det rfl rfl (det_ex_c rfl rfl rfl) ?_
  refine rwp_det rfl rfl (det_ex_c rfl rfl rfl) ?_
  refine rwp_det rfl rfl (det_assign rfl rfl) ?_
  refine rwp_det rfl rfl (det_assign rfl rfl) ?_
  refine rwp_nil ?_
  refine awp_seq ?_
  refine awp_region rfl ?_
  refine rwp_det rfl rfl (det_move rfl rfl) ?_
  refine rwp_det rfl rfl (det_neq rfl rfl rfl) ?_
  refine rwp_nil ?_
  refine awp_cond rfl (fun c2 => ?_) (fun c2 => ?_)
  ·try simp only [sx, List.length_map] at c2
   refine awp_seq ?_
   refine awp_region rfl ?_
   refine rwp_det rfl rfl (det_call rfl ok12 law17_examples trivial) ?_
   refine rwp_det rfl rfl (det_assign rfl rfl) ?_
   refine rwp_nil ?_
   refine awp_ret ?_
   repeat (first | refine thenQ_ret ?_ | refine blockQ_ret ?_)
   refine fin1 (rs_c rfl) ?_
   exact rfl
  ·try simp only [sx, List.length_map] at c2
   have hv2 : (validM p).2 = 0 := c2
   refine awp_skip ?_
   refine awp_seq ?_
   refine awp_region rfl ?_
   refine rwp_det rfl rfl (det_move rfl rfl) ?_
   refine rwp_det rfl rfl (det_conv rfl us5 ik3 rfl) ?_
   refine rwp_det rfl rfl (det_field_lit rfl fd27_3 rfl) ?_
   refine rwp_det rfl rfl (det_load_one rfl one25 rfl (ptr_row 0 rfl) rfl) ?_
   refine rwp_det rfl rfl (det_len_slm rfl el25 rfl) ?_
   refine rwp_det rfl rfl (det_add_nw rfl rfl rfl ⟨by omega, by omega⟩) ?_
   refine rwp_det rfl rfl (det_rem rfl rfl rfl (by omega)) ?_
   refine rwp_det rfl rfl (det_assign rfl rfl) ?_
   refine rwp_nil ?_
   refine awp_seq ?_
   refine awp_draw_c 12 1 [⟨0, .q []⟩, ⟨1, .q [1]⟩, ⟨2, .q []⟩, ⟨3, .q [1]⟩, ⟨4, .q []⟩, ⟨5, .q [1]⟩, ⟨6, .q []⟩, ⟨7, .q [1]⟩, ⟨8, .q []⟩, ⟨9, .q []⟩, ⟨10, .q []⟩, ⟨11, .f 0⟩] mixed (by kernel_rfl) (by kernel_rfl) rfl rfl rfl ?_
   refine fx_skip rfl ?_
   refine fx_skip rfl ?_
   refine fx_skip rfl ?_
   refine fx_skip rfl ?_
   refine fx_skip rfl ?_
   refine fx_skip rfl ?_
   refine fx_skip rfl ?_
   refine fx_skip rfl ?_
   refine fx_skip rfl ?_
   refine fx_skip rfl ?_
   refine fx_skip rfl ?_
   refine fx_fresh rfl rfl (fresh_alloc' (ope_allocN [some 1, some 3, some 7, some 22, some 1] rfl zr27 rfl)) ?_
   refine fx_nil ?_
   refine sq_det rfl (by decide) rfl rfl (det_field_lit rfl fd27_0 rfl) ?_
   refine sq_det rfl (by decide) rfl rfl (det_load_one rfl one22 rfl (ptr_row 0 rfl) rfl) ?_
   refine sq_det rfl (by decide) rfl rfl (det_field_lit rfl fd27_1 rfl) ?_
   refine sq_det rfl (by decide) rfl rfl (det_load_one rfl one23 rfl (ptr_row 0 rfl) rfl) ?_
   refine sq_det rfl (by decide) rfl rfl (det_field_lit rfl fd27_2 rfl) ?_
   refine sq_det rfl (by decide) rfl rfl (det_load_one rfl one24 rfl (ptr_row 0 rfl) rfl) ?_
   refine sq_det rfl (by decide) rfl rfl (det_field_lit rfl fd27_3 rfl) ?_
   refine sq_det rfl (by decide) rfl rfl (det_load_one rfl one25 rfl (ptr_row 0 rfl) rfl) ?_
   refine sq_det rfl (by decide) rfl rfl (det_move rfl rfl) ?_
   refine sq_det rfl (by decide) rfl rfl (det_cut_take (k := (n % (p.Defs.length + 1))) rfl el25 rfl (by show V.c (.lit (.int .i64 (Int.tmod _ _))) = _; rw [hw]; rfl) (by have := Nat.mod_lt n (show 0 < p.Defs.length + 1 by omega); omega)) ?_
   refine sq_det rfl (by decide) rfl rfl (det_buildN [none, none, none, none, some 1] rfl zr27 pl27 rfl rfl) ?_
   refine sq_fresh rfl rfl ?_
   rintro _ _ ⟨b2, rfl, rfl⟩
   refine sq_nil rfl ?_
   refine rwp_det0 rfl rfl (det_store rfl sz27 rfl rfl rfl (st_row 0 rfl rfl)) ?_
   refine rwp_nil ?_
   refine awp_seq ?_
   refine awp_seq ?_
   refine awp_region rfl ?_
   refine rwp_det rfl rfl (det_load_agg rfl agg27 rfl (ptr_row 0 rfl) rfl) ?_
   refine rwp_det rfl rfl (det_call rfl ok13 (program_Validate (preP p (n % (p.Defs.length + 1))) (preP_ok hP _)) ⟨VLe.refl _, rfl, trivial⟩) ?_
   refine rwp_det rfl rfl (det_move_tup rfl rfl) ?_
   refine rwp_det rfl rfl (det_ex_c rfl rfl rfl) ?_
   refine rwp_det rfl rfl (det_ex_c rfl rfl rfl) ?_
   refine rwp_det rfl rfl (det_assign rfl rfl) ?_
   refine rwp_det rfl rfl (det_assign rfl rfl) ?_
   refine rwp_nil ?_
   refine awp_seq ?_
   refine awp_region rfl ?_
   refine rwp_det rfl rfl (det_move rfl rfl) ?_
   refine rwp_det rfl rfl (det_neq rfl rfl rfl) ?_
   refine rwp_det rfl rfl (det_move rfl rfl) ?_
   refine rwp_lazy [] rfl rfl rfl rfl gv1 trivial (fun g9_2 => det_move rfl rfl) rfl ?_
   refine rwp_lazy [(57, _)] rfl rfl rfl rfl gv1 ⟨rfl, rfl, trivial⟩ (fun g9_2 => det_neq rfl rfl rfl) rfl ?_
   refine rwp_det rfl rfl (det_or rfl rfl rfl rfl (fun h => (lzf h))) ?_
   refine rwp_nil ?_
   refine awp_cond rfl (fun c3 => ?_) (fun c3 => ?_)
   ·try simp only [sx, List.length_map] at c3
    refine awp_seq ?_
    refine awp_region rfl ?_
    refine rwp_det rfl rfl (det_assign rfl rfl) ?_
    refine rwp_nil ?_
    refine awp_ret ?_
    repeat (first | refine thenQ_ret ?_ | refine blockQ_ret ?_)
    refine fin1 (rs_c rfl) ?_
    rw [pre_valid hv2] at c3
    simp at c3
   ·try simp only [sx, List.length_map] at c3
    refine awp_skip ?_
    refine awp_seq ?_
    refine awp_seq ?_
    refine awp_region rfl ?_
    refine rwp_det rfl rfl (det_assign rfl rfl) ?_
    refine rwp_nil ?_
    refine awp_block ?_
    refine awp_weak ⟨[(11, .c _), (2, .c _)], [_]⟩ (Weak.mk [false, true] ⟨VLe.of_eq rfl, VLe.of_eq rfl, trivial⟩ rfl) ?_
    refine awp_loop_k 1 0 rfl rfl (Nat) (fun k => [(11, vI k)]) (fun k => []) (fun k => k ≤ p.Defs.length) (fun k => p.Defs.length - k) ⟨0, (by omega), Weak.mk [true] ⟨VLe.refl _, VLe.refl _, trivial⟩ rfl⟩ ?_
    rintro k hk
    refine awp_seq ?_
    refine awp_seq ?_
    refine awp_region rfl ?_
    refine rwp_det rfl rfl (det_move rfl rfl) ?_
    refine rwp_det rfl rfl (det_field_lit rfl fd27_3 rfl) ?_
    refine rwp_det rfl rfl (det_load_one rfl one25 rfl (ptr_row 0 rfl) rfl) ?_
    refine rwp_det rfl rfl (det_len_slm rfl el25 rfl) ?_
    refine rwp_det rfl rfl (det_lss rfl rfl rfl) ?_
    refine rwp_nil ?_
    refine awp_cond rfl (fun c4 => ?_) (fun c4 => ?_)
    ·try simp only [sx, List.length_map] at c4
     obtain ⟨x, hx⟩ := ex_get p.Defs k (by omega)
     obtain ⟨hd1, hd2, _, _, hd3⟩ := hS.ds x (mem_of_get hx)
     have hnl : (namesD x).length ≤ 24 := by rw [namesD, List.length_append, List.length_map, List.length_map]; omega
     obtain ⟨ht, hi, hr⟩ := pre_def hv2 hx
     have hrl := readsT_len x.Body
     refine awp_skip ?_
     refine awp_seq ?_
     refine awp_block ?_
     refine awp_seq ?_
     refine awp_region rfl ?_
     refine rwp_det rfl rfl (det_field_lit rfl fd27_3 rfl) ?_
     refine rwp_det rfl rfl (det_load_one rfl one25 rfl (ptr_row 0 rfl) rfl) ?_
     refine rwp_det rfl rfl (det_move rfl rfl) ?_
     refine rwp_det rfl rfl (det_index_sl rfl el25 rfl rfl (by omega) (getm (by assumption))) ?_
     refine rwp_det rfl rfl (det_load_agg rfl agg63 rfl ptr_imm rfl) ?_
     refine rwp_op rfl rfl (ope_allocN [none, none, none, none, none, none, some 3, some 3, none, none, none, none, none, none, none, none, none, none, none, some 2, some 4, some 13] rfl zr63 rfl) ?_
     rintro _ _ ⟨b3, rfl, rfl⟩
     refine rwp_det0 rfl rfl (det_store rfl sz63 rfl rfl rfl (st_row 0 rfl rfl)) ?_
     refine rwp_nil ?_
     refine awp_seq ?_
     refine awp_draw_c 11 1 [⟨0, .q [2]⟩, ⟨1, .q [1]⟩, ⟨2, .q []⟩, ⟨3, .q []⟩, ⟨4, .q [1]⟩, ⟨5, .q []⟩, ⟨6, .q []⟩, ⟨7, .q []⟩, ⟨8, .q []⟩, ⟨9, .e 0 []⟩, ⟨10, .e 0 []⟩] mixed (by kernel_rfl) (by kernel_rfl) rfl rfl rfl ?_
     refine fx_skip rfl ?_
     refine fx_skip rfl ?_
     refine fx_skip rfl ?_
     refine fx_skip rfl ?_
     refine fx_skip rfl ?_
     refine fx_skip rfl ?_
     refine fx_skip rfl ?_
     refine fx_skip rfl ?_
     refine fx_skip rfl ?_
     refine fx_skip rfl ?_
     refine fx_skip rfl ?_
     refine fx_nil ?_
     refine sq_det rfl (by decide) rfl rfl (det_load_agg rfl agg27 rfl (ptr_row 0 rfl) rfl) ?_
     refine sq_det rfl (by decide) rfl rfl (det_load_agg rfl agg63 rfl (ptr_row 0 rfl) rfl) ?_
     refine sq_det rfl (by decide) rfl rfl (det_call rfl ok28 (OwnR.pur (program_IndexNames x (by omega) (by omega))) ⟨VLe.refl _, rfl, trivial⟩) ?_
     refine sq_det rfl (by decide) rfl rfl (det_field_lit rfl fd63_5 rfl) ?_
     refine sq_det rfl (by decide) rfl rfl (det_load_agg rfl agg46 rfl (ptr_row 0 rfl) rfl) ?_
     refine sq_det rfl (by decide) rfl rfl (det_call rfl ok16 (program_TypeOf p (namesD x) x.Body hP (by omega) (by omega)) ⟨VLe.refl _, rfl, VLe.refl _, rfl, VLe.refl _, rfl, trivial⟩) ?_
     refine sq_det rfl (by decide) rfl rfl (det_move_tup rfl rfl) ?_
     refine sq_det rfl (by decide) rfl rfl (det_ex_agg rfl rfl rfl) ?_
     refine sq_det rfl (by decide) rfl rfl (det_ex_c rfl rfl rfl) ?_
     refine sq_op rfl rfl (by decide) rfl rfl (ope_alloc rfl zr39) ?_
     rintro _ _ ⟨b4, rfl, rfl⟩
     refine ⟨_, rfl, ?_⟩
     refine sq_op0 rfl rfl (by decide) rfl rfl (det_store rfl sz39 rfl rfl rfl (st_row 0 rfl rfl)) ?_
     rintro _ _ ⟨rfl, rfl⟩
     refine ⟨_, rfl, ?_⟩
     refine sq_nil rfl ?_
     refine rwp_det rfl rfl (det_assign rfl rfl) ?_
     refine rwp_nil ?_
     refine awp_seq ?_
     refine awp_seq ?_
     refine awp_region rfl ?_
     refine rwp_det rfl rfl (det_move rfl rfl) ?_
     refine rwp_det rfl rfl (det_neq rfl rfl rfl) ?_
     refine rwp_det rfl rfl (det_move rfl rfl) ?_
     refine rwp_lazy [] rfl rfl rfl rfl gv1 trivial (fun g16_2 => det_load_agg rfl agg39 rfl (ptr_row 0 rfl) rfl) rfl ?_
     refine rwp_lazy [] rfl rfl rfl rfl gv1 trivial (fun g16_2 => det_field_lit rfl fd63_1 rfl) rfl ?_
     refine rwp_lazy [(85, _)] rfl rfl rfl rfl gv1 ⟨rfl, rfl, trivial⟩ (fun g16_2 => det_load_agg rfl agg39 rfl (ptr_row 1 rfl) rfl) rfl ?_
     refine rwp_lazy [(84, _), (86, _)] rfl rfl rfl rfl gv1 ⟨rfl, rfl, rfl, rfl, trivial⟩ (fun g16_2 => det_aneq rfl fl39 rfl rfl rfl) rfl ?_
     refine rwp_det rfl rfl (det_or rfl rfl rfl rfl (fun h => (lzf h))) ?_
     refine rwp_det rfl rfl (det_move rfl rfl) ?_
     refine rwp_lazy [] rfl rfl rfl rfl gv1 trivial (fun g16_8 => det_load_agg rfl agg27 rfl (ptr_row 2 rfl) rfl) rfl ?_
     refine rwp_lazy [] rfl rfl rfl rfl gv1 trivial (fun g16_8 => det_field_lit rfl fd63_0 rfl) rfl ?_
     refine rwp_lazy [(91, _)] rfl rfl rfl rfl gv1 ⟨rfl, rfl, trivial⟩ (fun g16_8 => det_load_one rfl one9 rfl (ptr_row 1 rfl) rfl) rfl ?_
     refine rwp_lazy [(90, _), (92, _)] rfl rfl rfl rfl gv1 ⟨rfl, rfl, rfl, rfl, trivial⟩ (fun g16_8 => det_call rfl ok25 (program_IndexOf _ _ (by omega)) ⟨VLe.refl _, rfl, VLe.refl _, rfl, trivial⟩) rfl ?_
     refine rwp_lazy [] rfl rfl rfl rfl gv1 trivial (fun g16_8 => det_move rfl rfl) rfl ?_
     refine rwp_lazy [(93, _), (94, _)] rfl rfl rfl rfl gv1 ⟨rfl, rfl, rfl, rfl, trivial⟩ (fun g16_8 => det_neq rfl rfl rfl) rfl ?_
     refine rwp_det rfl rfl (det_or rfl rfl rfl rfl (fun h => (lzf h))) ?_
     refine rwp_nil ?_
     refine awp_cond rfl (fun c5 => ?_) (fun c5 => ?_)
     ·try simp only [sx, List.length_map] at c5
      refine awp_seq ?_
      refine awp_region rfl ?_
      refine rwp_det rfl rfl (det_assign rfl rfl) ?_
      refine rwp_nil ?_
      refine awp_ret ?_
      repeat (first | refine thenQ_ret ?_ | refine blockQ_ret ?_)
      refine fin1 (rs_c rfl) ?_
      rw [ht, hi] at c5
      rcases c5 with (c | c) | c
      · exact absurd rfl c
      · have h6 := tyC_eq x.T x.T
        rw [decide_eq_true rfl] at h6
        exact absurd (h6.symm.trans c) (by decide)
      · exact absurd rfl c
     ·try simp only [sx, List.length_map] at c5
      refine awp_skip ?_
      refine awp_seq ?_
      refine awp_region rfl ?_
      refine rwp_det rfl rfl (det_field_lit rfl fd63_5 rfl) ?_
      refine rwp_det rfl rfl (det_load_agg rfl agg46 rfl (ptr_row 1 rfl) rfl) ?_
      refine rwp_det rfl rfl (det_call rfl ok31 (OwnR.pur (expr_Reads x.Body (by omega))) ⟨VLe.refl _, rfl, trivial⟩) ?_
      refine rwp_det rfl rfl (det_assign rfl rfl) ?_
      refine rwp_nil ?_
      refine awp_seq ?_
      refine awp_region rfl ?_
      refine rwp_det rfl rfl (det_assign rfl rfl) ?_
      refine rwp_nil ?_
      refine awp_block ?_
      refine awp_weak ⟨[(16, .c _), (2, .c _), (11, .c _), (15, .c _)], [_]⟩ (Weak.mk [false, false, true] ⟨VLe.of_eq rfl, VLe.of_eq rfl, VLe.of_eq rfl, VLe.of_eq rfl, trivial⟩ rfl) ?_
      refine awp_loop_k 1 0 rfl rfl (Nat) (fun j => [(16, vI j)]) (fun j => []) (fun j => j ≤ (readsT x.Body).length) (fun j => (readsT x.Body).length - j) ⟨0, (by omega), Weak.mk [true] ⟨VLe.refl _, VLe.refl _, VLe.refl _, VLe.refl _, trivial⟩ rfl⟩ ?_
      rintro j hk
      refine awp_seq ?_
      refine awp_seq ?_
      refine awp_region rfl ?_
      refine rwp_det rfl rfl (det_move rfl rfl) ?_
      refine rwp_det rfl rfl (det_move rfl rfl) ?_
      refine rwp_det rfl rfl (det_len_slm rfl el22 rfl) ?_
      refine rwp_det rfl rfl (det_lss rfl rfl rfl) ?_
      refine rwp_nil ?_
      refine awp_cond rfl (fun c6 => ?_) (fun c6 => ?_)
      ·try simp only [sx, List.length_map] at c6
       obtain ⟨s, hs⟩ := ex_get (readsT x.Body) j (by omega)
       obtain ⟨hf, hl⟩ := hr s (mem_of_get hs)
       refine awp_skip ?_
       refine awp_seq ?_
       refine awp_block ?_
       refine awp_seq ?_
       refine awp_draw_c 13 1 [⟨0, .q [1]⟩, ⟨1, .q []⟩, ⟨2, .q []⟩, ⟨3, .q []⟩, ⟨4, .q []⟩, ⟨5, .q []⟩, ⟨6, .q []⟩, ⟨7, .q []⟩, ⟨8, .q []⟩, ⟨9, .q []⟩, ⟨10, .e 0 []⟩, ⟨11, .e 0 []⟩, ⟨12, .q []⟩] mixed (by kernel_rfl) (by kernel_rfl) rfl rfl rfl ?_
       refine fx_skip rfl ?_
       refine fx_skip rfl ?_
       refine fx_skip rfl ?_
       refine fx_skip rfl ?_
       refine fx_skip rfl ?_
       refine fx_skip rfl ?_
       refine fx_skip rfl ?_
       refine fx_skip rfl ?_
       refine fx_skip rfl ?_
       refine fx_skip rfl ?_
       refine fx_skip rfl ?_
       refine fx_skip rfl ?_
       refine fx_skip rfl ?_
       refine fx_nil ?_
       refine sq_det rfl (by decide) rfl rfl (det_load_agg rfl agg27 rfl (ptr_row 0 rfl) rfl) ?_
       refine sq_det rfl (by decide) rfl rfl (det_move rfl rfl) ?_
       refine sq_det rfl (by decide) rfl rfl (det_move rfl rfl) ?_
       refine sq_det rfl (by decide) rfl rfl (det_index_sl rfl el22 rfl rfl (by omega) (getm (by assumption))) ?_
       refine sq_det rfl (by decide) rfl rfl (det_load_one rfl one9 rfl ptr_imm rfl) ?_
       refine sq_det rfl (by decide) rfl rfl (det_call rfl ok22 (program_Find p s hP) ⟨VLe.refl _, rfl, VLe.refl _, rfl, trivial⟩) ?_
       refine sq_det rfl (by decide) rfl rfl (det_move_tup rfl rfl) ?_
       refine sq_det rfl (by decide) rfl rfl (det_ex_agg rfl rfl rfl) ?_
       refine sq_det rfl (by decide) rfl rfl (det_ex_c rfl rfl rfl) ?_
       refine sq_det rfl (by decide) rfl rfl (det_ex_c rfl rfl rfl) ?_
       refine sq_op rfl rfl (by decide) rfl rfl (ope_alloc rfl zr39) ?_
       rintro _ _ ⟨b5, rfl, rfl⟩
       refine ⟨_, rfl, ?_⟩
       refine sq_op0 rfl rfl (by decide) rfl rfl (det_store rfl sz39 rfl rfl rfl (st_row 0 rfl rfl)) ?_
       rintro _ _ ⟨rfl, rfl⟩
       refine ⟨_, rfl, ?_⟩
       refine sq_det rfl (by decide) rfl rfl (det_assign rfl rfl) ?_
       refine sq_nil rfl ?_
       refine rwp_det rfl rfl (det_assign rfl rfl) ?_
       refine rwp_nil ?_
       refine awp_seq ?_
       refine awp_draw 12 mixed (by kernel_rfl) rfl rfl ?_
       refine td_det rfl rfl (det_move rfl rfl) ?_
       refine td_det rfl rfl (det_not rfl rfl) ?_
       refine td_det rfl rfl (det_move rfl rfl) ?_
       refine td_lazy [] rfl rfl rfl rfl gv1 trivial (fun g23_2 => det_load_agg rfl agg27 rfl (ptr_row 1 rfl) rfl) rfl ?_
       refine td_lazy [] rfl rfl rfl rfl gv1 trivial (fun g23_2 => det_move rfl rfl) rfl ?_
       refine td_lazy [] rfl rfl rfl rfl gv1 trivial (fun g23_2 => det_move rfl rfl) rfl ?_
       refine td_lazy [(120, _), (121, _)] rfl rfl rfl rfl gv1 ⟨rfl, rfl, rfl, rfl, trivial⟩ (fun g23_2 => det_index_sl rfl el22 rfl rfl (by omega) (getm (by assumption))) rfl ?_
       refine td_lazy [(122, _)] rfl rfl rfl rfl gv1 ⟨rfl, rfl, trivial⟩ (fun g23_2 => det_load_one rfl one9 rfl ptr_imm rfl) rfl ?_
       refine td_lazy [(119, _), (123, _)] rfl rfl rfl rfl gv1 ⟨rfl, rfl, rfl, rfl, trivial⟩ (fun g23_2 => det_call rfl ok25 (program_IndexOf p s hP.defs) ⟨VLe.refl _, rfl, VLe.refl _, rfl, trivial⟩) rfl ?_
       refine td_lazy [] rfl rfl rfl rfl gv1 trivial (fun g23_2 => det_move rfl rfl) rfl ?_
       refine td_lazy [(124, _), (125, _)] rfl rfl rfl rfl gv1 ⟨rfl, rfl, rfl, rfl, trivial⟩ (fun g23_2 => det_geq rfl rfl rfl) rfl ?_
       refine td_det rfl rfl (det_or rfl rfl rfl rfl (fun h => (lzf h))) ?_
       refine td_nil ?_
       refine rwp_nil ?_
       refine awp_cond rfl (fun c7 => ?_) (fun c7 => ?_)
       ·try simp only [sx, List.length_map] at c7
        refine awp_seq ?_
        refine awp_region rfl ?_
        refine rwp_det rfl rfl (det_assign rfl rfl) ?_
        refine rwp_nil ?_
        refine awp_ret ?_
        repeat (first | refine thenQ_ret ?_ | refine blockQ_ret ?_)
        refine fin1 (rs_c rfl) ?_
        rw [hf] at c7
        simp at c7
        omega
       ·try simp only [sx, List.length_map] at c7
        refine awp_skip ?_
        refine awp_region rfl ?_
        refine rwp_det rfl rfl (det_move rfl rfl) ?_
        refine rwp_det rfl rfl (det_add_nw rfl rfl rfl ⟨by omega, by omega⟩) ?_
        refine rwp_det rfl rfl (det_assign rfl rfl) ?_
        refine rwp_nil ?_
        refine ⟨j + 1, (by omega), (by omega), Weak.mk [false, true] ⟨VLe.refl _, VLe.refl _, VLe.refl _, VLe.refl _, trivial⟩ rfl⟩
      ·try simp only [sx, List.length_map] at c6
       refine awp_exit ?_
       refine awp_region rfl ?_
       refine rwp_det rfl rfl (det_move rfl rfl) ?_
       refine rwp_det rfl rfl (det_add_nw rfl rfl rfl ⟨by omega, by omega⟩) ?_
       refine rwp_det rfl rfl (det_assign rfl rfl) ?_
       refine rwp_nil ?_
       refine ⟨k + 1, (by omega), (by omega), Weak.mk [true] ⟨VLe.refl _, VLe.refl _, trivial⟩ rfl⟩
    ·try simp only [sx, List.length_map] at c4
     refine awp_exit ?_
     refine awp_seq ?_
     refine awp_region rfl ?_
     refine rwp_det rfl rfl (det_call rfl ok12 law17_examples trivial) ?_
     refine rwp_det rfl rfl (det_assign rfl rfl) ?_
     refine rwp_nil ?_
     refine awp_ret ?_
     repeat (first | refine thenQ_ret ?_ | refine blockQ_ret ?_)
     refine fin1 (rs_c rfl) ?_
     exact rfl

end Go.W
