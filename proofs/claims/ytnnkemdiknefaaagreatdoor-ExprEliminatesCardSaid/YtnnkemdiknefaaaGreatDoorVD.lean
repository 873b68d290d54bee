/-
  Walks: what functions of the program compute. Printed by wip/gen/mk2.py.
  Conditions: none.
-/
import Derived.Test.YtnnkemdiknefaaaGreatDoorVC
import Derived.Test.YtnnkemdiknefaaaGreatDoorPlain2
set_option linter.unusedSimpArgs false
set_option linter.unusedVariables false
namespace Go.W
open Go Go.Eng Go.Proofs Go.L41 Go.Br
attribute [local irreducible] AWP RWP TD

theorem expr_Subst_self (e : Ex) (s : ByteArray) (he : e.wt ≤ 4294967296) (hP : e.allF Lf.rng) (hv : validE e = 0) (hn : isNameB s = true) : Pur cfg 24 [vE e, vS s, vLin ⟨0, [⟨s, 1⟩]⟩] (.tup [vE e, vI 0]) := by
  have h := expr_SubstR e s ⟨0, [⟨s, 1⟩]⟩ he hP (by simp) ⟨by show r64 0; unfold r64; omega, fun m hm => by simp only [List.mem_singleton] at hm; subst hm; show r64 1; unfold r64; omega⟩
  rw [show mEx (fun l => substR l s ⟨0, [⟨s, 1⟩]⟩) e = .ok e from elim_self hv hn hP] at h
  exact h

theorem law_ExprEliminates (e : Ex) (s : ByteArray) (u : Lf) (hfe : e.fit) (hP : e.allF Lf.rng) (hul : u.L.length ≤ 140737488355328) (hru : u.rng) :
    Pur cfg 9 [vE e, vS s, vLin u] (vB true) := by
 refine con_intro Tryz.func9 rfl Tryz.ntmps9 Tryz.results9 rfl ?_
 intro z hz
 refine awp_seq ?_
 refine awp_region rfl ?_
 refine rwp_op rfl rfl (ope_box rfl rfl) ?_
 rintro _ _ ⟨b1, rfl, rfl⟩
 refine rwp_op rfl rfl (ope_box rfl rfl) ?_
 rintro _ _ ⟨b2, rfl, rfl⟩
 refine rwp_det rfl rfl (det_assign rfl rfl) ?_
 refine rwp_nil ?_
 refine awp_seq ?_
 refine awp_seq ?_
 refine awp_region rfl ?_
 refine rwp_det rfl rfl (det_load_agg rfl agg33 rfl (ptr_row 1 rfl) rfl) ?_
 refine rwp_det rfl rfl (det_call rfl ok22 (law14_Few e 300 300 hfe (by omega) rfl) ⟨VLe.refl _, rfl, VLe.refl _, rfl, trivial⟩) ?_
 refine rwp_det rfl rfl (det_not rfl rfl) ?_
 refine rwp_det rfl rfl (det_move rfl rfl) ?_
 refine rwp_lazy [] rfl rfl rfl rfl gv1 trivial (fun g1_3 => det_field_lit rfl fd29_1 rfl) rfl ?_
 refine rwp_lazy [(17, _)] rfl rfl rfl rfl gv1 ⟨rfl, rfl, trivial⟩ (fun g1_3 => det_load_one rfl one27 rfl (ptr_row 0 rfl) rfl) rfl ?_
 refine rwp_lazy [(18, _)] rfl rfl rfl rfl gv1 ⟨rfl, rfl, trivial⟩ (fun g1_3 => det_len_slm rfl el27 rfl) rfl ?_
 refine rwp_lazy [(19, _)] rfl rfl rfl rfl gv1 ⟨rfl, rfl, trivial⟩ (fun g1_3 => det_gtr rfl rfl rfl) rfl ?_
 refine rwp_det rfl rfl (det_or rfl rfl rfl rfl (fun h => (lzf h))) ?_
 refine rwp_det rfl rfl (det_move rfl rfl) ?_
 refine rwp_lazy [] rfl rfl rfl rfl gv1 trivial (fun g1_9 => det_load_agg rfl agg29 rfl (ptr_row 0 rfl) rfl) rfl ?_
 refine rwp_lazy [(23, _)] rfl rfl rfl rfl gv1 ⟨rfl, rfl, trivial⟩ (fun g1_9 => det_call rfl ok35 (base_LinRight u (by simp only [Lz, cond_true, cond_false, Bool.and_eq_true, Bool.or_eq_true, Bool.not_eq_true', Bool.not_eq_false', Bool.or_eq_false_iff, Bool.and_eq_false_iff, decide_eq_true_eq, decide_eq_false_iff_not, Bool.not_eq_true, Bool.not_eq_false] at g1_9; omega)) ⟨VLe.refl _, rfl, trivial⟩) rfl ?_
 refine rwp_lazy [(24, _)] rfl rfl rfl rfl gv1 ⟨rfl, rfl, trivial⟩ (fun g1_9 => det_not rfl rfl) rfl ?_
 refine rwp_det rfl rfl (det_or rfl rfl rfl rfl (fun h => (lzf h))) ?_
 refine rwp_det rfl rfl (det_move rfl rfl) ?_
 refine rwp_lazy [] rfl rfl rfl rfl gv1 trivial (fun g1_14 => det_move rfl rfl) rfl ?_
 refine rwp_lazy [(28, _)] rfl rfl rfl rfl gv1 ⟨rfl, rfl, trivial⟩ (fun g1_14 => det_call rfl ok36 (base_Name s) ⟨VLe.refl _, rfl, trivial⟩) rfl ?_
 refine rwp_lazy [(29, _)] rfl rfl rfl rfl gv1 ⟨rfl, rfl, trivial⟩ (fun g1_14 => det_not rfl rfl) rfl ?_
 refine rwp_det rfl rfl (det_or rfl rfl rfl rfl (fun h => (lzf h))) ?_
 refine rwp_det rfl rfl (det_move rfl rfl) ?_
 refine rwp_lazy [] rfl rfl rfl rfl gv1 trivial (fun g1_19 => det_load_agg rfl agg33 rfl (ptr_row 1 rfl) rfl) rfl ?_
 refine rwp_lazy [(33, _)] rfl rfl rfl rfl gv1 ⟨rfl, rfl, trivial⟩ (fun g1_19 => det_call rfl ok37 (ref14_Validate e (by simp only [Lz, cond_true, cond_false, Bool.and_eq_true, Bool.or_eq_true, Bool.not_eq_true', Bool.not_eq_false', Bool.or_eq_false_iff, Bool.and_eq_false_iff, decide_eq_true_eq, decide_eq_false_iff_not, Bool.not_eq_true, Bool.not_eq_false] at g1_19; have w1 := few_wt g1_19.1.1.1; omega)) ⟨VLe.refl _, rfl, trivial⟩) rfl ?_
 refine rwp_lazy [(34, _)] rfl rfl rfl rfl gv1 ⟨rfl, rfl, trivial⟩ (fun g1_19 => det_neq rfl rfl rfl) rfl ?_
 refine rwp_det rfl rfl (det_or rfl rfl rfl rfl (fun h => (lzf h))) ?_
 refine rwp_nil ?_
 refine awp_cond rfl (fun c1 => ?_) (fun c1 => ?_)
 ·try simp only [sx, List.length_map] at c1
  refine awp_seq ?_
  refine awp_region rfl ?_
  refine rwp_det rfl rfl (det_call rfl ok23 law14_live trivial) ?_
  refine rwp_det rfl rfl (det_assign rfl rfl) ?_
  refine rwp_nil ?_
  refine awp_ret ?_
  repeat (first | refine thenQ_ret ?_ | refine blockQ_ret ?_)
  refine fin1 (rs_c rfl) ?_
  rfl
 ·try simp only [sx, List.length_map] at c1
  obtain ⟨⟨⟨⟨w1, k2⟩, k3⟩, k4⟩, k5⟩ := c1
  have w1 := few_wt w1
  have hw := out_wt (f := fun l => substR l s u) (c := 40) (fun l => by have := substR_len l u s; show (substR l s u).1.L.length ≤ _; omega) e
  have hil := indexT_len (outE (mEx (fun l => substR l s u) e))
  have hrl := readsT_len (outE (mEx (fun l => substR l s u) e))
  refine awp_skip ?_
  refine awp_seq ?_
  refine awp_region rfl ?_
  refine rwp_det rfl rfl (det_load_agg rfl agg33 rfl (ptr_row 1 rfl) rfl) ?_
  refine rwp_det rfl rfl (det_move rfl rfl) ?_
  refine rwp_det rfl rfl (det_move rfl rfl) ?_
  refine rwp_det rfl rfl (det_build rfl zr75 pl75 rfl) ?_
  refine rwp_det rfl rfl (det_bslice rfl el27 zr75 rfl rfl rfl rfl) ?_
  refine rwp_det rfl rfl (det_build rfl zr29 pl29 rfl) ?_
  refine rwp_det rfl rfl (det_call rfl ok24 (expr_Subst_self e s (by omega) hP k5 k4) ⟨VLe.refl _, rfl, VLe.refl _, rfl, VLe.refl _, rfl, trivial⟩) ?_
  refine rwp_det rfl rfl (det_move_tup rfl rfl) ?_
  refine rwp_det rfl rfl (det_ex_agg rfl rfl rfl) ?_
  refine rwp_det rfl rfl (det_ex_c rfl rfl rfl) ?_
  refine rwp_op rfl rfl (ope_allocN [none, none, none, none, none, none, none, none, none, none, some 2, some 4, some 13] rfl zr33 rfl) ?_
  rintro _ _ ⟨b3, rfl, rfl⟩
  refine rwp_det0 rfl rfl (det_store rfl sz33 rfl rfl rfl (st_row 0 rfl rfl)) ?_
  refine rwp_det rfl rfl (det_assign rfl rfl) ?_
  refine rwp_nil ?_
  refine awp_seq ?_
  refine awp_seq ?_
  refine awp_region rfl ?_
  refine rwp_det rfl rfl (det_move rfl rfl) ?_
  refine rwp_det rfl rfl (det_neq rfl rfl rfl) ?_
  refine rwp_det rfl rfl (det_move rfl rfl) ?_
  refine rwp_lazy [] rfl rfl rfl rfl gv1 trivial (fun g4_2 => det_load_agg rfl agg33 rfl (ptr_row 0 rfl) rfl) rfl ?_
  refine rwp_lazy [] rfl rfl rfl rfl gv1 trivial (fun g4_2 => det_load_agg rfl agg33 rfl (ptr_row 2 rfl) rfl) rfl ?_
  refine rwp_lazy [(51, _), (52, _)] rfl rfl rfl rfl gv1 ⟨rfl, rfl, rfl, rfl, trivial⟩ (fun g4_2 => det_call rfl ok34 (expr_Same e e (by omega) (by omega)) ⟨VLe.refl _, rfl, VLe.refl _, rfl, trivial⟩) rfl ?_
  refine rwp_lazy [(53, _)] rfl rfl rfl rfl gv1 ⟨rfl, rfl, trivial⟩ (fun g4_2 => det_not rfl rfl) rfl ?_
  refine rwp_det rfl rfl (det_or rfl rfl rfl rfl (fun h => (lzf h))) ?_
  refine rwp_nil ?_
  refine awp_cond rfl (fun c2 => ?_) (fun c2 => ?_)
  ·try simp only [sx, List.length_map] at c2
   refine awp_seq ?_
   refine awp_region rfl ?_
   refine rwp_det rfl rfl (det_assign rfl rfl) ?_
   refine rwp_nil ?_
   refine awp_ret ?_
   repeat (first | refine thenQ_ret ?_ | refine blockQ_ret ?_)
   refine fin1 (rs_c rfl) ?_
   simp at c2
  ·try simp only [sx, List.length_map] at c2
   refine awp_skip ?_
   refine awp_seq ?_
   refine awp_region rfl ?_
   refine rwp_det rfl rfl (det_load_agg rfl agg33 rfl (ptr_row 2 rfl) rfl) ?_
   refine rwp_det rfl rfl (det_move rfl rfl) ?_
   refine rwp_det rfl rfl (det_load_agg rfl agg29 rfl (ptr_row 1 rfl) rfl) ?_
   refine rwp_det rfl rfl (det_call rfl ok24 (expr_SubstR e s u (by omega) hP (by omega) hru) ⟨VLe.refl _, rfl, VLe.refl _, rfl, VLe.refl _, rfl, trivial⟩) ?_
   refine rwp_det rfl rfl (det_move_tup rfl rfl) ?_
   refine rwp_det rfl rfl (det_ex_agg rfl rfl rfl) ?_
   refine rwp_det rfl rfl (det_ex_c rfl rfl rfl) ?_
   refine rwp_op rfl rfl (ope_allocN [none, none, none, none, none, none, none, none, none, none, some 2, some 4, some 13] rfl zr33 rfl) ?_
   rintro _ _ ⟨b4, rfl, rfl⟩
   refine rwp_det0 rfl rfl (det_store rfl sz33 rfl rfl rfl (st_row 0 rfl rfl)) ?_
   refine rwp_det rfl rfl (det_assign rfl rfl) ?_
   refine rwp_nil ?_
   refine awp_seq ?_
   refine awp_seq ?_
   refine awp_region rfl ?_
   refine rwp_det rfl rfl (det_move rfl rfl) ?_
   refine rwp_det rfl rfl (det_neq rfl rfl rfl) ?_
   refine rwp_nil ?_
   refine awp_cond rfl (fun c3 => ?_) (fun c3 => ?_)
   ·try simp only [sx, List.length_map] at c3
    refine awp_seq ?_
    refine awp_region rfl ?_
    refine rwp_det rfl rfl (det_move rfl rfl) ?_
    refine rwp_det rfl rfl (det_eql rfl rfl rfl) ?_
    refine rwp_det rfl rfl (det_move rfl rfl) ?_
    refine rwp_lazy [] rfl rfl rfl rfl gv1 trivial (fun g8_2 => det_call rfl ok23 law14_live trivial) rfl ?_
    refine rwp_det rfl rfl (det_and rfl rfl rfl (fun h => h) rfl) ?_
    refine rwp_det rfl rfl (det_assign rfl rfl) ?_
    refine rwp_nil ?_
    refine awp_ret ?_
    repeat (first | refine thenQ_ret ?_ | refine blockQ_ret ?_)
    refine fin1 (rs_c rfl) ?_
    rw [show errE (mEx (fun l => substR l s u) e) = 3 from elim_err k5 k4 k3 c3]; rfl
   ·try simp only [sx, List.length_map] at c3
    refine awp_skip ?_
    refine awp_seq ?_
    refine awp_region rfl ?_
    refine rwp_det rfl rfl (det_assign rfl rfl) ?_
    refine rwp_nil ?_
    refine awp_seq ?_
    refine awp_seq ?_
    refine awp_region rfl ?_
    refine rwp_det rfl rfl (det_assign rfl rfl) ?_
    refine rwp_nil ?_
    refine awp_block ?_
    refine awp_weak ⟨[(12, .c _), (11, .c _), (1, .c _), (3, .c _), (5, .c _), (9, .c _)], [_, _, _]⟩ (Weak.mk [true, false, true, true] ⟨VLe.of_eq rfl, VLe.of_eq rfl, VLe.of_eq rfl, VLe.of_eq rfl, VLe.of_eq rfl, VLe.of_eq rfl, trivial⟩ rfl) ?_
    refine awp_loop_k 2 0 rfl rfl (Nat) (fun k => [(12, vI k), (11, vB (hasVar (u.L.take k) s))]) (fun k => []) (fun k => k ≤ u.L.length) (fun k => u.L.length - k) ⟨0, (by omega), Weak.mk [true, true, true] ⟨VLe.refl _, VLe.of_eq (rfl), VLe.refl _, VLe.refl _, VLe.refl _, VLe.refl _, trivial⟩ rfl⟩ ?_
    rintro k hk
    refine awp_seq ?_
    refine awp_seq ?_
    refine awp_region rfl ?_
    refine rwp_det rfl rfl (det_move rfl rfl) ?_
    refine rwp_det rfl rfl (det_field_lit rfl fd29_1 rfl) ?_
    refine rwp_det rfl rfl (det_load_one rfl one27 rfl (ptr_row 1 rfl) rfl) ?_
    refine rwp_det rfl rfl (det_len_slm rfl el27 rfl) ?_
    refine rwp_det rfl rfl (det_lss rfl rfl rfl) ?_
    refine rwp_nil ?_
    refine awp_cond rfl (fun c4 => ?_) (fun c4 => ?_)
    ·try simp only [sx, List.length_map] at c4
     obtain ⟨x, hx⟩ := ex_get u.L k (by omega)
     refine awp_skip ?_
     refine awp_seq ?_
     refine awp_block ?_
     refine awp_region rfl ?_
     refine rwp_det rfl rfl (det_move rfl rfl) ?_
     refine rwp_det rfl rfl (det_move rfl rfl) ?_
     refine rwp_lazy [] rfl rfl rfl rfl gv1 trivial (fun g13_1 => det_field_lit rfl fd29_1 rfl) rfl ?_
     refine rwp_lazy [(79, _)] rfl rfl rfl rfl gv1 ⟨rfl, rfl, trivial⟩ (fun g13_1 => det_load_one rfl one27 rfl (ptr_row 1 rfl) rfl) rfl ?_
     refine rwp_lazy [] rfl rfl rfl rfl gv1 trivial (fun g13_1 => det_move rfl rfl) rfl ?_
     refine rwp_lazy [(80, _), (81, _)] rfl rfl rfl rfl gv1 ⟨rfl, rfl, rfl, rfl, trivial⟩ (fun g13_1 => det_index_sl rfl el27 rfl rfl (by omega) (getm hx)) rfl ?_
     refine rwp_lazy [(82, _)] rfl rfl rfl rfl gv1 ⟨rfl, rfl, trivial⟩ (fun g13_1 => det_field_imm rfl fd75_0 rfl) rfl ?_
     refine rwp_lazy [(83, _)] rfl rfl rfl rfl gv1 ⟨rfl, rfl, trivial⟩ (fun g13_1 => det_load_one rfl one9 rfl ptr_imm rfl) rfl ?_
     refine rwp_lazy [] rfl rfl rfl rfl gv1 trivial (fun g13_1 => det_move rfl rfl) rfl ?_
     refine rwp_lazy [(84, _), (85, _)] rfl rfl rfl rfl gv1 ⟨rfl, rfl, rfl, rfl, trivial⟩ (fun g13_1 => det_seql rfl rfl rfl) rfl ?_
     refine rwp_det rfl rfl (det_or rfl rfl rfl rfl (fun h => (lzf h))) ?_
     refine rwp_det rfl rfl (det_assign rfl rfl) ?_
     refine rwp_nil ?_
     refine awp_region rfl ?_
     refine rwp_det rfl rfl (det_move rfl rfl) ?_
     refine rwp_det rfl rfl (det_add_nw rfl rfl rfl ⟨by omega, by omega⟩) ?_
     refine rwp_det rfl rfl (det_assign rfl rfl) ?_
     refine rwp_nil ?_
     refine ⟨k + 1, (by omega), (by omega), Weak.mk [true, true, true] ⟨VLe.refl _, VLe.of_eq (congrArg vB (has_next hx).symm), VLe.refl _, VLe.refl _, VLe.refl _, VLe.refl _, trivial⟩ rfl⟩
    ·try simp only [sx, List.length_map] at c4
     rw [take_all (l := u.L) (k := k) (by omega)]
     obtain ⟨q1, q2, q3⟩ := elim_ok k5 k4 k3 c3
     refine awp_exit ?_
     refine awp_seq ?_
     refine awp_draw 24 mixed (by kernel_rfl) rfl rfl ?_
     refine td_det rfl rfl (det_move rfl rfl) ?_
     refine td_det rfl rfl (det_move rfl rfl) ?_
     refine td_lazy [] rfl rfl rfl rfl gv1 trivial (fun g14_1 => det_load_agg rfl agg33 rfl (ptr_row 0 rfl) rfl) rfl ?_
     refine td_lazy [(90, _)] rfl rfl rfl rfl gv1 ⟨rfl, rfl, trivial⟩ (fun g14_1 => det_call rfl ok39 (OwnR.pur (expr_IndexNames (outE (mEx (fun l => substR l s u) e)) (by omega))) ⟨VLe.refl _, rfl, trivial⟩) rfl ?_
     refine td_lazy [] rfl rfl rfl rfl gv1 trivial (fun g14_1 => det_move rfl rfl) rfl ?_
     refine td_lazy [(91, _), (92, _)] rfl rfl rfl rfl gv1 ⟨rfl, rfl, rfl, rfl, trivial⟩ (fun g14_1 => det_call rfl ok38 (base_Has (indexT (outE (mEx (fun l => substR l s u) e))) s (by omega)) ⟨VLe.refl _, rfl, VLe.refl _, rfl, trivial⟩) rfl ?_
     refine td_lazy [(93, _)] rfl rfl rfl rfl gv1 ⟨rfl, rfl, trivial⟩ (fun g14_1 => det_not rfl rfl) rfl ?_
     refine td_det rfl rfl (det_or rfl rfl rfl rfl (fun h => (lzf h))) ?_
     refine td_det rfl rfl (det_move rfl rfl) ?_
     refine td_lazy [] rfl rfl rfl rfl gv1 trivial (fun g14_8 => det_load_agg rfl agg33 rfl (ptr_row 0 rfl) rfl) rfl ?_
     refine td_lazy [(97, _)] rfl rfl rfl rfl gv1 ⟨rfl, rfl, trivial⟩ (fun g14_8 => det_call rfl ok40 (expr_Validate (outE (mEx (fun l => substR l s u) e)) (by omega)) ⟨VLe.refl _, rfl, trivial⟩) rfl ?_
     refine td_lazy [(98, _)] rfl rfl rfl rfl gv1 ⟨rfl, rfl, trivial⟩ (fun g14_8 => det_eql rfl rfl rfl) rfl ?_
     refine td_det rfl rfl (det_and rfl rfl rfl (fun h => h) rfl) ?_
     refine td_det rfl rfl (det_move rfl rfl) ?_
     refine td_lazy [] rfl rfl rfl rfl gv1 trivial (fun g14_13 => det_load_agg rfl agg33 rfl (ptr_row 0 rfl) rfl) rfl ?_
     refine td_lazy [(102, _)] rfl rfl rfl rfl gv1 ⟨rfl, rfl, trivial⟩ (fun g14_13 => det_call rfl ok42 (OwnR.pur (expr_Reads (outE (mEx (fun l => substR l s u) e)) (by omega))) ⟨VLe.refl _, rfl, trivial⟩) rfl ?_
     refine td_lazy [] rfl rfl rfl rfl gv1 trivial (fun g14_13 => det_load_agg rfl agg33 rfl (ptr_row 2 rfl) rfl) rfl ?_
     refine td_lazy [(104, _)] rfl rfl rfl rfl gv1 ⟨rfl, rfl, trivial⟩ (fun g14_13 => det_call rfl ok42 (OwnR.pur (expr_Reads e (by omega))) ⟨VLe.refl _, rfl, trivial⟩) rfl ?_
     refine td_lazy [(103, _), (105, _)] rfl rfl rfl rfl gv1 ⟨rfl, rfl, rfl, rfl, trivial⟩ (fun g14_13 => det_call rfl ok41 (base_Strings _ _ (by omega)) ⟨VLe.refl _, rfl, VLe.refl _, rfl, trivial⟩) rfl ?_
     refine td_det rfl rfl (det_and rfl rfl rfl (fun h => h) rfl) ?_
     refine td_det rfl rfl (det_move rfl rfl) ?_
     refine td_lazy [] rfl rfl rfl rfl gv1 trivial (fun g14_20 => det_call rfl ok23 law14_live trivial) rfl ?_
     refine td_det rfl rfl (det_and rfl rfl rfl (fun h => h) rfl) ?_
     refine td_det rfl rfl (det_assign rfl rfl) ?_
     refine td_nil ?_
     refine rwp_nil ?_
     refine awp_ret ?_
     repeat (first | refine thenQ_ret ?_ | refine blockQ_ret ?_)
     refine fin1 (rs_c rfl) ?_
     exact congrArg vB (elim_fin (decide_eq_true q1) (decide_eq_true q2) q3)

end Go.W
