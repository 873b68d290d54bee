/-
  Walks: what functions of the program compute. Printed by wip/gen/mk2.py.
  Conditions: none.
-/
import Derived.Test.YtnnkemdiknefaaaGreatDoorVA
import Derived.Test.YtnnkemdiknefaaaGreatDoorWV
import Derived.Test.YtnnkemdiknefaaaGreatDoorPlain2
import Derived.Test.YtnnkemdiknefaaaGreatDoorEngZ
set_option linter.unusedSimpArgs false
set_option linter.unusedVariables false
namespace Go.W
open Go Go.Eng Go.Proofs Go.L41 Go.Br
attribute [local irreducible] AWP RWP TD
theorem ok24 : callOk Tryz.prog 24 = true := by kernel_rfl
theorem ok39 : callOk Tryz.prog 39 = true := by kernel_rfl
theorem ok42 : callOk Tryz.prog 42 = true := by kernel_rfl
theorem ok77 : callOk Tryz.prog 77 = true := by kernel_rfl
theorem law14_short_step (e : Ex) (ih : ∀ a, a ∈ e.Args → a.wt ≤ 4294967296 → Pur cfg 77 [vE a] (vB (shortE a))) (he : e.wt ≤ 4294967296) :
    Pur cfg 77 [vE e] (vB (shortE e)) := by
 refine con_intro Tryz.func77 rfl Tryz.ntmps77 Tryz.results77 rfl ?_
 intro z hz
 obtain ⟨hL, hI, hA⟩ := e.parts he
 refine awp_seq ?_
 refine awp_region rfl ?_
 refine rwp_op rfl rfl (ope_box rfl rfl) ?_
 rintro _ _ ⟨b1, rfl, rfl⟩
 refine rwp_det rfl rfl (det_assign rfl rfl) ?_
 refine rwp_nil ?_
 refine awp_seq ?_
 refine awp_seq ?_
 refine awp_region rfl ?_
 refine rwp_det rfl rfl (det_field_lit rfl fd33_1 rfl) ?_
 refine rwp_det rfl rfl (det_load_one rfl one9 rfl (ptr_row 0 rfl) rfl) ?_
 refine rwp_det rfl rfl (det_len_str rfl un9 rfl) ?_
 refine rwp_det rfl rfl (det_gtr rfl rfl rfl) ?_
 refine rwp_det rfl rfl (det_move rfl rfl) ?_
 refine rwp_lazy [] rfl rfl rfl rfl gv1 trivial (fun g1_4 => det_field_lit rfl fd33_5 rfl) rfl ?_
 refine rwp_lazy [(10, _)] rfl rfl rfl rfl gv1 ⟨rfl, rfl, trivial⟩ (fun g1_4 => det_load_one rfl one30 rfl (ptr_row 0 rfl) rfl) rfl ?_
 refine rwp_lazy [(11, _)] rfl rfl rfl rfl gv1 ⟨rfl, rfl, trivial⟩ (fun g1_4 => det_len_slm rfl el30 rfl) rfl ?_
 refine rwp_lazy [(12, _)] rfl rfl rfl rfl gv1 ⟨rfl, rfl, trivial⟩ (fun g1_4 => det_gtr rfl rfl rfl) rfl ?_
 refine rwp_det rfl rfl (det_or rfl rfl rfl rfl (fun h => (lzf h))) ?_
 refine rwp_nil ?_
 refine awp_cond rfl (fun c1 => ?_) (fun c1 => ?_)
 ·try simp only [sx, List.length_map] at c1
  refine awp_seq ?_
  refine awp_region rfl ?_
  refine rwp_det rfl rfl (det_assign rfl rfl) ?_
  refine rwp_nil ?_
  refine awp_ret ?_
  repeat (first | refine thenQ_ret ?_ | refine blockQ_ret ?_)
  refine fin1 (rs_c rfl) ?_
  rw [short_1 c1]
 ·try simp only [sx, List.length_map] at c1
  refine awp_skip ?_
  refine awp_seq ?_
  refine awp_seq ?_
  refine awp_region rfl ?_
  refine rwp_det rfl rfl (det_assign rfl rfl) ?_
  refine rwp_nil ?_
  refine awp_block ?_
  refine awp_weak ⟨[(3, .c _), (1, .c _)], [_]⟩ (Weak.mk [true] ⟨VLe.of_eq rfl, VLe.of_eq rfl, trivial⟩ rfl) ?_
  refine awp_loop_k 1 0 rfl rfl (Nat) (fun k => [(3, vI k)]) (fun k => []) (fun k => k ≤ e.Idx.length ∧ ((e.Idx.take k).all shortI = true)) (fun k => e.Idx.length - k) ⟨0, ⟨by omega, rfl⟩, Weak.mk [true] ⟨VLe.refl _, VLe.refl _, trivial⟩ rfl⟩ ?_
  rintro k ⟨hk, hp⟩
  refine awp_seq ?_
  refine awp_seq ?_
  refine awp_region rfl ?_
  refine rwp_det rfl rfl (det_move rfl rfl) ?_
  refine rwp_det rfl rfl (det_field_lit rfl fd33_5 rfl) ?_
  refine rwp_det rfl rfl (det_load_one rfl one30 rfl (ptr_row 0 rfl) rfl) ?_
  refine rwp_det rfl rfl (det_len_slm rfl el30 rfl) ?_
  refine rwp_det rfl rfl (det_lss rfl rfl rfl) ?_
  refine rwp_nil ?_
  refine awp_cond rfl (fun c2 => ?_) (fun c2 => ?_)
  ·try simp only [sx, List.length_map] at c2
   obtain ⟨x, hx⟩ := ex_get e.Idx k (by omega)
   refine awp_skip ?_
   refine awp_seq ?_
   refine awp_block ?_
   refine awp_seq ?_
   refine awp_region rfl ?_
   refine rwp_det rfl rfl (det_field_lit rfl fd33_5 rfl) ?_
   refine rwp_det rfl rfl (det_load_one rfl one30 rfl (ptr_row 0 rfl) rfl) ?_
   refine rwp_det rfl rfl (det_move rfl rfl) ?_
   refine rwp_det rfl rfl (det_index_sl rfl el30 rfl rfl (by omega) (getm hx)) ?_
   refine rwp_det rfl rfl (det_field_imm rfl fd117_1 rfl) ?_
   refine rwp_det rfl rfl (det_load_one rfl one9 rfl ptr_imm rfl) ?_
   refine rwp_det rfl rfl (det_len_str rfl un9 rfl) ?_
   refine rwp_det rfl rfl (det_gtr rfl rfl rfl) ?_
   refine rwp_nil ?_
   refine awp_cond rfl (fun c3 => ?_) (fun c3 => ?_)
   ·try simp only [sx, List.length_map] at c3
    refine awp_seq ?_
    refine awp_region rfl ?_
    refine rwp_det rfl rfl (det_assign rfl rfl) ?_
    refine rwp_nil ?_
    refine awp_ret ?_
    repeat (first | refine thenQ_ret ?_ | refine blockQ_ret ?_)
    refine fin1 (rs_c rfl) ?_
    rw [short_2 hx (by unfold shortI; rw [decide_eq_true c3]; rfl)]
   ·try simp only [sx, List.length_map] at c3
    refine awp_skip ?_
    refine awp_region rfl ?_
    refine rwp_det rfl rfl (det_move rfl rfl) ?_
    refine rwp_det rfl rfl (det_add_nw rfl rfl rfl ⟨by omega, by omega⟩) ?_
    refine rwp_det rfl rfl (det_assign rfl rfl) ?_
    refine rwp_nil ?_
    refine ⟨k + 1, ⟨by omega, all_next' hx hp (by unfold shortI; rw [decide_eq_false (by omega)]; rfl)⟩, (by omega), Weak.mk [true] ⟨VLe.refl _, VLe.refl _, trivial⟩ rfl⟩
  ·try simp only [sx, List.length_map] at c2
   refine awp_exit ?_
   refine awp_seq ?_
   refine awp_seq ?_
   refine awp_region rfl ?_
   refine rwp_det rfl rfl (det_assign rfl rfl) ?_
   refine rwp_nil ?_
   refine awp_block ?_
   refine awp_weak ⟨[(4, .c _), (1, .c _)], [_]⟩ (Weak.mk [true] ⟨VLe.of_eq rfl, VLe.of_eq rfl, trivial⟩ rfl) ?_
   refine awp_loop_k 1 0 rfl rfl (Nat) (fun n => [(4, vI n)]) (fun n => []) (fun n => n ≤ e.Args.length ∧ ((e.Args.take n).all shortE = true)) (fun n => e.Args.length - n) ⟨0, ⟨by omega, rfl⟩, Weak.mk [true] ⟨VLe.refl _, VLe.refl _, trivial⟩ rfl⟩ ?_
   rintro n ⟨hk, hq⟩
   refine awp_seq ?_
   refine awp_seq ?_
   refine awp_region rfl ?_
   refine rwp_det rfl rfl (det_move rfl rfl) ?_
   refine rwp_det rfl rfl (det_field_lit rfl fd33_6 rfl) ?_
   refine rwp_det rfl rfl (det_load_one rfl one31 rfl (ptr_row 0 rfl) rfl) ?_
   refine rwp_det rfl rfl (det_len_slm rfl el31 rfl) ?_
   refine rwp_det rfl rfl (det_lss rfl rfl rfl) ?_
   refine rwp_nil ?_
   refine awp_cond rfl (fun c4 => ?_) (fun c4 => ?_)
   ·try simp only [sx, List.length_map] at c4
    obtain ⟨a, ha⟩ := ex_get e.Args n (by omega)
    refine awp_skip ?_
    refine awp_seq ?_
    refine awp_block ?_
    refine awp_seq ?_
    refine awp_region rfl ?_
    refine rwp_det rfl rfl (det_field_lit rfl fd33_6 rfl) ?_
    refine rwp_det rfl rfl (det_load_one rfl one31 rfl (ptr_row 0 rfl) rfl) ?_
    refine rwp_det rfl rfl (det_move rfl rfl) ?_
    refine rwp_det rfl rfl (det_index_sl rfl el31 rfl rfl (by omega) (getmE (by assumption))) ?_
    refine rwp_det rfl rfl (det_load_agg rfl agg33 rfl ptr_imm rfl) ?_
    refine rwp_det rfl rfl (det_call rfl ok77 (ih a (mem_of_get ha) (by have := Ex.arg_wt (mem_of_get ha); omega)) ⟨VLe.refl _, rfl, trivial⟩) ?_
    refine rwp_det rfl rfl (det_not rfl rfl) ?_
    refine rwp_nil ?_
    refine awp_cond rfl (fun c5 => ?_) (fun c5 => ?_)
    ·try simp only [sx, List.length_map] at c5
     refine awp_seq ?_
     refine awp_region rfl ?_
     refine rwp_det rfl rfl (det_assign rfl rfl) ?_
     refine rwp_nil ?_
     refine awp_ret ?_
     repeat (first | refine thenQ_ret ?_ | refine blockQ_ret ?_)
     refine fin1 (rs_c rfl) ?_
     rw [short_3 ha c5]
    ·try simp only [sx, List.length_map] at c5
     refine awp_skip ?_
     refine awp_region rfl ?_
     refine rwp_det rfl rfl (det_move rfl rfl) ?_
     refine rwp_det rfl rfl (det_add_nw rfl rfl rfl ⟨by omega, by omega⟩) ?_
     refine rwp_det rfl rfl (det_assign rfl rfl) ?_
     refine rwp_nil ?_
     refine ⟨n + 1, ⟨by omega, all_next' ha hq c5⟩, (by omega), Weak.mk [true] ⟨VLe.refl _, VLe.refl _, trivial⟩ rfl⟩
   ·try simp only [sx, List.length_map] at c4
    refine awp_exit ?_
    refine awp_seq ?_
    refine awp_region rfl ?_
    refine rwp_det rfl rfl (det_assign rfl rfl) ?_
    refine rwp_nil ?_
    refine awp_ret ?_
    repeat (first | refine thenQ_ret ?_ | refine blockQ_ret ?_)
    refine fin1 (rs_c rfl) ?_
    rw [take_all (by omega)] at hp hq
    rw [short_4 (by omega) hp hq]

theorem law14_short (e : Ex) (he : e.wt ≤ 4294967296) : Pur cfg 77 [vE e] (vB (shortE e)) := by
  induction e using Ex.ind with
  | _ e ih => exact law14_short_step e ih he

theorem law14_Few (e : Ex) (m : Nat) (x : Int) (hf : e.fit) (hm : m ≤ 5000) (hx : x = m) :
    Pur cfg 22 [vE e, vI x] (vB (fewE e m)) := by
 refine con_intro Tryz.func22 rfl Tryz.ntmps22 Tryz.results22 rfl ?_
 intro z hz
 refine awp_seq ?_
 refine awp_region rfl ?_
 refine rwp_op rfl rfl (ope_box rfl rfl) ?_
 rintro _ _ ⟨b1, rfl, rfl⟩
 refine rwp_det rfl rfl (det_assign rfl rfl) ?_
 refine rwp_nil ?_
 refine awp_seq ?_
 refine awp_region rfl ?_
 refine rwp_det rfl rfl (det_load_agg rfl agg33 rfl (ptr_row 0 rfl) rfl) ?_
 refine rwp_det rfl rfl (det_move rfl rfl) ?_
 refine rwp_det rfl rfl (det_call rfl ok50 (base_Weigh e m x hf (by omega) hx) ⟨VLe.refl _, rfl, VLe.refl _, rfl, trivial⟩) ?_
 refine rwp_det rfl rfl (det_move rfl rfl) ?_
 refine rwp_det rfl rfl (det_leq rfl rfl rfl) ?_
 refine rwp_det rfl rfl (det_move rfl rfl) ?_
 refine rwp_lazy [] rfl rfl rfl rfl gv1 trivial (fun g1_5 => det_load_agg rfl agg33 rfl (ptr_row 0 rfl) rfl) rfl ?_
 refine rwp_lazy [(11, _)] rfl rfl rfl rfl gv1 ⟨rfl, rfl, trivial⟩ (fun g1_5 => det_call rfl ok77 (law14_short e (by simp only [Lz, cond_true, cond_false, Bool.and_eq_true, Bool.or_eq_true, Bool.not_eq_true', Bool.not_eq_false', Bool.or_eq_false_iff, Bool.and_eq_false_iff, decide_eq_true_eq, decide_eq_false_iff_not, Bool.not_eq_true, Bool.not_eq_false] at g1_5; have := weighE_wt e m (by omega); omega)) ⟨VLe.refl _, rfl, trivial⟩) rfl ?_
 refine rwp_det rfl rfl (det_and rfl rfl rfl (fun h => h) rfl) ?_
 refine rwp_det rfl rfl (det_assign rfl rfl) ?_
 refine rwp_nil ?_
 refine awp_ret ?_
 repeat (first | refine thenQ_ret ?_ | refine blockQ_ret ?_)
 refine fin1 (rs_c rfl) ?_
 subst hx
 exact congrArg vB (few_bool e m)

theorem expr_IndexNames (e : Ex) (he : e.wt ≤ 1073741824) :
    OwnR cfg 39 [vE e] 9 1 (strRows (indexT e)) := by
 refine con_intro Tryz.func39 rfl Tryz.ntmps39 Tryz.results39 rfl ?_
 intro z hz
 refine awp_seq ?_
 refine awp_region rfl ?_
 refine rwp_op rfl rfl (ope_box rfl rfl) ?_
 rintro _ _ ⟨b1, rfl, rfl⟩
 refine rwp_det rfl rfl (det_assignN 1 rfl rfl) ?_
 refine rwp_nil ?_
 refine awp_seq ?_
 refine awp_region rfl ?_
 refine rwp_op rfl rfl (ope_alloc rfl zr42) ?_
 rintro _ _ ⟨b2, rfl, rfl⟩
 refine rwp_weak _ (weak_own 9 1) ?_
 refine rwp_nil ?_
 refine awp_seq ?_
 refine awp_seq ?_
 refine awp_region rfl ?_
 refine rwp_det rfl rfl (det_load_agg rfl agg33 rfl (ptr_row 2 rfl) rfl) ?_
 refine rwp_det rfl rfl (det_call rfl ok28 (expr_Walk _) ⟨VLe.refl _, rfl, trivial⟩) ?_
 refine rwp_nil ?_
 refine awp_block ?_
 refine awp_weak _ (Weak.mem [true, true, false] rfl) ?_
 refine awp_range_g (ps := [10]) hz (Value) 2 rfl rfl ok88 (walk_iter e (by omega)) (fun _ _ => rfl) rfl (fun pre sv => True) (fun pre sv => [E.vec sv 9 1 (strRows (namesA pre)), E.row b2 42 [.lit sv]]) ⟨.slice none 0 0, trivial, rfl⟩ ?_ ?_
 ·intro pre x suf sv hxs hi z hz
  show AWP _ _ _ _ _ ⟨_, [E.vec sv 9 1 (strRows (namesA pre)), E.row b2 42 [.lit sv]] ++ _⟩
  have hlen := namesP_len (pre := pre ++ [x]) (suf := suf) (by rw [hxs]; simp)
  rw [namesA_one, List.length_append] at hlen
  have hxw : x.wt ≤ e.wt := node_mem_wt e x (by rw [hxs]; simp)
  refine awp_region rfl ?_
  refine rwp_op rfl rfl (ope_allocN [none, none, none, none, none, none, none, none, none, none, some 2, some 4, some 13] rfl zr33 rfl) ?_
  rintro _ _ ⟨b4, rfl, rfl⟩
  refine rwp_det0 rfl rfl (det_store rfl sz33 rfl rfl rfl (st_row 0 rfl rfl)) ?_
  refine rwp_nil ?_
  intro z hz
  refine awp_block ?_
  refine awp_seq ?_
  refine awp_region rfl ?_
  refine rwp_det rfl rfl (det_load_agg rfl agg33 rfl (ptr_row 0 rfl) rfl) ?_
  refine rwp_det rfl rfl (det_call rfl ok106 (expr_forms _) ⟨VLe.refl _, rfl, trivial⟩) ?_
  refine rwp_nil ?_
  refine awp_block ?_
  refine awp_weak _ (Weak.mem [false, true, true] rfl) ?_
  refine awp_range_g (ps := [13]) hz (Value) 2 rfl rfl ok174 (forms_iter x (by omega)) (fun _ _ => rfl) rfl (fun pre2 sw => True) (fun pre2 sw => [E.vec sw 9 1 (strRows (namesA pre ++ pre2.flatMap namesF)), E.row b2 42 [.lit sw]]) ⟨sv, trivial, (by exact mem2_eq (by simp))⟩ ?_ ?_
  ·intro pre2 l suf2 sw hxl hi2 z hz
   show AWP _ _ _ _ _ ⟨_, [E.vec sw 9 1 (strRows (namesA pre ++ pre2.flatMap namesF)), E.row b2 42 [.lit sw]] ++ _⟩
   have hl2 := namesX_len (pre := pre2 ++ [l]) (suf := suf2) (by rw [hxl]; simp)
   have hfl : (namesF l).length = l.L.length := by unfold namesF; rw [List.length_map]
   rw [namesF_one, List.length_append] at hl2
   refine awp_region rfl ?_
   refine rwp_op rfl rfl (ope_allocN [none, some 2] rfl zr29 rfl) ?_
   rintro _ _ ⟨b5, rfl, rfl⟩
   refine rwp_det0 rfl rfl (det_store rfl sz29 rfl rfl rfl (st_row 0 rfl rfl)) ?_
   refine rwp_nil ?_
   intro z hz
   refine awp_block ?_
   refine awp_seq ?_
   refine awp_region rfl ?_
   refine rwp_det rfl rfl (det_field_lit rfl fd29_1 rfl) ?_
   refine rwp_det rfl rfl (det_load_one rfl one27 rfl (ptr_row 0 rfl) rfl) ?_
   refine rwp_det rfl rfl (det_len_slm rfl el27 rfl) ?_
   refine rwp_det rfl rfl (det_move rfl rfl) ?_
   refine rwp_nil ?_
   refine awp_block ?_
   refine awp_weak ⟨[(17, .c _), (3, .c _), (15, .c _), (16, .c _)], [_, _]⟩ (Weak.mk [false, true, true] ⟨VLe.of_eq rfl, VLe.of_eq rfl, VLe.of_eq rfl, VLe.of_eq rfl, trivial⟩ rfl) ?_
   refine awp_loop_k 1 2 rfl rfl (Nat × Value) (fun ⟨k, sy⟩ => [(17, vI k)]) (fun ⟨k, sy⟩ => [E.vec sy 9 1 (strRows (namesA pre ++ pre2.flatMap namesF ++ (l.L.take k).map Mono.Name)), E.row b2 42 [.lit sy]]) (fun ⟨k, sy⟩ => k ≤ l.L.length) (fun ⟨k, sy⟩ => l.L.length - k) ⟨⟨0, _⟩, (by omega), Weak.mk [true, true] ⟨VLe.refl _, VLe.refl _, VLe.refl _, VLe.refl _, trivial⟩ (by exact mem2_eq (by simp))⟩ ?_
   rintro ⟨k, sy⟩ hk
   show AWP _ _ _ _ _ ⟨[(17, vI k)] ++ _, [E.vec sy 9 1 (strRows (namesA pre ++ pre2.flatMap namesF ++ (l.L.take k).map Mono.Name)), E.row b2 42 [.lit sy]] ++ _⟩
   refine awp_seq ?_
   refine awp_region rfl ?_
   refine rwp_det rfl rfl (det_lss rfl rfl rfl) ?_
   refine rwp_nil ?_
   refine awp_seq ?_
   refine awp_cond rfl (fun c1 => ?_) (fun c1 => ?_)
   ·try simp only [sx, List.length_map] at c1
    obtain ⟨m, hm2⟩ := ex_get l.L k (by omega)
    refine awp_skip ?_
    refine awp_seq ?_
    refine awp_block ?_
    refine awp_seq ?_
    refine awp_region rfl ?_
    refine rwp_det rfl rfl (det_index_sl rfl el27 rfl rfl (by omega) (getm (by assumption))) ?_
    refine rwp_det rfl rfl (det_load_agg rfl agg75 rfl ptr_imm rfl) ?_
    refine rwp_op rfl rfl (ope_alloc rfl zr75) ?_
    rintro _ _ ⟨b6, rfl, rfl⟩
    refine rwp_det0 rfl rfl (det_store rfl sz75 rfl rfl rfl (st_row 0 rfl rfl)) ?_
    refine rwp_nil ?_
    refine awp_region rfl ?_
    refine rwp_det rfl rfl (det_load_one rfl one42 rfl (ptr_row 2 rfl) rfl) ?_
    refine rwp_det rfl rfl (det_field_lit rfl fd75_0 rfl) ?_
    refine rwp_det rfl rfl (det_load_one rfl one9 rfl (ptr_row 0 rfl) rfl) ?_
    refine rwp_det rfl rfl (det_bslice rfl el42 zr9 rfl rfl rfl rfl) ?_
    refine rwp_op rfl rfl (ope_append 1 rfl el42 rfl rfl rfl (by have hkk := List.length_take_le' k l.L; simp only [List.length_map, List.length_append, List.length_cons, List.length_nil]; omega) (by have hkk := List.length_take_le' k l.L; simp only [List.length_map, List.length_append, List.length_cons, List.length_nil]; omega)) ?_
    rintro _ _ ⟨sv7, rfl, rfl⟩
    refine rwp_det0 rfl rfl (det_store rfl sz42 rfl rfl rfl (st_row 2 rfl rfl)) ?_
    refine rwp_nil ?_
    refine awp_region rfl ?_
    refine rwp_det rfl rfl (det_add_nw rfl rfl rfl ⟨by omega, by omega⟩) ?_
    refine rwp_det rfl rfl (det_move rfl rfl) ?_
    refine rwp_nil ?_
    refine ⟨⟨k + 1, _⟩, (by omega), (by show l.L.length - (k + 1) < l.L.length - k; omega), Weak.mk [false, true, true] ⟨VLe.refl _, VLe.refl _, VLe.refl _, VLe.refl _, trivial⟩ (by exact mem2_eq (by rw [namesM_next hm2]; simp [strRows]))⟩
   ·try simp only [sx, List.length_map] at c1
    refine awp_exit ?_
    exact round_fin (τ := ⟨[], _⟩) (Weak.mk [true, true] trivial rfl) ⟨_, trivial, (by exact mem2_eq (by rw [take_all (l := l.L) (by omega), namesF_one, ← List.append_assoc]; rfl))⟩
  ·intro sw hd2
   exact round_fin (τ := ⟨[], _⟩) (Weak.mk [true, true] trivial rfl) ⟨_, trivial, (by exact mem2_eq (by rw [namesA_one]; rfl))⟩
 ·intro sv hd
  refine awp_seq ?_
  refine awp_region rfl ?_
  refine rwp_det rfl rfl (det_load_one rfl one42 rfl (ptr_row 1 rfl) rfl) ?_
  refine rwp_op rfl rfl (ope_call_vec 0 rfl rfl ok107 (expr_sorted sv (namesA (nodes e)) (by have := namesA_len e; omega)) ⟨VLe.refl _, rfl, trivial⟩) ?_
  rintro _ _ ⟨sv8, rfl, rfl⟩
  refine rwp_det rfl rfl (det_assign rfl rfl) ?_
  refine rwp_nil ?_
  refine awp_weak _ (Weak.mem [true, false] rfl) ?_
  refine awp_ret ?_
  repeat (first | refine thenQ_ret ?_ | refine blockQ_ret ?_)
  refine fin1 (rs_c rfl) ?_
  exact ⟨_, rfl, rfl⟩

theorem expr_Substitute_ex : Pur cfg 24 [vE lvE, vS (bs [105]), vLin lvU] (.tup [vE lvX, vI 0]) := by
  have h := expr_Substitute lvE (bs [105]) lvU (by have := lvE_wt.1; omega) lvE_rng (by decide) lvU_rng
  rw [lvE_sub.1, lvE_sub.2] at h
  exact h
theorem expr_IndexNames_ex : OwnR cfg 39 [vE lvX] 9 1 (strRows [bs [106]]) := by
  have h := expr_IndexNames lvX (by have := lvE_wt.2.2; omega)
  rw [lvX_index] at h; exact h
theorem expr_Reads_ex : OwnR cfg 42 [vE lvE] 9 1 (strRows [bs [97]]) := by
  have h := expr_Reads lvE (by have := lvE_wt.1; omega)
  rw [lvE_reads] at h; exact h
theorem expr_Validate_ex : Pur cfg 40 [vE lvE] (vI 0) := by
  have h := expr_Validate lvE (by have := lvE_wt.1; omega)
  rw [lvE_valid.1] at h; exact h
theorem expr_Validate_ex2 : Pur cfg 40 [vE lvI] (vI 10) := by
  have h := expr_Validate lvI (by have := lvE_wt.2.1; omega)
  rw [lvE_valid.2.1] at h; exact h
theorem expr_Size_ex : Pur cfg 78 [vE lvE] (vI 3) := by
  have h := expr_Size lvE (by have := lvE_wt.1; omega)
  rw [lvE_valid.2.2.1] at h; exact h
theorem expr_Depth_ex : Pur cfg 79 [vE lvE] (vI 2) := by
  have h := expr_Depth lvE (by have := lvE_wt.1; omega)
  rw [lvE_valid.2.2.2] at h; exact h

theorem law14_live  :
    Pur cfg 23 [] (vB true) := by
 refine con_intro Tryz.func23 rfl Tryz.ntmps23 Tryz.results23 rfl ?_
 intro z hz
 refine awp_seq ?_
 refine awp_region rfl ?_
 refine rwp_det rfl rfl (det_assign rfl rfl) ?_
 refine rwp_nil ?_
 refine awp_seq ?_
 refine awp_region rfl ?_
 refine rwp_det rfl rfl (det_build rfl zr75 pl75 rfl) ?_
 refine rwp_det rfl rfl (det_bslice rfl el27 zr75 rfl rfl rfl rfl) ?_
 refine rwp_det rfl rfl (det_build rfl zr29 pl29 rfl) ?_
 refine rwp_det rfl rfl (det_buildN [none, none, none, some 2] rfl zr117 pl117 rfl rfl) ?_
 refine rwp_det rfl rfl (det_buildN [none, some 2] rfl zr29 pl29 rfl rfl) ?_
 refine rwp_det rfl rfl (det_buildN [none, none, none, some 2] rfl zr117 pl117 rfl rfl) ?_
 refine rwp_det rfl rfl (det_bslice rfl el30 zr117 rfl rfl rfl rfl) ?_
 refine rwp_det rfl rfl (det_buildN [none, none, none, none, none, none, none, none, none, none, some 2, none, some 13] rfl zr33 pl33 rfl rfl) ?_
 refine rwp_op rfl rfl (ope_allocN [none, none, none, none, none, none, none, none, none, none, some 2, some 4, some 13] rfl zr33 rfl) ?_
 rintro _ _ ⟨b1, rfl, rfl⟩
 refine rwp_det0 rfl rfl (det_store rfl sz33 rfl rfl rfl (st_row 0 rfl rfl)) ?_
 refine rwp_nil ?_
 refine awp_seq ?_
 refine awp_region rfl ?_
 refine rwp_det rfl rfl (det_build rfl zr23 pl23 rfl) ?_
 refine rwp_det rfl rfl (det_build rfl zr26 pl26 rfl) ?_
 refine rwp_det rfl rfl (det_buildN [none, none, none, none, none, none, none, none, none, none, some 2, some 4, some 13] rfl zr33 pl33 rfl rfl) ?_
 refine rwp_op rfl rfl (ope_allocN [none, none, none, none, none, none, none, none, none, none, some 2, some 4, some 13] rfl zr33 rfl) ?_
 rintro _ _ ⟨b2, rfl, rfl⟩
 refine rwp_det0 rfl rfl (det_store rfl sz33 rfl rfl rfl (st_row 0 rfl rfl)) ?_
 refine rwp_nil ?_
 refine awp_seq ?_
 refine awp_region rfl ?_
 refine rwp_det rfl rfl (det_load_agg rfl agg33 rfl (ptr_row 1 rfl) rfl) ?_
 refine rwp_det rfl rfl (det_load_agg rfl agg33 rfl (ptr_row 0 rfl) rfl) ?_
 refine rwp_det rfl rfl (det_bslice rfl el31 zr33 rfl rfl rfl rfl) ?_
 refine rwp_det rfl rfl (det_buildN [none, none, none, none, none, none, none, none, none, none, some 2, some 4, none] rfl zr33 pl33 rfl rfl) ?_
 refine rwp_op rfl rfl (ope_allocN [none, none, none, none, none, none, none, none, none, none, some 2, some 4, some 13] rfl zr33 rfl) ?_
 rintro _ _ ⟨b3, rfl, rfl⟩
 refine rwp_det0 rfl rfl (det_store rfl sz33 rfl rfl rfl (st_row 0 rfl rfl)) ?_
 refine rwp_nil ?_
 refine awp_seq ?_
 refine awp_region rfl ?_
 refine rwp_det rfl rfl (det_load_agg rfl agg33 rfl (ptr_row 0 rfl) rfl) ?_
 refine rwp_det rfl rfl (det_build rfl zr75 pl75 rfl) ?_
 refine rwp_det rfl rfl (det_bslice rfl el27 zr75 rfl rfl rfl rfl) ?_
 refine rwp_det rfl rfl (det_build rfl zr29 pl29 rfl) ?_
 refine rwp_det rfl rfl (det_call rfl ok24 expr_Substitute_ex ⟨VLe.refl _, rfl, VLe.refl _, rfl, VLe.refl _, rfl, trivial⟩) ?_
 refine rwp_det rfl rfl (det_move_tup rfl rfl) ?_
 refine rwp_det rfl rfl (det_ex_agg rfl rfl rfl) ?_
 refine rwp_det rfl rfl (det_ex_c rfl rfl rfl) ?_
 refine rwp_op rfl rfl (ope_allocN [none, none, none, none, none, none, none, none, none, none, some 2, some 4, some 13] rfl zr33 rfl) ?_
 rintro _ _ ⟨b4, rfl, rfl⟩
 refine rwp_det0 rfl rfl (det_store rfl sz33 rfl rfl rfl (st_row 0 rfl rfl)) ?_
 refine rwp_det rfl rfl (det_assign rfl rfl) ?_
 refine rwp_nil ?_
 refine awp_seq ?_
 refine awp_seq ?_
 refine awp_region rfl ?_
 refine rwp_det rfl rfl (det_move rfl rfl) ?_
 refine rwp_det rfl rfl (det_neq rfl rfl rfl) ?_
 refine rwp_det rfl rfl (det_move rfl rfl) ?_
 refine rwp_lazy [] rfl rfl rfl rfl gv1 trivial (fun g5_2 => det_field_lit rfl fd33_6 rfl) rfl ?_
 refine rwp_lazy [(32, _)] rfl rfl rfl rfl gv1 ⟨rfl, rfl, trivial⟩ (fun g5_2 => det_load_one rfl one31 rfl (ptr_row 0 rfl) rfl) rfl ?_
 refine rwp_lazy [(33, _)] rfl rfl rfl rfl gv1 ⟨rfl, rfl, trivial⟩ (fun g5_2 => det_len_slm rfl el31 rfl) rfl ?_
 refine rwp_lazy [(34, _)] rfl rfl rfl rfl gv1 ⟨rfl, rfl, trivial⟩ (fun g5_2 => det_neq rfl rfl rfl) rfl ?_
 refine rwp_det rfl rfl (det_or rfl rfl rfl rfl (fun h => (lzf h))) ?_
 refine rwp_det rfl rfl (det_move rfl rfl) ?_
 refine rwp_lazy [] rfl rfl rfl rfl gv1 trivial (fun g5_8 => det_field_lit rfl fd33_6 rfl) rfl ?_
 refine rwp_lazy [(38, _)] rfl rfl rfl rfl gv1 ⟨rfl, rfl, trivial⟩ (fun g5_8 => det_load_one rfl one31 rfl (ptr_row 0 rfl) rfl) rfl ?_
 refine rwp_lazy [(39, _)] rfl rfl rfl rfl gv1 ⟨rfl, rfl, trivial⟩ (fun g5_8 => det_index_sl rfl el31 rfl rfl (by decide) rfl) rfl ?_
 refine rwp_lazy [(40, _)] rfl rfl rfl rfl gv1 ⟨rfl, rfl, trivial⟩ (fun g5_8 => det_field_imm rfl fd33_5 rfl) rfl ?_
 refine rwp_lazy [(41, _)] rfl rfl rfl rfl gv1 ⟨rfl, rfl, trivial⟩ (fun g5_8 => det_load_one rfl one30 rfl ptr_imm rfl) rfl ?_
 refine rwp_lazy [(42, _)] rfl rfl rfl rfl gv1 ⟨rfl, rfl, trivial⟩ (fun g5_8 => det_len_slm rfl el30 rfl) rfl ?_
 refine rwp_lazy [(43, _)] rfl rfl rfl rfl gv1 ⟨rfl, rfl, trivial⟩ (fun g5_8 => det_neq rfl rfl rfl) rfl ?_
 refine rwp_det rfl rfl (det_or rfl rfl rfl rfl (fun h => (lzf h))) ?_
 refine rwp_det rfl rfl (det_move rfl rfl) ?_
 refine rwp_lazy [] rfl rfl rfl rfl gv1 trivial (fun g5_17 => det_load_agg rfl agg33 rfl (ptr_row 0 rfl) rfl) rfl ?_
 refine rwp_lazy [(47, _)] rfl rfl rfl rfl gv1 ⟨rfl, rfl, trivial⟩ (fun g5_17 => det_call rfl ok39 (OwnR.pur expr_IndexNames_ex) ⟨VLe.refl _, rfl, trivial⟩) rfl ?_
 refine rwp_lazy [] rfl rfl rfl rfl gv1 trivial (fun g5_17 => det_bslice rfl el42 zr9 rfl rfl rfl rfl) rfl ?_
 refine rwp_lazy [(48, _), (49, _)] rfl rfl rfl rfl gv1 ⟨rfl, rfl, rfl, rfl, trivial⟩ (fun g5_17 => det_call rfl ok41 (base_Strings [bs [106]] [bs [106]] (by simp)) ⟨VLe.refl _, rfl, VLe.refl _, rfl, trivial⟩) rfl ?_
 refine rwp_lazy [(50, _)] rfl rfl rfl rfl gv1 ⟨rfl, rfl, trivial⟩ (fun g5_17 => det_not rfl rfl) rfl ?_
 refine rwp_det rfl rfl (det_or rfl rfl rfl rfl (fun h => (lzf h))) ?_
 refine rwp_nil ?_
 refine awp_cond rfl (fun c1 => ?_) (fun c1 => ?_)
 ·try simp only [sx, List.length_map] at c1
  refine awp_seq ?_
  refine awp_region rfl ?_
  refine rwp_det rfl rfl (det_assign rfl rfl) ?_
  refine rwp_nil ?_
  refine awp_ret ?_
  repeat (first | refine thenQ_ret ?_ | refine blockQ_ret ?_)
  refine fin1 (rs_c rfl) ?_
  exact absurd c1 (by decide)
 ·try simp only [sx, List.length_map] at c1
  refine awp_skip ?_
  refine awp_seq ?_
  refine awp_region rfl ?_
  refine rwp_det rfl rfl (det_load_agg rfl agg33 rfl (ptr_row 1 rfl) rfl) ?_
  refine rwp_det rfl rfl (det_call rfl ok40 expr_Validate_ex ⟨VLe.refl _, rfl, trivial⟩) ?_
  refine rwp_det rfl rfl (det_eql rfl rfl rfl) ?_
  refine rwp_det rfl rfl (det_move rfl rfl) ?_
  refine rwp_lazy [] rfl rfl rfl rfl gv1 trivial (fun g7_3 => det_load_agg rfl agg33 rfl (ptr_row 1 rfl) rfl) rfl ?_
  refine rwp_lazy [(57, _)] rfl rfl rfl rfl gv1 ⟨rfl, rfl, trivial⟩ (fun g7_3 => det_call rfl ok78 expr_Size_ex ⟨VLe.refl _, rfl, trivial⟩) rfl ?_
  refine rwp_lazy [(58, _)] rfl rfl rfl rfl gv1 ⟨rfl, rfl, trivial⟩ (fun g7_3 => det_eql rfl rfl rfl) rfl ?_
  refine rwp_det rfl rfl (det_and rfl rfl rfl (fun h => h) rfl) ?_
  refine rwp_det rfl rfl (det_move rfl rfl) ?_
  refine rwp_lazy [] rfl rfl rfl rfl gv1 trivial (fun g7_8 => det_load_agg rfl agg33 rfl (ptr_row 1 rfl) rfl) rfl ?_
  refine rwp_lazy [(62, _)] rfl rfl rfl rfl gv1 ⟨rfl, rfl, trivial⟩ (fun g7_8 => det_call rfl ok79 expr_Depth_ex ⟨VLe.refl _, rfl, trivial⟩) rfl ?_
  refine rwp_lazy [(63, _)] rfl rfl rfl rfl gv1 ⟨rfl, rfl, trivial⟩ (fun g7_8 => det_eql rfl rfl rfl) rfl ?_
  refine rwp_det rfl rfl (det_and rfl rfl rfl (fun h => h) rfl) ?_
  refine rwp_det rfl rfl (det_move rfl rfl) ?_
  refine rwp_lazy [] rfl rfl rfl rfl gv1 trivial (fun g7_13 => det_load_agg rfl agg33 rfl (ptr_row 1 rfl) rfl) rfl ?_
  refine rwp_lazy [(67, _)] rfl rfl rfl rfl gv1 ⟨rfl, rfl, trivial⟩ (fun g7_13 => det_call rfl ok42 (OwnR.pur expr_Reads_ex) ⟨VLe.refl _, rfl, trivial⟩) rfl ?_
  refine rwp_lazy [] rfl rfl rfl rfl gv1 trivial (fun g7_13 => det_bslice rfl el42 zr9 rfl rfl rfl rfl) rfl ?_
  refine rwp_lazy [(68, _), (69, _)] rfl rfl rfl rfl gv1 ⟨rfl, rfl, rfl, rfl, trivial⟩ (fun g7_13 => det_call rfl ok41 (base_Strings [bs [97]] [bs [97]] (by simp)) ⟨VLe.refl _, rfl, VLe.refl _, rfl, trivial⟩) rfl ?_
  refine rwp_det rfl rfl (det_and rfl rfl rfl (fun h => h) rfl) ?_
  refine rwp_det rfl rfl (det_move rfl rfl) ?_
  refine rwp_lazy [] rfl rfl rfl rfl gv1 trivial (fun g7_19 => det_load_agg rfl agg33 rfl (ptr_row 3 rfl) rfl) rfl ?_
  refine rwp_lazy [] rfl rfl rfl rfl gv1 trivial (fun g7_19 => det_load_agg rfl agg33 rfl (ptr_row 3 rfl) rfl) rfl ?_
  refine rwp_lazy [] rfl rfl rfl rfl gv1 trivial (fun g7_19 => det_load_agg rfl agg33 rfl (ptr_row 3 rfl) rfl) rfl ?_
  refine rwp_lazy [(73, _), (74, _), (75, _)] rfl rfl rfl rfl gv1 ⟨rfl, rfl, rfl, rfl, rfl, rfl, trivial⟩ (fun g7_19 => det_bslice rfl el31 zr33 rfl rfl rfl rfl) rfl ?_
  refine rwp_lazy [(76, _)] rfl rfl rfl rfl gv1 ⟨rfl, rfl, trivial⟩ (fun g7_19 => det_buildN [none, none, none, none, none, none, none, none, none, none, some 2, some 4, none] rfl zr33 pl33 rfl rfl) rfl ?_
  refine rwp_lazy [(77, _)] rfl rfl rfl rfl gv1 ⟨rfl, rfl, trivial⟩ (fun g7_19 => det_call rfl ok40 expr_Validate_ex2 ⟨VLe.refl _, rfl, trivial⟩) rfl ?_
  refine rwp_lazy [(78, _)] rfl rfl rfl rfl gv1 ⟨rfl, rfl, trivial⟩ (fun g7_19 => det_eql rfl rfl rfl) rfl ?_
  refine rwp_det rfl rfl (det_and rfl rfl rfl (fun h => h) rfl) ?_
  refine rwp_det rfl rfl (det_move rfl rfl) ?_
  refine rwp_lazy [] rfl rfl rfl rfl gv1 trivial (fun g7_28 => det_load_agg rfl agg33 rfl (ptr_row 1 rfl) rfl) rfl ?_
  refine rwp_lazy [(82, _)] rfl rfl rfl rfl gv1 ⟨rfl, rfl, trivial⟩ (fun g7_28 => det_call rfl ok80 (expr_IsCondition lvE) ⟨VLe.refl _, rfl, trivial⟩) rfl ?_
  refine rwp_lazy [(83, _)] rfl rfl rfl rfl gv1 ⟨rfl, rfl, trivial⟩ (fun g7_28 => det_not rfl rfl) rfl ?_
  refine rwp_det rfl rfl (det_and rfl rfl rfl (fun h => h) rfl) ?_
  refine rwp_det rfl rfl (det_assign rfl rfl) ?_
  refine rwp_nil ?_
  refine awp_ret ?_
  repeat (first | refine thenQ_ret ?_ | refine blockQ_ret ?_)
  refine fin1 (rs_c rfl) ?_
  exact congrArg vB (by decide)

end Go.W
