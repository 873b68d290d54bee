/-
  Walks: what functions of the program compute. Printed by wip/gen/mk2.py.
  Walks: what functions of the program compute. Printed by wip/gen/mk2.py.
  Walks: what functions of the program compute. Printed by wip/gen/mk2.py.
  Walks: what functions of the program compute. Printed by wip/gen/mk2.py.
  Walks: what functions of the program compute. Printed by wip/gen/mk2.py.
  Walks: what functions of the program compute. Printed by wip/gen/mk2.py.
  Walks: what functions of the program compute. Printed by wip/gen/mk2.py.
  Conditions: none.
-/
import Derived.Test.YtlfjpejkoccibaaGreatDoorNR
import Derived.Test.YtlfjpejkoccibaaGreatDoorPlain2
import Derived.Test.YtlfjpejkoccibaaGreatDoorEngZ
section
set_option linter.unusedSimpArgs false
set_option linter.unusedVariables false
set_option maxRecDepth 10000
namespace Go.W
open Go Go.Eng Go.Proofs Go.L41 Go.Br
attribute [local irreducible] AWP RWP TD finQ
theorem ok29 : callOk Tryz.prog 29 = true := by kernel_rfl
theorem ok42 : callOk Tryz.prog 42 = true := by kernel_rfl
theorem ref30_replace_step (l : List St) (i : Int) (p : List Int) (q : List St) (hi : 0 ≤ i ∧ i < l.length) (hl : l.length ≤ 1000000) (hq : q.length ≤ 1000000) (hp : p.length ≤ 1000) (ih : p ≠ [] → Pur cfg 42 [vSts (l.getD i.toNat zSt).Body, vIs p, vSts q] (vSts (replL p (l.getD i.toNat zSt).Body q))) :
    Pur cfg 42 [vSts l, vIs (i :: p), vSts q] (vSts (replL (i :: p) l q)) := by
 refine con_intro Tryz.func42 rfl Tryz.ntmps42 Tryz.results42 rfl ?_
 intro z hz
 have hs := stD_get hi
 generalize hs0 : l.getD i.toNat zSt = s0 at *
 have hw : IntKind.i64.wrap (i + 1) = i + 1 := IntWalk.i64_in _ ⟨by omega, by omega⟩
 refine sReg rfl <|
  rwp_det rfl rfl (det_assignN 20 rfl rfl) <|
  rwp_nil <|
  sReg rfl <|
  rMv rfl <|
  rwp_weak _ (weak_own 46 20) <|
  rwp_nil <|
  sReg rfl <|
  rMv rfl <|
  rMv rfl <|
  rMv rfl <|
  rwp_det rfl rfl (det_index_sl rfl el26 rfl rfl (by omega) rfl) <|
  rwp_det rfl rfl (det_load_one rfl one3 rfl ptr_imm rfl) <|
  rwp_det rfl rfl (det_cut_take (k := i.toNat) rfl el23 rfl (congrArg (fun n => V.c (C.lit (.int .i64 n))) (by omega)) (by omega)) <|
  rwp_op rfl rfl (ope_append 0 rfl el23 rfl rfl rfl (by simp only [List.length_map, List.length_append, List.length_cons, List.length_nil, List.length_take, List.length_drop]; omega) (by simp only [List.length_map, List.length_append, List.length_cons, List.length_nil, List.length_take, List.length_drop]; omega)) ?_
 rintro _ _ ⟨sv2, rfl, rfl⟩
 refine rMv rfl <|
  rwp_nil <|
  awp_seq <|
  sReg rfl <|
  rMv rfl <|
  rwp_det rfl rfl (det_len_slm rfl el26 rfl) <|
  rwp_det rfl rfl (det_eql rfl rfl rfl) <|
  rwp_nil <|
  awp_cond rfl (fun c1 => ?_) (fun c1 => ?_)
 ·try simp only [sx] at c1
  have c1 : p = [] := List.eq_nil_of_length_eq_zero (by simp at c1; omega)
  refine awp_region rfl <|
   rMv rfl <|
   rMv rfl <|
   rwp_op rfl rfl (ope_append 0 rfl el23 rfl rfl rfl (by simp only [List.length_map, List.length_append, List.length_cons, List.length_nil, List.length_take, List.length_drop]; omega) (by simp only [List.length_map, List.length_append, List.length_cons, List.length_nil, List.length_take, List.length_drop]; omega)) ?_
  rintro _ _ ⟨sv3, rfl, rfl⟩
  refine rMv rfl <|
   rwp_nil <|
   sReg rfl <|
   rMv rfl <|
   rMv rfl <|
   rMv rfl <|
   rwp_det rfl rfl (det_index_sl rfl el26 rfl rfl (by omega) rfl) <|
   rwp_det rfl rfl (det_load_one rfl one3 rfl ptr_imm rfl) <|
   rwp_det rfl rfl (det_add_nw rfl rfl rfl ⟨by omega, by omega⟩) <|
   rwp_det rfl rfl (det_cut_drop (k := i.toNat + 1) rfl el23 rfl (congrArg (fun n => V.c (C.lit (.int .i64 n))) (by omega)) (by omega)) <|
   rwp_op rfl rfl (ope_append 0 rfl el23 rfl rfl rfl (by simp only [List.length_map, List.length_append, List.length_cons, List.length_nil, List.length_take, List.length_drop]; omega) (by simp only [List.length_map, List.length_append, List.length_cons, List.length_nil, List.length_take, List.length_drop]; omega)) ?_
  rintro _ _ ⟨sv4, rfl, rfl⟩
  refine rwp_weak _ (weak_freezeM 0 rfl (regs' := [(46, _)]) (μ' := []) ⟨FLe.sl, trivial⟩ trivial) <|
   rMv rfl <|
   rwp_nil <|
   awp_ret <|
   fin1 (rs_c rfl) ?_
  first | (rw [c1, replL_one]; exact congrArg (fun r => V.c (C.sl 20 r)) (by simp [List.map_take, List.map_drop])) | (rw [replL_in c1, hs0]; exact congrArg (fun r => V.c (C.sl 20 r)) (by simp [List.map_take, List.map_drop, St.cells_eq]; rfl))
 ·try simp only [sx] at c1
  have c1 : p ≠ [] := fun h => c1 (by rw [h]; rfl)
  refine sReg rfl <|
   rMv rfl <|
   rMv rfl <|
   rwp_det rfl rfl (det_index_sl rfl el26 rfl rfl (by omega) rfl) <|
   rwp_det rfl rfl (det_load_one rfl one3 rfl ptr_imm rfl) <|
   rwp_det rfl rfl (det_index_sl rfl el23 rfl rfl (by omega) (getmS hs)) <|
   rwp_det rfl rfl (det_load_agg rfl agg46 rfl ptr_imm rfl) <|
   rwp_op rfl rfl (ope_allocN [none, none, none, none, none, some 4, none, none, none, none, none, none, none, none, none, none, some 2, some 4, some 13, some 20] rfl zr46 rfl) ?_
  rintro _ _ ⟨b5, rfl, rfl⟩
  refine rwp_det0 rfl rfl (det_store rfl sz46 rfl rfl rfl (st_row 0 rfl rfl)) <|
   rwp_nil <|
   awp_seq <|
   awp_draw 7 mixed (by kernel_rfl) rfl rfl <|
   td_det rfl rfl (det_field_lit rfl fd46_7 rfl) <|
   td_det rfl rfl (det_load_one rfl one23 rfl (ptr_row 0 rfl) rfl) <|
   td_det rfl rfl (det_move rfl rfl) <|
   td_det rfl rfl (det_cut_drop (k := 1) rfl el26 rfl rfl (by simp)) <|
   td_det rfl rfl (det_move rfl rfl) <|
   td_det rfl rfl (det_call rfl ok42 (ih c1) ⟨VLe.refl _, rfl, VLe.refl _, rfl, VLe.refl _, rfl, trivial⟩) <|
   td_det rfl rfl (det_field_lit rfl fd46_7 rfl) <|
   td_nil <|
   rwp_det0 rfl rfl (det_store rfl sz23 rfl rfl rfl (st_row 0 rfl rfl)) <|
   rwp_nil <|
   awp_region rfl <|
   rMv rfl <|
   rwp_det rfl rfl (det_load_agg rfl agg46 rfl (ptr_row 0 rfl) rfl) <|
   rwp_det rfl rfl (det_bslice rfl el23 zr46 rfl rfl rfl rfl) <|
   rwp_op rfl rfl (ope_append 1 rfl el23 rfl rfl rfl (by simp only [List.length_map, List.length_append, List.length_cons, List.length_nil, List.length_take, List.length_drop]; omega) (by simp only [List.length_map, List.length_append, List.length_cons, List.length_nil, List.length_take, List.length_drop]; omega)) ?_
  rintro _ _ ⟨sv6, rfl, rfl⟩
  refine rMv rfl <|
   rwp_nil <|
   sReg rfl <|
   rMv rfl <|
   rMv rfl <|
   rMv rfl <|
   rwp_det rfl rfl (det_index_sl rfl el26 rfl rfl (by omega) rfl) <|
   rwp_det rfl rfl (det_load_one rfl one3 rfl ptr_imm rfl) <|
   rwp_det rfl rfl (det_add_nw rfl rfl rfl ⟨by omega, by omega⟩) <|
   rwp_det rfl rfl (det_cut_drop (k := i.toNat + 1) rfl el23 rfl (congrArg (fun n => V.c (C.lit (.int .i64 n))) (by omega)) (by omega)) <|
   rwp_op rfl rfl (ope_append 1 rfl el23 rfl rfl rfl (by simp only [List.length_map, List.length_append, List.length_cons, List.length_nil, List.length_take, List.length_drop]; omega) (by simp only [List.length_map, List.length_append, List.length_cons, List.length_nil, List.length_take, List.length_drop]; omega)) ?_
  rintro _ _ ⟨sv7, rfl, rfl⟩
  refine rwp_weak _ (weak_freezeM 1 rfl (regs' := [(46, _)]) (μ' := [_]) ⟨FLe.sl, trivial⟩ ⟨EFle.refl _, trivial⟩) <|
   rMv rfl <|
   rwp_nil <|
   awp_ret <|
   fin1 (rs_c rfl) ?_
  first | (rw [c1, replL_one]; exact congrArg (fun r => V.c (C.sl 20 r)) (by simp [List.map_take, List.map_drop])) | (rw [replL_in c1, hs0]; exact congrArg (fun r => V.c (C.sl 20 r)) (by simp [List.map_take, List.map_drop, St.cells_eq]; rfl))

theorem ref30_replace : ∀ (way : List Int) (l q : List St), way ≠ [] → wayOk way l → stsWt l ≤ 1000000 → q.length ≤ 1000000 → way.length ≤ 1000 → Pur cfg 42 [vSts l, vIs way, vSts q] (vSts (replL way l q))
  | [], _, _, h, _, _, _, _ => absurd rfl h
  | i :: p, l, q, _, hw, hl, hq, hp => ref30_replace_step l i p q hw.1 (by have := stsWt_len l; omega) hq (by rw [List.length_cons] at hp; omega) fun h =>
      ref30_replace p _ q h hw.2 (by have := stsWt_mem (mem_of_get (stD_get hw.1)); have := St.body_wt (l.getD i.toNat zSt); omega) hq (by rw [List.length_cons] at hp; omega)

theorem ref30_Replace (n : Ns) (way : List Int) (q : List St) (hl : stsWt n.Body ≤ 1000000) (hq : q.length ≤ 1000000) (hw : way.length ≤ 1000) :
    Pur cfg 13 [vNs n, vIs way, vSts q] (.tup [vNs (repR n way q), vB (atT n.Body way).2]) := by
 refine con_intro Tryz.func13 rfl Tryz.ntmps13 Tryz.results13 rfl ?_
 intro z hz
 refine sReg rfl <|
  rwp_op rfl rfl (ope_box rfl rfl) ?_
 rintro _ _ ⟨b1, rfl, rfl⟩
 refine rwp_op rfl rfl (ope_allocN [some 8, some 20] rfl zr25 rfl) ?_
 rintro _ _ ⟨b2, rfl, rfl⟩
 refine rMv rfl <|
  rwp_nil <|
  awp_seq <|
  sReg rfl <|
  rwp_det rfl rfl (det_load_agg rfl agg25 rfl (ptr_row 1 rfl) rfl) <|
  rMv rfl <|
  rwp_det rfl rfl (det_call rfl ok29 (ref30_At _ _ (by omega)) ⟨VLe.refl _, rfl, VLe.refl _, rfl, trivial⟩) <|
  rwp_det rfl rfl (det_move_tup rfl rfl) <|
  rwp_det rfl rfl (det_ex_agg rfl rfl rfl) <|
  rwp_det rfl rfl (det_ex_c rfl rfl rfl) <|
  rwp_op rfl rfl (ope_allocN [none, none, none, none, none, some 4, none, none, none, none, none, none, none, none, none, none, some 2, some 4, some 13, some 20] rfl zr46 rfl) ?_
 rintro _ _ ⟨b3, rfl, rfl⟩
 refine rwp_det0 rfl rfl (det_store rfl sz46 rfl rfl rfl (st_row 0 rfl rfl)) <|
  rMv rfl <|
  rwp_nil <|
  sReg rfl <|
  rMv rfl <|
  rwp_det rfl rfl (det_not rfl rfl) <|
  rwp_nil <|
  awp_cond rfl (fun c1 => ?_) (fun c1 => ?_)
 ·try simp only [sx] at c1
  have c1 : (atT n.Body way).2 = false := by simpa using c1
  refine sReg rfl <|
   rwp_det rfl rfl (det_buildN [some 8, some 20] rfl zr25 pl25 rfl rfl) <|
   rwp_det0 rfl rfl (det_store rfl sz25 rfl rfl rfl (st_row 1 rfl rfl)) <|
   rMv rfl <|
   rwp_nil <|
   awp_ret <|
   fin2 (rs_cell_agg agg25 rfl (ptr_row 1 rfl) rfl) (rs_c rfl) ?_
  rw [show repR n way q = ⟨[], []⟩ from if_neg (by rw [c1]; simp), c1]; rfl
 ·try simp only [sx] at c1
  have c1 : (atT n.Body way).2 = true := by simpa using c1
  refine awp_skip <|
   awp_seq <|
   awp_draw 8 mixed (by kernel_rfl) rfl rfl <|
   td_det rfl rfl (det_field_lit rfl fd25_0 rfl) <|
   td_det rfl rfl (det_load_one rfl one22 rfl (ptr_row 2 rfl) rfl) <|
   td_det rfl rfl (det_field_lit rfl fd25_1 rfl) <|
   td_det rfl rfl (det_load_one rfl one23 rfl (ptr_row 2 rfl) rfl) <|
   td_det rfl rfl (det_move rfl rfl) <|
   td_det rfl rfl (det_move rfl rfl) <|
   td_det rfl rfl (det_call rfl ok42 (ref30_replace way n.Body q (way_of c1).1 (way_of c1).2 hl hq hw) ⟨VLe.refl _, rfl, VLe.refl _, rfl, VLe.refl _, rfl, trivial⟩) <|
   td_det rfl rfl (det_build rfl zr25 pl25 rfl) <|
   td_nil <|
   rwp_det0 rfl rfl (det_store rfl sz25 rfl rfl rfl (st_row 1 rfl rfl)) <|
   rMv rfl <|
   rwp_nil <|
   awp_ret <|
   fin2 (rs_cell_agg agg25 rfl (ptr_row 1 rfl) rfl) (rs_c rfl) ?_
  rw [show repR n way q = replN n way q from if_pos c1, c1]; rfl

end Go.W
end
section
set_option linter.unusedSimpArgs false
set_option linter.unusedVariables false
set_option maxRecDepth 10000
namespace Go.W
open Go Go.Eng Go.Proofs Go.L41 Go.Br
attribute [local irreducible] AWP RWP TD finQ
def totK (ls : List (List St)) : Nat := ls.flatten.length
theorem totK_next {ls : List (List St)} {k : Nat} {x : List St} (h : ls[k]? = some x) : totK (ls.take (k + 1)) = totK (ls.take k) + x.length := by
  unfold totK; rw [take_next h, List.flatten_append, List.length_append]; simp
theorem totK_le (ls : List (List St)) (k : Nat) : totK (ls.take k) ≤ totK ls := by
  have : totK ls = totK (ls.take k) + totK (ls.drop k) := by unfold totK; rw [← List.length_append, ← List.flatten_append, List.take_append_drop]
  omega
theorem totK_get {ls : List (List St)} {k : Nat} {x : List St} (h : ls[k]? = some x) : totK (ls.take k) + x.length ≤ totK ls := by
  rw [← totK_next h]; exact totK_le _ _
theorem totK_flat {ls : List (List St)} {k : Nat} {x : List St} (h : ls[k]? = some x) : (ls.take k).flatten.length + x.length ≤ totK ls := totK_get h
theorem el174 : elemT Tryz.prog 174 = some (23, 1, 24) := by kernel_rfl
theorem ik3 : intT Tryz.prog 3 = some .i64 := by kernel_rfl
theorem ok136 : callOk Tryz.prog 136 = true := by kernel_rfl
theorem slices_Grow_st (n : Nat) (hn : n ≤ 4294967296) :
    OwnR cfg 136 [.c (.lit (.slice none 0 0)), vI n] 46 20 ([]) := by
 refine con_intro Tryz.func136 rfl Tryz.ntmps136 Tryz.results136 rfl ?_
 intro z hz
 refine sReg rfl <|
  rwp_det rfl rfl (det_assignN 20 rfl rfl) <|
  rwp_nil <|
  awp_seq <|
  sReg rfl <|
  rMv rfl <|
  rwp_det rfl rfl (det_lss rfl rfl rfl) <|
  rwp_nil <|
  awp_cond rfl (fun c1 => ?_) (fun c1 => ?_)
 ·try simp only [sx] at c1
  exact absurd c1 (by omega)
 ·try simp only [sx] at c1
  refine awp_skip <|
   awp_seq <|
   sReg rfl <|
   rMv rfl <|
   rMv rfl <|
   rwp_det rfl rfl (det_cap_nil rfl el23 rfl) <|
   rMv rfl <|
   rwp_det rfl rfl (det_len_nil rfl el23 rfl) <|
   rwp_det rfl rfl (det_sub_nw rfl rfl rfl ⟨by omega, by omega⟩) <|
   rwp_det rfl rfl (det_sub_nw rfl rfl rfl ⟨by omega, by omega⟩) <|
   rMv rfl <|
   rwp_nil <|
   sReg rfl <|
   rMv rfl <|
   rwp_det rfl rfl (det_gtr rfl rfl rfl) <|
   rwp_nil <|
   awp_cond rfl (fun c2 => ?_) (fun c2 => ?_)
  ·try simp only [sx] at c2
   refine awp_region rfl <|
    rMv rfl <|
    rMv rfl <|
    rwp_det rfl rfl (det_cap_nil rfl el23 rfl) <|
    rwp_det rfl rfl (det_cut_nil rfl el23 rfl rfl) <|
    rMv rfl <|
    rwp_op rfl rfl (ope_grow n rfl el23 ik3 rfl rfl (by omega) (by omega) (by omega) (by omega)) ?_
   rintro _ _ ⟨b1, cap1, rfl, hcap1, rfl⟩
   refine rMv rfl <|
    rwp_det rfl rfl (det_len_nil rfl el23 rfl) <|
    rwp_det rfl rfl (det_cut_row 0 rfl el23 rfl rfl rfl ⟨by omega, hcap1⟩) <|
    rMv rfl <|
    rwp_nil <|
    sReg rfl <|
    rMv rfl <|
    rMv rfl <|
    rwp_nil <|
    awp_ret <|
    fin1 (rs_c rfl) ?_
   exact ⟨_, rfl, rfl⟩
  ·try simp only [sx] at c2
   refine awp_skip <|
    sReg rfl <|
    rMv rfl <|
    rwp_weak _ (weak_own 46 20) <|
    rMv rfl <|
    rwp_nil <|
    awp_ret <|
    fin1 (rs_c rfl) ?_
   exact ⟨_, rfl, rfl⟩

theorem slices_Concat_st (ls : List (List St)) (hl : ls.length ≤ 4294967296) (ht : totK ls ≤ 4294967296) :
    OwnR cfg 90 [.c (.sl 1 (ls.map fun l => [.sl 20 (l.map St.cells)]))] 46 20 (ls.flatten.map St.cells) := by
 refine con_intro Tryz.func90 rfl Tryz.ntmps90 Tryz.results90 rfl ?_
 intro z hz
 refine sReg rfl <|
  rwp_det rfl rfl (det_assignN 20 rfl rfl) <|
  rwp_nil <|
  sReg rfl <|
  rMv rfl <|
  rwp_nil <|
  awp_seq <|
  sReg rfl <|
  rMv rfl <|
  rwp_det rfl rfl (det_len_slm rfl el174 rfl) <|
  rMv rfl <|
  rwp_nil <|
  awp_block <|
  awp_weak ⟨[(11, .c _), (3, .c _), (0, .c _), (9, .c _), (10, .c _)], []⟩ (Weak.mk [] ⟨VLe.of_eq rfl, VLe.of_eq rfl, VLe.of_eq rfl, VLe.of_eq rfl, VLe.of_eq rfl, trivial⟩ rfl) <|
  awp_loop_k 2 0 rfl rfl (Nat) (fun k => [(11, vI k), (3, vI (totK (ls.take k)))]) (fun k => []) (fun k => k ≤ ls.length) (fun k => ls.length - k) ⟨0, (by omega), Weak.mk [] ⟨VLe.refl _, VLe.refl _, VLe.refl _, VLe.refl _, VLe.refl _, trivial⟩ rfl⟩ ?_
 rintro k hk
 refine sReg rfl <|
  rwp_det rfl rfl (det_lss rfl rfl rfl) <|
  rwp_nil <|
  awp_seq <|
  awp_cond rfl (fun c1 => ?_) (fun c1 => ?_)
 ·try simp only [sx] at c1
  obtain ⟨x, hx⟩ := ex_get ls k (by omega)
  have hb1 := totK_get hx
  refine awp_skip <|
   awp_seq <|
   awp_block <|
   sReg rfl <|
   rwp_det rfl rfl (det_index_sl rfl el174 rfl rfl (by omega) (getm (by assumption))) <|
   rwp_det rfl rfl (det_load_one rfl one23 rfl ptr_imm rfl) <|
   rMv rfl <|
   rwp_nil <|
   sReg rfl <|
   rMv rfl <|
   rMv rfl <|
   rwp_det rfl rfl (det_len_slm rfl el23 rfl) <|
   rwp_det rfl rfl (det_add_nw rfl rfl rfl ⟨by omega, by omega⟩) <|
   rMv rfl <|
   rwp_nil <|
   sReg rfl <|
   rMv rfl <|
   rwp_det rfl rfl (det_lss rfl rfl rfl) <|
   rwp_nil <|
   awp_cond rfl (fun c2 => ?_) (fun c2 => ?_)
  ·try simp only [sx] at c2
   exact absurd c2 (by omega)
  ·try simp only [sx] at c2
   refine awp_skip <|
    awp_region rfl <|
    rwp_det rfl rfl (det_add_nw rfl rfl rfl ⟨by omega, by omega⟩) <|
    rMv rfl <|
    rwp_nil ?_
   refine ⟨k + 1, (by omega), (by omega), Weak.mk [] ⟨VLe.refl _, VLe.of_eq (congrArg vI (by rw [totK_next hx]; simp)), VLe.refl _, VLe.refl _, VLe.refl _, trivial⟩ rfl⟩
 ·try simp only [sx] at c1
  have hT : totK (ls.take k) = totK ls := by rw [take_all (by omega)]
  refine awp_exit <|
   sReg rfl <|
   rMv rfl <|
   rwp_op rfl rfl (ope_call_own rfl ok136 (slices_Grow_st (totK (ls.take k)) (by omega)) ⟨VLe.refl _, rfl, VLe.refl _, rfl, trivial⟩) ?_
  rintro _ _ ⟨sv1, rfl, rfl⟩
  refine rMv rfl <|
   rwp_nil <|
   awp_seq <|
   sReg rfl <|
   rMv rfl <|
   rwp_det rfl rfl (det_len_slm rfl el174 rfl) <|
   rMv rfl <|
   rwp_nil <|
   awp_block <|
   awp_weak ⟨[(27, .c _), (6, .c _), (25, .c _), (26, .c _)], [_]⟩ (Weak.mk [true] ⟨VLe.of_eq rfl, VLe.of_eq rfl, VLe.of_eq rfl, VLe.of_eq rfl, trivial⟩ rfl) <|
   awp_loop_k 2 1 rfl rfl (Nat × Value) (fun ⟨k, sv⟩ => [(27, vI k), (6, .c (.lit sv))]) (fun ⟨k, sv⟩ => [E.vec sv 46 20 ((ls.take k).flatten.map St.cells)]) (fun ⟨k, sv⟩ => k ≤ ls.length) (fun ⟨k, sv⟩ => ls.length - k) ⟨⟨0, _⟩, (by omega), Weak.mk [true] ⟨VLe.refl _, VLe.refl _, VLe.refl _, VLe.refl _, trivial⟩ rfl⟩ ?_
  rintro ⟨k, sv⟩ hk
  show AWP _ _ _ _ _ ⟨[(27, vI k), (6, .c (.lit sv))] ++ _, [E.vec sv 46 20 ((ls.take k).flatten.map St.cells)] ++ _⟩
  refine sReg rfl <|
   rwp_det rfl rfl (det_lss rfl rfl rfl) <|
   rwp_nil <|
   awp_seq <|
   awp_cond rfl (fun c3 => ?_) (fun c3 => ?_)
  ·try simp only [sx] at c3
   obtain ⟨x, hx⟩ := ex_get ls k (by omega)
   refine awp_skip <|
    awp_seq <|
    awp_block <|
    sReg rfl <|
    rwp_det rfl rfl (det_index_sl rfl el174 rfl rfl (by omega) (getm (by assumption))) <|
    rwp_det rfl rfl (det_load_one rfl one23 rfl ptr_imm rfl) <|
    rMv rfl <|
    rwp_nil <|
    awp_region rfl <|
    rMv rfl <|
    rMv rfl <|
    rwp_op rfl rfl (ope_append 0 rfl el23 rfl rfl rfl (by have := totK_flat hx; simp only [List.length_map]; omega) (by have := totK_flat hx; simp only [List.length_map]; omega)) ?_
   rintro _ _ ⟨sv2, rfl, rfl⟩
   refine rMv rfl <|
    rwp_nil <|
    awp_region rfl <|
    rwp_det rfl rfl (det_add_nw rfl rfl rfl ⟨by omega, by omega⟩) <|
    rMv rfl <|
    rwp_nil ?_
   refine ⟨⟨k + 1, sv2⟩, (by omega), (by show ls.length - (k + 1) < ls.length - k; omega), Weak.mk [true] ⟨VLe.refl _, VLe.refl _, VLe.refl _, VLe.refl _, trivial⟩ (by show _ = [E.vec sv2 _ 20 ((ls.take (k + 1)).flatten.map St.cells)] ++ _; rw [take_next hx, List.flatten_append, List.map_append]; simp only [List.flatten_cons, List.flatten_nil, List.append_nil]; rfl)⟩
  ·try simp only [sx] at c3
   refine awp_exit <|
    sReg rfl <|
    rMv rfl <|
    rMv rfl <|
    rwp_nil <|
    awp_ret <|
    fin1 (rs_c rfl) ?_
   exact ⟨_, rfl, by rw [take_all (by omega)]; rfl⟩

theorem slices_Concat_3 (x y z : List St) (hx : x.length ≤ 1073741824) (hy : y.length ≤ 1073741824) (hz : z.length ≤ 1073741824) : OwnR cfg 90 [.c (.sl 1 [[.sl 20 (x.map St.cells)], [.sl 20 (y.map St.cells)], [.sl 20 (z.map St.cells)]])] 46 20 ((x ++ y ++ z).map St.cells) := by
  have h := slices_Concat_st [x, y, z] (by simp) (by simp [totK]; omega)
  simpa using h

end Go.W
end
section
set_option linter.unusedSimpArgs false
set_option linter.unusedVariables false
set_option maxRecDepth 10000
namespace Go.W
open Go Go.Eng Go.Proofs Go.L41 Go.Br
attribute [local irreducible] AWP RWP TD finQ
theorem ok90 : callOk Tryz.prog 90 = true := by kernel_rfl
theorem zr23 : zeroT Tryz.prog 23 = some [(Value.slice none 0 0)] := by kernel_rfl
theorem replaceIn_one (sv : Value) (l : List St) (i : Int) (q : List St) (hi : 0 ≤ i ∧ i < l.length) (hl : l.length ≤ 1073741823) (hq : q.length ≤ 1073741823) :
    Con cfg 40 [.c (.lit sv), vIs [i], vSts q] [.vec sv 46 20 (l.map St.cells)] fun r μ' => ∃ sv', r = .c (.lit sv') ∧ μ' = [.vec sv' 46 20 ((replL [i] l q).map St.cells)] := by
 refine con_intro Tryz.func40 rfl Tryz.ntmps40 Tryz.results40 rfl ?_
 intro z hz
 have hw : IntKind.i64.wrap (i + 1) = i + 1 := IntWalk.i64_in _ ⟨by omega, by omega⟩
 refine sReg rfl <|
  rwp_det rfl rfl (det_assignN 20 rfl rfl) <|
  rwp_nil <|
  sReg rfl <|
  rMv rfl <|
  rwp_det rfl rfl (det_index_sl rfl el26 rfl rfl (by omega) rfl) <|
  rwp_det rfl rfl (det_load_one rfl one3 rfl ptr_imm rfl) <|
  rMv rfl <|
  rwp_nil <|
  awp_seq <|
  sReg rfl <|
  rMv rfl <|
  rwp_det rfl rfl (det_len_slm rfl el26 rfl) <|
  rwp_det rfl rfl (det_eql rfl rfl rfl) <|
  rwp_nil <|
  awp_cond rfl (fun c1 => ?_) (fun c1 => ?_)
 ·try simp only [sx] at c1
  refine awp_seq <|
   awp_weak _ (weak_freezeM 0 rfl (regs' := [(0, _)]) (μ' := []) ⟨FLe.sl, trivial⟩ trivial) <|
   awp_draw 9 mixed (by kernel_rfl) rfl rfl <|
   td_det rfl rfl (det_move rfl rfl) <|
   td_det rfl rfl (det_move rfl rfl) <|
   td_det rfl rfl (det_cut_take (k := i.toNat) rfl el23 rfl (congrArg (fun n => V.c (C.lit (.int .i64 n))) (by omega)) (by omega)) <|
   td_det rfl rfl (det_move rfl rfl) <|
   td_det rfl rfl (det_move rfl rfl) <|
   td_det rfl rfl (det_move rfl rfl) <|
   td_det rfl rfl (det_add_nw rfl rfl rfl ⟨by omega, by omega⟩) <|
   td_det rfl rfl (det_cut_drop (k := i.toNat + 1) rfl el23 rfl (congrArg (fun n => V.c (C.lit (.int .i64 n))) (by omega)) (by omega)) <|
   td_det rfl rfl (det_bslice rfl el174 zr23 rfl rfl rfl rfl) <|
   td_nil <|
   rwp_op rfl rfl (ope_call_own rfl ok90 (slices_Concat_3 (l.take i.toNat) q (l.drop (i.toNat + 1)) (by rw [List.length_take]; omega) (by omega) (by rw [List.length_drop]; omega)) ⟨VLe.refl _, rfl, trivial⟩) ?_
  rintro _ _ ⟨sv1, rfl, rfl⟩
  refine rMv rfl <|
   rwp_nil <|
   awp_ret <|
   fin1 (rs_c rfl) ?_
  exact ⟨_, rfl, by rw [replL_one]⟩
 ·try simp only [sx] at c1
  exact absurd rfl c1

end Go.W
end
section
set_option linter.unusedSimpArgs false
set_option linter.unusedVariables false
set_option maxRecDepth 10000
namespace Go.W
open Go Go.Eng Go.Proofs Go.L41 Go.Br
attribute [local irreducible] AWP RWP TD finQ
/-- A statement's row with another cell for its body. -/
def csB (s : St) (c : C) : List C := [cI s.Op, cS s.Name, cI s.Many, cI s.Mark, cI s.Fold, .sl 4 (s.Idx.map Ix.cells), cI s.E.Op, cS s.E.Name, cI s.E.Val.N, cI s.E.Val.D, cI s.E.Ty.Kind, cI s.E.Ty.Bits, cI s.E.Ty.Frac, cI s.E.Ty.Round, cI s.E.Ty.Over, cI s.E.Lin.K, .sl 2 (s.E.Lin.L.map Mono.cells), .sl 4 (s.E.Idx.map Ix.cells), .sl 13 (s.E.Args.map Ex.cells), c]
theorem csB_set (s : St) (b : List St) : csB s (.sl 20 (b.map St.cells)) = (setB s b).cells := by rw [St.cells_eq]; rfl
theorem rep_in {l : List St} {i : Int} (h : 0 ≤ i ∧ i < l.length) (s : St) : (l.map St.cells).set i.toNat s.cells = (l.take i.toNat ++ [s] ++ l.drop (i.toNat + 1)).map St.cells := by
  have hl : i.toNat < l.length := by omega
  rw [List.set_eq_take_append_cons_drop, if_pos (by rw [List.length_map]; exact hl)]
  simp [List.map_take, List.map_drop]

theorem replaceIn_in (sv sv1 : Value) (l : List St) (i : Int) (p : List Int) (rest : List E) (q : List St) (hp : p ≠ []) (hi : 0 ≤ i ∧ i < l.length) (ih : Con cfg 40 [.c (.lit sv1), vIs p, vSts q] rest (fun r μ' => ∃ sv', r = .c (.lit sv') ∧ μ' = [.vec sv' 46 20 ((replL p (l.getD i.toNat zSt).Body q).map St.cells)])) :
    Con cfg 40 [.c (.lit sv), vIs (i :: p), vSts q] (.vec sv 46 20 ((l.map St.cells).set i.toNat (csB (l.getD i.toNat zSt) (.lit sv1))) :: rest) (fun r μ' => ∃ sv', r = .c (.lit sv') ∧ μ' = [.vec sv' 46 20 ((replL (i :: p) l q).map St.cells)]) := by
 refine con_intro Tryz.func40 rfl Tryz.ntmps40 Tryz.results40 rfl ?_
 intro z hz
 generalize hs0 : l.getD i.toNat zSt = s0 at *
 refine sReg rfl <|
  rwp_det rfl rfl (det_assignN 20 rfl rfl) <|
  rwp_nil <|
  sReg rfl <|
  rMv rfl <|
  rwp_det rfl rfl (det_index_sl rfl el26 rfl rfl (by omega) rfl) <|
  rwp_det rfl rfl (det_load_one rfl one3 rfl ptr_imm rfl) <|
  rMv rfl <|
  rwp_nil <|
  awp_seq <|
  sReg rfl <|
  rMv rfl <|
  rwp_det rfl rfl (det_len_slm rfl el26 rfl) <|
  rwp_det rfl rfl (det_eql rfl rfl rfl) <|
  rwp_nil <|
  awp_cond rfl (fun c1 => ?_) (fun c1 => ?_)
 ·try simp only [sx] at c1
  exact absurd (List.eq_nil_of_length_eq_zero (by simp at c1; omega)) hp
 ·try simp only [sx] at c1
  refine awp_skip <|
   awp_seq <|
   awp_draw_s 10 [true, true, false, false, false, false, false, false, false, false] Mall mixed (by kernel_rfl) rfl rfl rfl <|
   td2_detA rfl rfl (fun _ => det_move rfl rfl) <|
   td2_detA rfl rfl (fun _ => det_move rfl rfl) <|
   td2_det rfl rfl (det_move rfl rfl) <|
   td2_det rfl rfl (det_move rfl rfl) <|
   td2_det rfl rfl (det_index_vec 0 rfl el23 rfl rfl rfl (by omega) (by simp; omega)) <|
   td2_det rfl rfl (det_field_vec rfl fd46_7 rfl) <|
   td2_det rfl rfl (det_load_one rfl one23 rfl (ptr_vec 0 rfl (set_get (by simp; omega))) rfl) <|
   td2_det rfl rfl (det_move rfl rfl) <|
   td2_det rfl rfl (det_cut_drop (k := 1) rfl el26 rfl rfl (by simp)) <|
   td2_det rfl rfl (det_move rfl rfl) <|
   td2_nil ?_
  refine ⟨_, ope_call_tail rfl ok91 ih ⟨VLe.refl _, rfl, VLe.refl _, rfl, VLe.refl _, rfl, trivial⟩, fun _ _ _ => trivial, ?_⟩
  rintro _ _ ⟨sv9, rfl, rfl⟩
  refine rwp_det rfl rfl (det_index_vec 0 rfl el23 rfl rfl rfl (by omega) (by simp; omega)) <|
   rwp_det rfl rfl (det_field_vec rfl fd46_7 rfl) <|
   rwp_det0 rfl rfl (det_store rfl sz23 rfl rfl rfl (st_vec 0 rfl (set_get (by simp; omega)) rfl)) <|
   rwp_nil <|
   awp_seq <|
   awp_weak _ (weak_freezeM 1 rfl (regs' := []) (μ' := [_]) trivial ⟨EFle.vec (r' := [_, _, _, _, _, _, _, _, _, _, _, _, _, _, _, _, _, _, _, _]) (set_get (by simp; omega)) ⟨.inl rfl, .inl rfl, .inl rfl, .inl rfl, .inl rfl, .inl rfl, .inl rfl, .inl rfl, .inl rfl, .inl rfl, .inl rfl, .inl rfl, .inl rfl, .inl rfl, .inl rfl, .inl rfl, .inl rfl, .inl rfl, .inl rfl, .inr ⟨rfl, rfl⟩, trivial⟩, trivial⟩) <|
   awp_region rfl <|
   rMv rfl <|
   rMv rfl <|
   rwp_nil <|
   awp_ret <|
   fin1 (rs_c rfl) ?_
  refine ⟨_, rfl, ?_⟩
  rw [List.set_set, List.set_set]
  have e1 := rep_in hi (setB s0 (replL p s0.Body q))
  rw [replL_in hp, hs0, ← e1, ← csB_set]
  rfl

end Go.W
end
section
set_option linter.unusedSimpArgs false
set_option linter.unusedVariables false
set_option maxRecDepth 10000
namespace Go.W
open Go Go.Eng Go.Proofs Go.L41 Go.Br
attribute [local irreducible] AWP RWP TD finQ
/-- The own slices along a path. -/
def chE : List (Int × Value) → List St → List E
  | [], _ => []
  | [(_, sv)], l => [.vec sv 46 20 (l.map St.cells)]
  | (i, sv) :: (j, sv1) :: r, l => .vec sv 46 20 ((l.map St.cells).set i.toNat (csB (l.getD i.toNat zSt) (.lit sv1))) :: chE ((j, sv1) :: r) (l.getD i.toNat zSt).Body

theorem replaceIn_con (q : List St) (hq : q.length ≤ 1000000) : ∀ (r : List (Int × Value)) (i : Int) (sv : Value) (l : List St), wayOk (i :: r.map Prod.fst) l → stsWt l ≤ 1000000 →
    Con cfg 40 [.c (.lit sv), vIs (i :: r.map Prod.fst), vSts q] (chE ((i, sv) :: r) l) fun r' μ' => ∃ sv', r' = .c (.lit sv') ∧ μ' = [.vec sv' 46 20 ((replL (i :: r.map Prod.fst) l q).map St.cells)]
  | [], i, sv, l, hw, hl => replaceIn_one sv l i q hw.1 (by have := stsWt_len l; omega) (by omega)
  | (j, sv1) :: r, i, sv, l, hw, hl => by
    rw [chE]
    exact replaceIn_in sv sv1 l i (j :: r.map Prod.fst) (chE ((j, sv1) :: r) (l.getD i.toNat zSt).Body) q (by simp) hw.1
      (replaceIn_con q hq r j sv1 _ hw.2 (by have := stsWt_mem (mem_of_get (stD_get hw.1)); have := St.body_wt (l.getD i.toNat zSt); omega))

end Go.W
end
section
set_option linter.unusedSimpArgs false
set_option linter.unusedVariables false
set_option maxRecDepth 10000
namespace Go.W
open Go Go.Eng Go.Proofs Go.L41 Go.Br
attribute [local irreducible] AWP RWP TD finQ
theorem lt_of_get {α : Type} {l : List α} {k : Nat} {x : α} (h : l[k]? = some x) : k < l.length := (List.getElem?_eq_some_iff.1 h).1
/-- Statements of which those ahead of k are done; the i-th has v for its body. -/
def rowsI (l : List St) (i : Nat) (v : Value) (k : Nat) : List (List C) := ((l.map St.cells).set i (csB (l.getD i zSt) (.lit v))).take k ++ (l.drop k).map St.cells
theorem rowsI_get {l : List St} {i : Nat} {v : Value} {k : Nat} {s : St} (h : l[k]? = some s) : (rowsI l i v k)[k]? = some s.cs := by
  have := lt_of_get h
  unfold rowsI; exact mid_getS (by simp; omega) h
theorem rowsI_lt {l : List St} {i : Nat} {v : Value} {k : Nat} {s : St} (h : l[k]? = some s) : k < (rowsI l i v k).length := by
  have := lt_of_get h
  unfold rowsI; simp; omega
theorem rowsI_set {l : List St} {i : Nat} {v v9 : Value} {k : Nat} {s : St} {b : C} (h : l[k]? = some s) (hb : (k = i ∧ b = .lit v9) ∨ (k ≠ i ∧ b = .sl 20 (s.Body.map St.cells))) : (rowsI l i v k).set k (csB s b) = rowsI l i (if k = i then v9 else v) (k + 1) := by
  have hk := lt_of_get h
  have hm : (l.map St.cells)[k]? = some s.cells := by rw [List.getElem?_map, h]; rfl
  unfold rowsI
  rw [mid_set (by simp; omega) h]
  congr 1
  rcases hb with ⟨rfl, rfl⟩ | ⟨hne, rfl⟩
  · rw [if_pos rfl, List.take_set_of_le (Nat.le_refl k), take_next (l := (l.map St.cells).set k (csB (l.getD k zSt) (.lit v9))) (x := csB s (.lit v9)), List.take_set_of_le (Nat.le_refl k)]
    rw [List.getElem?_set_self (by simpa using hk), show l.getD k zSt = s by rw [List.getD_eq_getElem?_getD, h]; rfl]
  · rw [if_neg hne, take_next (l := (l.map St.cells).set i (csB (l.getD i zSt) (.lit v))) (x := csB s (.sl 20 (s.Body.map St.cells)))]
    rw [List.getElem?_set_ne (fun h => hne h.symm), hm, csB_set, setB_self]
theorem rowsI_none (l : List St) (v : Value) : rowsI l l.length v l.length = l.map St.cells := by
  unfold rowsI
  rw [List.set_eq_of_length_le (by simp), List.take_of_length_le (by simp), List.drop_length]; simp
theorem rowsI_all (l : List St) (i : Nat) (v : Value) : rowsI l i v l.length = (l.map St.cells).set i (csB (l.getD i zSt) (.lit v)) := by
  unfold rowsI
  rw [List.take_of_length_le (by simp), List.drop_length]; simp
theorem invX {k i : Nat} {X Y : List E} {v : Value} {b c : C} {Q : Value → List E → Prop} (hX : k ≤ i → X = []) (hb : (k = i ∧ b = .lit v ∧ Q v Y) ∨ (k ≠ i ∧ b = c ∧ Y = [])) : k + 1 ≤ i → X ++ Y = [] := by
  intro h
  rcases hb with ⟨h1, _, _⟩ | ⟨_, _, rfl⟩
  · omega
  · rw [hX (by omega)]; rfl
theorem invQ {k i : Nat} {X Y : List E} {v v0 : Value} {b c : C} {Q : Value → List E → Prop} (hX : k ≤ i → X = []) (hQ : i < k → Q v0 X) (hb : (k = i ∧ b = .lit v ∧ Q v Y) ∨ (k ≠ i ∧ b = c ∧ Y = [])) : i < k + 1 → Q (if k = i then v else v0) (X ++ Y) := by
  intro h
  rcases hb with ⟨h1, _, hq⟩ | ⟨h1, _, rfl⟩
  · rw [if_pos h1, hX (by omega)]; exact hq
  · rw [if_neg h1, List.append_nil]; exact hQ (by omega)
def hdV : List (Int × Value) → Value
  | [] => .slice none 0 0
  | (_, v) :: _ => v

theorem mapIx_id {c : C} {P : Lf → Prop} (hf : ∀ l, P l → FnPur cfg c [vLin l] (.tup [vLin l, vI 0])) (i : List Ix) (hi : i.length ≤ 4294967296) (hA : ∀ x, x ∈ i → x.At.length ≤ 4294967296) (hP : ixsAll P i) : Pur cfg 87 [vIndices i, .c c] (.tup [vIndices i, vI 0]) := by
  have h := loopnest_mapIndices idF c P hf i hi hA hP
  rw [mIxs_id] at h; exact h
theorem mapEx_id {c : C} {P : Lf → Prop} (hf : ∀ l, P l → FnPur cfg c [vLin l] (.tup [vLin l, vI 0])) (e : Ex) (hP : e.allF P) (he : e.cnt ≤ 4294967296) : Pur cfg 138 [vE e, .c c] (.tup [vE e, vI 0]) := by
  have h := loopnest_mapExpr idF c P hf e hP he
  rw [mEx_id] at h; exact h
theorem mapSts_id {c c9 : C} {P : Lf → Prop} (hf : ∀ l, P l → FnPur cfg c [vLin l] (.tup [vLin l, vI 0])) (hg : ∀ s, FnPur cfg c9 [vS s] (vS s)) (l : List St) (hP : allSs P l) (hl : stsWt l ≤ 1073741824) : Pur cfg 91 [vSts l, .c c, .c c9] (.tup [vSts l, vI 0]) := by
  have h := loopnest_mapStmts idF c P hf (fun x => x) c9 hg l hP hl
  rw [mSts_id] at h; exact h

theorem mapStmtsP_step {c c9 : C} {P : Lf → Prop} (hf : ∀ l, P l → FnPur cfg c [vLin l] (.tup [vLin l, vI 0])) (hg : ∀ s, FnPur cfg c9 [vS s] (vS s)) (l : List St) (hP : allSs P l) (i : Nat) (Q : Value → List E → Prop) (ih : ∀ k s, l[k]? = some s → Con cfg 91 [vSts s.Body, .c c, .c c9] [] (fun r μ' => ∃ b v, r = .tup [.c b, vI 0] ∧ ((k = i ∧ b = .lit v ∧ Q v μ') ∨ (k ≠ i ∧ b = .sl 20 (s.Body.map St.cells) ∧ μ' = [])))) (hl : stsWt l ≤ 1073741824) :
    Con cfg 91 [vSts l, .c c, .c c9] [] (fun r μ' => ∃ sv v X, r = .tup [.c (.lit sv), vI 0] ∧ μ' = .vec sv 46 20 (rowsI l i v l.length) :: X ∧ (l.length ≤ i → X = []) ∧ (i < l.length → Q v X)) := by
 refine con_intro Tryz.func91 rfl Tryz.ntmps91 Tryz.results91 rfl ?_
 intro z hz
 have hll := stsWt_len l
 refine sReg rfl <|
  rwp_det rfl rfl (det_assignN 20 rfl rfl) <|
  rMv rfl <|
  rwp_nil <|
  sReg rfl <|
  rMv rfl <|
  rwp_op rfl rfl (ope_call_own rfl ok137 (slices_Clone_st l (by omega)) ⟨VLe.refl _, rfl, trivial⟩) ?_
 rintro _ _ ⟨sv1, rfl, rfl⟩
 refine rMv rfl <|
  rwp_nil <|
  sReg rfl <|
  rMv rfl <|
  rwp_nil <|
  awp_seq <|
  sReg rfl <|
  rMv rfl <|
  rwp_det rfl rfl (det_len_slm rfl el23 rfl) <|
  rMv rfl <|
  rwp_nil <|
  awp_block <|
  awp_weak ⟨[(15, .c _), (0, .c _), (1, .c _), (2, .c _), (8, .c _), (14, .c _)], _⟩ (Weak.regs ⟨VLe.of_eq rfl, VLe.of_eq rfl, VLe.of_eq rfl, VLe.of_eq rfl, VLe.of_eq rfl, VLe.of_eq rfl, trivial⟩) <|
  awp_loop_m 1 rfl (Nat × Value × List E) (fun ⟨k, v, X⟩ => [(15, vI k)]) (fun ⟨k, v, X⟩ => (E.vec sv1 46 20 (rowsI l i v k) :: X)) (fun ⟨k, v, X⟩ => k ≤ l.length ∧ (k ≤ i → X = []) ∧ (i < k → Q v X)) (fun ⟨k, v, X⟩ => l.length - k) ⟨⟨0, .slice none 0 0, []⟩, ⟨by omega, fun _ => rfl, fun h => absurd h (Nat.not_lt_zero _)⟩, Weak.regsEq ⟨VLe.refl _, VLe.refl _, VLe.refl _, VLe.refl _, VLe.refl _, VLe.refl _, trivial⟩ rfl⟩ ?_
 rintro ⟨k, v, X⟩ ⟨hk, hX, hQ⟩
 show AWP _ _ _ _ _ ⟨[(15, vI k)] ++ _, (E.vec sv1 46 20 (rowsI l i v k) :: X)⟩
 refine sReg rfl <|
  rwp_det rfl rfl (det_lss rfl rfl rfl) <|
  rwp_nil <|
  awp_seq <|
  awp_cond rfl (fun c1 => ?_) (fun c1 => ?_)
 ·try simp only [sx] at c1
  obtain ⟨s, hs⟩ := ex_get l k (by omega)
  have hsw := stsWt_mem (mem_of_get hs)
  have hse := St.wt_eq s
  have hPs := St.allF_eq (allSs_mem hP s (mem_of_get hs))
  refine awp_skip <|
   awp_seq <|
   awp_block <|
   sReg rfl <|
   rMv rfl <|
   rMv rfl <|
   rwp_nil <|
   awp_seq <|
   sReg rfl <|
   rMv rfl <|
   rMv rfl <|
   rwp_det rfl rfl (det_index_sl rfl el23 rfl rfl (by omega) (getmS hs)) <|
   rwp_det rfl rfl (det_field_imm rfl fd46_0 rfl) <|
   rwp_det rfl rfl (det_load_one rfl one3 rfl ptr_imm rfl) <|
   rwp_det rfl rfl (det_eql rfl rfl rfl) <|
   rwp_nil <|
   awp_cond rfl (fun c2 => ?_) (fun c2 => ?_)
  ·try simp only [sx] at c2
   refine awp_region rfl <|
    rMv rfl <|
    rMv rfl <|
    rMv rfl <|
    rMv rfl <|
    rMv rfl <|
    rwp_det rfl rfl (det_index_sl rfl el23 rfl rfl (by omega) (getmS hs)) <|
    rwp_det rfl rfl (det_field_imm rfl fd46_1 rfl) <|
    rwp_det rfl rfl (det_load_one rfl one9 rfl ptr_imm rfl) <|
    rwp_det rfl rfl (det_call_val rfl rfl (hg s.Name) ⟨VLe.refl _, rfl, trivial⟩) <|
    rwp_det rfl rfl (det_index_vec 0 rfl el23 rfl rfl rfl (by omega) (by simpa using rowsI_lt hs)) <|
    rwp_det rfl rfl (det_field_vec rfl fd46_1 rfl) <|
    rwp_det0 rfl rfl (det_store rfl sz9 rfl rfl rfl (st_vec 0 rfl (rowsI_get hs) rfl)) <|
    rwp_nil <|
    awp_seq <|
    sReg rfl <|
    rMv rfl <|
    rMv rfl <|
    rMv rfl <|
    rMv rfl <|
    rwp_det rfl rfl (det_index_sl rfl el23 rfl rfl (by omega) (getmS hs)) <|
    rwp_det rfl rfl (det_field_imm rfl fd46_5 rfl) <|
    rwp_det rfl rfl (det_load_one rfl one34 rfl ptr_imm rfl) <|
    rMv rfl <|
    rwp_det rfl rfl (det_call rfl ok87 (mapIx_id hf s.Idx (by omega) (fun x hx => by have := idxWt_mem hx; rw [Ix.wt] at this; omega) hPs.1) ⟨VLe.refl _, rfl, VLe.refl _, rfl, trivial⟩) <|
    rwp_det rfl rfl (det_move_tup rfl rfl) <|
    rwp_det rfl rfl (det_ex_c rfl rfl rfl) <|
    rwp_det rfl rfl (det_ex_c rfl rfl rfl) <|
    rwp_det rfl rfl (det_index_vec 0 rfl el23 rfl rfl rfl (by omega) (by simpa using rowsI_lt hs)) <|
    rwp_det rfl rfl (det_field_vec rfl fd46_5 rfl) <|
    rwp_det0 rfl rfl (det_store rfl sz34 rfl rfl rfl (st_vec 0 rfl (set_get (by simpa using rowsI_lt hs)) rfl)) <|
    rMv rfl <|
    rwp_nil <|
    sReg rfl <|
    rMv rfl <|
    rwp_det rfl rfl (det_neq rfl rfl rfl) <|
    rwp_nil <|
    awp_cond rfl (fun c3 => ?_) (fun c3 => ?_)
   ·try simp only [sx] at c3
    exact (c3 trivial).elim
   ·try simp only [sx] at c3
    refine awp_skip <|
     awp_seq <|
     sReg rfl <|
     rMv rfl <|
     rMv rfl <|
     rMv rfl <|
     rMv rfl <|
     rwp_det rfl rfl (det_index_sl rfl el23 rfl rfl (by omega) (getmS hs)) <|
     rwp_det rfl rfl (det_field_imm rfl fd46_6 rfl) <|
     rwp_det rfl rfl (det_load_agg rfl agg44 rfl ptr_imm rfl) <|
     rMv rfl <|
     rwp_det rfl rfl (det_call rfl ok138 (mapEx_id hf s.E hPs.2.1 (by have := s.E.cnt_le; omega)) ⟨VLe.refl _, rfl, VLe.refl _, rfl, trivial⟩) <|
     rwp_det rfl rfl (det_move_tup rfl rfl) <|
     rwp_det rfl rfl (det_ex_agg rfl rfl rfl) <|
     rwp_det rfl rfl (det_ex_c rfl rfl rfl) <|
     rwp_det rfl rfl (det_index_vec 0 rfl el23 rfl rfl rfl (by omega) (by simpa using rowsI_lt hs)) <|
     rwp_det rfl rfl (det_field_vec rfl fd46_6 rfl) <|
     rwp_det0 rfl rfl (det_store rfl sz44 rfl rfl rfl (st_vec 0 rfl (set_get (by simpa using rowsI_lt hs)) rfl)) <|
     rMv rfl <|
     rwp_nil <|
     sReg rfl <|
     rMv rfl <|
     rwp_det rfl rfl (det_neq rfl rfl rfl) <|
     rwp_nil <|
     awp_cond rfl (fun c4 => ?_) (fun c4 => ?_)
    ·try simp only [sx] at c4
     exact (c4 trivial).elim
    ·try simp only [sx] at c4
     refine awp_skip <|
      sReg rfl <|
      rMv rfl <|
      rMv rfl <|
      rMv rfl <|
      rMv rfl <|
      rwp_det rfl rfl (det_index_sl rfl el23 rfl rfl (by omega) (getmS hs)) <|
      rwp_det rfl rfl (det_field_imm rfl fd46_7 rfl) <|
      rwp_det rfl rfl (det_load_one rfl one23 rfl ptr_imm rfl) <|
      rMv rfl <|
      rMv rfl <|
      rwp_op rfl rfl (ope_call_back rfl ok91 (ih k s hs) ⟨VLe.refl _, rfl, VLe.refl _, rfl, VLe.refl _, rfl, trivial⟩) ?_
     rintro _ _ ⟨μ9, ⟨b, v9, rfl, hb⟩, rfl⟩
     refine rwp_det rfl rfl (det_move_tup rfl rfl) <|
      rwp_det rfl rfl (det_ex_c rfl rfl rfl) <|
      rwp_det rfl rfl (det_ex_c rfl rfl rfl) <|
      rwp_det rfl rfl (det_index_vec 0 rfl el23 rfl rfl rfl (by omega) (by simpa using rowsI_lt hs)) <|
      rwp_det rfl rfl (det_field_vec rfl fd46_7 rfl) <|
      rwp_det0 rfl rfl (det_store rfl sz23 rfl rfl rfl (st_vec 0 rfl (set_get (by simpa using rowsI_lt hs)) rfl)) <|
      rMv rfl <|
      rwp_nil <|
      sReg rfl <|
      rMv rfl <|
      rwp_det rfl rfl (det_neq rfl rfl rfl) <|
      rwp_nil <|
      awp_cond rfl (fun c5 => ?_) (fun c5 => ?_)
     ·try simp only [sx] at c5
      exact (c5 trivial).elim
     ·try simp only [sx] at c5
      refine awp_skip <|
       awp_region rfl <|
       rwp_det rfl rfl (det_add_nw rfl rfl rfl ⟨by omega, by omega⟩) <|
       rMv rfl <|
       rwp_nil ?_
      refine ⟨⟨k + 1, (if k = i then v9 else v), X ++ μ9⟩, ⟨by omega, invX hX hb, invQ hX hQ hb⟩, (by show l.length - (k + 1) < l.length - k; omega), Weak.regsEq ⟨VLe.refl _, VLe.refl _, VLe.refl _, VLe.refl _, VLe.refl _, VLe.refl _, trivial⟩ (congrArg (fun rows => E.vec sv1 46 20 rows :: (X ++ μ9)) (by simp only [Int.toNat_natCast, List.set_set]; exact rowsI_set hs (hb.imp (fun h => ⟨h.1, h.2.1⟩) (fun h => ⟨h.1, h.2.1⟩))))⟩
  ·try simp only [sx] at c2
   refine awp_skip <|
    awp_seq <|
    sReg rfl <|
    rMv rfl <|
    rMv rfl <|
    rMv rfl <|
    rMv rfl <|
    rwp_det rfl rfl (det_index_sl rfl el23 rfl rfl (by omega) (getmS hs)) <|
    rwp_det rfl rfl (det_field_imm rfl fd46_5 rfl) <|
    rwp_det rfl rfl (det_load_one rfl one34 rfl ptr_imm rfl) <|
    rMv rfl <|
    rwp_det rfl rfl (det_call rfl ok87 (mapIx_id hf s.Idx (by omega) (fun x hx => by have := idxWt_mem hx; rw [Ix.wt] at this; omega) hPs.1) ⟨VLe.refl _, rfl, VLe.refl _, rfl, trivial⟩) <|
    rwp_det rfl rfl (det_move_tup rfl rfl) <|
    rwp_det rfl rfl (det_ex_c rfl rfl rfl) <|
    rwp_det rfl rfl (det_ex_c rfl rfl rfl) <|
    rwp_det rfl rfl (det_index_vec 0 rfl el23 rfl rfl rfl (by omega) (by simpa using rowsI_lt hs)) <|
    rwp_det rfl rfl (det_field_vec rfl fd46_5 rfl) <|
    rwp_det0 rfl rfl (det_store rfl sz34 rfl rfl rfl (st_vec 0 rfl (rowsI_get hs) rfl)) <|
    rMv rfl <|
    rwp_nil <|
    sReg rfl <|
    rMv rfl <|
    rwp_det rfl rfl (det_neq rfl rfl rfl) <|
    rwp_nil <|
    awp_cond rfl (fun c3 => ?_) (fun c3 => ?_)
   ·try simp only [sx] at c3
    exact (c3 trivial).elim
   ·try simp only [sx] at c3
    refine awp_skip <|
     awp_seq <|
     sReg rfl <|
     rMv rfl <|
     rMv rfl <|
     rMv rfl <|
     rMv rfl <|
     rwp_det rfl rfl (det_index_sl rfl el23 rfl rfl (by omega) (getmS hs)) <|
     rwp_det rfl rfl (det_field_imm rfl fd46_6 rfl) <|
     rwp_det rfl rfl (det_load_agg rfl agg44 rfl ptr_imm rfl) <|
     rMv rfl <|
     rwp_det rfl rfl (det_call rfl ok138 (mapEx_id hf s.E hPs.2.1 (by have := s.E.cnt_le; omega)) ⟨VLe.refl _, rfl, VLe.refl _, rfl, trivial⟩) <|
     rwp_det rfl rfl (det_move_tup rfl rfl) <|
     rwp_det rfl rfl (det_ex_agg rfl rfl rfl) <|
     rwp_det rfl rfl (det_ex_c rfl rfl rfl) <|
     rwp_det rfl rfl (det_index_vec 0 rfl el23 rfl rfl rfl (by omega) (by simpa using rowsI_lt hs)) <|
     rwp_det rfl rfl (det_field_vec rfl fd46_6 rfl) <|
     rwp_det0 rfl rfl (det_store rfl sz44 rfl rfl rfl (st_vec 0 rfl (set_get (by simpa using rowsI_lt hs)) rfl)) <|
     rMv rfl <|
     rwp_nil <|
     sReg rfl <|
     rMv rfl <|
     rwp_det rfl rfl (det_neq rfl rfl rfl) <|
     rwp_nil <|
     awp_cond rfl (fun c4 => ?_) (fun c4 => ?_)
    ·try simp only [sx] at c4
     exact (c4 trivial).elim
    ·try simp only [sx] at c4
     refine awp_skip <|
      sReg rfl <|
      rMv rfl <|
      rMv rfl <|
      rMv rfl <|
      rMv rfl <|
      rwp_det rfl rfl (det_index_sl rfl el23 rfl rfl (by omega) (getmS hs)) <|
      rwp_det rfl rfl (det_field_imm rfl fd46_7 rfl) <|
      rwp_det rfl rfl (det_load_one rfl one23 rfl ptr_imm rfl) <|
      rMv rfl <|
      rMv rfl <|
      rwp_op rfl rfl (ope_call_back rfl ok91 (ih k s hs) ⟨VLe.refl _, rfl, VLe.refl _, rfl, VLe.refl _, rfl, trivial⟩) ?_
     rintro _ _ ⟨μ9, ⟨b, v9, rfl, hb⟩, rfl⟩
     refine rwp_det rfl rfl (det_move_tup rfl rfl) <|
      rwp_det rfl rfl (det_ex_c rfl rfl rfl) <|
      rwp_det rfl rfl (det_ex_c rfl rfl rfl) <|
      rwp_det rfl rfl (det_index_vec 0 rfl el23 rfl rfl rfl (by omega) (by simpa using rowsI_lt hs)) <|
      rwp_det rfl rfl (det_field_vec rfl fd46_7 rfl) <|
      rwp_det0 rfl rfl (det_store rfl sz23 rfl rfl rfl (st_vec 0 rfl (set_get (by simpa using rowsI_lt hs)) rfl)) <|
      rMv rfl <|
      rwp_nil <|
      sReg rfl <|
      rMv rfl <|
      rwp_det rfl rfl (det_neq rfl rfl rfl) <|
      rwp_nil <|
      awp_cond rfl (fun c5 => ?_) (fun c5 => ?_)
     ·try simp only [sx] at c5
      exact (c5 trivial).elim
     ·try simp only [sx] at c5
      refine awp_skip <|
       awp_region rfl <|
       rwp_det rfl rfl (det_add_nw rfl rfl rfl ⟨by omega, by omega⟩) <|
       rMv rfl <|
       rwp_nil ?_
      refine ⟨⟨k + 1, (if k = i then v9 else v), X ++ μ9⟩, ⟨by omega, invX hX hb, invQ hX hQ hb⟩, (by show l.length - (k + 1) < l.length - k; omega), Weak.regsEq ⟨VLe.refl _, VLe.refl _, VLe.refl _, VLe.refl _, VLe.refl _, VLe.refl _, trivial⟩ (congrArg (fun rows => E.vec sv1 46 20 rows :: (X ++ μ9)) (by simp only [Int.toNat_natCast, List.set_set]; exact rowsI_set hs (hb.imp (fun h => ⟨h.1, h.2.1⟩) (fun h => ⟨h.1, h.2.1⟩))))⟩
 ·try simp only [sx] at c1
  have hke : k = l.length := by omega
  subst hke
  refine awp_exit <|
   sReg rfl <|
   rMv rfl <|
   rMv rfl <|
   rMv rfl <|
   rwp_nil <|
   awp_ret <|
   fin2 (rs_c rfl) (rs_c rfl) ?_
  exact ⟨_, v, X, rfl, rfl, hX, hQ⟩

theorem mapStmtsP {c c9 : C} {P : Lf → Prop} (hf : ∀ l, P l → FnPur cfg c [vLin l] (.tup [vLin l, vI 0])) (hg : ∀ s, FnPur cfg c9 [vS s] (vS s)) : ∀ (p : List Int) (l : List St), p ≠ [] → wayOk p l → allSs P l → stsWt l ≤ 1073741824 → Con cfg 91 [vSts l, .c c, .c c9] [] (fun r μ' => ∃ ch, ch.map Prod.fst = p ∧ r = .tup [.c (.lit (hdV ch)), vI 0] ∧ μ' = chE ch l)
  | [], _, h, _, _, _ => absurd rfl h
  | [j], l, _, hw, hP, hl => by
    refine (mapStmtsP_step hf hg l hP l.length (fun _ _ => True) (fun k s hs => ?_) hl).mono ?_
    · have hsw := stsWt_mem (mem_of_get hs)
      have hse := St.wt_eq s
      have hPs := St.allF_eq (allSs_mem hP s (mem_of_get hs))
      refine (Con.pure_frame (Q := fun r => r = .tup [vSts s.Body, vI 0]) (mapSts_id hf hg s.Body hPs.2.2 (by omega)) []).mono ?_
      rintro r μ' ⟨rfl, rfl⟩
      exact ⟨_, .slice none 0 0, rfl, .inr ⟨by have := lt_of_get hs; omega, rfl, rfl⟩⟩
    · rintro r μ' ⟨sv, v, X, rfl, rfl, hX, _⟩
      refine ⟨[(j, sv)], rfl, rfl, ?_⟩
      rw [hX (Nat.le_refl _), rowsI_none, chE]
  | j :: j1 :: p, l, _, hw, hP, hl => by
    have hg0 := stD_get hw.1
    have hjw := stsWt_mem (mem_of_get hg0)
    have hjb := St.body_wt (l.getD j.toNat zSt)
    have hPj := St.allF_eq (allSs_mem hP _ (mem_of_get hg0))
    have ih := mapStmtsP hf hg (j1 :: p) (l.getD j.toNat zSt).Body (by simp) hw.2 hPj.2.2 (by omega)
    refine (mapStmtsP_step hf hg l hP j.toNat (fun v μ => ∃ ch, ch.map Prod.fst = j1 :: p ∧ v = hdV ch ∧ μ = chE ch (l.getD j.toNat zSt).Body) (fun k s hs => ?_) hl).mono ?_
    · by_cases hkj : k = j.toNat
      · subst hkj
        have e : l.getD j.toNat zSt = s := by rw [List.getD_eq_getElem?_getD, hs]; rfl
        rw [e] at ih ⊢
        refine ih.mono ?_
        rintro r μ' ⟨ch, h1, rfl, rfl⟩
        exact ⟨_, hdV ch, rfl, .inl ⟨rfl, rfl, ch, h1, rfl, rfl⟩⟩
      · have hsw := stsWt_mem (mem_of_get hs)
        have hse := St.wt_eq s
        have hPs := St.allF_eq (allSs_mem hP s (mem_of_get hs))
        refine (Con.pure_frame (Q := fun r => r = .tup [vSts s.Body, vI 0]) (mapSts_id hf hg s.Body hPs.2.2 (by omega)) []).mono ?_
        rintro r μ' ⟨rfl, rfl⟩
        exact ⟨_, .slice none 0 0, rfl, .inr ⟨hkj, rfl, rfl⟩⟩
    · rintro r μ' ⟨sv, v, X, rfl, rfl, _, hQ⟩
      obtain ⟨ch, h1, rfl, rfl⟩ := hQ (by have := hw.1; omega)
      match ch, h1 with
      | (i1, sv1) :: r1, h1 => exact ⟨(j, sv) :: (i1, sv1) :: r1, by rw [List.map_cons, h1], rfl, by rw [rowsI_all, chE]; rfl⟩

end Go.W
end
section
set_option linter.unusedSimpArgs false
set_option linter.unusedVariables false
set_option maxRecDepth 10000
namespace Go.W
open Go Go.Eng Go.Proofs Go.L41 Go.Br
attribute [local irreducible] AWP RWP TD finQ
/-- The slices along a path. -/
abbrev Chn (p : List Int) := { ch : List (Int × Value) // ch.map Prod.fst = p }
theorem chE_mono : ∀ (ch : List (Int × Value)) (l : List St), ∀ e, e ∈ chE ch l → e.Mono
  | [], _, e, h => by rw [chE] at h; cases h
  | [(_, sv)], l, e, h => by rw [chE] at h; obtain rfl := List.mem_singleton.1 h; trivial
  | (i, sv) :: (j, sv1) :: r, l, e, h => by
    rw [chE] at h
    rcases List.mem_cons.1 h with rfl | h
    · trivial
    · exact chE_mono ((j, sv1) :: r) _ e h

theorem copyStmtsQ (p : List Int) (hp : p ≠ []) (l : List St) (hw : wayOk p l) (hl : stsWt l ≤ 1073741824) :
    Con cfg 41 [vSts l] [] (fun r μ' => ∃ ch, ch.map Prod.fst = p ∧ r = .c (.lit (hdV ch)) ∧ μ' = chE ch l) := by
 refine con_intro Tryz.func41 rfl Tryz.ntmps41 Tryz.results41 rfl ?_
 intro z hz
 refine sReg rfl <|
  rwp_det rfl rfl (det_assignN 20 rfl rfl) <|
  rwp_nil <|
  sReg rfl <|
  rMv rfl <|
  rwp_op rfl rfl (ope_call_back rfl ok91 (mapStmtsP (P := fun l => l.L.length ≤ 1073741824) (fun l hl => FnPur.of_pur (first := []) (cap := []) ok92 (copyStmts_1 l hl)) (fun s => FnPur.of_pur (first := []) (cap := []) ok94 (loopnest_same s)) p l hp hw (sts_short hl) hl) ⟨VLe.refl _, rfl, VLe.refl _, rfl, VLe.refl _, rfl, trivial⟩) ?_
 rintro _ _ ⟨_, ⟨ch, hch, rfl, rfl⟩, rfl⟩
 refine rwp_det rfl rfl (det_move_tup rfl rfl) <|
  rwp_det rfl rfl (det_ex_c rfl rfl rfl) <|
  rwp_det rfl rfl (det_ex_c rfl rfl rfl) <|
  rMv rfl <|
  rMv rfl <|
  rwp_nil <|
  sReg rfl <|
  rMv rfl <|
  rMv rfl <|
  rwp_nil <|
  awp_ret <|
  fin1 (rs_c rfl) ?_
 exact ⟨ch, hch, rfl, rfl⟩

theorem copyStmtsC (p : List Int) (hp : p ≠ []) (l : List St) (hw : wayOk p l) (hl : stsWt l ≤ 1073741824) : Con cfg 41 [vSts l] [] fun r μ' => ∃ a : Chn p, r = .c (.lit (hdV a.1)) ∧ μ' = [pk (chE a.1 l)] :=
  (Con.pack (copyStmtsQ p hp l hw hl)).mono fun r μ' ⟨φ, ⟨ch, h1, h2, h3⟩, h4⟩ => ⟨⟨ch, h1⟩, h2, by rw [h4, h3]⟩
theorem replaceC (p : List Int) (hp : p ≠ []) (a : Chn p) (l q : List St) (hw : wayOk p l) (hl : stsWt l ≤ 1000000) (hq : q.length ≤ 1000000) : Con cfg 40 [.c (.lit (hdV a.1)), vIs p, vSts q] [pk (chE a.1 l)] fun r' μ' => ∃ sv', r' = .c (.lit sv') ∧ μ' = [.vec sv' 46 20 ((replL p l q).map St.cells)] := by
  obtain ⟨ch, rfl⟩ := a
  match ch, hp, hw with
  | [], hp, _ => exact absurd rfl hp
  | (i, sv) :: r, _, hw => exact Con.unpack (replaceIn_con q hq r i sv l hw hl) (chE_mono _ _)

theorem loopnest_CopyC (p : List Int) (hp : p ≠ []) (n : Ns) (hn : n.Ok) (hw : wayOk p n.Body) :
    Con cfg 39 [vNs n] [] (fun r μ' => ∃ a : Chn p, r = .agg [.sl 8 (n.Bufs.map Bf.cells), .lit (hdV a.1)] ∧ μ' = [pk (chE a.1 n.Body)]) := by
 refine Con.dropG <|
  con_intro Tryz.func39 rfl Tryz.ntmps39 Tryz.results39 rfl ?_
 intro z hz
 have hnb := hn.bufs
 have hnw := hn.body
 refine sReg rfl <|
  rwp_op rfl rfl (ope_box rfl rfl) ?_
 rintro _ _ ⟨b1, rfl, rfl⟩
 refine rwp_op rfl rfl (ope_allocN [some 8, some 20] rfl zr25 rfl) ?_
 rintro _ _ ⟨b2, rfl, rfl⟩
 refine rwp_nil <|
  sReg rfl <|
  rwp_det rfl rfl (det_field_lit rfl fd25_1 rfl) <|
  rwp_det rfl rfl (det_load_one rfl one23 rfl (ptr_row 1 rfl) rfl) <|
  rwp_op rfl rfl (ope_call_newE rfl ok41 (copyStmtsC p hp n.Body hw (by omega)) ⟨VLe.refl _, rfl, trivial⟩) ?_
 rintro _ _ ⟨ch, rfl, rfl⟩
 refine rwp_det rfl rfl (det_build rfl zr25 pl25 rfl) <|
  rwp_op rfl rfl (ope_allocN [some 8, some 20] rfl zr25 rfl) ?_
 rintro _ _ ⟨b3, rfl, rfl⟩
 refine rwp_det0 rfl rfl (det_store rfl sz25 rfl rfl rfl (st_row 0 rfl rfl)) <|
  rwp_nil <|
  awp_seq <|
  sReg rfl <|
  rwp_weak _ (weak_own 65 8) <|
  rwp_det rfl rfl (det_field_lit rfl fd25_0 rfl) <|
  rwp_det rfl rfl (det_load_one rfl one22 rfl (ptr_row 4 rfl) rfl) <|
  rwp_det rfl rfl (det_len_slm rfl el22 rfl) <|
  rMv rfl <|
  rwp_nil <|
  awp_block <|
  awp_weak ⟨[(12, .c _), (1, .c _), (2, .c _), (3, .c _), (11, .c _)], [_, _, _, _, _]⟩ (Weak.mk [true, true, true, true, true] ⟨VLe.of_eq rfl, VLe.of_eq rfl, VLe.of_eq rfl, VLe.of_eq rfl, VLe.of_eq rfl, trivial⟩ rfl) <|
  awp_loop_k 1 2 rfl rfl (Nat × Value) (fun ⟨k, sv⟩ => [(12, vI k)]) (fun ⟨k, sv⟩ => [E.vec sv 65 8 ((n.Bufs.take k).map Bf.cells), E.row b3 25 [.lit sv, .lit (hdV ch.1)]]) (fun ⟨k, sv⟩ => k ≤ n.Bufs.length) (fun ⟨k, sv⟩ => n.Bufs.length - k) ⟨⟨0, (.slice none 0 0)⟩, (by omega), Weak.mk [true, true, true, true, true] ⟨VLe.refl _, VLe.refl _, VLe.refl _, VLe.refl _, VLe.refl _, trivial⟩ rfl⟩ ?_
 rintro ⟨k, sv⟩ hk
 show AWP _ _ _ _ _ ⟨[(12, vI k)] ++ _, [E.vec sv 65 8 ((n.Bufs.take k).map Bf.cells), E.row b3 25 [.lit sv, .lit (hdV ch.1)]] ++ _⟩
 refine sReg rfl <|
  rwp_det rfl rfl (det_lss rfl rfl rfl) <|
  rwp_nil <|
  awp_seq <|
  awp_cond rfl (fun c1 => ?_) (fun c1 => ?_)
 ·try simp only [sx] at c1
  obtain ⟨b, hb⟩ := ex_get n.Bufs k (by omega)
  have hbd := hn.dims b (mem_of_get hb)
  refine awp_skip <|
   awp_seq <|
   awp_block <|
   sReg rfl <|
   rMv rfl <|
   rMv rfl <|
   rwp_nil <|
   awp_draw 9 mixed (by kernel_rfl) rfl rfl <|
   td_det rfl rfl (det_field_lit rfl fd25_0 rfl) <|
   td_det rfl rfl (det_load_one rfl one22 rfl (ptr_row 1 rfl) rfl) <|
   td_det rfl rfl (det_field_lit rfl fd25_0 rfl) <|
   td_det rfl rfl (det_load_one rfl one22 rfl (ptr_row 4 rfl) rfl) <|
   td_det rfl rfl (det_move rfl rfl) <|
   td_det rfl rfl (det_index_sl rfl el22 rfl rfl (by omega) (getm (by assumption))) <|
   td_det rfl rfl (det_load_agg rfl agg65 rfl ptr_imm rfl) <|
   td_det rfl rfl (det_call rfl ok89 (loopnest_copyBuffer b (by omega)) ⟨VLe.refl _, rfl, trivial⟩) <|
   td_det rfl rfl (det_bslice rfl el22 zr65 rfl rfl rfl rfl) <|
   td_nil <|
   rwp_op rfl rfl (ope_append 0 rfl el22 rfl rfl rfl (by simp only [List.length_map, List.length_append, List.length_cons, List.length_nil, List.length_take, List.length_drop]; omega) (by simp only [List.length_map, List.length_append, List.length_cons, List.length_nil, List.length_take, List.length_drop]; omega)) ?_
  rintro _ _ ⟨sv4, rfl, rfl⟩
  refine rwp_det rfl rfl (det_field_lit rfl fd25_0 rfl) <|
   rwp_det0 rfl rfl (det_store rfl sz22 rfl rfl rfl (st_row 1 rfl rfl)) <|
   rwp_nil <|
   awp_region rfl <|
   rwp_det rfl rfl (det_add_nw rfl rfl rfl ⟨by omega, by omega⟩) <|
   rMv rfl <|
   rwp_nil ?_
  refine ⟨⟨k + 1, sv4⟩, (by omega), (by show n.Bufs.length - (k + 1) < n.Bufs.length - k; omega), Weak.mk [true, true, true, true, true] ⟨VLe.refl _, VLe.refl _, VLe.refl _, VLe.refl _, VLe.refl _, trivial⟩ (by exact mem2_eq' (by rw [take_next hb, List.map_append]; rfl))⟩
 ·try simp only [sx] at c1
  rw [take_all (l := n.Bufs) (k := k) (by omega)]
  refine awp_weak _ (weak_freezeM 0 rfl (regs' := []) (μ' := [_, _, _, _]) trivial ⟨EFle.row (ds := [_, _]) ⟨.inr ⟨rfl, rfl⟩, .inl rfl, trivial⟩, EFle.refl _, EFle.refl _, EFle.refl _, trivial⟩) <|
   awp_exit <|
   sReg rfl <|
   rwp_det rfl rfl (det_load_agg rfl agg25 rfl (ptr_row 0 rfl) rfl) <|
   rwp_det0 rfl rfl (det_store rfl sz25 rfl rfl rfl (st_row 2 rfl rfl)) <|
   rwp_nil <|
   awp_ret <|
   fin1 (rs_cell_agg agg25 rfl (ptr_row 2 rfl) rfl) ?_
  exact ⟨[pk _], ⟨[E.row _ _ _], [E.row _ _ _, E.row _ _ _], rfl⟩, ch, rfl, rfl⟩

end Go.W
end
