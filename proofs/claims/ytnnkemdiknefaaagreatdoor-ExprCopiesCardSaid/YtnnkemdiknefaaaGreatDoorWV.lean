/-
  Walks: what functions of the program compute. Printed by wip/gen/mk2.py.
  Conditions: none.
-/
import Derived.Test.YtnnkemdiknefaaaGreatDoorWU
import Derived.Test.YtnnkemdiknefaaaGreatDoorWS
import Derived.Test.YtnnkemdiknefaaaGreatDoorPlain
import Derived.Test.YtnnkemdiknefaaaGreatDoorEngZ
set_option linter.unusedSimpArgs false
set_option linter.unusedVariables false
namespace Go.W
open Go Go.Eng Go.Proofs Go.L41 Go.Br
attribute [local irreducible] AWP RWP TD
theorem ok107 : callOk Tryz.prog 107 = true := by kernel_rfl
theorem ok175 : callOk Tryz.prog 175 = true := by kernel_rfl
theorem ok176 : callOk Tryz.prog 176 = true := by kernel_rfl
theorem sz42 : (Tryz.prog.info? 42).map (·.size) = some 1 := by kernel_rfl
theorem zr42 : zeroT Tryz.prog 42 = some [(Value.slice none 0 0)] := by kernel_rfl

theorem expr_sorted (sv : Value) (l : List ByteArray) (hl : l.length ≤ 4294967296) :
    Con cfg 107 [.c (.lit sv)] [.vec sv 9 1 (strRows l)] fun r μ' => ∃ sv', r = .c (.lit sv') ∧ μ' = [.vec sv' 9 1 (strRows (thinB (sortB l)))] := by
 refine con_intro Tryz.func107 rfl Tryz.ntmps107 Tryz.results107 rfl ?_
 intro z hz
 refine awp_seq ?_
 refine awp_region rfl ?_
 refine rwp_det rfl rfl (det_assignN 1 rfl rfl) ?_
 refine rwp_nil ?_
 refine awp_seq ?_
 refine awp_region rfl ?_
 refine rwp_det rfl rfl (det_move rfl rfl) ?_
 refine rwp_det rfl rfl (det_call_mem [0] rfl ok175 (sort_con sv l hl) ⟨VLe.refl _, rfl, trivial⟩ rfl) ?_
 refine rwp_nil ?_
 refine awp_seq ?_
 refine awp_region rfl ?_
 refine rwp_det rfl rfl (det_move rfl rfl) ?_
 refine rwp_op rfl rfl (ope_call_vec 0 rfl rfl ok176 (thin_con sv (sortB l) (by rw [sortB_len]; exact hl)) ⟨VLe.refl _, rfl, trivial⟩) ?_
 rintro _ _ ⟨sv1, rfl, rfl⟩
 refine rwp_det rfl rfl (det_assign rfl rfl) ?_
 refine rwp_nil ?_
 refine awp_ret ?_
 repeat (first | refine thenQ_ret ?_ | refine blockQ_ret ?_)
 refine fin1 (rs_c rfl) ?_
 exact ⟨_, rfl, rfl⟩

theorem expr_Reads (e : Ex) (he : e.wt ≤ 1073741824) :
    OwnR cfg 42 [vE e] 9 1 (strRows (readsT e)) := by
 refine con_intro Tryz.func42 rfl Tryz.ntmps42 Tryz.results42 rfl ?_
 intro z hz
 refine awp_seq ?_
 refine awp_region rfl ?_
 refine rwp_op rfl rfl (ope_box rfl rfl) ?_
 rintro _ _ ⟨b1, rfl, rfl⟩
 refine rwp_det rfl rfl (det_assignN 1 rfl rfl) ?_
 refine rwp_nil ?_
 refine awp_seq ?_
 refine awp_region rfl ?_
 refine rwp_op rfl rfl (ope_alloc rfl zr42) ?_
 rintro _ _ ⟨b2, rfl, rfl⟩
 refine rwp_weak _ (weak_own 9 1) ?_
 refine rwp_nil ?_
 refine awp_seq ?_
 refine awp_seq ?_
 refine awp_region rfl ?_
 refine rwp_det rfl rfl (det_load_agg rfl agg33 rfl (ptr_row 2 rfl) rfl) ?_
 refine rwp_det rfl rfl (det_call rfl ok28 (expr_Walk _) ⟨VLe.refl _, rfl, trivial⟩) ?_
 refine rwp_nil ?_
 refine awp_block ?_
 refine awp_weak _ (Weak.mem [true, true, false] rfl) ?_
 refine awp_range_g (ps := [9]) hz (Value) 2 rfl rfl ok88 (walk_iter e (by omega)) (fun _ _ => rfl) rfl (fun pre sv => True) (fun pre sv => [E.vec sv 9 1 (strRows (readsA pre)), E.row b2 42 [.lit sv]]) ⟨.slice none 0 0, trivial, rfl⟩ ?_ ?_
 ·intro pre x suf sv hxs hi z hz
  show AWP _ _ _ _ _ ⟨_, [E.vec sv 9 1 (strRows (readsA pre)), E.row b2 42 [.lit sv]] ++ _⟩
  have hlen := readsP_len (suf := x :: suf) hxs
  have hlen1 := readsP_len (pre := pre ++ [x]) (suf := suf) (by rw [hxs]; simp)
  rw [readsA_one, List.length_append, List.length_append] at hlen1
  have hxw : x.wt ≤ e.wt := node_mem_wt e x (by rw [hxs]; simp)
  obtain ⟨_, hXI, _⟩ := x.parts hxw
  refine awp_region rfl ?_
  refine rwp_op rfl rfl (ope_allocN [none, none, none, none, none, none, none, none, none, none, some 2, some 4, some 13] rfl zr33 rfl) ?_
  rintro _ _ ⟨b4, rfl, rfl⟩
  refine rwp_det0 rfl rfl (det_store rfl sz33 rfl rfl rfl (st_row 0 rfl rfl)) ?_
  refine rwp_nil ?_
  intro z hz
  refine awp_block ?_
  refine awp_seq ?_
  refine awp_seq ?_
  refine awp_region rfl ?_
  refine rwp_det rfl rfl (det_field_lit rfl fd33_0 rfl) ?_
  refine rwp_det rfl rfl (det_load_one rfl one3 rfl (ptr_row 0 rfl) rfl) ?_
  refine rwp_det rfl rfl (det_eql rfl rfl rfl) ?_
  refine rwp_nil ?_
  refine awp_cond rfl (fun c1 => ?_) (fun c1 => ?_)
  ·try simp only [sx, List.length_map] at c1
   refine awp_region rfl ?_
   refine rwp_det rfl rfl (det_load_one rfl one42 rfl (ptr_row 2 rfl) rfl) ?_
   refine rwp_det rfl rfl (det_field_lit rfl fd33_1 rfl) ?_
   refine rwp_det rfl rfl (det_load_one rfl one9 rfl (ptr_row 0 rfl) rfl) ?_
   refine rwp_det rfl rfl (det_bslice rfl el42 zr9 rfl rfl rfl rfl) ?_
   refine rwp_op rfl rfl (ope_append 1 rfl el42 rfl rfl rfl (by simp only [List.length_map, List.length_append, List.length_cons, List.length_nil]; omega) (by simp only [List.length_map, List.length_append, List.length_cons, List.length_nil]; omega)) ?_
   rintro _ _ ⟨sv5, rfl, rfl⟩
   refine rwp_det0 rfl rfl (det_store rfl sz42 rfl rfl rfl (st_row 2 rfl rfl)) ?_
   refine rwp_nil ?_
   refine awp_seq ?_
   refine awp_region rfl ?_
   refine rwp_det rfl rfl (det_field_lit rfl fd33_5 rfl) ?_
   refine rwp_det rfl rfl (det_load_one rfl one30 rfl (ptr_row 0 rfl) rfl) ?_
   refine rwp_det rfl rfl (det_len_slm rfl el30 rfl) ?_
   refine rwp_det rfl rfl (det_move rfl rfl) ?_
   refine rwp_nil ?_
   refine awp_block ?_
   refine awp_weak ⟨[(21, .c _), (3, .c _), (19, .c _), (20, .c _)], [_, _]⟩ (Weak.mk [false, true, true] ⟨VLe.of_eq rfl, VLe.of_eq rfl, VLe.of_eq rfl, VLe.of_eq rfl, trivial⟩ rfl) ?_
   refine awp_loop_k 1 2 rfl rfl (Nat × Value) (fun ⟨k, sw⟩ => [(21, vI k)]) (fun ⟨k, sw⟩ => [E.vec sw 9 1 (strRows (readsA pre ++ opRead x ++ readsI (x.Idx.take k))), E.row b2 42 [.lit sw]]) (fun ⟨k, sw⟩ => k ≤ x.Idx.length) (fun ⟨k, sw⟩ => x.Idx.length - k) ⟨⟨0, _⟩, (by omega), Weak.mk [true, true] ⟨VLe.refl _, VLe.refl _, VLe.refl _, VLe.refl _, trivial⟩ (by exact mem2_eq (by simp [opRead, readsI, strRows, *]))⟩ ?_
   rintro ⟨k, sw⟩ hk
   show AWP _ _ _ _ _ ⟨[(21, vI k)] ++ _, [E.vec sw 9 1 (strRows (readsA pre ++ opRead x ++ readsI (x.Idx.take k))), E.row b2 42 [.lit sw]] ++ _⟩
   refine awp_seq ?_
   refine awp_region rfl ?_
   refine rwp_det rfl rfl (det_lss rfl rfl rfl) ?_
   refine rwp_nil ?_
   refine awp_seq ?_
   refine awp_cond rfl (fun c2 => ?_) (fun c2 => ?_)
   ·try simp only [sx, List.length_map] at c2
    obtain ⟨i, hi2⟩ := ex_get x.Idx k (by omega)
    refine awp_skip ?_
    refine awp_seq ?_
    refine awp_block ?_
    refine awp_seq ?_
    refine awp_region rfl ?_
    refine rwp_det rfl rfl (det_index_sl rfl el30 rfl rfl (by omega) (getm (by assumption))) ?_
    refine rwp_det rfl rfl (det_load_agg rfl agg117 rfl ptr_imm rfl) ?_
    refine rwp_op rfl rfl (ope_allocN [none, some 2, none, some 2] rfl zr117 rfl) ?_
    rintro _ _ ⟨b6, rfl, rfl⟩
    refine rwp_det0 rfl rfl (det_store rfl sz117 rfl rfl rfl (st_row 0 rfl rfl)) ?_
    refine rwp_nil ?_
    refine awp_seq ?_
    refine awp_region rfl ?_
    refine rwp_det rfl rfl (det_field_lit rfl fd117_1 rfl) ?_
    refine rwp_det rfl rfl (det_load_one rfl one9 rfl (ptr_row 0 rfl) rfl) ?_
    refine rwp_det rfl rfl (det_sneq rfl rfl rfl) ?_
    refine rwp_nil ?_
    refine awp_cond rfl (fun c3 => ?_) (fun c3 => ?_)
    ·try simp only [sx, List.length_map] at c3
     refine awp_region rfl ?_
     refine rwp_det rfl rfl (det_load_one rfl one42 rfl (ptr_row 2 rfl) rfl) ?_
     refine rwp_det rfl rfl (det_field_lit rfl fd117_1 rfl) ?_
     refine rwp_det rfl rfl (det_load_one rfl one9 rfl (ptr_row 0 rfl) rfl) ?_
     refine rwp_det rfl rfl (det_bslice rfl el42 zr9 rfl rfl rfl rfl) ?_
     refine rwp_op rfl rfl (ope_append 1 rfl el42 rfl rfl rfl (by have hik := readsI_take x.Idx k; have hik2 := opRead_len x; simp only [List.length_map, List.length_append, List.length_cons, List.length_nil]; omega) (by have hik := readsI_take x.Idx k; have hik2 := opRead_len x; simp only [List.length_map, List.length_append, List.length_cons, List.length_nil]; omega)) ?_
     rintro _ _ ⟨sv7, rfl, rfl⟩
     refine rwp_det0 rfl rfl (det_store rfl sz42 rfl rfl rfl (st_row 2 rfl rfl)) ?_
     refine rwp_nil ?_
     refine awp_region rfl ?_
     refine rwp_det rfl rfl (det_add_nw rfl rfl rfl ⟨by omega, by omega⟩) ?_
     refine rwp_det rfl rfl (det_move rfl rfl) ?_
     refine rwp_nil ?_
     refine ⟨⟨k + 1, _⟩, (by omega), (by show x.Idx.length - (k + 1) < x.Idx.length - k; omega), Weak.mk [false, true, true] ⟨VLe.refl _, VLe.refl _, VLe.refl _, VLe.refl _, trivial⟩ (by exact mem2_eq (by rw [readsI_next hi2]; simp [fromX, strRows, *]))⟩
    ·try simp only [sx, List.length_map] at c3
     refine awp_skip ?_
     refine awp_region rfl ?_
     refine rwp_det rfl rfl (det_add_nw rfl rfl rfl ⟨by omega, by omega⟩) ?_
     refine rwp_det rfl rfl (det_move rfl rfl) ?_
     refine rwp_nil ?_
     refine ⟨⟨k + 1, _⟩, (by omega), (by show x.Idx.length - (k + 1) < x.Idx.length - k; omega), Weak.mk [false, true, true] ⟨VLe.refl _, VLe.refl _, VLe.refl _, VLe.refl _, trivial⟩ (by exact mem2_eq (by rw [readsI_next hi2]; simp [fromX, strRows, *]))⟩
   ·try simp only [sx, List.length_map] at c2
    refine awp_exit ?_
    exact round_fin (τ := ⟨[], _⟩) (Weak.mk [true, true] trivial rfl) ⟨_, trivial, (by exact mem2_eq (by rw [take_all (l := x.Idx) (by omega), readsA_one]))⟩
  ·try simp only [sx, List.length_map] at c1
   refine awp_skip ?_
   refine awp_seq ?_
   refine awp_region rfl ?_
   refine rwp_det rfl rfl (det_field_lit rfl fd33_5 rfl) ?_
   refine rwp_det rfl rfl (det_load_one rfl one30 rfl (ptr_row 0 rfl) rfl) ?_
   refine rwp_det rfl rfl (det_len_slm rfl el30 rfl) ?_
   refine rwp_det rfl rfl (det_move rfl rfl) ?_
   refine rwp_nil ?_
   refine awp_block ?_
   refine awp_weak ⟨[(21, .c _), (3, .c _), (19, .c _), (20, .c _)], [_, _]⟩ (Weak.mk [false, true, true] ⟨VLe.of_eq rfl, VLe.of_eq rfl, VLe.of_eq rfl, VLe.of_eq rfl, trivial⟩ rfl) ?_
   refine awp_loop_k 1 2 rfl rfl (Nat × Value) (fun ⟨k, sw⟩ => [(21, vI k)]) (fun ⟨k, sw⟩ => [E.vec sw 9 1 (strRows (readsA pre ++ opRead x ++ readsI (x.Idx.take k))), E.row b2 42 [.lit sw]]) (fun ⟨k, sw⟩ => k ≤ x.Idx.length) (fun ⟨k, sw⟩ => x.Idx.length - k) ⟨⟨0, _⟩, (by omega), Weak.mk [true, true] ⟨VLe.refl _, VLe.refl _, VLe.refl _, VLe.refl _, trivial⟩ (by exact mem2_eq (by simp [opRead, readsI, strRows, *]))⟩ ?_
   rintro ⟨k, sw⟩ hk
   show AWP _ _ _ _ _ ⟨[(21, vI k)] ++ _, [E.vec sw 9 1 (strRows (readsA pre ++ opRead x ++ readsI (x.Idx.take k))), E.row b2 42 [.lit sw]] ++ _⟩
   refine awp_seq ?_
   refine awp_region rfl ?_
   refine rwp_det rfl rfl (det_lss rfl rfl rfl) ?_
   refine rwp_nil ?_
   refine awp_seq ?_
   refine awp_cond rfl (fun c2 => ?_) (fun c2 => ?_)
   ·try simp only [sx, List.length_map] at c2
    obtain ⟨i, hi2⟩ := ex_get x.Idx k (by omega)
    refine awp_skip ?_
    refine awp_seq ?_
    refine awp_block ?_
    refine awp_seq ?_
    refine awp_region rfl ?_
    refine rwp_det rfl rfl (det_index_sl rfl el30 rfl rfl (by omega) (getm (by assumption))) ?_
    refine rwp_det rfl rfl (det_load_agg rfl agg117 rfl ptr_imm rfl) ?_
    refine rwp_op rfl rfl (ope_allocN [none, some 2, none, some 2] rfl zr117 rfl) ?_
    rintro _ _ ⟨b8, rfl, rfl⟩
    refine rwp_det0 rfl rfl (det_store rfl sz117 rfl rfl rfl (st_row 0 rfl rfl)) ?_
    refine rwp_nil ?_
    refine awp_seq ?_
    refine awp_region rfl ?_
    refine rwp_det rfl rfl (det_field_lit rfl fd117_1 rfl) ?_
    refine rwp_det rfl rfl (det_load_one rfl one9 rfl (ptr_row 0 rfl) rfl) ?_
    refine rwp_det rfl rfl (det_sneq rfl rfl rfl) ?_
    refine rwp_nil ?_
    refine awp_cond rfl (fun c3 => ?_) (fun c3 => ?_)
    ·try simp only [sx, List.length_map] at c3
     refine awp_region rfl ?_
     refine rwp_det rfl rfl (det_load_one rfl one42 rfl (ptr_row 2 rfl) rfl) ?_
     refine rwp_det rfl rfl (det_field_lit rfl fd117_1 rfl) ?_
     refine rwp_det rfl rfl (det_load_one rfl one9 rfl (ptr_row 0 rfl) rfl) ?_
     refine rwp_det rfl rfl (det_bslice rfl el42 zr9 rfl rfl rfl rfl) ?_
     refine rwp_op rfl rfl (ope_append 1 rfl el42 rfl rfl rfl (by have hik := readsI_take x.Idx k; have hik2 := opRead_len x; simp only [List.length_map, List.length_append, List.length_cons, List.length_nil]; omega) (by have hik := readsI_take x.Idx k; have hik2 := opRead_len x; simp only [List.length_map, List.length_append, List.length_cons, List.length_nil]; omega)) ?_
     rintro _ _ ⟨sv9, rfl, rfl⟩
     refine rwp_det0 rfl rfl (det_store rfl sz42 rfl rfl rfl (st_row 2 rfl rfl)) ?_
     refine rwp_nil ?_
     refine awp_region rfl ?_
     refine rwp_det rfl rfl (det_add_nw rfl rfl rfl ⟨by omega, by omega⟩) ?_
     refine rwp_det rfl rfl (det_move rfl rfl) ?_
     refine rwp_nil ?_
     refine ⟨⟨k + 1, _⟩, (by omega), (by show x.Idx.length - (k + 1) < x.Idx.length - k; omega), Weak.mk [false, true, true] ⟨VLe.refl _, VLe.refl _, VLe.refl _, VLe.refl _, trivial⟩ (by exact mem2_eq (by rw [readsI_next hi2]; simp [fromX, strRows, *]))⟩
    ·try simp only [sx, List.length_map] at c3
     refine awp_skip ?_
     refine awp_region rfl ?_
     refine rwp_det rfl rfl (det_add_nw rfl rfl rfl ⟨by omega, by omega⟩) ?_
     refine rwp_det rfl rfl (det_move rfl rfl) ?_
     refine rwp_nil ?_
     refine ⟨⟨k + 1, _⟩, (by omega), (by show x.Idx.length - (k + 1) < x.Idx.length - k; omega), Weak.mk [false, true, true] ⟨VLe.refl _, VLe.refl _, VLe.refl _, VLe.refl _, trivial⟩ (by exact mem2_eq (by rw [readsI_next hi2]; simp [fromX, strRows, *]))⟩
   ·try simp only [sx, List.length_map] at c2
    refine awp_exit ?_
    exact round_fin (τ := ⟨[], _⟩) (Weak.mk [true, true] trivial rfl) ⟨_, trivial, (by exact mem2_eq (by rw [take_all (l := x.Idx) (by omega), readsA_one]))⟩
 ·intro sv hd
  refine awp_seq ?_
  refine awp_region rfl ?_
  refine rwp_det rfl rfl (det_load_one rfl one42 rfl (ptr_row 1 rfl) rfl) ?_
  refine rwp_op rfl rfl (ope_call_vec 0 rfl rfl ok107 (expr_sorted sv (readsA (nodes e)) (by have := readsA_len e; omega)) ⟨VLe.refl _, rfl, trivial⟩) ?_
  rintro _ _ ⟨sv10, rfl, rfl⟩
  refine rwp_det rfl rfl (det_assign rfl rfl) ?_
  refine rwp_nil ?_
  refine awp_weak _ (Weak.mem [true, false] rfl) ?_
  refine awp_ret ?_
  repeat (first | refine thenQ_ret ?_ | refine blockQ_ret ?_)
  refine fin1 (rs_c rfl) ?_
  exact ⟨_, rfl, rfl⟩

end Go.W
