/-
  Walks: what functions of the program compute. Printed by wip/gen/mk2.py.
  Conditions: none.
-/
import Derived.Test.YtdbflnlalkfeeaaGreatDoorWT
import Derived.Test.YtdbflnlalkfeeaaGreatDoorPlain2
import Derived.Test.YtdbflnlalkfeeaaGreatDoorEngZ
set_option linter.unusedSimpArgs false
set_option linter.unusedVariables false
set_option maxRecDepth 10000
namespace Go.W
open Go Go.Eng Go.Proofs Go.L41 Go.Br
attribute [local irreducible] AWP RWP TD finQ
theorem ok132 : callOk Tryz.prog 132 = true := by kernel_rfl
theorem ok170 : callOk Tryz.prog 170 = true := by kernel_rfl
theorem ok171 : callOk Tryz.prog 171 = true := by kernel_rfl
theorem one72 : oneT Tryz.prog 72 = true := by kernel_rfl
theorem sz72 : (Tryz.prog.info? 72).map (·.size) = some 1 := by kernel_rfl
theorem zr72 : zeroT Tryz.prog 72 = some [(Value.slice none 0 0)] := by kernel_rfl

theorem expr_sorted (sv : Value) (l : List ByteArray) (hl : l.length ≤ 4294967296) :
    Con cfg 132 [.c (.lit sv)] [.vec sv 9 1 (strRows l)] fun r μ' => ∃ sv', r = .c (.lit sv') ∧ μ' = [.vec sv' 9 1 (strRows (thinB (sortB l)))] := by
 refine con_intro Tryz.func132 rfl Tryz.ntmps132 Tryz.results132 rfl ?_
 intro z hz
 refine sReg rfl <|
  rwp_det rfl rfl (det_assignN 1 rfl rfl) <|
  rwp_nil <|
  sReg rfl <|
  rMv rfl <|
  rwp_det rfl rfl (det_call_mem [0] rfl ok170 (sort_con sv l hl) ⟨VLe.refl _, rfl, trivial⟩ rfl) <|
  rwp_nil <|
  sReg rfl <|
  rMv rfl <|
  rwp_op rfl rfl (ope_call_vec 0 rfl rfl ok171 (thin_con sv (sortB l) (by rw [sortB_len]; exact hl)) ⟨VLe.refl _, rfl, trivial⟩) ?_
 rintro _ _ ⟨sv1, rfl, rfl⟩
 refine rMv rfl <|
  rwp_nil <|
  awp_ret <|
  fin1 (rs_c rfl) ?_
 exact ⟨_, rfl, rfl⟩

theorem expr_Reads (e : Ex) (he : e.wt ≤ 1073741824) :
    OwnR cfg 110 [vE e] 9 1 (strRows (readsT e)) := by
 refine con_intro Tryz.func110 rfl Tryz.ntmps110 Tryz.results110 rfl ?_
 intro z hz
 refine sReg rfl <|
  rwp_op rfl rfl (ope_box rfl rfl) ?_
 rintro _ _ ⟨b1, rfl, rfl⟩
 refine rwp_det rfl rfl (det_assignN 1 rfl rfl) <|
  rwp_nil <|
  sReg rfl <|
  rwp_op rfl rfl (ope_alloc rfl zr72) ?_
 rintro _ _ ⟨b2, rfl, rfl⟩
 refine rwp_weak _ (weak_own 9 1) <|
  rwp_nil <|
  awp_seq <|
  sReg rfl <|
  rwp_det rfl rfl (det_load_agg rfl agg52 rfl (ptr_row 2 rfl) rfl) <|
  rwp_det rfl rfl (det_call rfl ok130 (expr_Walk _) ⟨VLe.refl _, rfl, trivial⟩) <|
  rwp_nil <|
  awp_block <|
  awp_weak _ (Weak.mem [true, true, false] rfl) <|
  awp_range_g (ps := [9]) hz (Value) 2 rfl rfl ok167 (walk_iter e (by omega)) (fun _ _ => rfl) rfl (fun pre sv => True) (fun pre sv => [E.vec sv 9 1 (strRows (readsA pre)), E.row b2 72 [.lit sv]]) ⟨.slice none 0 0, trivial, rfl⟩ ?_ ?_
 ·intro pre x suf sv hxs hi z hz
  show AWP _ _ _ _ _ ⟨_, [E.vec sv 9 1 (strRows (readsA pre)), E.row b2 72 [.lit sv]] ++ _⟩
  have hlen := readsP_len (suf := x :: suf) hxs
  have hlen1 := readsP_len (pre := pre ++ [x]) (suf := suf) (by rw [hxs]; simp)
  rw [readsA_one, List.length_append, List.length_append] at hlen1
  have hxw : x.wt ≤ e.wt := node_mem_wt e x (by rw [hxs]; simp)
  obtain ⟨_, hXI, _⟩ := x.parts hxw
  refine awp_region rfl <|
   rwp_op rfl rfl (ope_allocN [none, none, none, none, none, none, none, none, none, none, some 2, some 4, some 13] rfl zr52 rfl) ?_
  rintro _ _ ⟨b4, rfl, rfl⟩
  refine rwp_det0 rfl rfl (det_store rfl sz52 rfl rfl rfl (st_row 0 rfl rfl)) <|
   rwp_nil ?_
  intro z hz
  refine awp_block <|
   awp_seq <|
   sReg rfl <|
   rwp_det rfl rfl (det_field_lit rfl fd52_0 rfl) <|
   rwp_det rfl rfl (det_load_one rfl one3 rfl (ptr_row 0 rfl) rfl) <|
   rwp_det rfl rfl (det_eql rfl rfl rfl) <|
   rwp_nil <|
   awp_cond rfl (fun c1 => ?_) (fun c1 => ?_)
  ·try simp only [sx] at c1
   refine awp_region rfl <|
    rwp_det rfl rfl (det_load_one rfl one72 rfl (ptr_row 2 rfl) rfl) <|
    rwp_det rfl rfl (det_field_lit rfl fd52_1 rfl) <|
    rwp_det rfl rfl (det_load_one rfl one9 rfl (ptr_row 0 rfl) rfl) <|
    rwp_det rfl rfl (det_bslice rfl el72 zr9 rfl rfl rfl rfl) <|
    rwp_op rfl rfl (ope_append 1 rfl el72 rfl rfl rfl (by simp only [List.length_map, List.length_append, List.length_cons, List.length_nil]; omega) (by simp only [List.length_map, List.length_append, List.length_cons, List.length_nil]; omega)) ?_
   rintro _ _ ⟨sv5, rfl, rfl⟩
   refine rwp_det0 rfl rfl (det_store rfl sz72 rfl rfl rfl (st_row 2 rfl rfl)) <|
    rwp_nil <|
    sReg rfl <|
    rwp_det rfl rfl (det_field_lit rfl fd52_5 rfl) <|
    rwp_det rfl rfl (det_load_one rfl one44 rfl (ptr_row 0 rfl) rfl) <|
    rwp_det rfl rfl (det_len_slm rfl el44 rfl) <|
    rMv rfl <|
    rwp_nil <|
    awp_block <|
    awp_weak ⟨[(21, .c _), (3, .c _), (19, .c _), (20, .c _)], [_, _]⟩ (Weak.mk [false, true, true] ⟨VLe.of_eq rfl, VLe.of_eq rfl, VLe.of_eq rfl, VLe.of_eq rfl, trivial⟩ rfl) <|
    awp_loop_k 1 2 rfl rfl (Nat × Value) (fun ⟨k, sw⟩ => [(21, vI k)]) (fun ⟨k, sw⟩ => [E.vec sw 9 1 (strRows (readsA pre ++ opRead x ++ readsI (x.Idx.take k))), E.row b2 72 [.lit sw]]) (fun ⟨k, sw⟩ => k ≤ x.Idx.length) (fun ⟨k, sw⟩ => x.Idx.length - k) ⟨⟨0, _⟩, (by omega), Weak.mk [true, true] ⟨VLe.refl _, VLe.refl _, VLe.refl _, VLe.refl _, trivial⟩ (by exact mem2_eq (by simp [opRead, readsI, strRows, *]))⟩ ?_
   rintro ⟨k, sw⟩ hk
   show AWP _ _ _ _ _ ⟨[(21, vI k)] ++ _, [E.vec sw 9 1 (strRows (readsA pre ++ opRead x ++ readsI (x.Idx.take k))), E.row b2 72 [.lit sw]] ++ _⟩
   refine sReg rfl <|
    rwp_det rfl rfl (det_lss rfl rfl rfl) <|
    rwp_nil <|
    awp_seq <|
    awp_cond rfl (fun c2 => ?_) (fun c2 => ?_)
   ·try simp only [sx] at c2
    obtain ⟨i, hi2⟩ := ex_get x.Idx k (by omega)
    refine awp_skip <|
     awp_seq <|
     awp_block <|
     sReg rfl <|
     rwp_det rfl rfl (det_index_sl rfl el44 rfl rfl (by omega) (getm (by assumption))) <|
     rwp_det rfl rfl (det_load_agg rfl agg114 rfl ptr_imm rfl) <|
     rwp_op rfl rfl (ope_allocN [none, some 2, none, some 2] rfl zr114 rfl) ?_
    rintro _ _ ⟨b6, rfl, rfl⟩
    refine rwp_det0 rfl rfl (det_store rfl sz114 rfl rfl rfl (st_row 0 rfl rfl)) <|
     rwp_nil <|
     sReg rfl <|
     rwp_det rfl rfl (det_field_lit rfl fd114_1 rfl) <|
     rwp_det rfl rfl (det_load_one rfl one9 rfl (ptr_row 0 rfl) rfl) <|
     rwp_det rfl rfl (det_sneq rfl rfl rfl) <|
     rwp_nil <|
     awp_cond rfl (fun c3 => ?_) (fun c3 => ?_)
    ·try simp only [sx] at c3
     refine awp_region rfl <|
      rwp_det rfl rfl (det_load_one rfl one72 rfl (ptr_row 2 rfl) rfl) <|
      rwp_det rfl rfl (det_field_lit rfl fd114_1 rfl) <|
      rwp_det rfl rfl (det_load_one rfl one9 rfl (ptr_row 0 rfl) rfl) <|
      rwp_det rfl rfl (det_bslice rfl el72 zr9 rfl rfl rfl rfl) <|
      rwp_op rfl rfl (ope_append 1 rfl el72 rfl rfl rfl (by have hik := readsI_take x.Idx k; have hik2 := opRead_len x; simp only [List.length_map, List.length_append, List.length_cons, List.length_nil]; omega) (by have hik := readsI_take x.Idx k; have hik2 := opRead_len x; simp only [List.length_map, List.length_append, List.length_cons, List.length_nil]; omega)) ?_
     rintro _ _ ⟨sv7, rfl, rfl⟩
     refine rwp_det0 rfl rfl (det_store rfl sz72 rfl rfl rfl (st_row 2 rfl rfl)) <|
      rwp_nil <|
      awp_region rfl <|
      rwp_det rfl rfl (det_add_nw rfl rfl rfl ⟨by omega, by omega⟩) <|
      rMv rfl <|
      rwp_nil ?_
     refine ⟨⟨k + 1, _⟩, (by omega), (by show x.Idx.length - (k + 1) < x.Idx.length - k; omega), Weak.mk [false, true, true] ⟨VLe.refl _, VLe.refl _, VLe.refl _, VLe.refl _, trivial⟩ (by exact mem2_eq (by rw [readsI_next hi2]; simp [fromX, strRows, *]))⟩
    ·try simp only [sx] at c3
     refine awp_skip <|
      awp_region rfl <|
      rwp_det rfl rfl (det_add_nw rfl rfl rfl ⟨by omega, by omega⟩) <|
      rMv rfl <|
      rwp_nil ?_
     refine ⟨⟨k + 1, _⟩, (by omega), (by show x.Idx.length - (k + 1) < x.Idx.length - k; omega), Weak.mk [false, true, true] ⟨VLe.refl _, VLe.refl _, VLe.refl _, VLe.refl _, trivial⟩ (by exact mem2_eq (by rw [readsI_next hi2]; simp [fromX, strRows, *]))⟩
   ·try simp only [sx] at c2
    refine awp_exit ?_
    exact round_fin (τ := ⟨[], _⟩) (Weak.mk [true, true] trivial rfl) ⟨_, trivial, (by exact mem2_eq (by rw [take_all (l := x.Idx) (by omega), readsA_one]))⟩
  ·try simp only [sx] at c1
   refine awp_skip <|
    sReg rfl <|
    rwp_det rfl rfl (det_field_lit rfl fd52_5 rfl) <|
    rwp_det rfl rfl (det_load_one rfl one44 rfl (ptr_row 0 rfl) rfl) <|
    rwp_det rfl rfl (det_len_slm rfl el44 rfl) <|
    rMv rfl <|
    rwp_nil <|
    awp_block <|
    awp_weak ⟨[(21, .c _), (3, .c _), (19, .c _), (20, .c _)], [_, _]⟩ (Weak.mk [false, true, true] ⟨VLe.of_eq rfl, VLe.of_eq rfl, VLe.of_eq rfl, VLe.of_eq rfl, trivial⟩ rfl) <|
    awp_loop_k 1 2 rfl rfl (Nat × Value) (fun ⟨k, sw⟩ => [(21, vI k)]) (fun ⟨k, sw⟩ => [E.vec sw 9 1 (strRows (readsA pre ++ opRead x ++ readsI (x.Idx.take k))), E.row b2 72 [.lit sw]]) (fun ⟨k, sw⟩ => k ≤ x.Idx.length) (fun ⟨k, sw⟩ => x.Idx.length - k) ⟨⟨0, _⟩, (by omega), Weak.mk [true, true] ⟨VLe.refl _, VLe.refl _, VLe.refl _, VLe.refl _, trivial⟩ (by exact mem2_eq (by simp [opRead, readsI, strRows, *]))⟩ ?_
   rintro ⟨k, sw⟩ hk
   show AWP _ _ _ _ _ ⟨[(21, vI k)] ++ _, [E.vec sw 9 1 (strRows (readsA pre ++ opRead x ++ readsI (x.Idx.take k))), E.row b2 72 [.lit sw]] ++ _⟩
   refine sReg rfl <|
    rwp_det rfl rfl (det_lss rfl rfl rfl) <|
    rwp_nil <|
    awp_seq <|
    awp_cond rfl (fun c2 => ?_) (fun c2 => ?_)
   ·try simp only [sx] at c2
    obtain ⟨i, hi2⟩ := ex_get x.Idx k (by omega)
    refine awp_skip <|
     awp_seq <|
     awp_block <|
     sReg rfl <|
     rwp_det rfl rfl (det_index_sl rfl el44 rfl rfl (by omega) (getm (by assumption))) <|
     rwp_det rfl rfl (det_load_agg rfl agg114 rfl ptr_imm rfl) <|
     rwp_op rfl rfl (ope_allocN [none, some 2, none, some 2] rfl zr114 rfl) ?_
    rintro _ _ ⟨b8, rfl, rfl⟩
    refine rwp_det0 rfl rfl (det_store rfl sz114 rfl rfl rfl (st_row 0 rfl rfl)) <|
     rwp_nil <|
     sReg rfl <|
     rwp_det rfl rfl (det_field_lit rfl fd114_1 rfl) <|
     rwp_det rfl rfl (det_load_one rfl one9 rfl (ptr_row 0 rfl) rfl) <|
     rwp_det rfl rfl (det_sneq rfl rfl rfl) <|
     rwp_nil <|
     awp_cond rfl (fun c3 => ?_) (fun c3 => ?_)
    ·try simp only [sx] at c3
     refine awp_region rfl <|
      rwp_det rfl rfl (det_load_one rfl one72 rfl (ptr_row 2 rfl) rfl) <|
      rwp_det rfl rfl (det_field_lit rfl fd114_1 rfl) <|
      rwp_det rfl rfl (det_load_one rfl one9 rfl (ptr_row 0 rfl) rfl) <|
      rwp_det rfl rfl (det_bslice rfl el72 zr9 rfl rfl rfl rfl) <|
      rwp_op rfl rfl (ope_append 1 rfl el72 rfl rfl rfl (by have hik := readsI_take x.Idx k; have hik2 := opRead_len x; simp only [List.length_map, List.length_append, List.length_cons, List.length_nil]; omega) (by have hik := readsI_take x.Idx k; have hik2 := opRead_len x; simp only [List.length_map, List.length_append, List.length_cons, List.length_nil]; omega)) ?_
     rintro _ _ ⟨sv9, rfl, rfl⟩
     refine rwp_det0 rfl rfl (det_store rfl sz72 rfl rfl rfl (st_row 2 rfl rfl)) <|
      rwp_nil <|
      awp_region rfl <|
      rwp_det rfl rfl (det_add_nw rfl rfl rfl ⟨by omega, by omega⟩) <|
      rMv rfl <|
      rwp_nil ?_
     refine ⟨⟨k + 1, _⟩, (by omega), (by show x.Idx.length - (k + 1) < x.Idx.length - k; omega), Weak.mk [false, true, true] ⟨VLe.refl _, VLe.refl _, VLe.refl _, VLe.refl _, trivial⟩ (by exact mem2_eq (by rw [readsI_next hi2]; simp [fromX, strRows, *]))⟩
    ·try simp only [sx] at c3
     refine awp_skip <|
      awp_region rfl <|
      rwp_det rfl rfl (det_add_nw rfl rfl rfl ⟨by omega, by omega⟩) <|
      rMv rfl <|
      rwp_nil ?_
     refine ⟨⟨k + 1, _⟩, (by omega), (by show x.Idx.length - (k + 1) < x.Idx.length - k; omega), Weak.mk [false, true, true] ⟨VLe.refl _, VLe.refl _, VLe.refl _, VLe.refl _, trivial⟩ (by exact mem2_eq (by rw [readsI_next hi2]; simp [fromX, strRows, *]))⟩
   ·try simp only [sx] at c2
    refine awp_exit ?_
    exact round_fin (τ := ⟨[], _⟩) (Weak.mk [true, true] trivial rfl) ⟨_, trivial, (by exact mem2_eq (by rw [take_all (l := x.Idx) (by omega), readsA_one]))⟩
 ·intro sv hd
  refine sReg rfl <|
   rwp_det rfl rfl (det_load_one rfl one72 rfl (ptr_row 1 rfl) rfl) <|
   rwp_op rfl rfl (ope_call_vec 0 rfl rfl ok132 (expr_sorted sv (readsA (nodes e)) (by have := readsA_len e; omega)) ⟨VLe.refl _, rfl, trivial⟩) ?_
  rintro _ _ ⟨sv10, rfl, rfl⟩
  refine rMv rfl <|
   rwp_nil <|
   awp_weak _ (Weak.mem [true, false] rfl) <|
   awp_ret <|
   fin1 (rs_c rfl) ?_
  exact ⟨_, rfl, rfl⟩

end Go.W
