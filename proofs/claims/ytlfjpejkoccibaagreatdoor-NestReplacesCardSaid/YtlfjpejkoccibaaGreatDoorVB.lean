/-
  Walks: what functions of the program compute. Printed by wip/gen/mk2.py.
  Conditions: none.
-/
import Derived.Test.YtlfjpejkoccibaaGreatDoorVA
import Derived.Test.YtlfjpejkoccibaaGreatDoorWV
import Derived.Test.YtlfjpejkoccibaaGreatDoorPlain2
import Derived.Test.YtlfjpejkoccibaaGreatDoorEngZ
set_option linter.unusedSimpArgs false
set_option linter.unusedVariables false
set_option maxRecDepth 10000
namespace Go.W
open Go Go.Eng Go.Proofs Go.L41 Go.Br
attribute [local irreducible] AWP RWP TD finQ
theorem ok132 : callOk Tryz.prog 132 = true := by kernel_rfl
theorem one105 : oneT Tryz.prog 105 = true := by kernel_rfl
theorem sz105 : (Tryz.prog.info? 105).map (·.size) = some 1 := by kernel_rfl
theorem zr105 : zeroT Tryz.prog 105 = some [(Value.slice none 0 0)] := by kernel_rfl
theorem expr_IndexNames (e : Ex) (he : e.wt ≤ 1073741824) :
    OwnR cfg 86 [vE e] 9 1 (strRows (indexT e)) := by
 refine con_intro Tryz.func86 rfl Tryz.ntmps86 Tryz.results86 rfl ?_
 intro z hz
 refine sReg rfl <|
  rwp_op rfl rfl (ope_box rfl rfl) ?_
 rintro _ _ ⟨b1, rfl, rfl⟩
 refine rwp_det rfl rfl (det_assignN 1 rfl rfl) <|
  rwp_nil <|
  sReg rfl <|
  rwp_op rfl rfl (ope_alloc rfl zr105) ?_
 rintro _ _ ⟨b2, rfl, rfl⟩
 refine rwp_weak _ (weak_own 9 1) <|
  rwp_nil <|
  awp_seq <|
  sReg rfl <|
  rwp_det rfl rfl (det_load_agg rfl agg44 rfl (ptr_row 2 rfl) rfl) <|
  rwp_det rfl rfl (det_call rfl ok123 (expr_Walk _) ⟨VLe.refl _, rfl, trivial⟩) <|
  rwp_nil <|
  awp_block <|
  awp_weak _ (Weak.mem [true, true, false] rfl) <|
  awp_range_g (ps := [10]) hz (Value) 2 rfl rfl ok158 (walk_iter e (by omega)) (fun _ _ => rfl) rfl (fun pre sv => True) (fun pre sv => [E.vec sv 9 1 (strRows (namesA pre)), E.row b2 105 [.lit sv]]) ⟨.slice none 0 0, trivial, rfl⟩ ?_ ?_
 ·intro pre x suf sv hxs hi z hz
  show AWP _ _ _ _ _ ⟨_, [E.vec sv 9 1 (strRows (namesA pre)), E.row b2 105 [.lit sv]] ++ _⟩
  have hlen := namesP_len (pre := pre ++ [x]) (suf := suf) (by rw [hxs]; simp)
  rw [namesA_one, List.length_append] at hlen
  have hxw : x.wt ≤ e.wt := node_mem_wt e x (by rw [hxs]; simp)
  refine awp_region rfl <|
   rwp_op rfl rfl (ope_allocN [none, none, none, none, none, none, none, none, none, none, some 2, some 4, some 13] rfl zr44 rfl) ?_
  rintro _ _ ⟨b4, rfl, rfl⟩
  refine rwp_det0 rfl rfl (det_store rfl sz44 rfl rfl rfl (st_row 0 rfl rfl)) <|
   rwp_nil ?_
  intro z hz
  refine awp_block <|
   sReg rfl <|
   rwp_det rfl rfl (det_load_agg rfl agg44 rfl (ptr_row 0 rfl) rfl) <|
   rwp_det rfl rfl (det_call rfl ok131 (expr_forms _) ⟨VLe.refl _, rfl, trivial⟩) <|
   rwp_nil <|
   awp_block <|
   awp_weak _ (Weak.mem [false, true, true] rfl) <|
   awp_range_g (ps := [13]) hz (Value) 2 rfl rfl ok169 (forms_iter x (by omega)) (fun _ _ => rfl) rfl (fun pre2 sw => True) (fun pre2 sw => [E.vec sw 9 1 (strRows (namesA pre ++ pre2.flatMap namesF)), E.row b2 105 [.lit sw]]) ⟨sv, trivial, (by exact mem2_eq (by simp))⟩ ?_ ?_
  ·intro pre2 l suf2 sw hxl hi2 z hz
   show AWP _ _ _ _ _ ⟨_, [E.vec sw 9 1 (strRows (namesA pre ++ pre2.flatMap namesF)), E.row b2 105 [.lit sw]] ++ _⟩
   have hl2 := namesX_len (pre := pre2 ++ [l]) (suf := suf2) (by rw [hxl]; simp)
   have hfl : (namesF l).length = l.L.length := by unfold namesF; rw [List.length_map]
   rw [namesF_one, List.length_append] at hl2
   refine awp_region rfl <|
    rwp_op rfl rfl (ope_allocN [none, some 2] rfl zr41 rfl) ?_
   rintro _ _ ⟨b5, rfl, rfl⟩
   refine rwp_det0 rfl rfl (det_store rfl sz41 rfl rfl rfl (st_row 0 rfl rfl)) <|
    rwp_nil ?_
   intro z hz
   refine awp_block <|
    sReg rfl <|
    rwp_det rfl rfl (det_field_lit rfl fd41_1 rfl) <|
    rwp_det rfl rfl (det_load_one rfl one39 rfl (ptr_row 0 rfl) rfl) <|
    rwp_det rfl rfl (det_len_slm rfl el39 rfl) <|
    rMv rfl <|
    rwp_nil <|
    awp_block <|
    awp_weak ⟨[(17, .c _), (3, .c _), (15, .c _), (16, .c _)], [_, _]⟩ (Weak.mk [false, true, true] ⟨VLe.of_eq rfl, VLe.of_eq rfl, VLe.of_eq rfl, VLe.of_eq rfl, trivial⟩ rfl) <|
    awp_loop_k 1 2 rfl rfl (Nat × Value) (fun ⟨k, sy⟩ => [(17, vI k)]) (fun ⟨k, sy⟩ => [E.vec sy 9 1 (strRows (namesA pre ++ pre2.flatMap namesF ++ (l.L.take k).map Mono.Name)), E.row b2 105 [.lit sy]]) (fun ⟨k, sy⟩ => k ≤ l.L.length) (fun ⟨k, sy⟩ => l.L.length - k) ⟨⟨0, _⟩, (by omega), Weak.mk [true, true] ⟨VLe.refl _, VLe.refl _, VLe.refl _, VLe.refl _, trivial⟩ (by exact mem2_eq (by simp))⟩ ?_
   rintro ⟨k, sy⟩ hk
   show AWP _ _ _ _ _ ⟨[(17, vI k)] ++ _, [E.vec sy 9 1 (strRows (namesA pre ++ pre2.flatMap namesF ++ (l.L.take k).map Mono.Name)), E.row b2 105 [.lit sy]] ++ _⟩
   refine sReg rfl <|
    rwp_det rfl rfl (det_lss rfl rfl rfl) <|
    rwp_nil <|
    awp_seq <|
    awp_cond rfl (fun c1 => ?_) (fun c1 => ?_)
   ·try simp only [sx] at c1
    obtain ⟨m, hm2⟩ := ex_get l.L k (by omega)
    refine awp_skip <|
     awp_seq <|
     awp_block <|
     sReg rfl <|
     rwp_det rfl rfl (det_index_sl rfl el39 rfl rfl (by omega) (getm (by assumption))) <|
     rwp_det rfl rfl (det_load_agg rfl agg69 rfl ptr_imm rfl) <|
     rwp_op rfl rfl (ope_alloc rfl zr69) ?_
    rintro _ _ ⟨b6, rfl, rfl⟩
    refine rwp_det0 rfl rfl (det_store rfl sz69 rfl rfl rfl (st_row 0 rfl rfl)) <|
     rwp_nil <|
     awp_region rfl <|
     rwp_det rfl rfl (det_load_one rfl one105 rfl (ptr_row 2 rfl) rfl) <|
     rwp_det rfl rfl (det_field_lit rfl fd69_0 rfl) <|
     rwp_det rfl rfl (det_load_one rfl one9 rfl (ptr_row 0 rfl) rfl) <|
     rwp_det rfl rfl (det_bslice rfl el105 zr9 rfl rfl rfl rfl) <|
     rwp_op rfl rfl (ope_append 1 rfl el105 rfl rfl rfl (by have hkk := List.length_take_le' k l.L; simp only [List.length_map, List.length_append, List.length_cons, List.length_nil]; omega) (by have hkk := List.length_take_le' k l.L; simp only [List.length_map, List.length_append, List.length_cons, List.length_nil]; omega)) ?_
    rintro _ _ ⟨sv7, rfl, rfl⟩
    refine rwp_det0 rfl rfl (det_store rfl sz105 rfl rfl rfl (st_row 2 rfl rfl)) <|
     rwp_nil <|
     awp_region rfl <|
     rwp_det rfl rfl (det_add_nw rfl rfl rfl ⟨by omega, by omega⟩) <|
     rMv rfl <|
     rwp_nil ?_
    refine ⟨⟨k + 1, _⟩, (by omega), (by show l.L.length - (k + 1) < l.L.length - k; omega), Weak.mk [false, true, true] ⟨VLe.refl _, VLe.refl _, VLe.refl _, VLe.refl _, trivial⟩ (by exact mem2_eq (by rw [namesM_next hm2]; simp [strRows]))⟩
   ·try simp only [sx] at c1
    refine awp_exit ?_
    exact round_fin (τ := ⟨[], _⟩) (Weak.mk [true, true] trivial rfl) ⟨_, trivial, (by exact mem2_eq (by rw [take_all (l := l.L) (by omega), namesF_one, ← List.append_assoc]; rfl))⟩
  ·intro sw hd2
   exact round_fin (τ := ⟨[], _⟩) (Weak.mk [true, true] trivial rfl) ⟨_, trivial, (by exact mem2_eq (by rw [namesA_one]; rfl))⟩
 ·intro sv hd
  refine sReg rfl <|
   rwp_det rfl rfl (det_load_one rfl one105 rfl (ptr_row 1 rfl) rfl) <|
   rwp_op rfl rfl (ope_call_vec 0 rfl rfl ok132 (expr_sorted sv (namesA (nodes e)) (by have := namesA_len e; omega)) ⟨VLe.refl _, rfl, trivial⟩) ?_
  rintro _ _ ⟨sv8, rfl, rfl⟩
  refine rMv rfl <|
   rwp_nil <|
   awp_weak _ (Weak.mem [true, false] rfl) <|
   awp_ret <|
   fin1 (rs_c rfl) ?_
  exact ⟨_, rfl, rfl⟩

end Go.W
