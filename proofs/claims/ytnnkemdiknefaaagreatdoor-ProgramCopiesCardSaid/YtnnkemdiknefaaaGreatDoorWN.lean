/-
  Walks: what functions of the program compute. Printed by wip/gen/mk2.py.
  Conditions: none.
-/
import Derived.Test.YtnnkemdiknefaaaGreatDoorWM
import Derived.Test.YtnnkemdiknefaaaGreatDoorPlain
import Derived.Test.YtnnkemdiknefaaaGreatDoorEngZ
set_option linter.unusedSimpArgs false
set_option linter.unusedVariables false
namespace Go.W
open Go Go.Eng Go.Proofs Go.L41 Go.Br
attribute [local irreducible] AWP RWP TD
theorem fd35_5 : fieldT Tryz.prog 35 5 = some (9, 33) := by kernel_rfl
theorem fd158_0 : fieldT Tryz.prog 158 0 = some (0, 47) := by kernel_rfl
theorem ok133 : callOk Tryz.prog 133 = true := by kernel_rfl
theorem ok135 : callOk Tryz.prog 135 = true := by kernel_rfl
theorem ok136 : callOk Tryz.prog 136 = true := by kernel_rfl
theorem ok137 : callOk Tryz.prog 137 = true := by kernel_rfl
theorem ok196 : callOk Tryz.prog 196 = true := by kernel_rfl
theorem ok197 : callOk Tryz.prog 197 = true := by kernel_rfl
theorem ok198 : callOk Tryz.prog 198 = true := by kernel_rfl
theorem ok199 : callOk Tryz.prog 199 = true := by kernel_rfl
theorem pl158 : placesT Tryz.prog 158 = some [(0, 5), (5, 1)] := by kernel_rfl
theorem sz35 : (Tryz.prog.info? 35).map (·.size) = some 22 := by kernel_rfl
theorem sz45 : (Tryz.prog.info? 45).map (·.size) = some 1 := by kernel_rfl
theorem sz47 : (Tryz.prog.info? 47).map (·.size) = some 5 := by kernel_rfl
theorem sz111 : (Tryz.prog.info? 111).map (·.size) = some 3 := by kernel_rfl
theorem zr35 : zeroT Tryz.prog 35 = some [(Value.string (ByteArray.mk #[])), (Value.int IntKind.i64 0), (Value.int IntKind.i64 0), (Value.int IntKind.i64 0), (Value.int IntKind.i64 0), (Value.int IntKind.i64 0), (Value.slice none 0 0), (Value.slice none 0 0), (Value.int IntKind.i64 0), (Value.int IntKind.i64 0), (Value.string (ByteArray.mk #[])), (Value.int IntKind.i64 0), (Value.int IntKind.i64 0), (Value.int IntKind.i64 0), (Value.int IntKind.i64 0), (Value.int IntKind.i64 0), (Value.int IntKind.i64 0), (Value.int IntKind.i64 0), (Value.int IntKind.i64 0), (Value.slice none 0 0), (Value.slice none 0 0), (Value.slice none 0 0)] := by kernel_rfl
theorem zr47 : zeroT Tryz.prog 47 = some [(Value.slice none 0 0), (Value.slice none 0 0), (Value.slice none 0 0), (Value.slice none 0 0), (Value.slice none 0 0)] := by kernel_rfl
theorem zr111 : zeroT Tryz.prog 111 = some [(Value.int IntKind.i64 0), (Value.slice none 0 0), (Value.bool false)] := by kernel_rfl
theorem zr158 : zeroT Tryz.prog 158 = some [(Value.slice none 0 0), (Value.slice none 0 0), (Value.slice none 0 0), (Value.slice none 0 0), (Value.slice none 0 0), (Value.map none)] := by kernel_rfl
theorem checker_def (b mb : Nat) (p : Pg) (m : Kn) (hP : p.Ok) (k : Nat) (d : Df) (hd : p.Defs[k]? = some d) :
    Con cfg 137 [vP b, vI k] (ckE b mb p m) fun r μ' => r = vI (defM m ⟨p.Sizes, p.Params, p.Defs.take k⟩ d) ∧ μ' = ckE b mb p (nameMap m d.Name 2) := by
 refine con_intro Tryz.func137 rfl Tryz.ntmps137 Tryz.results137 rfl ?_
 intro z hz
 obtain ⟨hD, hR, hA, hA2, hB⟩ := hP.ds d (mem_of_get hd)
 have hlen := len_of_get hd
 have hpd := hP.defs
 refine awp_seq ?_
 refine awp_region rfl ?_
 refine rwp_det rfl rfl (det_assign rfl rfl) ?_
 refine rwp_nil ?_
 refine awp_seq ?_
 refine awp_region rfl ?_
 refine rwp_det rfl rfl (det_move rfl rfl) ?_
 refine rwp_det rfl rfl (det_nilcheck_ptr rfl rfl) ?_
 refine rwp_det rfl rfl (det_field_lit rfl fd158_0 rfl) ?_
 refine rwp_det rfl rfl (det_field_lit rfl fd47_3 rfl) ?_
 refine rwp_det rfl rfl (det_load_one rfl one45 rfl (ptr_row 0 rfl) rfl) ?_
 refine rwp_det rfl rfl (det_move rfl rfl) ?_
 refine rwp_det rfl rfl (det_index_sl rfl el45 rfl rfl (by omega) (getm (by assumption))) ?_
 refine rwp_det rfl rfl (det_load_agg rfl agg35 rfl ptr_imm rfl) ?_
 refine rwp_op rfl rfl (ope_allocN [none, none, none, none, none, none, some 3, some 3, none, none, none, none, none, none, none, none, none, none, none, some 2, some 4, some 13] rfl zr35 rfl) ?_
 rintro _ _ ⟨b1, rfl, rfl⟩
 refine rwp_det0 rfl rfl (det_store rfl sz35 rfl rfl rfl (st_row 0 rfl rfl)) ?_
 refine rwp_nil ?_
 refine awp_seq ?_
 refine awp_seq ?_
 refine awp_region rfl ?_
 refine rwp_det rfl rfl (det_move rfl rfl) ?_
 refine rwp_det rfl rfl (det_field_lit rfl fd35_0 rfl) ?_
 refine rwp_det rfl rfl (det_load_one rfl one9 rfl (ptr_row 0 rfl) rfl) ?_
 refine rwp_det rfl rfl (det_call_mem [1, 1] rfl ok134 (checker_name b mb p m d.Name 2) ⟨VLe.refl _, rfl, VLe.refl _, rfl, VLe.refl _, rfl, trivial⟩ rfl) ?_
 refine rwp_det rfl rfl (det_assign rfl rfl) ?_
 refine rwp_nil ?_
 refine awp_seq ?_
 refine awp_region rfl ?_
 refine rwp_det rfl rfl (det_move rfl rfl) ?_
 refine rwp_det rfl rfl (det_neq rfl rfl rfl) ?_
 refine rwp_nil ?_
 refine awp_cond rfl (fun c1 => ?_) (fun c1 => ?_)
 ·try simp only [sx, List.length_map] at c1
  refine awp_seq ?_
  refine awp_region rfl ?_
  refine rwp_det rfl rfl (det_move rfl rfl) ?_
  refine rwp_det rfl rfl (det_assign rfl rfl) ?_
  refine rwp_nil ?_
  refine awp_weak _ (Weak.mem [false, true, true] rfl) ?_
  refine awp_ret ?_
  repeat (first | refine thenQ_ret ?_ | refine blockQ_ret ?_)
  refine fin1 (rs_c rfl) ?_
  exact ⟨by rw [def_1 c1], rfl⟩
 ·try simp only [sx, List.length_map] at c1
  refine awp_skip ?_
  refine awp_seq ?_
  refine awp_seq ?_
  refine awp_region rfl ?_
  refine rwp_det rfl rfl (det_field_lit rfl fd35_1 rfl) ?_
  refine rwp_det rfl rfl (det_load_agg rfl agg23 rfl (ptr_row 0 rfl) rfl) ?_
  refine rwp_det rfl rfl (det_field_lit rfl fd35_2 rfl) ?_
  refine rwp_det rfl rfl (det_load_one rfl one24 rfl (ptr_row 0 rfl) rfl) ?_
  refine rwp_det rfl rfl (det_len_slm rfl el24 rfl) ?_
  refine rwp_det rfl rfl (det_field_lit rfl fd35_3 rfl) ?_
  refine rwp_det rfl rfl (det_load_one rfl one24 rfl (ptr_row 0 rfl) rfl) ?_
  refine rwp_det rfl rfl (det_len_slm rfl el24 rfl) ?_
  refine rwp_det rfl rfl (det_bslice rfl el181 zr3 rfl rfl rfl rfl) ?_
  refine rwp_det rfl rfl (det_call rfl ok195 (program_declared d.T [(d.Dims.length : Int), (d.Red.length : Int)] _ rfl (by simp)) ⟨VLe.refl _, rfl, VLe.refl _, rfl, trivial⟩) ?_
  refine rwp_det rfl rfl (det_assign rfl rfl) ?_
  refine rwp_nil ?_
  refine awp_seq ?_
  refine awp_region rfl ?_
  refine rwp_det rfl rfl (det_move rfl rfl) ?_
  refine rwp_det rfl rfl (det_neq rfl rfl rfl) ?_
  refine rwp_nil ?_
  refine awp_cond rfl (fun c2 => ?_) (fun c2 => ?_)
  ·try simp only [sx, List.length_map] at c2
   refine awp_seq ?_
   refine awp_region rfl ?_
   refine rwp_det rfl rfl (det_move rfl rfl) ?_
   refine rwp_det rfl rfl (det_assign rfl rfl) ?_
   refine rwp_nil ?_
   refine awp_weak _ (Weak.mem [false, true, true] rfl) ?_
   refine awp_ret ?_
   repeat (first | refine thenQ_ret ?_ | refine blockQ_ret ?_)
   refine fin1 (rs_c rfl) ?_
   exact ⟨by rw [def_2 c1 c2], rfl⟩
  ·try simp only [sx, List.length_map] at c2
   have hX := def_ok (n := ⟨p.Sizes, p.Params, p.Defs.take k⟩) c1 c2
   refine awp_skip ?_
   refine awp_seq ?_
   refine awp_seq ?_
   refine awp_region rfl ?_
   refine rwp_det rfl rfl (det_move rfl rfl) ?_
   refine rwp_det rfl rfl (det_load_agg rfl agg35 rfl (ptr_row 0 rfl) rfl) ?_
   refine rwp_det rfl rfl (det_call_mem [1, 1] rfl ok196 (checker_axes b mb p (nameMap m d.Name 2) d hD hR hA hA2) ⟨VLe.refl _, rfl, VLe.refl _, rfl, trivial⟩ rfl) ?_
   refine rwp_det rfl rfl (det_assign rfl rfl) ?_
   refine rwp_nil ?_
   refine awp_seq ?_
   refine awp_region rfl ?_
   refine rwp_det rfl rfl (det_move rfl rfl) ?_
   refine rwp_det rfl rfl (det_neq rfl rfl rfl) ?_
   refine rwp_nil ?_
   refine awp_cond rfl (fun c3 => ?_) (fun c3 => ?_)
   ·try simp only [sx, List.length_map] at c3
    refine awp_seq ?_
    refine awp_region rfl ?_
    refine rwp_det rfl rfl (det_move rfl rfl) ?_
    refine rwp_det rfl rfl (det_assign rfl rfl) ?_
    refine rwp_nil ?_
    refine awp_weak _ (Weak.mem [false, true, true] rfl) ?_
    refine awp_ret ?_
    repeat (first | refine thenQ_ret ?_ | refine blockQ_ret ?_)
    refine fin1 (rs_c rfl) ?_
    exact ⟨by rw [hX, if_neg c3], rfl⟩
   ·try simp only [sx, List.length_map] at c3
    rw [if_pos c3] at hX
    refine awp_skip ?_
    refine awp_seq ?_
    refine awp_seq ?_
    refine awp_region rfl ?_
    refine rwp_det rfl rfl (det_load_agg rfl agg35 rfl (ptr_row 0 rfl) rfl) ?_
    refine rwp_det rfl rfl (det_call rfl ok197 (program_fold d) ⟨VLe.refl _, rfl, trivial⟩) ?_
    refine rwp_det rfl rfl (det_assign rfl rfl) ?_
    refine rwp_nil ?_
    refine awp_seq ?_
    refine awp_region rfl ?_
    refine rwp_det rfl rfl (det_move rfl rfl) ?_
    refine rwp_det rfl rfl (det_neq rfl rfl rfl) ?_
    refine rwp_nil ?_
    refine awp_cond rfl (fun c4 => ?_) (fun c4 => ?_)
    ·try simp only [sx, List.length_map] at c4
     refine awp_seq ?_
     refine awp_region rfl ?_
     refine rwp_det rfl rfl (det_move rfl rfl) ?_
     refine rwp_det rfl rfl (det_assign rfl rfl) ?_
     refine rwp_nil ?_
     refine awp_weak _ (Weak.mem [false, true, true] rfl) ?_
     refine awp_ret ?_
     repeat (first | refine thenQ_ret ?_ | refine blockQ_ret ?_)
     refine fin1 (rs_c rfl) ?_
     exact ⟨by rw [hX, if_neg c4], rfl⟩
    ·try simp only [sx, List.length_map] at c4
     rw [if_pos c4] at hX
     unfold tyErrD at hX
     refine awp_skip ?_
     refine awp_seq ?_
     refine awp_region rfl ?_
     refine rwp_det rfl rfl (det_move rfl rfl) ?_
     refine rwp_det rfl rfl (det_nilcheck_ptr rfl rfl) ?_
     refine rwp_det rfl rfl (det_field_lit rfl fd158_0 rfl) ?_
     refine rwp_det rfl rfl (det_load_agg rfl agg47 rfl (ptr_row 1 rfl) rfl) ?_
     refine rwp_op rfl rfl (ope_allocN [some 1, some 3, some 7, some 22, some 1] rfl zr47 rfl) ?_
     rintro _ _ ⟨b2, rfl, rfl⟩
     refine rwp_det0 rfl rfl (det_store rfl sz47 rfl rfl rfl (st_row 0 rfl rfl)) ?_
     refine rwp_nil ?_
     refine awp_seq ?_
     refine awp_region rfl ?_
     refine rwp_det rfl rfl (det_move rfl rfl) ?_
     refine rwp_det rfl rfl (det_nilcheck_ptr rfl rfl) ?_
     refine rwp_det rfl rfl (det_field_lit rfl fd158_0 rfl) ?_
     refine rwp_det rfl rfl (det_field_lit rfl fd47_3 rfl) ?_
     refine rwp_det rfl rfl (det_load_one rfl one45 rfl (ptr_row 2 rfl) rfl) ?_
     refine rwp_det rfl rfl (det_move rfl rfl) ?_
     refine rwp_det rfl rfl (det_cut_take rfl el45 rfl rfl (by omega)) ?_
     refine rwp_det rfl rfl (det_field_lit rfl fd47_3 rfl) ?_
     refine rwp_det0 rfl rfl (det_store rfl sz45 rfl rfl rfl (st_row 0 rfl rfl)) ?_
     refine rwp_nil ?_
     refine awp_seq ?_
     refine awp_draw_p 10 [.q, .q, .q, .q, .q, .q, .q, .q, .u, .f]  mixed (by kernel_rfl) rfl rfl rfl ?_
     refine tdq_det rfl rfl (det_load_agg rfl agg47 rfl (ptr_row 0 rfl) rfl) ?_
     refine tdq_det rfl rfl (det_load_agg rfl agg35 rfl (ptr_row 1 rfl) rfl) ?_
     refine tdq_det rfl rfl (det_call rfl ok199 (OwnR.pur (program_IndexNames d hD hR)) ⟨VLe.refl _, rfl, trivial⟩) ?_
     refine tdq_det rfl rfl (det_field_lit rfl fd35_5 rfl) ?_
     refine tdq_det rfl rfl (det_load_agg rfl agg33 rfl (ptr_row 1 rfl) rfl) ?_
     refine tdq_det rfl rfl (det_call rfl ok198 (program_TypeOf (⟨p.Sizes, p.Where, p.Params, p.Defs.take k, p.Outs⟩ : Pg) (namesD d) d.Body (hP.take k) (by rw [namesD, List.length_append, List.length_map, List.length_map]; omega) hB) ⟨VLe.refl _, rfl, VLe.refl _, rfl, VLe.refl _, rfl, trivial⟩) ?_
     refine tdq_det rfl rfl (det_move_tup rfl rfl) ?_
     refine tdq_det rfl rfl (det_ex_agg rfl rfl rfl) ?_
     refine tdq_detF rfl rfl (det_ex_c rfl rfl rfl) ?_
     refine tdq_skip ?_
     refine tdq_nil ?_
     refine tdf_q ?_
     refine tdf_q ?_
     refine tdf_q ?_
     refine tdf_q ?_
     refine tdf_q ?_
     refine tdf_q ?_
     refine tdf_q ?_
     refine tdf_q ?_
     refine tdf_u ?_
     refine tdf_fresh (fresh_alloc' (ope_alloc rfl zr23)) ?_
     refine tdf_nil ?_
     refine allch_cons ?_
     rintro _ _ ⟨b3, rfl, rfl⟩
     refine allch_nil ?_
     refine ⟨_, det_store rfl sz23 rfl rfl rfl (st_row 0 rfl rfl), (by rintro _ _ ⟨rfl, rfl⟩; exact ⟨[_], rfl⟩), ?_⟩
     rintro _ _ ⟨rfl, rfl⟩
     refine rwp_det rfl rfl (det_assign rfl rfl) ?_
     refine rwp_nil ?_
     refine awp_seq ?_
     refine awp_seq ?_
     refine awp_region rfl ?_
     refine rwp_det rfl rfl (det_move rfl rfl) ?_
     refine rwp_det rfl rfl (det_neq rfl rfl rfl) ?_
     refine rwp_nil ?_
     refine awp_cond rfl (fun c5 => ?_) (fun c5 => ?_)
     ·try simp only [sx, List.length_map] at c5
      refine awp_seq ?_
      refine awp_region rfl ?_
      refine rwp_det rfl rfl (det_move rfl rfl) ?_
      refine rwp_det rfl rfl (det_assign rfl rfl) ?_
      refine rwp_nil ?_
      refine awp_weak _ (Weak.mem [false, false, false, true, true] rfl) ?_
      refine awp_ret ?_
      repeat (first | refine thenQ_ret ?_ | refine blockQ_ret ?_)
      refine fin1 (rs_c rfl) ?_
      exact ⟨by rw [hX, if_neg (show ¬ (typeT ⟨p.Sizes, p.Params, p.Defs.take k⟩ (namesD d) d.Body).2 = 0 from c5)]; rfl, rfl⟩
     ·try simp only [sx, List.length_map] at c5
      rw [if_pos (show (typeT ⟨p.Sizes, p.Params, p.Defs.take k⟩ (namesD d) d.Body).2 = 0 from c5)] at hX
      refine awp_skip ?_
      refine awp_seq ?_
      refine awp_seq ?_
      refine awp_region rfl ?_
      refine rwp_det rfl rfl (det_load_agg rfl agg23 rfl (ptr_row 0 rfl) rfl) ?_
      refine rwp_det rfl rfl (det_field_lit rfl fd35_1 rfl) ?_
      refine rwp_det rfl rfl (det_load_agg rfl agg23 rfl (ptr_row 2 rfl) rfl) ?_
      refine rwp_det rfl rfl (det_aneq rfl fl23 rfl rfl rfl) ?_
      refine rwp_nil ?_
      refine awp_cond rfl (fun c6 => ?_) (fun c6 => ?_)
      ·refine awp_seq ?_
       refine awp_region rfl ?_
       refine rwp_det rfl rfl (det_assign rfl rfl) ?_
       refine rwp_nil ?_
       refine awp_weak _ (Weak.mem [false, false, false, true, true] rfl) ?_
       refine awp_ret ?_
       repeat (first | refine thenQ_ret ?_ | refine blockQ_ret ?_)
       refine fin1 (rs_c rfl) ?_
       exact ⟨by rw [hX, if_neg (show ¬ (typeT (⟨p.Sizes, p.Params, p.Defs.take k⟩ : En) (namesD d) d.Body).1 = d.T from unlike_t c6)], rfl⟩
      ·refine awp_skip ?_
       refine awp_seq ?_
       refine awp_region rfl ?_
       refine rwp_det rfl rfl (det_assign rfl rfl) ?_
       refine rwp_nil ?_
       refine awp_weak _ (Weak.mem [false, false, false, true, true] rfl) ?_
       refine awp_ret ?_
       repeat (first | refine thenQ_ret ?_ | refine blockQ_ret ?_)
       refine fin1 (rs_c rfl) ?_
       exact ⟨by rw [hX, if_pos (show (typeT (⟨p.Sizes, p.Params, p.Defs.take k⟩ : En) (namesD d) d.Body).1 = d.T from unlike_f c6)], rfl⟩

theorem program_Validate (p : Pg) (hP : p.Ok) :
    Pur cfg 69 [vPg p] (.tup [vI (validM p).1, vI (validM p).2]) := by
 refine con_intro Tryz.func69 rfl Tryz.ntmps69 Tryz.results69 rfl ?_
 intro z hz
 have hps := hP.sizes
 have hpw := hP.wh
 have hpp := hP.params
 have hpd := hP.defs
 have hpo := hP.outs
 refine awp_seq ?_
 refine awp_region rfl ?_
 refine rwp_op rfl rfl (ope_box rfl rfl) ?_
 rintro _ _ ⟨b1, rfl, rfl⟩
 refine rwp_det rfl rfl (det_assign rfl rfl) ?_
 refine rwp_det rfl rfl (det_assign rfl rfl) ?_
 refine rwp_nil ?_
 refine awp_seq ?_
 refine awp_seq ?_
 refine awp_region rfl ?_
 refine rwp_det rfl rfl (det_load_agg rfl agg47 rfl (ptr_row 0 rfl) rfl) ?_
 refine rwp_det rfl rfl (det_call rfl ok133 (program_limits p) ⟨VLe.refl _, rfl, trivial⟩) ?_
 refine rwp_det rfl rfl (det_not rfl rfl) ?_
 refine rwp_nil ?_
 refine awp_cond rfl (fun c1 => ?_) (fun c1 => ?_)
 ·have hl : ¬ limitOk p := by simpa using c1
  refine awp_seq ?_
  refine awp_region rfl ?_
  refine rwp_det rfl rfl (det_assign rfl rfl) ?_
  refine rwp_det rfl rfl (det_assign rfl rfl) ?_
  refine rwp_nil ?_
  refine awp_ret ?_
  repeat (first | refine thenQ_ret ?_ | refine blockQ_ret ?_)
  refine fin2 (rs_c rfl) (rs_c rfl) ?_
  rw [validM_2 hl]
 ·have hl : limitOk p := by simpa using c1
  have ho64 : p.Outs.length ≤ 64 := hl.2.2.2.1
  refine awp_skip ?_
  refine awp_seq ?_
  refine awp_region rfl ?_
  refine rwp_det rfl rfl (det_load_agg rfl agg47 rfl (ptr_row 0 rfl) rfl) ?_
  refine rwp_op rfl rfl (ope_mkmap vI rfl rfl) ?_
  rintro _ _ ⟨b2, rfl, rfl⟩
  refine rwp_det rfl rfl (det_build rfl zr158 pl158 rfl) ?_
  refine rwp_op rfl rfl (ope_box rfl rfl) ?_
  rintro _ _ ⟨b3, rfl, rfl⟩
  refine rwp_det rfl rfl (det_assign rfl rfl) ?_
  refine rwp_nil ?_
  refine awp_seq ?_
  refine awp_seq ?_
  refine awp_region rfl ?_
  refine rwp_det rfl rfl (det_field_lit rfl fd47_0 rfl) ?_
  refine rwp_det rfl rfl (det_load_one rfl one42 rfl (ptr_row 2 rfl) rfl) ?_
  refine rwp_det rfl rfl (det_len_slm rfl el42 rfl) ?_
  refine rwp_det rfl rfl (det_move rfl rfl) ?_
  refine rwp_nil ?_
  refine awp_block ?_
  refine awp_weak ⟨[(29, .c _), (1, .c _), (4, .c _), (27, .c _), (28, .c _)], [_, _, _]⟩ (Weak.mk [true, true, true] ⟨VLe.of_eq rfl, VLe.of_eq rfl, VLe.of_eq rfl, VLe.of_eq rfl, VLe.of_eq rfl, trivial⟩ rfl) ?_
  refine awp_loop_k 1 2 rfl rfl (Nat) (fun k => [(29, vI k)]) (fun k => [pRow 158 b3 b2 p, E.blk b2 (MapR vI (tabV [] (p.Sizes.take k) 1))]) (fun k => k ≤ p.Sizes.length ∧ (sizesM [] p.Sizes = sizesM (tabV [] (p.Sizes.take k) 1) (p.Sizes.drop k))) (fun k => p.Sizes.length - k) ⟨0, ⟨by omega, rfl⟩, Weak.mk [true, true, true] ⟨VLe.refl _, VLe.refl _, VLe.refl _, VLe.refl _, VLe.refl _, trivial⟩ rfl⟩ ?_
  rintro k ⟨hk, hp⟩
  refine awp_seq ?_
  refine awp_region rfl ?_
  refine rwp_det rfl rfl (det_lss rfl rfl rfl) ?_
  refine rwp_nil ?_
  refine awp_seq ?_
  refine awp_cond rfl (fun c2 => ?_) (fun c2 => ?_)
  ·try simp only [sx, List.length_map] at c2
   obtain ⟨x, hx⟩ := ex_get p.Sizes k (by omega)
   refine awp_skip ?_
   refine awp_seq ?_
   refine awp_block ?_
   refine awp_seq ?_
   refine awp_region rfl ?_
   refine rwp_det rfl rfl (det_index_sl rfl el42 rfl rfl (by omega) (getm (by assumption))) ?_
   refine rwp_det rfl rfl (det_load_one rfl one9 rfl ptr_imm rfl) ?_
   refine rwp_det rfl rfl (det_assign rfl rfl) ?_
   refine rwp_nil ?_
   refine awp_seq ?_
   refine awp_region rfl ?_
   refine rwp_det rfl rfl (det_move rfl rfl) ?_
   refine rwp_det rfl rfl (det_move rfl rfl) ?_
   refine rwp_det rfl rfl (det_call_mem [0, 0] rfl ok134 (checker_name b3 b2 p (tabV [] (p.Sizes.take k) 1) x 1) ⟨VLe.refl _, rfl, VLe.refl _, rfl, VLe.refl _, rfl, trivial⟩ rfl) ?_
   refine rwp_det rfl rfl (det_assign rfl rfl) ?_
   refine rwp_nil ?_
   refine awp_seq ?_
   refine awp_region rfl ?_
   refine rwp_det rfl rfl (det_move rfl rfl) ?_
   refine rwp_det rfl rfl (det_neq rfl rfl rfl) ?_
   refine rwp_nil ?_
   refine awp_cond rfl (fun c3 => ?_) (fun c3 => ?_)
   ·try simp only [sx, List.length_map] at c3
    refine awp_seq ?_
    refine awp_region rfl ?_
    refine rwp_det rfl rfl (det_move rfl rfl) ?_
    refine rwp_det rfl rfl (det_assign rfl rfl) ?_
    refine rwp_det rfl rfl (det_assign rfl rfl) ?_
    refine rwp_nil ?_
    refine awp_ret ?_
    repeat (first | refine thenQ_ret ?_ | refine blockQ_ret ?_)
    refine fin2 (rs_c rfl) (rs_c rfl) ?_
    rw [validM_s hl (by rw [hp, sizesM_no hx c3]; exact c3), hp, sizesM_no hx c3]
   ·try simp only [sx, List.length_map] at c3
    rw [nmap_ok c3]
    refine awp_skip ?_
    refine awp_region rfl ?_
    refine rwp_det rfl rfl (det_add_nw rfl rfl rfl ⟨by omega, by omega⟩) ?_
    refine rwp_det rfl rfl (det_move rfl rfl) ?_
    refine rwp_nil ?_
    refine ⟨k + 1, ⟨by omega, by rw [hp, sizesM_next hx c3, tabV_next hx]⟩, (by omega), Weak.mk [true, true, true] ⟨VLe.refl _, VLe.refl _, VLe.refl _, VLe.refl _, VLe.refl _, trivial⟩ (by show _ = [pRow 158 b3 b2 p, E.blk b2 (MapR vI (tabV [] (p.Sizes.take (k + 1)) 1))] ++ _; rw [tabV_next hx]; rfl)⟩
  ·try simp only [sx, List.length_map] at c2
   rw [take_all (l := p.Sizes) (k := k) (by omega)]
   rw [drop_all (l := p.Sizes) (k := k) (by omega)] at hp
   have hs0 : sizesM [] p.Sizes = 0 := hp
   refine awp_exit ?_
   refine awp_seq ?_
   refine awp_seq ?_
   refine awp_region rfl ?_
   refine rwp_det rfl rfl (det_field_lit rfl fd47_1 rfl) ?_
   refine rwp_det rfl rfl (det_load_one rfl one43 rfl (ptr_row 2 rfl) rfl) ?_
   refine rwp_det rfl rfl (det_len_slm rfl el43 rfl) ?_
   refine rwp_det rfl rfl (det_move rfl rfl) ?_
   refine rwp_nil ?_
   refine awp_block ?_
   refine awp_weak ⟨[(43, .c _), (1, .c _), (4, .c _), (41, .c _), (42, .c _)], [_, _, _]⟩ (Weak.mk [true, true, true] ⟨VLe.of_eq rfl, VLe.of_eq rfl, VLe.of_eq rfl, VLe.of_eq rfl, VLe.of_eq rfl, trivial⟩ rfl) ?_
   refine awp_loop_k 1 0 rfl rfl (Nat) (fun k => [(43, vI k)]) (fun k => []) (fun k => k ≤ p.Where.length ∧ (whereM (tabV [] p.Sizes 1) p.Where = whereM (tabV [] p.Sizes 1) (p.Where.drop k))) (fun k => p.Where.length - k) ⟨0, ⟨by omega, rfl⟩, Weak.mk [true, true, true] ⟨VLe.refl _, VLe.refl _, VLe.refl _, VLe.refl _, VLe.refl _, trivial⟩ rfl⟩ ?_
   rintro k ⟨hk, hp⟩
   refine awp_seq ?_
   refine awp_region rfl ?_
   refine rwp_det rfl rfl (det_lss rfl rfl rfl) ?_
   refine rwp_nil ?_
   refine awp_seq ?_
   refine awp_cond rfl (fun c4 => ?_) (fun c4 => ?_)
   ·try simp only [sx, List.length_map] at c4
    obtain ⟨x, hx⟩ := ex_get p.Where k (by omega)
    refine awp_skip ?_
    refine awp_seq ?_
    refine awp_block ?_
    refine awp_seq ?_
    refine awp_region rfl ?_
    refine rwp_det rfl rfl (det_index_sl rfl el43 rfl rfl (by omega) (getm (by assumption))) ?_
    refine rwp_det rfl rfl (det_load_agg rfl agg111 rfl ptr_imm rfl) ?_
    refine rwp_op rfl rfl (ope_allocN [none, some 2, none] rfl zr111 rfl) ?_
    rintro _ _ ⟨b4, rfl, rfl⟩
    refine rwp_det0 rfl rfl (det_store rfl sz111 rfl rfl rfl (st_row 0 rfl rfl)) ?_
    refine rwp_nil ?_
    refine awp_seq ?_
    refine awp_region rfl ?_
    refine rwp_det rfl rfl (det_move rfl rfl) ?_
    refine rwp_det rfl rfl (det_load_agg rfl agg111 rfl (ptr_row 0 rfl) rfl) ?_
    refine rwp_det rfl rfl (det_call_mem [1, 1] rfl ok135 (checker_constraint b3 b2 p (tabV [] p.Sizes 1) x (hP.whs x (mem_of_get hx))) ⟨VLe.refl _, rfl, VLe.refl _, rfl, trivial⟩ rfl) ?_
    refine rwp_det rfl rfl (det_assign rfl rfl) ?_
    refine rwp_nil ?_
    refine awp_seq ?_
    refine awp_region rfl ?_
    refine rwp_det rfl rfl (det_move rfl rfl) ?_
    refine rwp_det rfl rfl (det_neq rfl rfl rfl) ?_
    refine rwp_nil ?_
    refine awp_cond rfl (fun c5 => ?_) (fun c5 => ?_)
    ·try simp only [sx, List.length_map] at c5
     refine awp_seq ?_
     refine awp_region rfl ?_
     refine rwp_det rfl rfl (det_move rfl rfl) ?_
     refine rwp_det rfl rfl (det_assign rfl rfl) ?_
     refine rwp_det rfl rfl (det_assign rfl rfl) ?_
     refine rwp_nil ?_
     refine awp_ret ?_
     repeat (first | refine thenQ_ret ?_ | refine blockQ_ret ?_)
     refine fin2 (rs_c rfl) (rs_c rfl) ?_
     rw [validM_w hl hs0 (by rw [hp, whereM_no hx c5]; exact c5), hp, whereM_no hx c5]
    ·try simp only [sx, List.length_map] at c5
     refine awp_skip ?_
     refine awp_region rfl ?_
     refine rwp_det rfl rfl (det_add_nw rfl rfl rfl ⟨by omega, by omega⟩) ?_
     refine rwp_det rfl rfl (det_move rfl rfl) ?_
     refine rwp_nil ?_
     refine ⟨k + 1, ⟨by omega, hp.trans (whereM_next hx c5)⟩, (by omega), Weak.mk [false, true, true, true] ⟨VLe.refl _, VLe.refl _, VLe.refl _, VLe.refl _, VLe.refl _, trivial⟩ rfl⟩
   ·try simp only [sx, List.length_map] at c4
    rw [drop_all (l := p.Where) (k := k) (by omega)] at hp
    have hw0 : whereM (tabV [] p.Sizes 1) p.Where = 0 := hp
    have hV := validM_p hl hs0 hw0
    refine awp_exit ?_
    refine awp_seq ?_
    refine awp_region rfl ?_
    refine rwp_det rfl rfl (det_assign rfl rfl) ?_
    refine rwp_nil ?_
    refine awp_seq ?_
    refine awp_seq ?_
    refine awp_region rfl ?_
    refine rwp_det rfl rfl (det_field_lit rfl fd47_2 rfl) ?_
    refine rwp_det rfl rfl (det_load_one rfl one44 rfl (ptr_row 2 rfl) rfl) ?_
    refine rwp_det rfl rfl (det_len_slm rfl el44 rfl) ?_
    refine rwp_det rfl rfl (det_move rfl rfl) ?_
    refine rwp_nil ?_
    refine awp_block ?_
    refine awp_weak ⟨[(57, .c _), (11, .c _), (1, .c _), (4, .c _), (55, .c _), (56, .c _)], [_, _, _]⟩ (Weak.mk [true, true, true] ⟨VLe.of_eq rfl, VLe.of_eq rfl, VLe.of_eq rfl, VLe.of_eq rfl, VLe.of_eq rfl, VLe.of_eq rfl, trivial⟩ rfl) ?_
    refine awp_loop_k 2 2 rfl rfl (Nat) (fun k => [(57, vI k), (11, vI (2 + (k : Int)))]) (fun k => [pRow 158 b3 b2 p, E.blk b2 (MapR vI (tabP (tabV [] p.Sizes 1) (p.Params.take k)))]) (fun k => k ≤ p.Params.length ∧ (validM p = paramsM p (2 + (k : Int)) (tabP (tabV [] p.Sizes 1) (p.Params.take k)) (p.Params.drop k))) (fun k => p.Params.length - k) ⟨0, ⟨by omega, hV⟩, Weak.mk [true, true, true] ⟨VLe.refl _, VLe.of_eq (rfl), VLe.refl _, VLe.refl _, VLe.refl _, VLe.refl _, trivial⟩ rfl⟩ ?_
    rintro k ⟨hk, hp⟩
    refine awp_seq ?_
    refine awp_region rfl ?_
    refine rwp_det rfl rfl (det_lss rfl rfl rfl) ?_
    refine rwp_nil ?_
    refine awp_seq ?_
    refine awp_cond rfl (fun c6 => ?_) (fun c6 => ?_)
    ·try simp only [sx, List.length_map] at c6
     obtain ⟨x, hx⟩ := ex_get p.Params k (by omega)
     refine awp_skip ?_
     refine awp_seq ?_
     refine awp_block ?_
     refine awp_seq ?_
     refine awp_region rfl ?_
     refine rwp_det rfl rfl (det_index_sl rfl el44 rfl rfl (by omega) (getm (by assumption))) ?_
     refine rwp_det rfl rfl (det_load_agg rfl agg106 rfl ptr_imm rfl) ?_
     refine rwp_op rfl rfl (ope_allocN [none, none, none, none, none, none, some 2] rfl zr106 rfl) ?_
     rintro _ _ ⟨b5, rfl, rfl⟩
     refine rwp_det0 rfl rfl (det_store rfl sz106 rfl rfl rfl (st_row 0 rfl rfl)) ?_
     refine rwp_nil ?_
     refine awp_seq ?_
     refine awp_seq ?_
     refine awp_region rfl ?_
     refine rwp_det rfl rfl (det_move rfl rfl) ?_
     refine rwp_det rfl rfl (det_load_agg rfl agg106 rfl (ptr_row 0 rfl) rfl) ?_
     refine rwp_det rfl rfl (det_call_mem [1, 1] rfl ok136 (checker_param b3 b2 p (tabP (tabV [] p.Sizes 1) (p.Params.take k)) x (hP.ps x (mem_of_get hx)).1 (hP.ps x (mem_of_get hx)).2) ⟨VLe.refl _, rfl, VLe.refl _, rfl, trivial⟩ rfl) ?_
     refine rwp_det rfl rfl (det_assign rfl rfl) ?_
     refine rwp_nil ?_
     refine awp_seq ?_
     refine awp_region rfl ?_
     refine rwp_det rfl rfl (det_move rfl rfl) ?_
     refine rwp_det rfl rfl (det_neq rfl rfl rfl) ?_
     refine rwp_nil ?_
     refine awp_cond rfl (fun c7 => ?_) (fun c7 => ?_)
     ·try simp only [sx, List.length_map] at c7
      refine awp_seq ?_
      refine awp_region rfl ?_
      refine rwp_det rfl rfl (det_move rfl rfl) ?_
      refine rwp_det rfl rfl (det_move rfl rfl) ?_
      refine rwp_det rfl rfl (det_assign rfl rfl) ?_
      refine rwp_det rfl rfl (det_assign rfl rfl) ?_
      refine rwp_nil ?_
      refine awp_ret ?_
      repeat (first | refine thenQ_ret ?_ | refine blockQ_ret ?_)
      refine fin2 (rs_c rfl) (rs_c rfl) ?_
      rw [hp, paramsM_no hx c7]
     ·try simp only [sx, List.length_map] at c7
      rw [param_map c7]
      refine awp_skip ?_
      refine awp_region rfl ?_
      refine rwp_det rfl rfl (det_move rfl rfl) ?_
      refine rwp_det rfl rfl (det_add_nw rfl rfl rfl ⟨by omega, by omega⟩) ?_
      refine rwp_det rfl rfl (det_assign rfl rfl) ?_
      refine rwp_nil ?_
      refine awp_region rfl ?_
      refine rwp_det rfl rfl (det_add_nw rfl rfl rfl ⟨by omega, by omega⟩) ?_
      refine rwp_det rfl rfl (det_move rfl rfl) ?_
      refine rwp_nil ?_
      refine ⟨k + 1, ⟨by omega, by rw [hp, paramsM_next hx c7, tabP_next hx]; congr 1 <;> first | omega | rfl⟩, (by omega), Weak.mk [false, true, true, true] ⟨VLe.refl _, VLe.of_eq (congrArg vI (by omega)), VLe.refl _, VLe.refl _, VLe.refl _, VLe.refl _, trivial⟩ (by show _ = [pRow 158 b3 b2 p, E.blk b2 (MapR vI (tabP (tabV [] p.Sizes 1) (p.Params.take (k + 1))))] ++ _; rw [tabP_next hx]; rfl)⟩
    ·try simp only [sx, List.length_map] at c6
     rw [take_all (l := p.Params) (k := k) (by omega)]
     rw [drop_all (l := p.Params) (k := k) (by omega), take_all (l := p.Params) (k := k) (by omega), paramsM] at hp
     refine awp_exit ?_
     refine awp_seq ?_
     refine awp_seq ?_
     refine awp_region rfl ?_
     refine rwp_det rfl rfl (det_field_lit rfl fd47_3 rfl) ?_
     refine rwp_det rfl rfl (det_load_one rfl one45 rfl (ptr_row 2 rfl) rfl) ?_
     refine rwp_det rfl rfl (det_len_slm rfl el45 rfl) ?_
     refine rwp_det rfl rfl (det_move rfl rfl) ?_
     refine rwp_nil ?_
     refine awp_block ?_
     refine awp_weak ⟨[(74, .c _), (11, .c _), (1, .c _), (4, .c _), (73, .c _)], [_, _, _]⟩ (Weak.mk [true, true, true] ⟨VLe.of_eq rfl, VLe.of_eq rfl, VLe.of_eq rfl, VLe.of_eq rfl, VLe.of_eq rfl, trivial⟩ rfl) ?_
     refine awp_loop_k 2 2 rfl rfl (Nat) (fun k => [(74, vI k), (11, vI (2 + (p.Params.length : Int) + (k : Int)))]) (fun k => [pRow 158 b3 b2 p, E.blk b2 (MapR vI (tabD (tabP (tabV [] p.Sizes 1) p.Params) (p.Defs.take k)))]) (fun k => k ≤ p.Defs.length ∧ (validM p = defsM p (2 + (p.Params.length : Int) + (k : Int)) (tabD (tabP (tabV [] p.Sizes 1) p.Params) (p.Defs.take k)) (p.Defs.take k) (p.Defs.drop k))) (fun k => p.Defs.length - k) ⟨0, ⟨by omega, by rw [hp]; congr 1 <;> first | omega | rfl⟩, Weak.mk [true, true, true] ⟨VLe.refl _, VLe.of_eq (congrArg vI (by omega)), VLe.refl _, VLe.refl _, VLe.refl _, trivial⟩ rfl⟩ ?_
     rintro k ⟨hk, hq⟩
     refine awp_seq ?_
     refine awp_region rfl ?_
     refine rwp_det rfl rfl (det_lss rfl rfl rfl) ?_
     refine rwp_nil ?_
     refine awp_seq ?_
     refine awp_cond rfl (fun c8 => ?_) (fun c8 => ?_)
     ·try simp only [sx, List.length_map] at c8
      obtain ⟨x, hx⟩ := ex_get p.Defs k (by omega)
      refine awp_skip ?_
      refine awp_seq ?_
      refine awp_block ?_
      refine awp_seq ?_
      refine awp_region rfl ?_
      refine rwp_det rfl rfl (det_move rfl rfl) ?_
      refine rwp_det rfl rfl (det_assign rfl rfl) ?_
      refine rwp_nil ?_
      refine awp_seq ?_
      refine awp_seq ?_
      refine awp_region rfl ?_
      refine rwp_det rfl rfl (det_move rfl rfl) ?_
      refine rwp_det rfl rfl (det_move rfl rfl) ?_
      refine rwp_det rfl rfl (det_call_mem [0, 0] rfl ok137 (checker_def b3 b2 p (tabD (tabP (tabV [] p.Sizes 1) p.Params) (p.Defs.take k)) hP k x hx) ⟨VLe.refl _, rfl, VLe.refl _, rfl, trivial⟩ rfl) ?_
      refine rwp_det rfl rfl (det_assign rfl rfl) ?_
      refine rwp_nil ?_
      refine awp_seq ?_
      refine awp_region rfl ?_
      refine rwp_det rfl rfl (det_move rfl rfl) ?_
      refine rwp_det rfl rfl (det_neq rfl rfl rfl) ?_
      refine rwp_nil ?_
      refine awp_cond rfl (fun c9 => ?_) (fun c9 => ?_)
      ·try simp only [sx, List.length_map] at c9
       refine awp_seq ?_
       refine awp_region rfl ?_
       refine rwp_det rfl rfl (det_move rfl rfl) ?_
       refine rwp_det rfl rfl (det_move rfl rfl) ?_
       refine rwp_det rfl rfl (det_assign rfl rfl) ?_
       refine rwp_det rfl rfl (det_assign rfl rfl) ?_
       refine rwp_nil ?_
       refine awp_ret ?_
       repeat (first | refine thenQ_ret ?_ | refine blockQ_ret ?_)
       refine fin2 (rs_c rfl) (rs_c rfl) ?_
       rw [hq, defsM_no hx c9]
      ·try simp only [sx, List.length_map] at c9
       rw [def_map c9]
       refine awp_skip ?_
       refine awp_region rfl ?_
       refine rwp_det rfl rfl (det_move rfl rfl) ?_
       refine rwp_det rfl rfl (det_add_nw rfl rfl rfl ⟨by omega, by omega⟩) ?_
       refine rwp_det rfl rfl (det_assign rfl rfl) ?_
       refine rwp_nil ?_
       refine awp_region rfl ?_
       refine rwp_det rfl rfl (det_add_nw rfl rfl rfl ⟨by omega, by omega⟩) ?_
       refine rwp_det rfl rfl (det_move rfl rfl) ?_
       refine rwp_nil ?_
       refine ⟨k + 1, ⟨by omega, by rw [hq, defsM_next hx c9, tabD_next hx]; congr 1 <;> first | omega | rfl⟩, (by omega), Weak.mk [true, true, true] ⟨VLe.refl _, VLe.of_eq (congrArg vI (by omega)), VLe.refl _, VLe.refl _, VLe.refl _, trivial⟩ (by show _ = [pRow 158 b3 b2 p, E.blk b2 (MapR vI (tabD (tabP (tabV [] p.Sizes 1) p.Params) (p.Defs.take (k + 1))))] ++ _; rw [tabD_next hx]; rfl)⟩
     ·try simp only [sx, List.length_map] at c8
      rw [take_all (l := p.Defs) (k := k) (by omega)]
      rw [drop_all (l := p.Defs) (k := k) (by omega), take_all (l := p.Defs) (k := k) (by omega), defsM] at hq
      refine awp_exit ?_
      refine awp_seq ?_
      refine awp_seq ?_
      refine awp_region rfl ?_
      refine rwp_det rfl rfl (det_field_lit rfl fd47_4 rfl) ?_
      refine rwp_det rfl rfl (det_load_one rfl one42 rfl (ptr_row 2 rfl) rfl) ?_
      refine rwp_det rfl rfl (det_len_slm rfl el42 rfl) ?_
      refine rwp_det rfl rfl (det_move rfl rfl) ?_
      refine rwp_nil ?_
      refine awp_block ?_
      refine awp_weak ⟨[(90, .c _), (11, .c _), (1, .c _), (4, .c _), (88, .c _), (89, .c _)], [_, _, _]⟩ (Weak.mk [true, true, true] ⟨VLe.of_eq rfl, VLe.of_eq rfl, VLe.of_eq rfl, VLe.of_eq rfl, VLe.of_eq rfl, VLe.of_eq rfl, trivial⟩ rfl) ?_
      refine awp_loop_k 2 0 rfl rfl (Nat) (fun k => [(90, vI k), (11, vI (2 + (p.Params.length : Int) + (p.Defs.length : Int) + (k : Int)))]) (fun k => []) (fun k => k ≤ p.Outs.length ∧ (validM p = outsM (tabD (tabP (tabV [] p.Sizes 1) p.Params) p.Defs) (2 + (p.Params.length : Int) + (p.Defs.length : Int) + (k : Int)) (p.Outs.take k) (p.Outs.drop k))) (fun k => p.Outs.length - k) ⟨0, ⟨by omega, by rw [hq]; congr 1 <;> first | omega | rfl⟩, Weak.mk [true, true, true] ⟨VLe.refl _, VLe.of_eq (congrArg vI (by omega)), VLe.refl _, VLe.refl _, VLe.refl _, VLe.refl _, trivial⟩ rfl⟩ ?_
      rintro k ⟨hk, ho⟩
      refine awp_seq ?_
      refine awp_region rfl ?_
      refine rwp_det rfl rfl (det_lss rfl rfl rfl) ?_
      refine rwp_nil ?_
      refine awp_seq ?_
      refine awp_cond rfl (fun c10 => ?_) (fun c10 => ?_)
      ·try simp only [sx, List.length_map] at c10
       obtain ⟨x, hx⟩ := ex_get p.Outs k (by omega)
       refine awp_skip ?_
       refine awp_seq ?_
       refine awp_block ?_
       refine awp_seq ?_
       refine awp_region rfl ?_
       refine rwp_det rfl rfl (det_move rfl rfl) ?_
       refine rwp_det rfl rfl (det_index_sl rfl el42 rfl rfl (by omega) (getm (by assumption))) ?_
       refine rwp_det rfl rfl (det_load_one rfl one9 rfl ptr_imm rfl) ?_
       refine rwp_det rfl rfl (det_assign rfl rfl) ?_
       refine rwp_det rfl rfl (det_assign rfl rfl) ?_
       refine rwp_nil ?_
       refine awp_seq ?_
       refine awp_block ?_
       refine awp_seq ?_
       refine awp_region rfl ?_
       refine rwp_det rfl rfl (det_move rfl rfl) ?_
       refine rwp_det rfl rfl (det_nilcheck_ptr rfl rfl) ?_
       refine rwp_det rfl rfl (det_field_lit rfl fd158_1 rfl) ?_
       refine rwp_det rfl rfl (det_load_one rfl one156 rfl (ptr_row 0 rfl) rfl) ?_
       refine rwp_det rfl rfl (det_move rfl rfl) ?_
       refine rwp_det rfl rfl (det_lookup 1 (0 : Int) rfl sm156 rfl rfl rfl (fun _ _ => CRep.lit _ rfl)) ?_
       refine rwp_det rfl rfl (det_neq rfl rfl rfl) ?_
       refine rwp_det rfl rfl (det_assign rfl rfl) ?_
       refine rwp_nil ?_
       refine awp_cond rfl (fun c11 => ?_) (fun c11 => ?_)
       ·try simp only [sx, List.length_map] at c11
        refine awp_seq ?_
        refine awp_region rfl ?_
        refine rwp_det rfl rfl (det_move rfl rfl) ?_
        refine rwp_det rfl rfl (det_assign rfl rfl) ?_
        refine rwp_det rfl rfl (det_assign rfl rfl) ?_
        refine rwp_nil ?_
        refine awp_ret ?_
        repeat (first | refine thenQ_ret ?_ | refine blockQ_ret ?_)
        refine fin2 (rs_c rfl) (rs_c rfl) ?_
        rw [ho, outsM_9 hx c11]
       ·try simp only [sx, List.length_map] at c11
        refine awp_seq ?_
        refine awp_region rfl ?_
        refine rwp_det rfl rfl (det_field_lit rfl fd47_4 rfl) ?_
        refine rwp_det rfl rfl (det_load_one rfl one42 rfl (ptr_row 2 rfl) rfl) ?_
        refine rwp_det rfl rfl (det_move rfl rfl) ?_
        refine rwp_det rfl rfl (det_cut_take rfl el42 rfl rfl (by omega)) ?_
        refine rwp_det rfl rfl (det_move rfl rfl) ?_
        refine rwp_det rfl rfl (det_call rfl ok138 (slices_Contains_str (p.Outs.take k) x (by rw [List.length_take]; omega)) ⟨VLe.refl _, rfl, VLe.refl _, rfl, trivial⟩) ?_
        refine rwp_det rfl rfl (det_assign rfl rfl) ?_
        refine rwp_nil ?_
        refine awp_cond rfl (fun c12 => ?_) (fun c12 => ?_)
        ·try simp only [sx, List.length_map] at c12
         refine awp_seq ?_
         refine awp_region rfl ?_
         refine rwp_det rfl rfl (det_move rfl rfl) ?_
         refine rwp_det rfl rfl (det_assign rfl rfl) ?_
         refine rwp_det rfl rfl (det_assign rfl rfl) ?_
         refine rwp_nil ?_
         refine awp_ret ?_
         repeat (first | refine thenQ_ret ?_ | refine blockQ_ret ?_)
         refine fin2 (rs_c rfl) (rs_c rfl) ?_
         rw [ho, outsM_8 hx c11 c12]
        ·try simp only [sx, List.length_map] at c12
         refine awp_skip ?_
         refine awp_region rfl ?_
         refine rwp_det rfl rfl (det_move rfl rfl) ?_
         refine rwp_det rfl rfl (det_add_nw rfl rfl rfl ⟨by omega, by omega⟩) ?_
         refine rwp_det rfl rfl (det_assign rfl rfl) ?_
         refine rwp_nil ?_
         refine awp_region rfl ?_
         refine rwp_det rfl rfl (det_add_nw rfl rfl rfl ⟨by omega, by omega⟩) ?_
         refine rwp_det rfl rfl (det_move rfl rfl) ?_
         refine rwp_nil ?_
         refine ⟨k + 1, ⟨by omega, by rw [ho, outsM_next hx c11 c12]; congr 1 <;> first | omega | rfl⟩, (by omega), Weak.mk [true, true, true] ⟨VLe.refl _, VLe.of_eq (congrArg vI (by omega)), VLe.refl _, VLe.refl _, VLe.refl _, VLe.refl _, trivial⟩ rfl⟩
      ·try simp only [sx, List.length_map] at c10
       refine awp_exit ?_
       refine awp_seq ?_
       refine awp_region rfl ?_
       refine rwp_det rfl rfl (det_assign rfl rfl) ?_
       refine rwp_det rfl rfl (det_assign rfl rfl) ?_
       refine rwp_nil ?_
       refine awp_ret ?_
       repeat (first | refine thenQ_ret ?_ | refine blockQ_ret ?_)
       refine fin2 (rs_c rfl) (rs_c rfl) ?_
       rw [ho, drop_all (by omega)]; rfl

end Go.W
