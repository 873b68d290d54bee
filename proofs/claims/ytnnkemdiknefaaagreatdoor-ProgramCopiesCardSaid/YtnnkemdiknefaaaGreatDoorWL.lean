/-
  Walks: what functions of the program compute. Printed by wip/gen/mk2.py.
  Conditions: none.
-/
import Derived.Test.YtnnkemdiknefaaaGreatDoorWK
import Derived.Test.YtnnkemdiknefaaaGreatDoorPlain
set_option linter.unusedSimpArgs false
set_option linter.unusedVariables false
namespace Go.W
open Go Go.Eng Go.Proofs Go.L41 Go.Br
attribute [local irreducible] AWP RWP TD
theorem agg47 : aggT Tryz.prog 47 = some 5 := by kernel_rfl
theorem agg106 : aggT Tryz.prog 106 = some 7 := by kernel_rfl
theorem agg111 : aggT Tryz.prog 111 = some 3 := by kernel_rfl
theorem fd35_1 : fieldT Tryz.prog 35 1 = some (1, 23) := by kernel_rfl
theorem fd88_1 : fieldT Tryz.prog 88 1 = some (1, 29) := by kernel_rfl
theorem fd106_0 : fieldT Tryz.prog 106 0 = some (0, 9) := by kernel_rfl
theorem fd106_1 : fieldT Tryz.prog 106 1 = some (1, 23) := by kernel_rfl
theorem fd106_2 : fieldT Tryz.prog 106 2 = some (6, 104) := by kernel_rfl
theorem fd158_1 : fieldT Tryz.prog 158 1 = some (5, 156) := by kernel_rfl
theorem fd218_0 : fieldT Tryz.prog 218 0 = some (0, 47) := by kernel_rfl
theorem fd218_1 : fieldT Tryz.prog 218 1 = some (5, 156) := by kernel_rfl
theorem ok112 : callOk Tryz.prog 112 = true := by kernel_rfl
theorem ok113 : callOk Tryz.prog 113 = true := by kernel_rfl
theorem ok118 : callOk Tryz.prog 118 = true := by kernel_rfl
theorem ok134 : callOk Tryz.prog 134 = true := by kernel_rfl
theorem ok193 : callOk Tryz.prog 193 = true := by kernel_rfl
theorem ok194 : callOk Tryz.prog 194 = true := by kernel_rfl
theorem ok195 : callOk Tryz.prog 195 = true := by kernel_rfl
theorem ok264 : callOk Tryz.prog 264 = true := by kernel_rfl
theorem one156 : oneT Tryz.prog 156 = true := by kernel_rfl
theorem sm156 : smapT Tryz.prog 156 = some (Value.int IntKind.i64 0) := by kernel_rfl
theorem sm215 : smapT Tryz.prog 215 = some (Value.bool false) := by kernel_rfl
theorem sz23 : (Tryz.prog.info? 23).map (·.size) = some 5 := by kernel_rfl
theorem sz106 : (Tryz.prog.info? 106).map (·.size) = some 7 := by kernel_rfl
theorem zr106 : zeroT Tryz.prog 106 = some [(Value.string (ByteArray.mk #[])), (Value.int IntKind.i64 0), (Value.int IntKind.i64 0), (Value.int IntKind.i64 0), (Value.int IntKind.i64 0), (Value.int IntKind.i64 0), (Value.slice none 0 0)] := by kernel_rfl
theorem checker_name (b mb : Nat) (p : Pg) (m : Kn) (s : ByteArray) (k : Int) :
    Con cfg 134 [vP b, vS s, vI k] (ckE b mb p m) fun r μ' => r = vI (nameM m s) ∧ μ' = ckE b mb p (nameMap m s k) := by
 refine con_intro Tryz.func134 rfl Tryz.ntmps134 Tryz.results134 rfl ?_
 intro z hz
 refine awp_seq ?_
 refine awp_region rfl ?_
 refine rwp_det rfl rfl (det_assign rfl rfl) ?_
 refine rwp_nil ?_
 refine awp_seq ?_
 refine awp_seq ?_
 refine awp_region rfl ?_
 refine rwp_det rfl rfl (det_move rfl rfl) ?_
 refine rwp_det rfl rfl (det_call rfl ok192 (lexer_IsName _) ⟨VLe.refl _, rfl, trivial⟩) ?_
 refine rwp_det rfl rfl (det_not rfl rfl) ?_
 refine rwp_nil ?_
 refine awp_cond rfl (fun c1 => ?_) (fun c1 => ?_)
 ·try simp only [sx, List.length_map] at c1
  refine awp_seq ?_
  refine awp_region rfl ?_
  refine rwp_det rfl rfl (det_assign rfl rfl) ?_
  refine rwp_nil ?_
  refine awp_ret ?_
  repeat (first | refine thenQ_ret ?_ | refine blockQ_ret ?_)
  refine fin1 (rs_c rfl) ?_
  exact ⟨by rw [nameM_bad c1], by rw [← nmap_bad (nameM_bad c1) (by decide)]⟩
 ·try simp only [sx, List.length_map] at c1
  refine awp_skip ?_
  refine awp_seq ?_
  refine awp_seq ?_
  refine awp_region rfl ?_
  refine rwp_det rfl rfl (det_move rfl rfl) ?_
  refine rwp_det rfl rfl (det_nilcheck_ptr rfl rfl) ?_
  refine rwp_det rfl rfl (det_field_lit rfl fd158_1 rfl) ?_
  refine rwp_det rfl rfl (det_load_one rfl one156 rfl (ptr_row 0 rfl) rfl) ?_
  refine rwp_det rfl rfl (det_move rfl rfl) ?_
  refine rwp_det rfl rfl (det_lookup 1 (0 : Int) rfl sm156 rfl rfl rfl (fun _ _ => CRep.lit _ rfl)) ?_
  refine rwp_det rfl rfl (det_neq rfl rfl rfl) ?_
  refine rwp_nil ?_
  refine awp_cond rfl (fun c2 => ?_) (fun c2 => ?_)
  ·try simp only [sx, List.length_map] at c2
   refine awp_seq ?_
   refine awp_region rfl ?_
   refine rwp_det rfl rfl (det_assign rfl rfl) ?_
   refine rwp_nil ?_
   refine awp_ret ?_
   repeat (first | refine thenQ_ret ?_ | refine blockQ_ret ?_)
   refine fin1 (rs_c rfl) ?_
   exact ⟨by rw [nameM_dup c1 c2], by rw [← nmap_bad (nameM_dup c1 c2) (by decide)]⟩
  ·try simp only [sx, List.length_map] at c2
   refine awp_skip ?_
   refine awp_seq ?_
   refine awp_region rfl ?_
   refine rwp_det rfl rfl (det_move rfl rfl) ?_
   refine rwp_det rfl rfl (det_nilcheck_ptr rfl rfl) ?_
   refine rwp_det rfl rfl (det_field_lit rfl fd158_1 rfl) ?_
   refine rwp_det rfl rfl (det_load_one rfl one156 rfl (ptr_row 0 rfl) rfl) ?_
   refine rwp_det rfl rfl (det_move rfl rfl) ?_
   refine rwp_det rfl rfl (det_move rfl rfl) ?_
   refine rwp_det0 rfl rfl (det_mapput 1 k rfl sm156 rfl rfl rfl (VLe.refl _) rfl) ?_
   refine rwp_nil ?_
   refine awp_seq ?_
   refine awp_region rfl ?_
   refine rwp_det rfl rfl (det_assign rfl rfl) ?_
   refine rwp_nil ?_
   refine awp_ret ?_
   repeat (first | refine thenQ_ret ?_ | refine blockQ_ret ?_)
   refine fin1 (rs_c rfl) ?_
   exact ⟨by rw [nameM_ok c1 c2], by rw [nmap_ok (nameM_ok c1 c2)]; rfl⟩

theorem checker_sized (b mb : Nat) (p : Pg) (m : Kn) (l : Lf) (hl : l.L.length ≤ 4294967296) :
    Con cfg 194 [vP b, vLin l] (ckE b mb p m) fun r μ' => r = vI (sizedM m l) ∧ μ' = ckE b mb p m := by
 refine con_intro Tryz.func194 rfl Tryz.ntmps194 Tryz.results194 rfl ?_
 intro z hz
 refine awp_seq ?_
 refine awp_region rfl ?_
 refine rwp_op rfl rfl (ope_box rfl rfl) ?_
 rintro _ _ ⟨b1, rfl, rfl⟩
 refine rwp_det rfl rfl (det_assign rfl rfl) ?_
 refine rwp_nil ?_
 refine awp_seq ?_
 refine awp_seq ?_
 refine awp_region rfl ?_
 refine rwp_det rfl rfl (det_load_agg rfl agg29 rfl (ptr_row 0 rfl) rfl) ?_
 refine rwp_det rfl rfl (det_call rfl ok151 (lin_Validate l (by omega)) ⟨VLe.refl _, rfl, trivial⟩) ?_
 refine rwp_det rfl rfl (det_neq rfl rfl rfl) ?_
 refine rwp_nil ?_
 refine awp_cond rfl (fun c1 => ?_) (fun c1 => ?_)
 ·try simp only [sx, List.length_map] at c1
  refine awp_seq ?_
  refine awp_region rfl ?_
  refine rwp_det rfl rfl (det_assign rfl rfl) ?_
  refine rwp_nil ?_
  refine awp_weak _ (Weak.mem [false, true, true] rfl) ?_
  refine awp_ret ?_
  repeat (first | refine thenQ_ret ?_ | refine blockQ_ret ?_)
  refine fin1 (rs_c rfl) ?_
  exact ⟨by rw [sized_arg (linErr_no c1)], rfl⟩
 ·try simp only [sx, List.length_map] at c1
  refine awp_skip ?_
  refine awp_seq ?_
  refine awp_seq ?_
  refine awp_region rfl ?_
  refine rwp_det rfl rfl (det_field_lit rfl fd29_1 rfl) ?_
  refine rwp_det rfl rfl (det_load_one rfl one27 rfl (ptr_row 0 rfl) rfl) ?_
  refine rwp_det rfl rfl (det_len_slm rfl el27 rfl) ?_
  refine rwp_det rfl rfl (det_move rfl rfl) ?_
  refine rwp_nil ?_
  refine awp_block ?_
  refine awp_weak ⟨[(13, .c _), (0, .c _), (11, .c _), (12, .c _)], [_, _]⟩ (Weak.mk [false, true, true] ⟨VLe.of_eq rfl, VLe.of_eq rfl, VLe.of_eq rfl, VLe.of_eq rfl, trivial⟩ rfl) ?_
  refine awp_loop_k 1 0 rfl rfl (Nat) (fun k => [(13, vI k)]) (fun k => []) (fun k => k ≤ l.L.length ∧ (knL (fun s => decide (kget m s = 1)) (l.L.take k) = true)) (fun k => l.L.length - k) ⟨0, ⟨by omega, rfl⟩, Weak.mk [true, true] ⟨VLe.refl _, VLe.refl _, VLe.refl _, VLe.refl _, trivial⟩ rfl⟩ ?_
  rintro k ⟨hk, hp⟩
  refine awp_seq ?_
  refine awp_region rfl ?_
  refine rwp_det rfl rfl (det_lss rfl rfl rfl) ?_
  refine rwp_nil ?_
  refine awp_seq ?_
  refine awp_cond rfl (fun c2 => ?_) (fun c2 => ?_)
  ·try simp only [sx, List.length_map] at c2
   obtain ⟨x, hx⟩ := ex_get l.L k (by omega)
   refine awp_skip ?_
   refine awp_seq ?_
   refine awp_block ?_
   refine awp_seq ?_
   refine awp_region rfl ?_
   refine rwp_det rfl rfl (det_index_sl rfl el27 rfl rfl (by omega) (getm (by assumption))) ?_
   refine rwp_det rfl rfl (det_load_agg rfl agg75 rfl ptr_imm rfl) ?_
   refine rwp_op rfl rfl (ope_alloc rfl zr75) ?_
   rintro _ _ ⟨b2, rfl, rfl⟩
   refine rwp_det0 rfl rfl (det_store rfl sz75 rfl rfl rfl (st_row 0 rfl rfl)) ?_
   refine rwp_nil ?_
   refine awp_seq ?_
   refine awp_draw 8 mixed (by kernel_rfl) rfl rfl ?_
   refine td_det rfl rfl (det_move rfl rfl) ?_
   refine td_det rfl rfl (det_nilcheck_ptr rfl rfl) ?_
   refine td_det rfl rfl (det_field_lit rfl fd158_1 rfl) ?_
   refine td_det rfl rfl (det_load_one rfl one156 rfl (ptr_row 1 rfl) rfl) ?_
   refine td_det rfl rfl (det_field_lit rfl fd75_0 rfl) ?_
   refine td_det rfl rfl (det_load_one rfl one9 rfl (ptr_row 0 rfl) rfl) ?_
   refine td_det rfl rfl (det_lookup 2 (0 : Int) rfl sm156 rfl rfl rfl (fun _ _ => CRep.lit _ rfl)) ?_
   refine td_det rfl rfl (det_neq rfl rfl rfl) ?_
   refine td_nil ?_
   refine rwp_nil ?_
   refine awp_cond rfl (fun c3 => ?_) (fun c3 => ?_)
   ·try simp only [sx, List.length_map] at c3
    refine awp_seq ?_
    refine awp_region rfl ?_
    refine rwp_det rfl rfl (det_assign rfl rfl) ?_
    refine rwp_nil ?_
    refine awp_weak _ (Weak.mem [false, true, true] rfl) ?_
    refine awp_ret ?_
    repeat (first | refine thenQ_ret ?_ | refine blockQ_ret ?_)
    refine fin1 (rs_c rfl) ?_
    exact ⟨by rw [sized_nf (linErr_yes c1) (knF_no hx (dec_false c3))], rfl⟩
   ·try simp only [sx, List.length_map] at c3
    refine awp_skip ?_
    refine awp_region rfl ?_
    refine rwp_det rfl rfl (det_add_nw rfl rfl rfl ⟨by omega, by omega⟩) ?_
    refine rwp_det rfl rfl (det_move rfl rfl) ?_
    refine rwp_nil ?_
    refine ⟨k + 1, ⟨by omega, knF_next hx hp (dec_true c3)⟩, (by omega), Weak.mk [false, true, true] ⟨VLe.refl _, VLe.refl _, VLe.refl _, VLe.refl _, trivial⟩ rfl⟩
  ·try simp only [sx, List.length_map] at c2
   refine awp_exit ?_
   refine awp_seq ?_
   refine awp_region rfl ?_
   refine rwp_det rfl rfl (det_assign rfl rfl) ?_
   refine rwp_nil ?_
   refine awp_ret ?_
   repeat (first | refine thenQ_ret ?_ | refine blockQ_ret ?_)
   refine fin1 (rs_c rfl) ?_
   exact ⟨by rw [take_all (by omega)] at hp; rw [sized_ok (linErr_yes c1) hp], rfl⟩

theorem checker_constraint (b mb : Nat) (p : Pg) (m : Kn) (x : Cn) (hl : x.Lin.L.length ≤ 4294967296) :
    Con cfg 135 [vP b, vCn x] (ckE b mb p m) fun r μ' => r = vI (sizedM m x.Lin) ∧ μ' = ckE b mb p m := by
 refine con_intro Tryz.func135 rfl Tryz.ntmps135 Tryz.results135 rfl ?_
 intro z hz
 refine awp_seq ?_
 refine awp_region rfl ?_
 refine rwp_op rfl rfl (ope_box rfl rfl) ?_
 rintro _ _ ⟨b1, rfl, rfl⟩
 refine rwp_det rfl rfl (det_assign rfl rfl) ?_
 refine rwp_nil ?_
 refine awp_seq ?_
 refine awp_seq ?_
 refine awp_region rfl ?_
 refine rwp_det rfl rfl (det_load_agg rfl agg111 rfl (ptr_row 0 rfl) rfl) ?_
 refine rwp_det rfl rfl (det_call rfl ok193 (constraint_Validate x hl) ⟨VLe.refl _, rfl, trivial⟩) ?_
 refine rwp_det rfl rfl (det_neq rfl rfl rfl) ?_
 refine rwp_nil ?_
 refine awp_cond rfl (fun c1 => ?_) (fun c1 => ?_)
 ·try simp only [sx, List.length_map] at c1
  refine awp_seq ?_
  refine awp_region rfl ?_
  refine rwp_det rfl rfl (det_assign rfl rfl) ?_
  refine rwp_nil ?_
  refine awp_weak _ (Weak.mem [false, true, true] rfl) ?_
  refine awp_ret ?_
  repeat (first | refine thenQ_ret ?_ | refine blockQ_ret ?_)
  refine fin1 (rs_c rfl) ?_
  exact ⟨by rw [sized_arg (linErr_no c1)], rfl⟩
 ·try simp only [sx, List.length_map] at c1
  refine awp_skip ?_
  refine awp_seq ?_
  refine awp_region rfl ?_
  refine rwp_det rfl rfl (det_move rfl rfl) ?_
  refine rwp_det rfl rfl (det_field_lit rfl fd111_0 rfl) ?_
  refine rwp_det rfl rfl (det_load_agg rfl agg29 rfl (ptr_row 0 rfl) rfl) ?_
  refine rwp_det rfl rfl (det_call_mem [1, 1] rfl ok194 (checker_sized b mb p m x.Lin hl) ⟨VLe.refl _, rfl, VLe.refl _, rfl, trivial⟩ rfl) ?_
  refine rwp_det rfl rfl (det_assign rfl rfl) ?_
  refine rwp_nil ?_
  refine awp_weak _ (Weak.mem [false, true, true] rfl) ?_
  refine awp_ret ?_
  repeat (first | refine thenQ_ret ?_ | refine blockQ_ret ?_)
  refine fin1 (rs_c rfl) ?_
  exact ⟨rfl, rfl⟩

theorem checker_param (b mb : Nat) (p : Pg) (m : Kn) (x : Pm) (hl : x.Dims.length ≤ 4294967296) (hx0 : ∀ l, l ∈ x.Dims → l.L.length ≤ 4294967296) :
    Con cfg 136 [vP b, vPm x] (ckE b mb p m) fun r μ' => r = vI (paramM m x) ∧ μ' = ckE b mb p (nameMap m x.Name 2) := by
 refine con_intro Tryz.func136 rfl Tryz.ntmps136 Tryz.results136 rfl ?_
 intro z hz
 refine awp_seq ?_
 refine awp_region rfl ?_
 refine rwp_op rfl rfl (ope_box rfl rfl) ?_
 rintro _ _ ⟨b1, rfl, rfl⟩
 refine rwp_det rfl rfl (det_assign rfl rfl) ?_
 refine rwp_nil ?_
 refine awp_seq ?_
 refine awp_seq ?_
 refine awp_region rfl ?_
 refine rwp_det rfl rfl (det_move rfl rfl) ?_
 refine rwp_det rfl rfl (det_field_lit rfl fd106_0 rfl) ?_
 refine rwp_det rfl rfl (det_load_one rfl one9 rfl (ptr_row 0 rfl) rfl) ?_
 refine rwp_det rfl rfl (det_call_mem [1, 1] rfl ok134 (checker_name b mb p m x.Name 2) ⟨VLe.refl _, rfl, VLe.refl _, rfl, VLe.refl _, rfl, trivial⟩ rfl) ?_
 refine rwp_det rfl rfl (det_assign rfl rfl) ?_
 refine rwp_nil ?_
 refine awp_seq ?_
 refine awp_region rfl ?_
 refine rwp_det rfl rfl (det_move rfl rfl) ?_
 refine rwp_det rfl rfl (det_neq rfl rfl rfl) ?_
 refine rwp_nil ?_
 refine awp_cond rfl (fun c1 => ?_) (fun c1 => ?_)
 ·try simp only [sx, List.length_map] at c1
  refine awp_seq ?_
  refine awp_region rfl ?_
  refine rwp_det rfl rfl (det_move rfl rfl) ?_
  refine rwp_det rfl rfl (det_assign rfl rfl) ?_
  refine rwp_nil ?_
  refine awp_weak _ (Weak.mem [false, true, true] rfl) ?_
  refine awp_ret ?_
  repeat (first | refine thenQ_ret ?_ | refine blockQ_ret ?_)
  refine fin1 (rs_c rfl) ?_
  exact ⟨by unfold paramM; rw [if_neg c1], rfl⟩
 ·try simp only [sx, List.length_map] at c1
  refine awp_skip ?_
  refine awp_seq ?_
  refine awp_seq ?_
  refine awp_region rfl ?_
  refine rwp_det rfl rfl (det_field_lit rfl fd106_1 rfl) ?_
  refine rwp_det rfl rfl (det_load_agg rfl agg23 rfl (ptr_row 0 rfl) rfl) ?_
  refine rwp_det rfl rfl (det_field_lit rfl fd106_2 rfl) ?_
  refine rwp_det rfl rfl (det_load_one rfl one104 rfl (ptr_row 0 rfl) rfl) ?_
  refine rwp_det rfl rfl (det_len_slm rfl el104 rfl) ?_
  refine rwp_det rfl rfl (det_bslice rfl el181 zr3 rfl rfl rfl rfl) ?_
  refine rwp_det rfl rfl (det_call rfl ok195 (program_declared x.T [(x.Dims.length : Int)] _ rfl (by simp)) ⟨VLe.refl _, rfl, VLe.refl _, rfl, trivial⟩) ?_
  refine rwp_det rfl rfl (det_assign rfl rfl) ?_
  refine rwp_nil ?_
  refine awp_seq ?_
  refine awp_region rfl ?_
  refine rwp_det rfl rfl (det_move rfl rfl) ?_
  refine rwp_det rfl rfl (det_neq rfl rfl rfl) ?_
  refine rwp_nil ?_
  refine awp_cond rfl (fun c2 => ?_) (fun c2 => ?_)
  ·try simp only [sx, List.length_map] at c2
   have hP := param_bad c1 c2
   refine awp_seq ?_
   refine awp_region rfl ?_
   refine rwp_det rfl rfl (det_move rfl rfl) ?_
   refine rwp_det rfl rfl (det_assign rfl rfl) ?_
   refine rwp_nil ?_
   refine awp_weak _ (Weak.mem [false, true, true] rfl) ?_
   refine awp_ret ?_
   repeat (first | refine thenQ_ret ?_ | refine blockQ_ret ?_)
   refine fin1 (rs_c rfl) ?_
   exact ⟨by rw [hP], rfl⟩
  ·try simp only [sx, List.length_map] at c2
   have hP := param_ok c1 c2
   refine awp_skip ?_
   refine awp_seq ?_
   refine awp_seq ?_
   refine awp_region rfl ?_
   refine rwp_det rfl rfl (det_field_lit rfl fd106_2 rfl) ?_
   refine rwp_det rfl rfl (det_load_one rfl one104 rfl (ptr_row 0 rfl) rfl) ?_
   refine rwp_det rfl rfl (det_len_slm rfl el104 rfl) ?_
   refine rwp_det rfl rfl (det_move rfl rfl) ?_
   refine rwp_nil ?_
   refine awp_block ?_
   refine awp_weak ⟨[(30, .c _), (0, .c _), (28, .c _), (29, .c _)], [_, _]⟩ (Weak.mk [false, true, true] ⟨VLe.of_eq rfl, VLe.of_eq rfl, VLe.of_eq rfl, VLe.of_eq rfl, trivial⟩ rfl) ?_
   refine awp_loop_k 1 0 rfl rfl (Nat) (fun k => [(30, vI k)]) (fun k => []) (fun k => k ≤ x.Dims.length ∧ (sizedsM (nameMap m x.Name 2) x.Dims = sizedsM (nameMap m x.Name 2) (x.Dims.drop k))) (fun k => x.Dims.length - k) ⟨0, ⟨by omega, rfl⟩, Weak.mk [true, true] ⟨VLe.refl _, VLe.refl _, VLe.refl _, VLe.refl _, trivial⟩ rfl⟩ ?_
   rintro k ⟨hk, hp⟩
   refine awp_seq ?_
   refine awp_region rfl ?_
   refine rwp_det rfl rfl (det_lss rfl rfl rfl) ?_
   refine rwp_nil ?_
   refine awp_seq ?_
   refine awp_cond rfl (fun c3 => ?_) (fun c3 => ?_)
   ·try simp only [sx, List.length_map] at c3
    obtain ⟨y, hy⟩ := ex_get x.Dims k (by omega)
    refine awp_skip ?_
    refine awp_seq ?_
    refine awp_block ?_
    refine awp_seq ?_
    refine awp_region rfl ?_
    refine rwp_det rfl rfl (det_index_sl rfl el104 rfl rfl (by omega) (getm (by assumption))) ?_
    refine rwp_det rfl rfl (det_load_agg rfl agg29 rfl ptr_imm rfl) ?_
    refine rwp_op rfl rfl (ope_allocN [none, some 2] rfl zr29 rfl) ?_
    rintro _ _ ⟨b2, rfl, rfl⟩
    refine rwp_det0 rfl rfl (det_store rfl sz29 rfl rfl rfl (st_row 0 rfl rfl)) ?_
    refine rwp_nil ?_
    refine awp_seq ?_
    refine awp_region rfl ?_
    refine rwp_det rfl rfl (det_move rfl rfl) ?_
    refine rwp_det rfl rfl (det_load_agg rfl agg29 rfl (ptr_row 0 rfl) rfl) ?_
    refine rwp_det rfl rfl (det_call_mem [1, 1] rfl ok194 (checker_sized b mb p _ y (hx0 _ (mem_of_get hy))) ⟨VLe.refl _, rfl, VLe.refl _, rfl, trivial⟩ rfl) ?_
    refine rwp_det rfl rfl (det_assign rfl rfl) ?_
    refine rwp_nil ?_
    refine awp_seq ?_
    refine awp_region rfl ?_
    refine rwp_det rfl rfl (det_move rfl rfl) ?_
    refine rwp_det rfl rfl (det_neq rfl rfl rfl) ?_
    refine rwp_nil ?_
    refine awp_cond rfl (fun c4 => ?_) (fun c4 => ?_)
    ·try simp only [sx, List.length_map] at c4
     refine awp_seq ?_
     refine awp_region rfl ?_
     refine rwp_det rfl rfl (det_move rfl rfl) ?_
     refine rwp_det rfl rfl (det_assign rfl rfl) ?_
     refine rwp_nil ?_
     refine awp_weak _ (Weak.mem [false, true, true] rfl) ?_
     refine awp_ret ?_
     repeat (first | refine thenQ_ret ?_ | refine blockQ_ret ?_)
     refine fin1 (rs_c rfl) ?_
     exact ⟨by rw [hP, hp, sizeds_no hy c4], rfl⟩
    ·try simp only [sx, List.length_map] at c4
     refine awp_skip ?_
     refine awp_region rfl ?_
     refine rwp_det rfl rfl (det_add_nw rfl rfl rfl ⟨by omega, by omega⟩) ?_
     refine rwp_det rfl rfl (det_move rfl rfl) ?_
     refine rwp_nil ?_
     refine ⟨k + 1, ⟨by omega, hp.trans (sizeds_at hy c4)⟩, (by omega), Weak.mk [false, true, true] ⟨VLe.refl _, VLe.refl _, VLe.refl _, VLe.refl _, trivial⟩ rfl⟩
   ·try simp only [sx, List.length_map] at c3
    refine awp_exit ?_
    refine awp_seq ?_
    refine awp_region rfl ?_
    refine rwp_det rfl rfl (det_assign rfl rfl) ?_
    refine rwp_nil ?_
    refine awp_ret ?_
    repeat (first | refine thenQ_ret ?_ | refine blockQ_ret ?_)
    refine fin1 (rs_c rfl) ?_
    exact ⟨by rw [hP, hp, drop_all (by omega)]; rfl, rfl⟩

theorem checker_axes (b mb : Nat) (p : Pg) (m : Kn) (d : Df) (hD : d.Dims.length ≤ 1073741824) (hR : d.Red.length ≤ 1073741824) (hA : ∀ a, a ∈ d.Dims → a.Size.L.length ≤ 4294967296) (hA2 : ∀ a, a ∈ d.Red → a.Size.L.length ≤ 4294967296) :
    Con cfg 196 [vP b, vDf d] (ckE b mb p m) fun r μ' => r = vI (axesM m [] (d.Dims ++ d.Red)) ∧ μ' = ckE b mb p m := by
 refine con_intro Tryz.func196 rfl Tryz.ntmps196 Tryz.results196 rfl ?_
 intro z hz
 refine awp_seq ?_
 refine awp_region rfl ?_
 refine rwp_op rfl rfl (ope_box rfl rfl) ?_
 rintro _ _ ⟨b1, rfl, rfl⟩
 refine rwp_det rfl rfl (det_assign rfl rfl) ?_
 refine rwp_nil ?_
 refine awp_seq ?_
 refine awp_region rfl ?_
 refine rwp_op rfl rfl (ope_mkmap vB rfl rfl) ?_
 rintro _ _ ⟨b2, rfl, rfl⟩
 refine rwp_det rfl rfl (det_assign rfl rfl) ?_
 refine rwp_nil ?_
 refine awp_seq ?_
 refine awp_seq ?_
 refine awp_region rfl ?_
 refine rwp_det rfl rfl (det_field_lit rfl fd35_2 rfl) ?_
 refine rwp_det rfl rfl (det_load_one rfl one24 rfl (ptr_row 1 rfl) rfl) ?_
 refine rwp_det rfl rfl (det_field_lit rfl fd35_3 rfl) ?_
 refine rwp_det rfl rfl (det_load_one rfl one24 rfl (ptr_row 1 rfl) rfl) ?_
 refine rwp_det rfl rfl (det_bslice rfl el244 zr24 rfl rfl rfl rfl) ?_
 refine rwp_det rfl rfl (det_call rfl ok235 (OwnR.pur (slices_Concat_two d.Dims d.Red hD hR)) ⟨VLe.refl _, rfl, trivial⟩) ?_
 refine rwp_det rfl rfl (det_len_slm rfl el24 rfl) ?_
 refine rwp_det rfl rfl (det_move rfl rfl) ?_
 refine rwp_nil ?_
 refine awp_block ?_
 refine awp_weak ⟨[(17, .c _), (0, .c _), (5, .c _), (15, .c _), (16, .c _)], [_, _, _]⟩ (Weak.mk [true, false, true, true] ⟨VLe.of_eq rfl, VLe.of_eq rfl, VLe.of_eq rfl, VLe.of_eq rfl, VLe.of_eq rfl, trivial⟩ rfl) ?_
 refine awp_loop_k 1 1 rfl rfl (Nat) (fun k => [(17, vI k)]) (fun k => [E.blk b2 (MapR vB (ownT ((d.Dims ++ d.Red).take k)))]) (fun k => k ≤ (d.Dims ++ d.Red).length ∧ (axesM m [] (d.Dims ++ d.Red) = axesM m (((d.Dims ++ d.Red).take k).map Ax.Name) ((d.Dims ++ d.Red).drop k))) (fun k => (d.Dims ++ d.Red).length - k) ⟨0, ⟨by omega, rfl⟩, Weak.mk [true, true, true] ⟨VLe.refl _, VLe.refl _, VLe.refl _, VLe.refl _, VLe.refl _, trivial⟩ rfl⟩ ?_
 rintro k ⟨hk, hp⟩
 refine awp_seq ?_
 refine awp_region rfl ?_
 refine rwp_det rfl rfl (det_lss rfl rfl rfl) ?_
 refine rwp_nil ?_
 refine awp_seq ?_
 refine awp_cond rfl (fun c1 => ?_) (fun c1 => ?_)
 ·try simp only [sx, List.length_map] at c1
  obtain ⟨x, hx⟩ := ex_get (d.Dims ++ d.Red) k (by omega)
  have hlen : (d.Dims ++ d.Red).length = d.Dims.length + d.Red.length := List.length_append
  have hog := own_get x.Name ((d.Dims ++ d.Red).take k)
  refine awp_skip ?_
  refine awp_seq ?_
  refine awp_block ?_
  refine awp_seq ?_
  refine awp_region rfl ?_
  refine rwp_det rfl rfl (det_index_sl rfl el24 rfl rfl (by omega) (getm (by assumption))) ?_
  refine rwp_det rfl rfl (det_load_agg rfl agg88 rfl ptr_imm rfl) ?_
  refine rwp_op rfl rfl (ope_allocN [none, none, some 2] rfl zr88 rfl) ?_
  rintro _ _ ⟨b3, rfl, rfl⟩
  refine rwp_det0 rfl rfl (det_store rfl sz88 rfl rfl rfl (st_row 0 rfl rfl)) ?_
  refine rwp_nil ?_
  refine awp_seq ?_
  refine awp_block ?_
  refine awp_seq ?_
  refine awp_region rfl ?_
  refine rwp_det rfl rfl (det_field_lit rfl fd88_0 rfl) ?_
  refine rwp_det rfl rfl (det_load_one rfl one9 rfl (ptr_row 0 rfl) rfl) ?_
  refine rwp_det rfl rfl (det_call rfl ok192 (lexer_IsName _) ⟨VLe.refl _, rfl, trivial⟩) ?_
  refine rwp_det rfl rfl (det_not rfl rfl) ?_
  refine rwp_det rfl rfl (det_assign rfl rfl) ?_
  refine rwp_nil ?_
  refine awp_cond rfl (fun c2 => ?_) (fun c2 => ?_)
  ·try simp only [sx, List.length_map] at c2
   refine awp_seq ?_
   refine awp_region rfl ?_
   refine rwp_det rfl rfl (det_assign rfl rfl) ?_
   refine rwp_nil ?_
   refine awp_weak _ (Weak.mem [false, false, true, true] rfl) ?_
   refine awp_ret ?_
   repeat (first | refine thenQ_ret ?_ | refine blockQ_ret ?_)
   refine fin1 (rs_c rfl) ?_
   exact ⟨by rw [hp, axes_7 hx c2], rfl⟩
  ·try simp only [sx, List.length_map] at c2
   refine awp_seq ?_
   refine awp_draw 15 mixed (by kernel_rfl) rfl rfl ?_
   refine td_det rfl rfl (det_move rfl rfl) ?_
   refine td_det rfl rfl (det_field_lit rfl fd88_0 rfl) ?_
   refine td_det rfl rfl (det_load_one rfl one9 rfl (ptr_row 0 rfl) rfl) ?_
   refine td_det rfl rfl (det_lookup 1 false rfl sm215 rfl rfl rfl (fun _ _ => CRep.lit _ rfl)) ?_
   refine td_det rfl rfl (det_move rfl rfl) ?_
   refine td_lazy [] rfl rfl rfl rfl gv1 trivial (fun g7_4 => det_move rfl rfl) rfl ?_
   refine td_lazy [(32, _)] rfl rfl rfl rfl gv1 ⟨rfl, rfl, trivial⟩ (fun g7_4 => det_nilcheck_ptr rfl rfl) rfl ?_
   refine td_lazy [(33, _)] rfl rfl rfl rfl gv1 ⟨rfl, rfl, trivial⟩ (fun g7_4 => det_field_lit rfl fd158_1 rfl) rfl ?_
   refine td_lazy [(34, _)] rfl rfl rfl rfl gv1 ⟨rfl, rfl, trivial⟩ (fun g7_4 => det_load_one rfl one156 rfl (ptr_row 2 rfl) rfl) rfl ?_
   refine td_lazy [] rfl rfl rfl rfl gv1 trivial (fun g7_4 => det_field_lit rfl fd88_0 rfl) rfl ?_
   refine td_lazy [(36, _)] rfl rfl rfl rfl gv1 ⟨rfl, rfl, trivial⟩ (fun g7_4 => det_load_one rfl one9 rfl (ptr_row 0 rfl) rfl) rfl ?_
   refine td_lazy [(35, _), (37, _)] rfl rfl rfl rfl gv1 ⟨rfl, rfl, rfl, rfl, trivial⟩ (fun g7_4 => det_lookup 3 (0 : Int) rfl sm156 rfl rfl rfl (fun _ _ => CRep.lit _ rfl)) rfl ?_
   refine td_lazy [(38, _)] rfl rfl rfl rfl gv1 ⟨rfl, rfl, trivial⟩ (fun g7_4 => det_eql rfl rfl rfl) rfl ?_
   refine td_det rfl rfl (det_or rfl rfl rfl rfl (fun h => (lzf h))) ?_
   refine td_det rfl rfl (det_assign rfl rfl) ?_
   refine td_nil ?_
   refine rwp_nil ?_
   refine awp_cond rfl (fun c3 => ?_) (fun c3 => ?_)
   ·have h8 := ax_yes hog c3
    refine awp_seq ?_
    refine awp_region rfl ?_
    refine rwp_det rfl rfl (det_assign rfl rfl) ?_
    refine rwp_nil ?_
    refine awp_weak _ (Weak.mem [false, false, true, true] rfl) ?_
    refine awp_ret ?_
    repeat (first | refine thenQ_ret ?_ | refine blockQ_ret ?_)
    refine fin1 (rs_c rfl) ?_
    exact ⟨by rw [hp, axes_8 hx c2 h8], rfl⟩
   ·have h8 := ax_no hog c3
    refine awp_skip ?_
    refine awp_seq ?_
    refine awp_region rfl ?_
    refine rwp_det rfl rfl (det_move rfl rfl) ?_
    refine rwp_det rfl rfl (det_field_lit rfl fd88_0 rfl) ?_
    refine rwp_det rfl rfl (det_load_one rfl one9 rfl (ptr_row 0 rfl) rfl) ?_
    refine rwp_det0 rfl rfl (det_mapput 1 true rfl sm215 rfl rfl rfl (VLe.refl _) rfl) ?_
    refine rwp_nil ?_
    refine awp_seq ?_
    refine awp_region rfl ?_
    refine rwp_det rfl rfl (det_move rfl rfl) ?_
    refine rwp_det rfl rfl (det_field_lit rfl fd88_1 rfl) ?_
    refine rwp_det rfl rfl (det_load_agg rfl agg29 rfl (ptr_row 0 rfl) rfl) ?_
    refine rwp_det rfl rfl (det_call_mem [2, 2] rfl ok194 (checker_sized b mb p m x.Size (by rcases List.mem_append.1 (mem_of_get hx) with h | h; exact hA _ h; exact hA2 _ h)) ⟨VLe.refl _, rfl, VLe.refl _, rfl, trivial⟩ rfl) ?_
    refine rwp_det rfl rfl (det_assign rfl rfl) ?_
    refine rwp_nil ?_
    refine awp_seq ?_
    refine awp_region rfl ?_
    refine rwp_det rfl rfl (det_move rfl rfl) ?_
    refine rwp_det rfl rfl (det_neq rfl rfl rfl) ?_
    refine rwp_nil ?_
    refine awp_cond rfl (fun c4 => ?_) (fun c4 => ?_)
    ·try simp only [sx, List.length_map] at c4
     refine awp_seq ?_
     refine awp_region rfl ?_
     refine rwp_det rfl rfl (det_move rfl rfl) ?_
     refine rwp_det rfl rfl (det_assign rfl rfl) ?_
     refine rwp_nil ?_
     refine awp_weak _ (Weak.mem [false, false, true, true] rfl) ?_
     refine awp_ret ?_
     repeat (first | refine thenQ_ret ?_ | refine blockQ_ret ?_)
     refine fin1 (rs_c rfl) ?_
     exact ⟨by rw [hp, axes_s hx c2 h8 c4], rfl⟩
    ·try simp only [sx, List.length_map] at c4
     refine awp_skip ?_
     refine awp_region rfl ?_
     refine rwp_det rfl rfl (det_add_nw rfl rfl rfl ⟨by omega, by omega⟩) ?_
     refine rwp_det rfl rfl (det_move rfl rfl) ?_
     refine rwp_nil ?_
     refine ⟨k + 1, ⟨by omega, by rw [hp, axes_at hx c2 h8 c4, take_next hx, List.map_append]; rfl⟩, (by omega), Weak.mk [false, true, true, true] ⟨VLe.refl _, VLe.refl _, VLe.refl _, VLe.refl _, VLe.refl _, trivial⟩ (by show _ = [E.blk b2 (MapR vB (ownT ((d.Dims ++ d.Red).take (k + 1))))] ++ _; rw [ownT_next hx]; rfl)⟩
 ·try simp only [sx, List.length_map] at c1
  refine awp_exit ?_
  refine awp_seq ?_
  refine awp_region rfl ?_
  refine rwp_det rfl rfl (det_assign rfl rfl) ?_
  refine rwp_nil ?_
  refine awp_weak _ (Weak.mem [false, true, true] rfl) ?_
  refine awp_ret ?_
  repeat (first | refine thenQ_ret ?_ | refine blockQ_ret ?_)
  refine fin1 (rs_c rfl) ?_
  exact ⟨by rw [hp, drop_all (by omega)]; rfl, rfl⟩

theorem program_Find (p : Pg) (s : ByteArray) (hP : p.Ok) :
    Pur cfg 112 [vPg p, vS s] (.tup [vTy (p.en.find s).ty, vLins (p.en.find s).dims, vB (p.en.find s).ok]) := by
 refine con_intro Tryz.func112 rfl Tryz.ntmps112 Tryz.results112 rfl ?_
 intro z hz
 have hpl := hP.params
 refine awp_seq ?_
 refine awp_region rfl ?_
 refine rwp_op rfl rfl (ope_box rfl rfl) ?_
 rintro _ _ ⟨b1, rfl, rfl⟩
 refine rwp_op rfl rfl (ope_alloc rfl zr23) ?_
 rintro _ _ ⟨b2, rfl, rfl⟩
 refine rwp_det rfl rfl (det_assignN 2 rfl rfl) ?_
 refine rwp_det rfl rfl (det_assign rfl rfl) ?_
 refine rwp_nil ?_
 refine awp_seq ?_
 refine awp_seq ?_
 refine awp_region rfl ?_
 refine rwp_det rfl rfl (det_field_lit rfl fd47_2 rfl) ?_
 refine rwp_det rfl rfl (det_load_one rfl one44 rfl (ptr_row 1 rfl) rfl) ?_
 refine rwp_det rfl rfl (det_len_slm rfl el44 rfl) ?_
 refine rwp_det rfl rfl (det_move rfl rfl) ?_
 refine rwp_nil ?_
 refine awp_block ?_
 refine awp_weak ⟨[(16, .c _), (1, .c _), (2, .c _), (4, .c _), (14, .c _), (15, .c _)], [_, _]⟩ (Weak.mk [true, true] ⟨VLe.of_eq rfl, VLe.of_eq rfl, VLe.of_eq rfl, VLe.of_eq rfl, VLe.of_eq rfl, VLe.of_eq rfl, trivial⟩ rfl) ?_
 refine awp_loop_k 1 0 rfl rfl (Nat) (fun k => [(16, vI k)]) (fun k => []) (fun k => k ≤ p.Params.length ∧ (findP s p.Defs p.Params = findP s p.Defs (p.Params.drop k))) (fun k => p.Params.length - k) ⟨0, ⟨by omega, rfl⟩, Weak.mk [true, true] ⟨VLe.refl _, VLe.refl _, VLe.refl _, VLe.refl _, VLe.refl _, VLe.refl _, trivial⟩ rfl⟩ ?_
 rintro k ⟨hk, hp⟩
 refine awp_seq ?_
 refine awp_region rfl ?_
 refine rwp_det rfl rfl (det_lss rfl rfl rfl) ?_
 refine rwp_nil ?_
 refine awp_seq ?_
 refine awp_cond rfl (fun c1 => ?_) (fun c1 => ?_)
 ·try simp only [sx, List.length_map] at c1
  obtain ⟨x, hx⟩ := ex_get p.Params k (by omega)
  refine awp_skip ?_
  refine awp_seq ?_
  refine awp_block ?_
  refine awp_seq ?_
  refine awp_region rfl ?_
  refine rwp_det rfl rfl (det_index_sl rfl el44 rfl rfl (by omega) (getm (by assumption))) ?_
  refine rwp_det rfl rfl (det_load_agg rfl agg106 rfl ptr_imm rfl) ?_
  refine rwp_op rfl rfl (ope_allocN [none, none, none, none, none, none, some 2] rfl zr106 rfl) ?_
  rintro _ _ ⟨b3, rfl, rfl⟩
  refine rwp_det0 rfl rfl (det_store rfl sz106 rfl rfl rfl (st_row 0 rfl rfl)) ?_
  refine rwp_nil ?_
  refine awp_seq ?_
  refine awp_region rfl ?_
  refine rwp_det rfl rfl (det_field_lit rfl fd106_0 rfl) ?_
  refine rwp_det rfl rfl (det_load_one rfl one9 rfl (ptr_row 0 rfl) rfl) ?_
  refine rwp_det rfl rfl (det_move rfl rfl) ?_
  refine rwp_det rfl rfl (det_seql rfl rfl rfl) ?_
  refine rwp_nil ?_
  refine awp_cond rfl (fun c2 => ?_) (fun c2 => ?_)
  ·try simp only [sx, List.length_map] at c2
   refine awp_seq ?_
   refine awp_draw 5 mixed (by kernel_rfl) rfl rfl ?_
   refine td_det rfl rfl (det_field_lit rfl fd106_1 rfl) ?_
   refine td_det rfl rfl (det_load_agg rfl agg23 rfl (ptr_row 0 rfl) rfl) ?_
   refine td_det rfl rfl (det_field_lit rfl fd106_2 rfl) ?_
   refine td_det rfl rfl (det_load_one rfl one104 rfl (ptr_row 0 rfl) rfl) ?_
   refine td_det rfl rfl (det_call rfl ok118 (OwnR.pur (program_copyForms x.Dims (hP.ps x (mem_of_get hx)).1 (fun y hy => Nat.le_trans ((hP.ps x (mem_of_get hx)).2 y hy) (by decide)))) ⟨VLe.refl _, rfl, trivial⟩) ?_
   refine td_nil ?_
   refine rwp_det0 rfl rfl (det_store rfl sz23 rfl rfl rfl (st_row 1 rfl rfl)) ?_
   refine rwp_det rfl rfl (det_assign rfl rfl) ?_
   refine rwp_det rfl rfl (det_assign rfl rfl) ?_
   refine rwp_nil ?_
   refine awp_ret ?_
   repeat (first | refine thenQ_ret ?_ | refine blockQ_ret ?_)
   refine fin3 (rs_cell_agg agg23 rfl (ptr_row 1 rfl) rfl) (rs_c rfl) (rs_c rfl) ?_
   rw [En.find, show p.en.pm = p.Params from rfl, show p.en.df = p.Defs from rfl, hp, find_at hx c2]; rfl
  ·try simp only [sx, List.length_map] at c2
   refine awp_skip ?_
   refine awp_region rfl ?_
   refine rwp_det rfl rfl (det_add_nw rfl rfl rfl ⟨by omega, by omega⟩) ?_
   refine rwp_det rfl rfl (det_move rfl rfl) ?_
   refine rwp_nil ?_
   refine ⟨k + 1, ⟨by omega, hp.trans (find_next hx c2)⟩, (by omega), Weak.mk [false, true, true] ⟨VLe.refl _, VLe.refl _, VLe.refl _, VLe.refl _, VLe.refl _, VLe.refl _, trivial⟩ rfl⟩
 ·try simp only [sx, List.length_map] at c1
  have hF : p.en.find s = findD s p.Defs := by rw [En.find, show p.en.pm = p.Params from rfl, show p.en.df = p.Defs from rfl, hp, drop_all (by omega)]; rfl
  refine awp_exit ?_
  refine awp_seq ?_
  refine awp_seq ?_
  refine awp_region rfl ?_
  refine rwp_det rfl rfl (det_load_agg rfl agg47 rfl (ptr_row 1 rfl) rfl) ?_
  refine rwp_det rfl rfl (det_move rfl rfl) ?_
  refine rwp_det rfl rfl (det_call rfl ok113 (program_IndexOf p s hP.defs) ⟨VLe.refl _, rfl, VLe.refl _, rfl, trivial⟩) ?_
  refine rwp_det rfl rfl (det_assign rfl rfl) ?_
  refine rwp_nil ?_
  refine awp_seq ?_
  refine awp_region rfl ?_
  refine rwp_det rfl rfl (det_move rfl rfl) ?_
  refine rwp_det rfl rfl (det_geq rfl rfl rfl) ?_
  refine rwp_nil ?_
  refine awp_cond rfl (fun c3 => ?_) (fun c3 => ?_)
  ·try simp only [sx, List.length_map] at c3
   obtain ⟨d, hd, hfd⟩ := (find_def s p.Defs).1 c3
   have hdd := (hP.ds d (mem_of_get hd)).1
   refine awp_seq ?_
   refine awp_region rfl ?_
   refine rwp_det rfl rfl (det_assign rfl rfl) ?_
   refine rwp_weak _ (weak_own 29 2) ?_
   refine rwp_nil ?_
   refine awp_seq ?_
   refine awp_seq ?_
   refine awp_region rfl ?_
   refine rwp_det rfl rfl (det_field_lit rfl fd47_3 rfl) ?_
   refine rwp_det rfl rfl (det_load_one rfl one45 rfl (ptr_row 2 rfl) rfl) ?_
   refine rwp_det rfl rfl (det_move rfl rfl) ?_
   refine rwp_det rfl rfl (det_index_sl rfl el45 rfl rfl (by omega) (getm hd)) ?_
   refine rwp_det rfl rfl (det_field_imm rfl fd35_2 rfl) ?_
   refine rwp_det rfl rfl (det_load_one rfl one24 rfl ptr_imm rfl) ?_
   refine rwp_det rfl rfl (det_len_slm rfl el24 rfl) ?_
   refine rwp_det rfl rfl (det_move rfl rfl) ?_
   refine rwp_nil ?_
   refine awp_block ?_
   refine awp_weak ⟨[(42, .c _), (10, .c _), (2, .c _), (4, .c _), (9, .c _), (40, .c _), (41, .c _)], [_, _, _]⟩ (Weak.mk [true, true, true] ⟨VLe.of_eq rfl, VLe.of_eq rfl, VLe.of_eq rfl, VLe.of_eq rfl, VLe.of_eq rfl, VLe.of_eq rfl, VLe.of_eq rfl, trivial⟩ rfl) ?_
   refine awp_loop_k 2 1 rfl rfl (Nat × Value) (fun ⟨j, sv⟩ => [(42, vI j), (10, .c (.lit sv))]) (fun ⟨j, sv⟩ => [E.vec sv 29 2 ((d.Dims.take j).map fun a => a.Size.cells)]) (fun ⟨j, sv⟩ => j ≤ d.Dims.length) (fun ⟨j, sv⟩ => d.Dims.length - j) ⟨⟨0, (.slice none 0 0)⟩, (by omega), Weak.mk [true, true, true] ⟨VLe.refl _, VLe.refl _, VLe.refl _, VLe.refl _, VLe.refl _, VLe.refl _, VLe.refl _, trivial⟩ rfl⟩ ?_
   rintro ⟨j, sv⟩ hj
   show AWP _ _ _ _ _ ⟨[(42, vI j), (10, .c (.lit sv))] ++ _, [E.vec sv 29 2 ((d.Dims.take j).map fun a => a.Size.cells)] ++ _⟩
   refine awp_seq ?_
   refine awp_region rfl ?_
   refine rwp_det rfl rfl (det_lss rfl rfl rfl) ?_
   refine rwp_nil ?_
   refine awp_seq ?_
   refine awp_cond rfl (fun c4 => ?_) (fun c4 => ?_)
   ·try simp only [sx, List.length_map] at c4
    obtain ⟨a, ha⟩ := ex_get d.Dims j (by omega)
    refine awp_skip ?_
    refine awp_seq ?_
    refine awp_block ?_
    refine awp_seq ?_
    refine awp_region rfl ?_
    refine rwp_det rfl rfl (det_index_sl rfl el24 rfl rfl (by omega) (getm (by assumption))) ?_
    refine rwp_det rfl rfl (det_load_agg rfl agg88 rfl ptr_imm rfl) ?_
    refine rwp_op rfl rfl (ope_allocN [none, none, some 2] rfl zr88 rfl) ?_
    rintro _ _ ⟨b5, rfl, rfl⟩
    refine rwp_det0 rfl rfl (det_store rfl sz88 rfl rfl rfl (st_row 0 rfl rfl)) ?_
    refine rwp_nil ?_
    refine awp_region rfl ?_
    refine rwp_det rfl rfl (det_move rfl rfl) ?_
    refine rwp_det rfl rfl (det_field_lit rfl fd88_1 rfl) ?_
    refine rwp_det rfl rfl (det_load_agg rfl agg29 rfl (ptr_row 0 rfl) rfl) ?_
    refine rwp_det rfl rfl (det_call rfl ok117 (program_copyForm a.Size (Nat.le_trans ((hP.ds d (mem_of_get hd)).2.2.1 a (mem_of_get ha)) (by decide))) ⟨VLe.refl _, rfl, trivial⟩) ?_
    refine rwp_det rfl rfl (det_bslice rfl el104 zr29 rfl rfl rfl rfl) ?_
    refine rwp_op rfl rfl (ope_append 1 rfl el104 rfl rfl rfl (by first | omega | (simp only [List.length_take, List.length_map, List.length_append, List.length_nil, List.length_cons]; omega)) (by first | omega | (simp only [List.length_take, List.length_map, List.length_append, List.length_nil, List.length_cons]; omega))) ?_
    rintro _ _ ⟨sv6, rfl, rfl⟩
    refine rwp_det rfl rfl (det_assign rfl rfl) ?_
    refine rwp_nil ?_
    refine awp_region rfl ?_
    refine rwp_det rfl rfl (det_add_nw rfl rfl rfl ⟨by omega, by omega⟩) ?_
    refine rwp_det rfl rfl (det_move rfl rfl) ?_
    refine rwp_nil ?_
    refine ⟨⟨j + 1, sv6⟩, (by omega), (by show d.Dims.length - (j + 1) < d.Dims.length - j; omega), Weak.mk [false, true, true, true] ⟨VLe.refl _, VLe.refl _, VLe.refl _, VLe.refl _, VLe.refl _, VLe.refl _, VLe.refl _, trivial⟩ (by show _ = [E.vec sv6 _ 2 ((d.Dims.take (j + 1)).map fun a => a.Size.cells)] ++ _; rw [take_next ha, List.map_append (f := fun a : Ax => a.Size.cells)]; rfl)⟩
   ·try simp only [sx, List.length_map] at c4
    refine awp_exit ?_
    refine awp_seq ?_
    refine awp_region rfl ?_
    refine rwp_det rfl rfl (det_field_lit rfl fd47_3 rfl) ?_
    refine rwp_det rfl rfl (det_load_one rfl one45 rfl (ptr_row 2 rfl) rfl) ?_
    refine rwp_det rfl rfl (det_move rfl rfl) ?_
    refine rwp_det rfl rfl (det_index_sl rfl el45 rfl rfl (by omega) (getm hd)) ?_
    refine rwp_det rfl rfl (det_field_imm rfl fd35_1 rfl) ?_
    refine rwp_det rfl rfl (det_load_agg rfl agg23 rfl ptr_imm rfl) ?_
    refine rwp_det rfl rfl (det_move rfl rfl) ?_
    refine rwp_det0 rfl rfl (det_store rfl sz23 rfl rfl rfl (st_row 1 rfl rfl)) ?_
    refine rwp_det rfl rfl (det_assign rfl rfl) ?_
    refine rwp_det rfl rfl (det_assign rfl rfl) ?_
    refine rwp_nil ?_
    refine awp_weak _ (weak_freezeM 0 rfl (regs' := [(10, _), (59, _), (5, _)]) (μ' := [_, _]) ⟨FLe.sl, FLe.sl, FLe.sl, trivial⟩ ⟨EFle.refl _, EFle.refl _, trivial⟩) ?_
    refine awp_ret ?_
    repeat (first | refine thenQ_ret ?_ | refine blockQ_ret ?_)
    refine fin3 (rs_cell_agg agg23 rfl (ptr_row 0 rfl) rfl) (rs_c rfl) (rs_c rfl) ?_
    rw [hF, hfd, take_all (l := d.Dims) (k := j) (by omega)]; simp only [vLins, List.map_map]; rfl
  ·try simp only [sx, List.length_map] at c3
   have hfd := (find_def s p.Defs).2 (by omega)
   refine awp_skip ?_
   refine awp_seq ?_
   refine awp_region rfl ?_
   refine rwp_det rfl rfl (det_build rfl zr23 pl23 rfl) ?_
   refine rwp_det0 rfl rfl (det_store rfl sz23 rfl rfl rfl (st_row 0 rfl rfl)) ?_
   refine rwp_det rfl rfl (det_assignN 2 rfl rfl) ?_
   refine rwp_det rfl rfl (det_assign rfl rfl) ?_
   refine rwp_nil ?_
   refine awp_ret ?_
   repeat (first | refine thenQ_ret ?_ | refine blockQ_ret ?_)
   refine fin3 (rs_cell_agg agg23 rfl (ptr_row 0 rfl) rfl) (rs_c rfl) (rs_c rfl) ?_
   rw [hF, hfd]; rfl

theorem typer_form (b mb : Nat) (p : Pg) (m : Kn) (l : Lf) (hl : l.L.length ≤ 4294967296) :
    Con cfg 264 [vP b, vLin l] (tyE b mb p m) fun r μ' => r = vI (formK (kn m) l) ∧ μ' = tyE b mb p m := by
 refine con_intro Tryz.func264 rfl Tryz.ntmps264 Tryz.results264 rfl ?_
 intro z hz
 refine awp_seq ?_
 refine awp_region rfl ?_
 refine rwp_op rfl rfl (ope_box rfl rfl) ?_
 rintro _ _ ⟨b1, rfl, rfl⟩
 refine rwp_det rfl rfl (det_assign rfl rfl) ?_
 refine rwp_nil ?_
 refine awp_seq ?_
 refine awp_seq ?_
 refine awp_region rfl ?_
 refine rwp_det rfl rfl (det_field_lit rfl fd29_1 rfl) ?_
 refine rwp_det rfl rfl (det_load_one rfl one27 rfl (ptr_row 0 rfl) rfl) ?_
 refine rwp_det rfl rfl (det_len_slm rfl el27 rfl) ?_
 refine rwp_det rfl rfl (det_move rfl rfl) ?_
 refine rwp_nil ?_
 refine awp_block ?_
 refine awp_weak ⟨[(10, .c _), (0, .c _), (8, .c _), (9, .c _)], [_, _]⟩ (Weak.mk [false, true, true] ⟨VLe.of_eq rfl, VLe.of_eq rfl, VLe.of_eq rfl, VLe.of_eq rfl, trivial⟩ rfl) ?_
 refine awp_loop_k 1 0 rfl rfl (Nat) (fun k => [(10, vI k)]) (fun k => []) (fun k => k ≤ l.L.length ∧ (knL (kn m) (l.L.take k) = true)) (fun k => l.L.length - k) ⟨0, ⟨by omega, rfl⟩, Weak.mk [true, true] ⟨VLe.refl _, VLe.refl _, VLe.refl _, VLe.refl _, trivial⟩ rfl⟩ ?_
 rintro k ⟨hk, hp⟩
 refine awp_seq ?_
 refine awp_region rfl ?_
 refine rwp_det rfl rfl (det_lss rfl rfl rfl) ?_
 refine rwp_nil ?_
 refine awp_seq ?_
 refine awp_cond rfl (fun c1 => ?_) (fun c1 => ?_)
 ·try simp only [sx, List.length_map] at c1
  obtain ⟨x, hx⟩ := ex_get l.L k (by omega)
  refine awp_skip ?_
  refine awp_seq ?_
  refine awp_block ?_
  refine awp_seq ?_
  refine awp_region rfl ?_
  refine rwp_det rfl rfl (det_index_sl rfl el27 rfl rfl (by omega) (getm (by assumption))) ?_
  refine rwp_det rfl rfl (det_load_agg rfl agg75 rfl ptr_imm rfl) ?_
  refine rwp_op rfl rfl (ope_alloc rfl zr75) ?_
  rintro _ _ ⟨b2, rfl, rfl⟩
  refine rwp_det0 rfl rfl (det_store rfl sz75 rfl rfl rfl (st_row 0 rfl rfl)) ?_
  refine rwp_nil ?_
  refine awp_seq ?_
  refine awp_draw 8 mixed (by kernel_rfl) rfl rfl ?_
  refine td_det rfl rfl (det_move rfl rfl) ?_
  refine td_det rfl rfl (det_nilcheck_ptr rfl rfl) ?_
  refine td_det rfl rfl (det_field_lit rfl fd218_1 rfl) ?_
  refine td_det rfl rfl (det_load_one rfl one156 rfl (ptr_row 1 rfl) rfl) ?_
  refine td_det rfl rfl (det_field_lit rfl fd75_0 rfl) ?_
  refine td_det rfl rfl (det_load_one rfl one9 rfl (ptr_row 0 rfl) rfl) ?_
  refine td_det rfl rfl (det_lookup 2 (0 : Int) rfl sm156 rfl rfl rfl (fun _ _ => CRep.lit _ rfl)) ?_
  refine td_det rfl rfl (det_eql rfl rfl rfl) ?_
  refine td_nil ?_
  refine rwp_nil ?_
  refine awp_cond rfl (fun c2 => ?_) (fun c2 => ?_)
  ·try simp only [sx, List.length_map] at c2
   refine awp_seq ?_
   refine awp_region rfl ?_
   refine rwp_det rfl rfl (det_assign rfl rfl) ?_
   refine rwp_nil ?_
   refine awp_weak _ (Weak.mem [false, true, true] rfl) ?_
   refine awp_ret ?_
   repeat (first | refine thenQ_ret ?_ | refine blockQ_ret ?_)
   refine fin1 (rs_c rfl) ?_
   exact ⟨by rw [formK_no (knF_no hx (kn_f c2))], rfl⟩
  ·try simp only [sx, List.length_map] at c2
   refine awp_skip ?_
   refine awp_region rfl ?_
   refine rwp_det rfl rfl (det_add_nw rfl rfl rfl ⟨by omega, by omega⟩) ?_
   refine rwp_det rfl rfl (det_move rfl rfl) ?_
   refine rwp_nil ?_
   refine ⟨k + 1, ⟨by omega, knF_next hx hp (kn_t c2)⟩, (by omega), Weak.mk [false, true, true] ⟨VLe.refl _, VLe.refl _, VLe.refl _, VLe.refl _, trivial⟩ rfl⟩
 ·try simp only [sx, List.length_map] at c1
  refine awp_exit ?_
  refine awp_seq ?_
  refine awp_region rfl ?_
  refine rwp_det rfl rfl (det_assign rfl rfl) ?_
  refine rwp_nil ?_
  refine awp_ret ?_
  repeat (first | refine thenQ_ret ?_ | refine blockQ_ret ?_)
  refine fin1 (rs_c rfl) ?_
  exact ⟨by rw [take_all (by omega)] at hp; rw [formK_ok hp], rfl⟩

theorem typer_index (b mb : Nat) (p : Pg) (m : Kn) (x : Ix) (hP : p.Ok) (hx : x.wt ≤ 4294967296) :
    Con cfg 274 [vP b, vIndex x] (tyE b mb p m) fun r μ' => r = vI (indexK p.en (kn m) x) ∧ μ' = tyE b mb p m := by
 refine con_intro Tryz.func274 rfl Tryz.ntmps274 Tryz.results274 rfl ?_
 intro z hz
 have hw := hx
 unfold Ix.wt at hw
 clear hx
 refine awp_seq ?_
 refine awp_region rfl ?_
 refine rwp_op rfl rfl (ope_box rfl rfl) ?_
 rintro _ _ ⟨b1, rfl, rfl⟩
 refine rwp_det rfl rfl (det_assign rfl rfl) ?_
 refine rwp_nil ?_
 refine awp_seq ?_
 refine awp_seq ?_
 refine awp_region rfl ?_
 refine rwp_det rfl rfl (det_field_lit rfl fd117_1 rfl) ?_
 refine rwp_det rfl rfl (det_load_one rfl one9 rfl (ptr_row 0 rfl) rfl) ?_
 refine rwp_det rfl rfl (det_seql rfl rfl rfl) ?_
 refine rwp_nil ?_
 refine awp_cond rfl (fun c1 => ?_) (fun c1 => ?_)
 ·try simp only [sx, List.length_map] at c1
  refine awp_seq ?_
  refine awp_region rfl ?_
  refine rwp_det rfl rfl (det_move rfl rfl) ?_
  refine rwp_det rfl rfl (det_field_lit rfl fd117_0 rfl) ?_
  refine rwp_det rfl rfl (det_load_agg rfl agg29 rfl (ptr_row 0 rfl) rfl) ?_
  refine rwp_det rfl rfl (det_call_mem [1, 1] rfl ok264 (typer_form b mb p m x.Lin (by omega)) ⟨VLe.refl _, rfl, VLe.refl _, rfl, trivial⟩ rfl) ?_
  refine rwp_det rfl rfl (det_assign rfl rfl) ?_
  refine rwp_nil ?_
  refine awp_weak _ (Weak.mem [false, true, true] rfl) ?_
  refine awp_ret ?_
  repeat (first | refine thenQ_ret ?_ | refine blockQ_ret ?_)
  refine fin1 (rs_c rfl) ?_
  exact ⟨by rw [indexK, decide_eq_true c1]; rfl, rfl⟩
 ·try simp only [sx, List.length_map] at c1
  refine awp_skip ?_
  refine awp_seq ?_
  refine awp_draw_gp 12 14 [.q, .q, .q, .q, .q, .q, .q, .q, .q, .u, .u, .f]  mixed (by kernel_rfl) rfl rfl rfl ?_
  refine tdq_det rfl rfl (det_move rfl rfl) ?_
  refine tdq_det rfl rfl (det_nilcheck_ptr rfl rfl) ?_
  refine tdq_det rfl rfl (det_field_lit rfl fd218_0 rfl) ?_
  refine tdq_det rfl rfl (det_load_agg rfl agg47 rfl (ptr_row 1 rfl) rfl) ?_
  refine tdq_det rfl rfl (det_field_lit rfl fd117_1 rfl) ?_
  refine tdq_det rfl rfl (det_load_one rfl one9 rfl (ptr_row 0 rfl) rfl) ?_
  refine tdq_det rfl rfl (det_call rfl ok112 (program_Find p x.From hP) ⟨VLe.refl _, rfl, VLe.refl _, rfl, trivial⟩) ?_
  refine tdq_det rfl rfl (det_move_tup rfl rfl) ?_
  refine tdq_det rfl rfl (det_ex_agg rfl rfl rfl) ?_
  refine tdq_detF rfl rfl (det_ex_c rfl rfl rfl) ?_
  refine tdq_detF rfl rfl (det_ex_c rfl rfl rfl) ?_
  refine tdq_skip ?_
  refine tdq_nil ?_
  refine tdf_q ?_
  refine tdf_q ?_
  refine tdf_q ?_
  refine tdf_q ?_
  refine tdf_q ?_
  refine tdf_q ?_
  refine tdf_q ?_
  refine tdf_q ?_
  refine tdf_q ?_
  refine tdf_u ?_
  refine tdf_u ?_
  refine tdf_fresh (fresh_alloc' (ope_alloc rfl zr23)) ?_
  refine tdf_nil ?_
  refine allch_cons ?_
  rintro _ _ ⟨b2, rfl, rfl⟩
  refine allch_nil ?_
  refine ⟨_, det_store rfl sz23 rfl rfl rfl (st_row 0 rfl rfl), (by rintro _ _ ⟨rfl, rfl⟩; exact ⟨[_], rfl⟩), ?_⟩
  rintro _ _ ⟨rfl, rfl⟩
  refine td_det rfl rfl (det_assign rfl rfl) ?_
  refine td_nil ?_
  refine rwp_det rfl rfl (det_assign rfl rfl) ?_
  refine rwp_nil ?_
  refine awp_seq ?_
  refine awp_block ?_
  refine awp_seq ?_
  refine awp_region rfl ?_
  refine rwp_det rfl rfl (det_move rfl rfl) ?_
  refine rwp_det rfl rfl (det_not rfl rfl) ?_
  refine rwp_det rfl rfl (det_assign rfl rfl) ?_
  refine rwp_nil ?_
  refine awp_cond rfl (fun c2 => ?_) (fun c2 => ?_)
  ·try simp only [sx, List.length_map] at c2
   refine awp_seq ?_
   refine awp_region rfl ?_
   refine rwp_det rfl rfl (det_assign rfl rfl) ?_
   refine rwp_nil ?_
   refine awp_weak _ (Weak.mem [false, false, true, true] rfl) ?_
   refine awp_ret ?_
   repeat (first | refine thenQ_ret ?_ | refine blockQ_ret ?_)
   refine fin1 (rs_c rfl) ?_
   exact ⟨by rw [indexK, decide_eq_false c1, c2]; rfl, rfl⟩
  ·try simp only [sx, List.length_map] at c2
   refine awp_seq ?_
   refine awp_region rfl ?_
   refine rwp_det rfl rfl (det_field_lit rfl fd23_0 rfl) ?_
   refine rwp_det rfl rfl (det_load_one rfl one3 rfl (ptr_row 0 rfl) rfl) ?_
   refine rwp_det rfl rfl (det_neq rfl rfl rfl) ?_
   refine rwp_det rfl rfl (det_assign rfl rfl) ?_
   refine rwp_nil ?_
   refine awp_cond rfl (fun c3 => ?_) (fun c3 => ?_)
   ·try simp only [sx, List.length_map] at c3
    refine awp_seq ?_
    refine awp_region rfl ?_
    refine rwp_det rfl rfl (det_assign rfl rfl) ?_
    refine rwp_nil ?_
    refine awp_weak _ (Weak.mem [false, false, true, true] rfl) ?_
    refine awp_ret ?_
    repeat (first | refine thenQ_ret ?_ | refine blockQ_ret ?_)
    refine fin1 (rs_c rfl) ?_
    exact ⟨by rw [indexK, decide_eq_false c1, c2, decide_eq_false c3]; rfl, rfl⟩
   ·try simp only [sx, List.length_map] at c3
    refine awp_seq ?_
    refine awp_region rfl ?_
    refine rwp_det rfl rfl (det_field_lit rfl fd117_2 rfl) ?_
    refine rwp_det rfl rfl (det_load_one rfl one104 rfl (ptr_row 1 rfl) rfl) ?_
    refine rwp_det rfl rfl (det_len_slm rfl el104 rfl) ?_
    refine rwp_det rfl rfl (det_move rfl rfl) ?_
    refine rwp_det rfl rfl (det_len_slm rfl el104 rfl) ?_
    refine rwp_det rfl rfl (det_neq rfl rfl rfl) ?_
    refine rwp_det rfl rfl (det_assign rfl rfl) ?_
    refine rwp_nil ?_
    refine awp_cond rfl (fun c4 => ?_) (fun c4 => ?_)
    ·try simp only [sx, List.length_map] at c4
     refine awp_seq ?_
     refine awp_region rfl ?_
     refine rwp_det rfl rfl (det_assign rfl rfl) ?_
     refine rwp_nil ?_
     refine awp_weak _ (Weak.mem [false, false, true, true] rfl) ?_
     refine awp_ret ?_
     repeat (first | refine thenQ_ret ?_ | refine blockQ_ret ?_)
     refine fin1 (rs_c rfl) ?_
     exact ⟨by rw [indexK, decide_eq_false c1, c2, decide_eq_true c3, decide_eq_false (by omega)]; rfl, rfl⟩
    ·try simp only [sx, List.length_map] at c4
     refine awp_skip ?_
     refine awp_seq ?_
     refine awp_seq ?_
     refine awp_region rfl ?_
     refine rwp_det rfl rfl (det_field_lit rfl fd117_2 rfl) ?_
     refine rwp_det rfl rfl (det_load_one rfl one104 rfl (ptr_row 1 rfl) rfl) ?_
     refine rwp_det rfl rfl (det_len_slm rfl el104 rfl) ?_
     refine rwp_det rfl rfl (det_move rfl rfl) ?_
     refine rwp_nil ?_
     refine awp_block ?_
     refine awp_weak ⟨[(46, .c _), (0, .c _), (44, .c _), (45, .c _)], [_, _]⟩ (Weak.mk [false, false, true, true] ⟨VLe.of_eq rfl, VLe.of_eq rfl, VLe.of_eq rfl, VLe.of_eq rfl, trivial⟩ rfl) ?_
     refine awp_loop_k 1 0 rfl rfl (Nat) (fun k => [(46, vI k)]) (fun k => []) (fun k => k ≤ x.At.length ∧ ((x.At.take k).all (fun x => knL (kn m) x.L) = true)) (fun k => x.At.length - k) ⟨0, ⟨by omega, rfl⟩, Weak.mk [true, true] ⟨VLe.refl _, VLe.refl _, VLe.refl _, VLe.refl _, trivial⟩ rfl⟩ ?_
     rintro k ⟨hk, hp⟩
     refine awp_seq ?_
     refine awp_region rfl ?_
     refine rwp_det rfl rfl (det_lss rfl rfl rfl) ?_
     refine rwp_nil ?_
     refine awp_seq ?_
     refine awp_cond rfl (fun c5 => ?_) (fun c5 => ?_)
     ·try simp only [sx, List.length_map] at c5
      obtain ⟨l, hl⟩ := ex_get x.At k (by omega)
      refine awp_skip ?_
      refine awp_seq ?_
      refine awp_block ?_
      refine awp_seq ?_
      refine awp_region rfl ?_
      refine rwp_det rfl rfl (det_index_sl rfl el104 rfl rfl (by omega) (getm (by assumption))) ?_
      refine rwp_det rfl rfl (det_load_agg rfl agg29 rfl ptr_imm rfl) ?_
      refine rwp_op rfl rfl (ope_allocN [none, some 2] rfl zr29 rfl) ?_
      rintro _ _ ⟨b3, rfl, rfl⟩
      refine rwp_det0 rfl rfl (det_store rfl sz29 rfl rfl rfl (st_row 0 rfl rfl)) ?_
      refine rwp_nil ?_
      refine awp_seq ?_
      refine awp_region rfl ?_
      refine rwp_det rfl rfl (det_move rfl rfl) ?_
      refine rwp_det rfl rfl (det_load_agg rfl agg29 rfl (ptr_row 0 rfl) rfl) ?_
      refine rwp_det rfl rfl (det_call_mem [1, 1] rfl ok264 (typer_form b mb p m l (by have := linsWt_mem (mem_of_get hl); omega)) ⟨VLe.refl _, rfl, VLe.refl _, rfl, trivial⟩ rfl) ?_
      refine rwp_det rfl rfl (det_assign rfl rfl) ?_
      refine rwp_nil ?_
      refine awp_seq ?_
      refine awp_region rfl ?_
      refine rwp_det rfl rfl (det_move rfl rfl) ?_
      refine rwp_det rfl rfl (det_neq rfl rfl rfl) ?_
      refine rwp_nil ?_
      refine awp_cond rfl (fun c6 => ?_) (fun c6 => ?_)
      ·try simp only [sx, List.length_map] at c6
       refine awp_seq ?_
       refine awp_region rfl ?_
       refine rwp_det rfl rfl (det_move rfl rfl) ?_
       refine rwp_det rfl rfl (det_assign rfl rfl) ?_
       refine rwp_nil ?_
       refine awp_weak _ (Weak.mem [false, true, true] rfl) ?_
       refine awp_ret ?_
       repeat (first | refine thenQ_ret ?_ | refine blockQ_ret ?_)
       refine fin1 (rs_c rfl) ?_
       exact ⟨by rw [indexK, decide_eq_false c1, c2, decide_eq_true c3, decide_eq_true (by omega)]; simp only [cond_false, Bool.not_true]; rw [formsK_no hl c6], rfl⟩
      ·try simp only [sx, List.length_map] at c6
       refine awp_skip ?_
       refine awp_region rfl ?_
       refine rwp_det rfl rfl (det_add_nw rfl rfl rfl ⟨by omega, by omega⟩) ?_
       refine rwp_det rfl rfl (det_move rfl rfl) ?_
       refine rwp_nil ?_
       refine ⟨k + 1, ⟨by omega, formsK_next hl hp c6⟩, (by omega), Weak.mk [false, true, true] ⟨VLe.refl _, VLe.refl _, VLe.refl _, VLe.refl _, trivial⟩ rfl⟩
     ·try simp only [sx, List.length_map] at c5
      refine awp_exit ?_
      refine awp_seq ?_
      refine awp_region rfl ?_
      refine rwp_det rfl rfl (det_assign rfl rfl) ?_
      refine rwp_nil ?_
      refine awp_ret ?_
      repeat (first | refine thenQ_ret ?_ | refine blockQ_ret ?_)
      refine fin1 (rs_c rfl) ?_
      exact ⟨by rw [take_all (by omega)] at hp; rw [indexK, decide_eq_false c1, c2, decide_eq_true c3, decide_eq_true (by omega)]; simp only [cond_false, Bool.not_true]; rw [formsK_ok hp], rfl⟩

end Go.W
