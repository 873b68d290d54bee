/-
  Walks: what functions of the program compute. Printed by wip/gen/mk2.py.
  Conditions: none.
-/
import Derived.Test.YtnnkemdiknefaaaGreatDoorWJ
import Derived.Test.YtnnkemdiknefaaaGreatDoorPlain
set_option linter.unusedSimpArgs false
set_option linter.unusedVariables false
namespace Go.W
open Go Go.Eng Go.Proofs Go.L41 Go.Br
attribute [local irreducible] AWP RWP TD
theorem agg88 : aggT Tryz.prog 88 = some 3 := by kernel_rfl
theorem el24 : elemT Tryz.prog 24 = some (88, 3, 48) := by kernel_rfl
theorem el43 : elemT Tryz.prog 43 = some (111, 3, 40) := by kernel_rfl
theorem el44 : elemT Tryz.prog 44 = some (106, 7, 80) := by kernel_rfl
theorem el181 : elemT Tryz.prog 181 = some (3, 1, 8) := by kernel_rfl
theorem el244 : elemT Tryz.prog 244 = some (24, 1, 24) := by kernel_rfl
theorem fd35_2 : fieldT Tryz.prog 35 2 = some (6, 24) := by kernel_rfl
theorem fd35_3 : fieldT Tryz.prog 35 3 = some (7, 24) := by kernel_rfl
theorem fd35_4 : fieldT Tryz.prog 35 4 = some (8, 3) := by kernel_rfl
theorem fd47_0 : fieldT Tryz.prog 47 0 = some (0, 42) := by kernel_rfl
theorem fd47_1 : fieldT Tryz.prog 47 1 = some (1, 43) := by kernel_rfl
theorem fd47_2 : fieldT Tryz.prog 47 2 = some (2, 44) := by kernel_rfl
theorem fd47_4 : fieldT Tryz.prog 47 4 = some (4, 42) := by kernel_rfl
theorem fd88_0 : fieldT Tryz.prog 88 0 = some (0, 9) := by kernel_rfl
theorem fd111_0 : fieldT Tryz.prog 111 0 = some (0, 29) := by kernel_rfl
theorem ik3 : intT Tryz.prog 3 = some .i64 := by kernel_rfl
theorem ok234 : callOk Tryz.prog 234 = true := by kernel_rfl
theorem ok235 : callOk Tryz.prog 235 = true := by kernel_rfl
theorem ok262 : callOk Tryz.prog 262 = true := by kernel_rfl
theorem one24 : oneT Tryz.prog 24 = true := by kernel_rfl
theorem one42 : oneT Tryz.prog 42 = true := by kernel_rfl
theorem one43 : oneT Tryz.prog 43 = true := by kernel_rfl
theorem one44 : oneT Tryz.prog 44 = true := by kernel_rfl
theorem sz88 : (Tryz.prog.info? 88).map (·.size) = some 3 := by kernel_rfl
theorem zr24 : zeroT Tryz.prog 24 = some [(Value.slice none 0 0)] := by kernel_rfl
theorem zr88 : zeroT Tryz.prog 88 = some [(Value.string (ByteArray.mk #[])), (Value.int IntKind.i64 0), (Value.slice none 0 0)] := by kernel_rfl
theorem slices_Grow_ax (n : Nat) (hn : n ≤ 4294967296) :
    OwnR cfg 262 [.c (.lit (.slice none 0 0)), vI n] 88 3 ([]) := by
 refine con_intro Tryz.func262 rfl Tryz.ntmps262 Tryz.results262 rfl ?_
 intro z hz
 refine awp_seq ?_
 refine awp_region rfl ?_
 refine rwp_det rfl rfl (det_assignN 3 rfl rfl) ?_
 refine rwp_nil ?_
 refine awp_seq ?_
 refine awp_seq ?_
 refine awp_region rfl ?_
 refine rwp_det rfl rfl (det_move rfl rfl) ?_
 refine rwp_det rfl rfl (det_lss rfl rfl rfl) ?_
 refine rwp_nil ?_
 refine awp_cond rfl (fun c1 => ?_) (fun c1 => ?_)
 ·try simp only [sx, List.length_map] at c1
  exact absurd c1 (by omega)
 ·try simp only [sx, List.length_map] at c1
  refine awp_skip ?_
  refine awp_seq ?_
  refine awp_seq ?_
  refine awp_region rfl ?_
  refine rwp_det rfl rfl (det_move rfl rfl) ?_
  refine rwp_det rfl rfl (det_move rfl rfl) ?_
  refine rwp_det rfl rfl (det_cap_nil rfl el24 rfl) ?_
  refine rwp_det rfl rfl (det_move rfl rfl) ?_
  refine rwp_det rfl rfl (det_len_nil rfl el24 rfl) ?_
  refine rwp_det rfl rfl (det_sub_nw rfl rfl rfl ⟨by omega, by omega⟩) ?_
  refine rwp_det rfl rfl (det_sub_nw rfl rfl rfl ⟨by omega, by omega⟩) ?_
  refine rwp_det rfl rfl (det_assign rfl rfl) ?_
  refine rwp_nil ?_
  refine awp_seq ?_
  refine awp_region rfl ?_
  refine rwp_det rfl rfl (det_move rfl rfl) ?_
  refine rwp_det rfl rfl (det_gtr rfl rfl rfl) ?_
  refine rwp_nil ?_
  refine awp_cond rfl (fun c2 => ?_) (fun c2 => ?_)
  ·try simp only [sx, List.length_map] at c2
   refine awp_region rfl ?_
   refine rwp_det rfl rfl (det_move rfl rfl) ?_
   refine rwp_det rfl rfl (det_move rfl rfl) ?_
   refine rwp_det rfl rfl (det_cap_nil rfl el24 rfl) ?_
   refine rwp_det rfl rfl (det_cut_nil rfl el24 rfl rfl) ?_
   refine rwp_det rfl rfl (det_move rfl rfl) ?_
   refine rwp_op rfl rfl (ope_grow n rfl el24 ik3 rfl rfl (by omega) (by omega) (by omega) (by omega)) ?_
   rintro _ _ ⟨b1, cap1, rfl, hcap1, rfl⟩
   refine rwp_det rfl rfl (det_move rfl rfl) ?_
   refine rwp_det rfl rfl (det_len_nil rfl el24 rfl) ?_
   refine rwp_det rfl rfl (det_cut_row 0 rfl el24 rfl rfl rfl ⟨by omega, hcap1⟩) ?_
   refine rwp_det rfl rfl (det_assign rfl rfl) ?_
   refine rwp_nil ?_
   refine awp_seq ?_
   refine awp_region rfl ?_
   refine rwp_det rfl rfl (det_move rfl rfl) ?_
   refine rwp_det rfl rfl (det_assign rfl rfl) ?_
   refine rwp_nil ?_
   refine awp_ret ?_
   repeat (first | refine thenQ_ret ?_ | refine blockQ_ret ?_)
   refine fin1 (rs_c rfl) ?_
   exact ⟨_, rfl, rfl⟩
  ·try simp only [sx, List.length_map] at c2
   refine awp_skip ?_
   refine awp_seq ?_
   refine awp_region rfl ?_
   refine rwp_det rfl rfl (det_move rfl rfl) ?_
   refine rwp_weak _ (weak_own 88 3) ?_
   refine rwp_det rfl rfl (det_assign rfl rfl) ?_
   refine rwp_nil ?_
   refine awp_ret ?_
   repeat (first | refine thenQ_ret ?_ | refine blockQ_ret ?_)
   refine fin1 (rs_c rfl) ?_
   exact ⟨_, rfl, rfl⟩

theorem slices_Concat_ax (ls : List (List Ax)) (hl : ls.length ≤ 4294967296) (ht : totL ls ≤ 4294967296) :
    OwnR cfg 235 [.c (.sl 1 (ls.map fun l => [.sl 3 (l.map Ax.cells)]))] 88 3 (ls.flatten.map Ax.cells) := by
 refine con_intro Tryz.func235 rfl Tryz.ntmps235 Tryz.results235 rfl ?_
 intro z hz
 refine awp_seq ?_
 refine awp_region rfl ?_
 refine rwp_det rfl rfl (det_assignN 3 rfl rfl) ?_
 refine rwp_nil ?_
 refine awp_seq ?_
 refine awp_region rfl ?_
 refine rwp_det rfl rfl (det_assign rfl rfl) ?_
 refine rwp_nil ?_
 refine awp_seq ?_
 refine awp_seq ?_
 refine awp_region rfl ?_
 refine rwp_det rfl rfl (det_move rfl rfl) ?_
 refine rwp_det rfl rfl (det_len_slm rfl el244 rfl) ?_
 refine rwp_det rfl rfl (det_move rfl rfl) ?_
 refine rwp_nil ?_
 refine awp_block ?_
 refine awp_weak ⟨[(11, .c _), (3, .c _), (0, .c _), (9, .c _), (10, .c _)], []⟩ (Weak.mk [] ⟨VLe.of_eq rfl, VLe.of_eq rfl, VLe.of_eq rfl, VLe.of_eq rfl, VLe.of_eq rfl, trivial⟩ rfl) ?_
 refine awp_loop_k 2 0 rfl rfl (Nat) (fun k => [(11, vI k), (3, vI (totL (ls.take k)))]) (fun k => []) (fun k => k ≤ ls.length) (fun k => ls.length - k) ⟨0, (by omega), Weak.mk [] ⟨VLe.refl _, VLe.refl _, VLe.refl _, VLe.refl _, VLe.refl _, trivial⟩ rfl⟩ ?_
 rintro k hk
 refine awp_seq ?_
 refine awp_region rfl ?_
 refine rwp_det rfl rfl (det_lss rfl rfl rfl) ?_
 refine rwp_nil ?_
 refine awp_seq ?_
 refine awp_cond rfl (fun c1 => ?_) (fun c1 => ?_)
 ·try simp only [sx, List.length_map] at c1
  obtain ⟨x, hx⟩ := ex_get ls k (by omega)
  have hb1 := tot_get hx
  refine awp_skip ?_
  refine awp_seq ?_
  refine awp_block ?_
  refine awp_seq ?_
  refine awp_region rfl ?_
  refine rwp_det rfl rfl (det_index_sl rfl el244 rfl rfl (by omega) (getm (by assumption))) ?_
  refine rwp_det rfl rfl (det_load_one rfl one24 rfl ptr_imm rfl) ?_
  refine rwp_det rfl rfl (det_assign rfl rfl) ?_
  refine rwp_nil ?_
  refine awp_seq ?_
  refine awp_region rfl ?_
  refine rwp_det rfl rfl (det_move rfl rfl) ?_
  refine rwp_det rfl rfl (det_move rfl rfl) ?_
  refine rwp_det rfl rfl (det_len_slm rfl el24 rfl) ?_
  refine rwp_det rfl rfl (det_add_nw rfl rfl rfl ⟨by omega, by omega⟩) ?_
  refine rwp_det rfl rfl (det_assign rfl rfl) ?_
  refine rwp_nil ?_
  refine awp_seq ?_
  refine awp_region rfl ?_
  refine rwp_det rfl rfl (det_move rfl rfl) ?_
  refine rwp_det rfl rfl (det_lss rfl rfl rfl) ?_
  refine rwp_nil ?_
  refine awp_cond rfl (fun c2 => ?_) (fun c2 => ?_)
  ·try simp only [sx, List.length_map] at c2
   exact absurd c2 (by omega)
  ·try simp only [sx, List.length_map] at c2
   refine awp_skip ?_
   refine awp_region rfl ?_
   refine rwp_det rfl rfl (det_add_nw rfl rfl rfl ⟨by omega, by omega⟩) ?_
   refine rwp_det rfl rfl (det_move rfl rfl) ?_
   refine rwp_nil ?_
   refine ⟨k + 1, (by omega), (by omega), Weak.mk [] ⟨VLe.refl _, VLe.of_eq (congrArg vI (by rw [tot_next hx]; simp)), VLe.refl _, VLe.refl _, VLe.refl _, trivial⟩ rfl⟩
 ·try simp only [sx, List.length_map] at c1
  have hT : totL (ls.take k) = totL ls := by rw [take_all (by omega)]
  refine awp_exit ?_
  refine awp_seq ?_
  refine awp_region rfl ?_
  refine rwp_det rfl rfl (det_move rfl rfl) ?_
  refine rwp_op rfl rfl (ope_call_own rfl ok262 (slices_Grow_ax (totL (ls.take k)) (by omega)) ⟨VLe.refl _, rfl, VLe.refl _, rfl, trivial⟩) ?_
  rintro _ _ ⟨sv1, rfl, rfl⟩
  refine rwp_det rfl rfl (det_assign rfl rfl) ?_
  refine rwp_nil ?_
  refine awp_seq ?_
  refine awp_seq ?_
  refine awp_region rfl ?_
  refine rwp_det rfl rfl (det_move rfl rfl) ?_
  refine rwp_det rfl rfl (det_len_slm rfl el244 rfl) ?_
  refine rwp_det rfl rfl (det_move rfl rfl) ?_
  refine rwp_nil ?_
  refine awp_block ?_
  refine awp_weak ⟨[(27, .c _), (6, .c _), (25, .c _), (26, .c _)], [_]⟩ (Weak.mk [true] ⟨VLe.of_eq rfl, VLe.of_eq rfl, VLe.of_eq rfl, VLe.of_eq rfl, trivial⟩ rfl) ?_
  refine awp_loop_k 2 1 rfl rfl (Nat × Value) (fun ⟨k, sv⟩ => [(27, vI k), (6, .c (.lit sv))]) (fun ⟨k, sv⟩ => [E.vec sv 88 3 ((ls.take k).flatten.map Ax.cells)]) (fun ⟨k, sv⟩ => k ≤ ls.length) (fun ⟨k, sv⟩ => ls.length - k) ⟨⟨0, _⟩, (by omega), Weak.mk [true] ⟨VLe.refl _, VLe.refl _, VLe.refl _, VLe.refl _, trivial⟩ rfl⟩ ?_
  rintro ⟨k, sv⟩ hk
  show AWP _ _ _ _ _ ⟨[(27, vI k), (6, .c (.lit sv))] ++ _, [E.vec sv 88 3 ((ls.take k).flatten.map Ax.cells)] ++ _⟩
  refine awp_seq ?_
  refine awp_region rfl ?_
  refine rwp_det rfl rfl (det_lss rfl rfl rfl) ?_
  refine rwp_nil ?_
  refine awp_seq ?_
  refine awp_cond rfl (fun c3 => ?_) (fun c3 => ?_)
  ·try simp only [sx, List.length_map] at c3
   obtain ⟨x, hx⟩ := ex_get ls k (by omega)
   refine awp_skip ?_
   refine awp_seq ?_
   refine awp_block ?_
   refine awp_seq ?_
   refine awp_region rfl ?_
   refine rwp_det rfl rfl (det_index_sl rfl el244 rfl rfl (by omega) (getm (by assumption))) ?_
   refine rwp_det rfl rfl (det_load_one rfl one24 rfl ptr_imm rfl) ?_
   refine rwp_det rfl rfl (det_assign rfl rfl) ?_
   refine rwp_nil ?_
   refine awp_region rfl ?_
   refine rwp_det rfl rfl (det_move rfl rfl) ?_
   refine rwp_det rfl rfl (det_move rfl rfl) ?_
   refine rwp_op rfl rfl (ope_append 0 rfl el24 rfl rfl rfl (by have := tot_flat hx; simp only [List.length_map]; omega) (by have := tot_flat hx; simp only [List.length_map]; omega)) ?_
   rintro _ _ ⟨sv2, rfl, rfl⟩
   refine rwp_det rfl rfl (det_assign rfl rfl) ?_
   refine rwp_nil ?_
   refine awp_region rfl ?_
   refine rwp_det rfl rfl (det_add_nw rfl rfl rfl ⟨by omega, by omega⟩) ?_
   refine rwp_det rfl rfl (det_move rfl rfl) ?_
   refine rwp_nil ?_
   refine ⟨⟨k + 1, sv2⟩, (by omega), (by show ls.length - (k + 1) < ls.length - k; omega), Weak.mk [true] ⟨VLe.refl _, VLe.refl _, VLe.refl _, VLe.refl _, trivial⟩ (by show _ = [E.vec sv2 _ 3 ((ls.take (k + 1)).flatten.map Ax.cells)] ++ _; rw [take_next hx, List.flatten_append, List.map_append]; simp only [List.flatten_cons, List.flatten_nil, List.append_nil]; rfl)⟩
  ·try simp only [sx, List.length_map] at c3
   refine awp_exit ?_
   refine awp_seq ?_
   refine awp_region rfl ?_
   refine rwp_det rfl rfl (det_move rfl rfl) ?_
   refine rwp_det rfl rfl (det_assign rfl rfl) ?_
   refine rwp_nil ?_
   refine awp_ret ?_
   repeat (first | refine thenQ_ret ?_ | refine blockQ_ret ?_)
   refine fin1 (rs_c rfl) ?_
   exact ⟨_, rfl, by rw [take_all (by omega)]; rfl⟩

theorem slices_Concat_two (x y : List Ax) (hx : x.length ≤ 1073741824) (hy : y.length ≤ 1073741824) : OwnR cfg 235 [.c (.sl 1 [[.sl 3 (x.map Ax.cells)], [.sl 3 (y.map Ax.cells)]])] 88 3 ((x ++ y).map Ax.cells) := by
  have h := slices_Concat_ax [x, y] (by simp) (by simp only [totL]; omega)
  simpa using h

theorem program_IndexNames (d : Df) (hD : d.Dims.length ≤ 1073741824) (hR : d.Red.length ≤ 1073741824) :
    OwnR cfg 199 [vDf d] 9 1 ((namesD d).map fun s => [cS s]) := by
 refine con_intro Tryz.func199 rfl Tryz.ntmps199 Tryz.results199 rfl ?_
 intro z hz
 refine awp_seq ?_
 refine awp_region rfl ?_
 refine rwp_op rfl rfl (ope_box rfl rfl) ?_
 rintro _ _ ⟨b1, rfl, rfl⟩
 refine rwp_det rfl rfl (det_assignN 1 rfl rfl) ?_
 refine rwp_nil ?_
 refine awp_seq ?_
 refine awp_region rfl ?_
 refine rwp_det rfl rfl (det_assign rfl rfl) ?_
 refine rwp_weak _ (weak_own 9 1) ?_
 refine rwp_nil ?_
 refine awp_seq ?_
 refine awp_seq ?_
 refine awp_region rfl ?_
 refine rwp_det rfl rfl (det_field_lit rfl fd35_2 rfl) ?_
 refine rwp_det rfl rfl (det_load_one rfl one24 rfl (ptr_row 1 rfl) rfl) ?_
 refine rwp_det rfl rfl (det_field_lit rfl fd35_3 rfl) ?_
 refine rwp_det rfl rfl (det_load_one rfl one24 rfl (ptr_row 1 rfl) rfl) ?_
 refine rwp_det rfl rfl (det_bslice rfl el244 zr24 rfl rfl rfl rfl) ?_
 refine rwp_det rfl rfl (det_call rfl ok235 (OwnR.pur (slices_Concat_two d.Dims d.Red hD hR)) ⟨VLe.refl _, rfl, trivial⟩) ?_
 refine rwp_det rfl rfl (det_len_slm rfl el24 rfl) ?_
 refine rwp_det rfl rfl (det_move rfl rfl) ?_
 refine rwp_nil ?_
 refine awp_block ?_
 refine awp_weak ⟨[(13, .c _), (3, .c _), (11, .c _), (12, .c _)], [_]⟩ (Weak.mk [true, false] ⟨VLe.of_eq rfl, VLe.of_eq rfl, VLe.of_eq rfl, VLe.of_eq rfl, trivial⟩ rfl) ?_
 refine awp_loop_k 2 1 rfl rfl (Nat × Value) (fun ⟨k, sv⟩ => [(13, vI k), (3, .c (.lit sv))]) (fun ⟨k, sv⟩ => [E.vec sv 9 1 (((d.Dims ++ d.Red).take k).map fun a => [cS a.Name])]) (fun ⟨k, sv⟩ => k ≤ (d.Dims ++ d.Red).length) (fun ⟨k, sv⟩ => (d.Dims ++ d.Red).length - k) ⟨⟨0, (.slice none 0 0)⟩, (by omega), Weak.mk [true] ⟨VLe.refl _, VLe.refl _, VLe.refl _, VLe.refl _, trivial⟩ rfl⟩ ?_
 rintro ⟨k, sv⟩ hk
 show AWP _ _ _ _ _ ⟨[(13, vI k), (3, .c (.lit sv))] ++ _, [E.vec sv 9 1 (((d.Dims ++ d.Red).take k).map fun a => [cS a.Name])] ++ _⟩
 refine awp_seq ?_
 refine awp_region rfl ?_
 refine rwp_det rfl rfl (det_lss rfl rfl rfl) ?_
 refine rwp_nil ?_
 refine awp_seq ?_
 refine awp_cond rfl (fun c1 => ?_) (fun c1 => ?_)
 ·try simp only [sx, List.length_map] at c1
  obtain ⟨x, hx⟩ := ex_get (d.Dims ++ d.Red) k (by omega)
  have hlen : (d.Dims ++ d.Red).length ≤ 2147483648 := by rw [List.length_append]; omega
  refine awp_skip ?_
  refine awp_seq ?_
  refine awp_block ?_
  refine awp_seq ?_
  refine awp_region rfl ?_
  refine rwp_det rfl rfl (det_index_sl rfl el24 rfl rfl (by omega) (getm (by assumption))) ?_
  refine rwp_det rfl rfl (det_load_agg rfl agg88 rfl ptr_imm rfl) ?_
  refine rwp_op rfl rfl (ope_allocN [none, none, some 2] rfl zr88 rfl) ?_
  rintro _ _ ⟨b3, rfl, rfl⟩
  refine rwp_det0 rfl rfl (det_store rfl sz88 rfl rfl rfl (st_row 0 rfl rfl)) ?_
  refine rwp_nil ?_
  refine awp_region rfl ?_
  refine rwp_det rfl rfl (det_move rfl rfl) ?_
  refine rwp_det rfl rfl (det_field_lit rfl fd88_0 rfl) ?_
  refine rwp_det rfl rfl (det_load_one rfl one9 rfl (ptr_row 0 rfl) rfl) ?_
  refine rwp_det rfl rfl (det_bslice rfl el42 zr9 rfl rfl rfl rfl) ?_
  refine rwp_op rfl rfl (ope_append 1 rfl el42 rfl rfl rfl (by simp only [List.length_take, List.length_map, List.length_cons, List.length_nil]; omega) (by simp only [List.length_take, List.length_map, List.length_cons, List.length_nil]; omega)) ?_
  rintro _ _ ⟨sv4, rfl, rfl⟩
  refine rwp_det rfl rfl (det_assign rfl rfl) ?_
  refine rwp_nil ?_
  refine awp_region rfl ?_
  refine rwp_det rfl rfl (det_add_nw rfl rfl rfl ⟨by omega, by omega⟩) ?_
  refine rwp_det rfl rfl (det_move rfl rfl) ?_
  refine rwp_nil ?_
  refine ⟨⟨k + 1, sv4⟩, (by omega), (by show (d.Dims ++ d.Red).length - (k + 1) < (d.Dims ++ d.Red).length - k; omega), Weak.mk [false, true] ⟨VLe.refl _, VLe.refl _, VLe.refl _, VLe.refl _, trivial⟩ (by show _ = [E.vec sv4 _ 1 (((d.Dims ++ d.Red).take (k + 1)).map fun a => [cS a.Name])] ++ _; rw [take_next hx, List.map_append (f := fun a : Ax => [cS a.Name])]; rfl)⟩
 ·try simp only [sx, List.length_map] at c1
  refine awp_exit ?_
  refine awp_seq ?_
  refine awp_region rfl ?_
  refine rwp_det rfl rfl (det_move rfl rfl) ?_
  refine rwp_det rfl rfl (det_assign rfl rfl) ?_
  refine rwp_nil ?_
  refine awp_ret ?_
  repeat (first | refine thenQ_ret ?_ | refine blockQ_ret ?_)
  refine fin1 (rs_c rfl) ?_
  exact ⟨_, rfl, by rw [take_all (by omega), names_rows]; rfl⟩

theorem program_limits (p : Pg) :
    Pur cfg 133 [vPg p] (vB (decide (limitOk p))) := by
 refine con_intro Tryz.func133 rfl Tryz.ntmps133 Tryz.results133 rfl ?_
 intro z hz
 refine awp_seq ?_
 refine awp_region rfl ?_
 refine rwp_op rfl rfl (ope_box rfl rfl) ?_
 rintro _ _ ⟨b1, rfl, rfl⟩
 refine rwp_det rfl rfl (det_assign rfl rfl) ?_
 refine rwp_nil ?_
 refine awp_seq ?_
 refine awp_region rfl ?_
 refine rwp_det rfl rfl (det_field_lit rfl fd47_0 rfl) ?_
 refine rwp_det rfl rfl (det_load_one rfl one42 rfl (ptr_row 0 rfl) rfl) ?_
 refine rwp_det rfl rfl (det_len_slm rfl el42 rfl) ?_
 refine rwp_det rfl rfl (det_field_lit rfl fd47_2 rfl) ?_
 refine rwp_det rfl rfl (det_load_one rfl one44 rfl (ptr_row 0 rfl) rfl) ?_
 refine rwp_det rfl rfl (det_len_slm rfl el44 rfl) ?_
 refine rwp_det rfl rfl (det_field_lit rfl fd47_3 rfl) ?_
 refine rwp_det rfl rfl (det_load_one rfl one45 rfl (ptr_row 0 rfl) rfl) ?_
 refine rwp_det rfl rfl (det_len_slm rfl el45 rfl) ?_
 refine rwp_det rfl rfl (det_field_lit rfl fd47_4 rfl) ?_
 refine rwp_det rfl rfl (det_load_one rfl one42 rfl (ptr_row 0 rfl) rfl) ?_
 refine rwp_det rfl rfl (det_len_slm rfl el42 rfl) ?_
 refine rwp_det rfl rfl (det_max4 rfl rfl rfl rfl rfl) ?_
 refine rwp_det rfl rfl (det_leq rfl rfl rfl) ?_
 refine rwp_det rfl rfl (det_move rfl rfl) ?_
 refine rwp_lazy [] rfl rfl rfl rfl gv1 trivial (fun g1_14 => det_field_lit rfl fd47_1 rfl) rfl ?_
 refine rwp_lazy [(18, _)] rfl rfl rfl rfl gv1 ⟨rfl, rfl, trivial⟩ (fun g1_14 => det_load_one rfl one43 rfl (ptr_row 0 rfl) rfl) rfl ?_
 refine rwp_lazy [(19, _)] rfl rfl rfl rfl gv1 ⟨rfl, rfl, trivial⟩ (fun g1_14 => det_len_slm rfl el43 rfl) rfl ?_
 refine rwp_lazy [(20, _)] rfl rfl rfl rfl gv1 ⟨rfl, rfl, trivial⟩ (fun g1_14 => det_leq rfl rfl rfl) rfl ?_
 refine rwp_det rfl rfl (det_and rfl rfl rfl (fun h => h) rfl) ?_
 refine rwp_det rfl rfl (det_assign rfl rfl) ?_
 refine rwp_nil ?_
 refine awp_ret ?_
 repeat (first | refine thenQ_ret ?_ | refine blockQ_ret ?_)
 refine fin1 (rs_c rfl) ?_
 exact congrArg vB (limit_eq p)

theorem slices_Max_int (l : List Int) (x0 : Int) (h0 : l[0]? = some x0) (hl : l.length ≤ 4294967296) :
    Pur cfg 234 [.c (.sl 1 (l.map fun n => [cI n]))] (vI (maxT l l.length)) := by
 refine con_intro Tryz.func234 rfl Tryz.ntmps234 Tryz.results234 rfl ?_
 intro z hz
 have hlen := len_of_get h0
 refine awp_seq ?_
 refine awp_region rfl ?_
 refine rwp_det rfl rfl (det_assign rfl rfl) ?_
 refine rwp_nil ?_
 refine awp_seq ?_
 refine awp_seq ?_
 refine awp_region rfl ?_
 refine rwp_det rfl rfl (det_move rfl rfl) ?_
 refine rwp_det rfl rfl (det_len_slm rfl el181 rfl) ?_
 refine rwp_det rfl rfl (det_lss rfl rfl rfl) ?_
 refine rwp_nil ?_
 refine awp_cond rfl (fun c1 => ?_) (fun c1 => ?_)
 ·try simp only [sx, List.length_map] at c1
  exact absurd c1 (by omega)
 ·try simp only [sx, List.length_map] at c1
  refine awp_skip ?_
  refine awp_seq ?_
  refine awp_region rfl ?_
  refine rwp_det rfl rfl (det_move rfl rfl) ?_
  refine rwp_det rfl rfl (det_index_sl rfl el181 rfl rfl (by omega) (getm h0)) ?_
  refine rwp_det rfl rfl (det_load_one rfl one3 rfl ptr_imm rfl) ?_
  refine rwp_det rfl rfl (det_assign rfl rfl) ?_
  refine rwp_nil ?_
  refine awp_seq ?_
  refine awp_seq ?_
  refine awp_region rfl ?_
  refine rwp_det rfl rfl (det_assign rfl rfl) ?_
  refine rwp_nil ?_
  refine awp_block ?_
  refine awp_weak ⟨[(4, .c _), (3, .c _), (0, .c _)], []⟩ (Weak.mk [] ⟨VLe.of_eq rfl, VLe.of_eq rfl, VLe.of_eq rfl, trivial⟩ rfl) ?_
  refine awp_loop_k 2 0 rfl rfl (Nat) (fun k => [(4, vI k), (3, vI (maxT l k))]) (fun k => []) (fun k => 1 ≤ k ∧ k ≤ l.length) (fun k => l.length - k) ⟨1, ⟨by omega, by omega⟩, Weak.mk [] ⟨VLe.refl _, VLe.of_eq (congrArg vI (maxT_one h0)), VLe.refl _, trivial⟩ rfl⟩ ?_
  rintro k ⟨hk1, hk⟩
  refine awp_seq ?_
  refine awp_seq ?_
  refine awp_region rfl ?_
  refine rwp_det rfl rfl (det_move rfl rfl) ?_
  refine rwp_det rfl rfl (det_move rfl rfl) ?_
  refine rwp_det rfl rfl (det_len_slm rfl el181 rfl) ?_
  refine rwp_det rfl rfl (det_lss rfl rfl rfl) ?_
  refine rwp_nil ?_
  refine awp_cond rfl (fun c2 => ?_) (fun c2 => ?_)
  ·try simp only [sx, List.length_map] at c2
   obtain ⟨x, hx⟩ := ex_get l k (by omega)
   refine awp_skip ?_
   refine awp_seq ?_
   refine awp_block ?_
   refine awp_region rfl ?_
   refine rwp_det rfl rfl (det_move rfl rfl) ?_
   refine rwp_det rfl rfl (det_move rfl rfl) ?_
   refine rwp_det rfl rfl (det_move rfl rfl) ?_
   refine rwp_det rfl rfl (det_index_sl rfl el181 rfl rfl (by omega) (getm (by assumption))) ?_
   refine rwp_det rfl rfl (det_load_one rfl one3 rfl ptr_imm rfl) ?_
   refine rwp_det rfl rfl (det_max rfl rfl rfl) ?_
   refine rwp_det rfl rfl (det_assign rfl rfl) ?_
   refine rwp_nil ?_
   refine awp_region rfl ?_
   refine rwp_det rfl rfl (det_move rfl rfl) ?_
   refine rwp_det rfl rfl (det_add_nw rfl rfl rfl ⟨by omega, by omega⟩) ?_
   refine rwp_det rfl rfl (det_assign rfl rfl) ?_
   refine rwp_nil ?_
   refine ⟨k + 1, ⟨by omega, by omega⟩, (by omega), Weak.mk [] ⟨VLe.refl _, VLe.of_eq (congrArg vI (maxT_next hx)), VLe.refl _, trivial⟩ rfl⟩
  ·try simp only [sx, List.length_map] at c2
   refine awp_exit ?_
   refine awp_seq ?_
   refine awp_region rfl ?_
   refine rwp_det rfl rfl (det_move rfl rfl) ?_
   refine rwp_det rfl rfl (det_assign rfl rfl) ?_
   refine rwp_nil ?_
   refine awp_ret ?_
   repeat (first | refine thenQ_ret ?_ | refine blockQ_ret ?_)
   refine fin1 (rs_c rfl) ?_
   exact congrArg vI (by rw [show k = l.length by omega])

theorem program_declared (t : Ty) (l : List Int) (x0 : Int) (h0 : l[0]? = some x0) (hl : l.length ≤ 4294967296) :
    Pur cfg 195 [vTy t, .c (.sl 1 (l.map fun n => [cI n]))] (vI (declE t l)) := by
 refine con_intro Tryz.func195 rfl Tryz.ntmps195 Tryz.results195 rfl ?_
 intro z hz
 refine awp_seq ?_
 refine awp_region rfl ?_
 refine rwp_op rfl rfl (ope_box rfl rfl) ?_
 rintro _ _ ⟨b1, rfl, rfl⟩
 refine rwp_det rfl rfl (det_assign rfl rfl) ?_
 refine rwp_nil ?_
 refine awp_seq ?_
 refine awp_seq ?_
 refine awp_region rfl ?_
 refine rwp_det rfl rfl (det_load_agg rfl agg23 rfl (ptr_row 0 rfl) rfl) ?_
 refine rwp_det rfl rfl (det_call rfl ok188 (value_ValidateType _) ⟨VLe.refl _, rfl, trivial⟩) ?_
 refine rwp_det rfl rfl (det_neq rfl rfl rfl) ?_
 refine rwp_nil ?_
 refine awp_cond rfl (fun c1 => ?_) (fun c1 => ?_)
 ·try simp only [sx, List.length_map] at c1
  refine awp_seq ?_
  refine awp_region rfl ?_
  refine rwp_det rfl rfl (det_assign rfl rfl) ?_
  refine rwp_nil ?_
  refine awp_ret ?_
  repeat (first | refine thenQ_ret ?_ | refine blockQ_ret ?_)
  refine fin1 (rs_c rfl) ?_
  exact congrArg vI (by rw [declE, if_neg (by rw [tyErr_no c1]; simp)])
 ·try simp only [sx, List.length_map] at c1
  refine awp_skip ?_
  refine awp_seq ?_
  refine awp_seq ?_
  refine awp_region rfl ?_
  refine rwp_det rfl rfl (det_move rfl rfl) ?_
  refine rwp_det rfl rfl (det_call rfl ok234 (slices_Max_int l x0 h0 hl) ⟨VLe.refl _, rfl, trivial⟩) ?_
  refine rwp_det rfl rfl (det_gtr rfl rfl rfl) ?_
  refine rwp_nil ?_
  refine awp_cond rfl (fun c2 => ?_) (fun c2 => ?_)
  ·try simp only [sx, List.length_map] at c2
   refine awp_seq ?_
   refine awp_region rfl ?_
   refine rwp_det rfl rfl (det_assign rfl rfl) ?_
   refine rwp_nil ?_
   refine awp_ret ?_
   repeat (first | refine thenQ_ret ?_ | refine blockQ_ret ?_)
   refine fin1 (rs_c rfl) ?_
   exact congrArg vI (by rw [declE, if_pos (tyErr_yes c1), if_pos c2])
  ·try simp only [sx, List.length_map] at c2
   refine awp_skip ?_
   refine awp_seq ?_
   refine awp_region rfl ?_
   refine rwp_det rfl rfl (det_assign rfl rfl) ?_
   refine rwp_nil ?_
   refine awp_ret ?_
   repeat (first | refine thenQ_ret ?_ | refine blockQ_ret ?_)
   refine fin1 (rs_c rfl) ?_
   exact congrArg vI (by rw [declE, if_pos (tyErr_yes c1), if_neg (by omega)])

theorem constraint_Validate (x : Cn) (hl : x.Lin.L.length ≤ 4294967296) :
    Pur cfg 193 [vCn x] (vI (linErr x.Lin)) := by
 refine con_intro Tryz.func193 rfl Tryz.ntmps193 Tryz.results193 rfl ?_
 intro z hz
 refine awp_seq ?_
 refine awp_region rfl ?_
 refine rwp_op rfl rfl (ope_box rfl rfl) ?_
 rintro _ _ ⟨b1, rfl, rfl⟩
 refine rwp_det rfl rfl (det_assign rfl rfl) ?_
 refine rwp_nil ?_
 refine awp_seq ?_
 refine awp_region rfl ?_
 refine rwp_det rfl rfl (det_field_lit rfl fd111_0 rfl) ?_
 refine rwp_det rfl rfl (det_load_agg rfl agg29 rfl (ptr_row 0 rfl) rfl) ?_
 refine rwp_det rfl rfl (det_call rfl ok151 (lin_Validate x.Lin (by omega)) ⟨VLe.refl _, rfl, trivial⟩) ?_
 refine rwp_det rfl rfl (det_assign rfl rfl) ?_
 refine rwp_nil ?_
 refine awp_ret ?_
 repeat (first | refine thenQ_ret ?_ | refine blockQ_ret ?_)
 refine fin1 (rs_c rfl) ?_
 exact rfl

theorem program_fold (d : Df) :
    Pur cfg 197 [vDf d] (vI (foldM d)) := by
 refine con_intro Tryz.func197 rfl Tryz.ntmps197 Tryz.results197 rfl ?_
 intro z hz
 refine awp_seq ?_
 refine awp_region rfl ?_
 refine rwp_op rfl rfl (ope_box rfl rfl) ?_
 rintro _ _ ⟨b1, rfl, rfl⟩
 refine rwp_det rfl rfl (det_assign rfl rfl) ?_
 refine rwp_nil ?_
 refine awp_seq ?_
 refine awp_seq ?_
 refine awp_region rfl ?_
 refine rwp_det rfl rfl (det_field_lit rfl fd35_4 rfl) ?_
 refine rwp_det rfl rfl (det_load_one rfl one3 rfl (ptr_row 0 rfl) rfl) ?_
 refine rwp_nil ?_
 refine awp_block ?_
 refine awp_seq ?_
 refine awp_region rfl ?_
 refine rwp_det rfl rfl (det_eql rfl rfl rfl) ?_
 refine rwp_det rfl rfl (det_assign rfl rfl) ?_
 refine rwp_nil ?_
 refine awp_cond rfl (fun c1 => ?_) (fun c1 => ?_)
 ·try simp only [sx, List.length_map] at c1
  refine awp_seq ?_
  refine awp_region rfl ?_
  refine rwp_det rfl rfl (det_field_lit rfl fd35_3 rfl) ?_
  refine rwp_det rfl rfl (det_load_one rfl one24 rfl (ptr_row 0 rfl) rfl) ?_
  refine rwp_det rfl rfl (det_len_slm rfl el24 rfl) ?_
  refine rwp_det rfl rfl (det_gtr rfl rfl rfl) ?_
  refine rwp_nil ?_
  refine awp_cond rfl (fun c2 => ?_) (fun c2 => ?_)
  ·try simp only [sx, List.length_map] at c2
   refine awp_seq ?_
   refine awp_region rfl ?_
   refine rwp_det rfl rfl (det_assign rfl rfl) ?_
   refine rwp_nil ?_
   refine awp_ret ?_
   repeat (first | refine thenQ_ret ?_ | refine blockQ_ret ?_)
   refine fin1 (rs_c rfl) ?_
   exact congrArg vI (by unfold foldM; (repeat' split) <;> first | rfl | (exfalso; (try simp only [Lz, cond_true, cond_false, Bool.and_eq_true, Bool.or_eq_true, Bool.not_eq_true, Bool.or_eq_false_iff, decide_eq_true_eq, decide_eq_false_iff_not] at *); omega))
  ·try simp only [sx, List.length_map] at c2
   refine awp_skip ?_
   refine awp_seq ?_
   refine awp_region rfl ?_
   refine rwp_det rfl rfl (det_assign rfl rfl) ?_
   refine rwp_nil ?_
   refine awp_ret ?_
   repeat (first | refine thenQ_ret ?_ | refine blockQ_ret ?_)
   refine fin1 (rs_c rfl) ?_
   exact congrArg vI (by unfold foldM; (repeat' split) <;> first | rfl | (exfalso; (try simp only [Lz, cond_true, cond_false, Bool.and_eq_true, Bool.or_eq_true, Bool.not_eq_true, Bool.or_eq_false_iff, decide_eq_true_eq, decide_eq_false_iff_not] at *); omega))
 ·try simp only [sx, List.length_map] at c1
  refine awp_seq ?_
  refine awp_seq ?_
  refine awp_region rfl ?_
  refine rwp_det rfl rfl (det_eql rfl rfl rfl) ?_
  refine rwp_det rfl rfl (det_assign rfl rfl) ?_
  refine rwp_nil ?_
  refine awp_cond rfl (fun c3 => ?_) (fun c3 => ?_)
  ·try simp only [sx, List.length_map] at c3
   refine awp_skip ?_
   refine awp_cond rfl (fun c6 => ?_) (fun c6 => ?_)
   ·try simp only [sx, List.length_map] at c6
    refine awp_seq ?_
    refine awp_region rfl ?_
    refine rwp_det rfl rfl (det_field_lit rfl fd35_3 rfl) ?_
    refine rwp_det rfl rfl (det_load_one rfl one24 rfl (ptr_row 0 rfl) rfl) ?_
    refine rwp_det rfl rfl (det_len_slm rfl el24 rfl) ?_
    refine rwp_det rfl rfl (det_eql rfl rfl rfl) ?_
    refine rwp_nil ?_
    refine awp_cond rfl (fun c7 => ?_) (fun c7 => ?_)
    ·try simp only [sx, List.length_map] at c7
     refine awp_seq ?_
     refine awp_region rfl ?_
     refine rwp_det rfl rfl (det_assign rfl rfl) ?_
     refine rwp_nil ?_
     refine awp_ret ?_
     repeat (first | refine thenQ_ret ?_ | refine blockQ_ret ?_)
     refine fin1 (rs_c rfl) ?_
     exact congrArg vI (by unfold foldM; (repeat' split) <;> first | rfl | (exfalso; (try simp only [Lz, cond_true, cond_false, Bool.and_eq_true, Bool.or_eq_true, Bool.not_eq_true, Bool.or_eq_false_iff, decide_eq_true_eq, decide_eq_false_iff_not] at *); omega))
    ·try simp only [sx, List.length_map] at c7
     refine awp_skip ?_
     refine awp_seq ?_
     refine awp_region rfl ?_
     refine rwp_det rfl rfl (det_assign rfl rfl) ?_
     refine rwp_nil ?_
     refine awp_ret ?_
     repeat (first | refine thenQ_ret ?_ | refine blockQ_ret ?_)
     refine fin1 (rs_c rfl) ?_
     exact congrArg vI (by unfold foldM; (repeat' split) <;> first | rfl | (exfalso; (try simp only [Lz, cond_true, cond_false, Bool.and_eq_true, Bool.or_eq_true, Bool.not_eq_true, Bool.or_eq_false_iff, decide_eq_true_eq, decide_eq_false_iff_not] at *); omega))
   ·try simp only [sx, List.length_map] at c6
    refine awp_seq ?_
    refine awp_region rfl ?_
    refine rwp_det rfl rfl (det_eql rfl rfl rfl) ?_
    refine rwp_det rfl rfl (det_assign rfl rfl) ?_
    refine rwp_nil ?_
    refine awp_cond rfl (fun c8 => ?_) (fun c8 => ?_)
    ·try simp only [sx, List.length_map] at c8
     refine awp_seq ?_
     refine awp_region rfl ?_
     refine rwp_det rfl rfl (det_field_lit rfl fd35_3 rfl) ?_
     refine rwp_det rfl rfl (det_load_one rfl one24 rfl (ptr_row 0 rfl) rfl) ?_
     refine rwp_det rfl rfl (det_len_slm rfl el24 rfl) ?_
     refine rwp_det rfl rfl (det_gtr rfl rfl rfl) ?_
     refine rwp_det rfl rfl (det_move rfl rfl) ?_
     refine rwp_lazy [] rfl rfl rfl rfl gv1 trivial (fun g13_4 => det_field_lit rfl fd35_2 rfl) rfl ?_
     refine rwp_lazy [(27, _)] rfl rfl rfl rfl gv1 ⟨rfl, rfl, trivial⟩ (fun g13_4 => det_load_one rfl one24 rfl (ptr_row 0 rfl) rfl) rfl ?_
     refine rwp_lazy [(28, _)] rfl rfl rfl rfl gv1 ⟨rfl, rfl, trivial⟩ (fun g13_4 => det_len_slm rfl el24 rfl) rfl ?_
     refine rwp_lazy [(29, _)] rfl rfl rfl rfl gv1 ⟨rfl, rfl, trivial⟩ (fun g13_4 => det_eql rfl rfl rfl) rfl ?_
     refine rwp_det rfl rfl (det_or rfl rfl rfl rfl (fun h => (lzf h))) ?_
     refine rwp_nil ?_
     refine awp_cond rfl (fun c9 => ?_) (fun c9 => ?_)
     ·try simp only [sx, List.length_map] at c9
      refine awp_seq ?_
      refine awp_region rfl ?_
      refine rwp_det rfl rfl (det_assign rfl rfl) ?_
      refine rwp_nil ?_
      refine awp_ret ?_
      repeat (first | refine thenQ_ret ?_ | refine blockQ_ret ?_)
      refine fin1 (rs_c rfl) ?_
      exact congrArg vI (by unfold foldM; (repeat' split) <;> first | rfl | (exfalso; (try simp only [Lz, cond_true, cond_false, Bool.and_eq_true, Bool.or_eq_true, Bool.not_eq_true, Bool.or_eq_false_iff, decide_eq_true_eq, decide_eq_false_iff_not] at *); omega))
     ·try simp only [sx, List.length_map] at c9
      refine awp_skip ?_
      refine awp_seq ?_
      refine awp_region rfl ?_
      refine rwp_det rfl rfl (det_assign rfl rfl) ?_
      refine rwp_nil ?_
      refine awp_ret ?_
      repeat (first | refine thenQ_ret ?_ | refine blockQ_ret ?_)
      refine fin1 (rs_c rfl) ?_
      exact congrArg vI (by unfold foldM; (repeat' split) <;> first | rfl | (exfalso; (try simp only [Lz, cond_true, cond_false, Bool.and_eq_true, Bool.or_eq_true, Bool.not_eq_true, Bool.or_eq_false_iff, decide_eq_true_eq, decide_eq_false_iff_not] at *); omega))
    ·try simp only [sx, List.length_map] at c8
     refine awp_seq ?_
     refine awp_region rfl ?_
     refine rwp_det rfl rfl (det_assign rfl rfl) ?_
     refine rwp_nil ?_
     refine awp_ret ?_
     repeat (first | refine thenQ_ret ?_ | refine blockQ_ret ?_)
     refine fin1 (rs_c rfl) ?_
     exact congrArg vI (by unfold foldM; (repeat' split) <;> first | rfl | (exfalso; (try simp only [Lz, cond_true, cond_false, Bool.and_eq_true, Bool.or_eq_true, Bool.not_eq_true, Bool.or_eq_false_iff, decide_eq_true_eq, decide_eq_false_iff_not] at *); omega))
  ·try simp only [sx, List.length_map] at c3
   refine awp_seq ?_
   refine awp_region rfl ?_
   refine rwp_det rfl rfl (det_eql rfl rfl rfl) ?_
   refine rwp_det rfl rfl (det_assign rfl rfl) ?_
   refine rwp_nil ?_
   refine awp_cond rfl (fun c4 => ?_) (fun c4 => ?_)
   ·try simp only [sx, List.length_map] at c4
    refine awp_skip ?_
    refine awp_cond rfl (fun c6 => ?_) (fun c6 => ?_)
    ·try simp only [sx, List.length_map] at c6
     refine awp_seq ?_
     refine awp_region rfl ?_
     refine rwp_det rfl rfl (det_field_lit rfl fd35_3 rfl) ?_
     refine rwp_det rfl rfl (det_load_one rfl one24 rfl (ptr_row 0 rfl) rfl) ?_
     refine rwp_det rfl rfl (det_len_slm rfl el24 rfl) ?_
     refine rwp_det rfl rfl (det_eql rfl rfl rfl) ?_
     refine rwp_nil ?_
     refine awp_cond rfl (fun c7 => ?_) (fun c7 => ?_)
     ·try simp only [sx, List.length_map] at c7
      refine awp_seq ?_
      refine awp_region rfl ?_
      refine rwp_det rfl rfl (det_assign rfl rfl) ?_
      refine rwp_nil ?_
      refine awp_ret ?_
      repeat (first | refine thenQ_ret ?_ | refine blockQ_ret ?_)
      refine fin1 (rs_c rfl) ?_
      exact congrArg vI (by unfold foldM; (repeat' split) <;> first | rfl | (exfalso; (try simp only [Lz, cond_true, cond_false, Bool.and_eq_true, Bool.or_eq_true, Bool.not_eq_true, Bool.or_eq_false_iff, decide_eq_true_eq, decide_eq_false_iff_not] at *); omega))
     ·try simp only [sx, List.length_map] at c7
      refine awp_skip ?_
      refine awp_seq ?_
      refine awp_region rfl ?_
      refine rwp_det rfl rfl (det_assign rfl rfl) ?_
      refine rwp_nil ?_
      refine awp_ret ?_
      repeat (first | refine thenQ_ret ?_ | refine blockQ_ret ?_)
      refine fin1 (rs_c rfl) ?_
      exact congrArg vI (by unfold foldM; (repeat' split) <;> first | rfl | (exfalso; (try simp only [Lz, cond_true, cond_false, Bool.and_eq_true, Bool.or_eq_true, Bool.not_eq_true, Bool.or_eq_false_iff, decide_eq_true_eq, decide_eq_false_iff_not] at *); omega))
    ·try simp only [sx, List.length_map] at c6
     refine awp_seq ?_
     refine awp_region rfl ?_
     refine rwp_det rfl rfl (det_eql rfl rfl rfl) ?_
     refine rwp_det rfl rfl (det_assign rfl rfl) ?_
     refine rwp_nil ?_
     refine awp_cond rfl (fun c8 => ?_) (fun c8 => ?_)
     ·try simp only [sx, List.length_map] at c8
      refine awp_seq ?_
      refine awp_region rfl ?_
      refine rwp_det rfl rfl (det_field_lit rfl fd35_3 rfl) ?_
      refine rwp_det rfl rfl (det_load_one rfl one24 rfl (ptr_row 0 rfl) rfl) ?_
      refine rwp_det rfl rfl (det_len_slm rfl el24 rfl) ?_
      refine rwp_det rfl rfl (det_gtr rfl rfl rfl) ?_
      refine rwp_det rfl rfl (det_move rfl rfl) ?_
      refine rwp_lazy [] rfl rfl rfl rfl gv1 trivial (fun g13_4 => det_field_lit rfl fd35_2 rfl) rfl ?_
      refine rwp_lazy [(27, _)] rfl rfl rfl rfl gv1 ⟨rfl, rfl, trivial⟩ (fun g13_4 => det_load_one rfl one24 rfl (ptr_row 0 rfl) rfl) rfl ?_
      refine rwp_lazy [(28, _)] rfl rfl rfl rfl gv1 ⟨rfl, rfl, trivial⟩ (fun g13_4 => det_len_slm rfl el24 rfl) rfl ?_
      refine rwp_lazy [(29, _)] rfl rfl rfl rfl gv1 ⟨rfl, rfl, trivial⟩ (fun g13_4 => det_eql rfl rfl rfl) rfl ?_
      refine rwp_det rfl rfl (det_or rfl rfl rfl rfl (fun h => (lzf h))) ?_
      refine rwp_nil ?_
      refine awp_cond rfl (fun c9 => ?_) (fun c9 => ?_)
      ·try simp only [sx, List.length_map] at c9
       refine awp_seq ?_
       refine awp_region rfl ?_
       refine rwp_det rfl rfl (det_assign rfl rfl) ?_
       refine rwp_nil ?_
       refine awp_ret ?_
       repeat (first | refine thenQ_ret ?_ | refine blockQ_ret ?_)
       refine fin1 (rs_c rfl) ?_
       exact congrArg vI (by unfold foldM; (repeat' split) <;> first | rfl | (exfalso; (try simp only [Lz, cond_true, cond_false, Bool.and_eq_true, Bool.or_eq_true, Bool.not_eq_true, Bool.or_eq_false_iff, decide_eq_true_eq, decide_eq_false_iff_not] at *); omega))
      ·try simp only [sx, List.length_map] at c9
       refine awp_skip ?_
       refine awp_seq ?_
       refine awp_region rfl ?_
       refine rwp_det rfl rfl (det_assign rfl rfl) ?_
       refine rwp_nil ?_
       refine awp_ret ?_
       repeat (first | refine thenQ_ret ?_ | refine blockQ_ret ?_)
       refine fin1 (rs_c rfl) ?_
       exact congrArg vI (by unfold foldM; (repeat' split) <;> first | rfl | (exfalso; (try simp only [Lz, cond_true, cond_false, Bool.and_eq_true, Bool.or_eq_true, Bool.not_eq_true, Bool.or_eq_false_iff, decide_eq_true_eq, decide_eq_false_iff_not] at *); omega))
     ·try simp only [sx, List.length_map] at c8
      refine awp_seq ?_
      refine awp_region rfl ?_
      refine rwp_det rfl rfl (det_assign rfl rfl) ?_
      refine rwp_nil ?_
      refine awp_ret ?_
      repeat (first | refine thenQ_ret ?_ | refine blockQ_ret ?_)
      refine fin1 (rs_c rfl) ?_
      exact congrArg vI (by unfold foldM; (repeat' split) <;> first | rfl | (exfalso; (try simp only [Lz, cond_true, cond_false, Bool.and_eq_true, Bool.or_eq_true, Bool.not_eq_true, Bool.or_eq_false_iff, decide_eq_true_eq, decide_eq_false_iff_not] at *); omega))
   ·try simp only [sx, List.length_map] at c4
    refine awp_seq ?_
    refine awp_region rfl ?_
    refine rwp_det rfl rfl (det_eql rfl rfl rfl) ?_
    refine rwp_det rfl rfl (det_assign rfl rfl) ?_
    refine rwp_nil ?_
    refine awp_cond rfl (fun c5 => ?_) (fun c5 => ?_)
    ·try simp only [sx, List.length_map] at c5
     refine awp_skip ?_
     refine awp_cond rfl (fun c6 => ?_) (fun c6 => ?_)
     ·try simp only [sx, List.length_map] at c6
      refine awp_seq ?_
      refine awp_region rfl ?_
      refine rwp_det rfl rfl (det_field_lit rfl fd35_3 rfl) ?_
      refine rwp_det rfl rfl (det_load_one rfl one24 rfl (ptr_row 0 rfl) rfl) ?_
      refine rwp_det rfl rfl (det_len_slm rfl el24 rfl) ?_
      refine rwp_det rfl rfl (det_eql rfl rfl rfl) ?_
      refine rwp_nil ?_
      refine awp_cond rfl (fun c7 => ?_) (fun c7 => ?_)
      ·try simp only [sx, List.length_map] at c7
       refine awp_seq ?_
       refine awp_region rfl ?_
       refine rwp_det rfl rfl (det_assign rfl rfl) ?_
       refine rwp_nil ?_
       refine awp_ret ?_
       repeat (first | refine thenQ_ret ?_ | refine blockQ_ret ?_)
       refine fin1 (rs_c rfl) ?_
       exact congrArg vI (by unfold foldM; (repeat' split) <;> first | rfl | (exfalso; (try simp only [Lz, cond_true, cond_false, Bool.and_eq_true, Bool.or_eq_true, Bool.not_eq_true, Bool.or_eq_false_iff, decide_eq_true_eq, decide_eq_false_iff_not] at *); omega))
      ·try simp only [sx, List.length_map] at c7
       refine awp_skip ?_
       refine awp_seq ?_
       refine awp_region rfl ?_
       refine rwp_det rfl rfl (det_assign rfl rfl) ?_
       refine rwp_nil ?_
       refine awp_ret ?_
       repeat (first | refine thenQ_ret ?_ | refine blockQ_ret ?_)
       refine fin1 (rs_c rfl) ?_
       exact congrArg vI (by unfold foldM; (repeat' split) <;> first | rfl | (exfalso; (try simp only [Lz, cond_true, cond_false, Bool.and_eq_true, Bool.or_eq_true, Bool.not_eq_true, Bool.or_eq_false_iff, decide_eq_true_eq, decide_eq_false_iff_not] at *); omega))
     ·try simp only [sx, List.length_map] at c6
      refine awp_seq ?_
      refine awp_region rfl ?_
      refine rwp_det rfl rfl (det_eql rfl rfl rfl) ?_
      refine rwp_det rfl rfl (det_assign rfl rfl) ?_
      refine rwp_nil ?_
      refine awp_cond rfl (fun c8 => ?_) (fun c8 => ?_)
      ·try simp only [sx, List.length_map] at c8
       refine awp_seq ?_
       refine awp_region rfl ?_
       refine rwp_det rfl rfl (det_field_lit rfl fd35_3 rfl) ?_
       refine rwp_det rfl rfl (det_load_one rfl one24 rfl (ptr_row 0 rfl) rfl) ?_
       refine rwp_det rfl rfl (det_len_slm rfl el24 rfl) ?_
       refine rwp_det rfl rfl (det_gtr rfl rfl rfl) ?_
       refine rwp_det rfl rfl (det_move rfl rfl) ?_
       refine rwp_lazy [] rfl rfl rfl rfl gv1 trivial (fun g13_4 => det_field_lit rfl fd35_2 rfl) rfl ?_
       refine rwp_lazy [(27, _)] rfl rfl rfl rfl gv1 ⟨rfl, rfl, trivial⟩ (fun g13_4 => det_load_one rfl one24 rfl (ptr_row 0 rfl) rfl) rfl ?_
       refine rwp_lazy [(28, _)] rfl rfl rfl rfl gv1 ⟨rfl, rfl, trivial⟩ (fun g13_4 => det_len_slm rfl el24 rfl) rfl ?_
       refine rwp_lazy [(29, _)] rfl rfl rfl rfl gv1 ⟨rfl, rfl, trivial⟩ (fun g13_4 => det_eql rfl rfl rfl) rfl ?_
       refine rwp_det rfl rfl (det_or rfl rfl rfl rfl (fun h => (lzf h))) ?_
       refine rwp_nil ?_
       refine awp_cond rfl (fun c9 => ?_) (fun c9 => ?_)
       ·try simp only [sx, List.length_map] at c9
        refine awp_seq ?_
        refine awp_region rfl ?_
        refine rwp_det rfl rfl (det_assign rfl rfl) ?_
        refine rwp_nil ?_
        refine awp_ret ?_
        repeat (first | refine thenQ_ret ?_ | refine blockQ_ret ?_)
        refine fin1 (rs_c rfl) ?_
        exact congrArg vI (by unfold foldM; (repeat' split) <;> first | rfl | (exfalso; (try simp only [Lz, cond_true, cond_false, Bool.and_eq_true, Bool.or_eq_true, Bool.not_eq_true, Bool.or_eq_false_iff, decide_eq_true_eq, decide_eq_false_iff_not] at *); omega))
       ·try simp only [sx, List.length_map] at c9
        refine awp_skip ?_
        refine awp_seq ?_
        refine awp_region rfl ?_
        refine rwp_det rfl rfl (det_assign rfl rfl) ?_
        refine rwp_nil ?_
        refine awp_ret ?_
        repeat (first | refine thenQ_ret ?_ | refine blockQ_ret ?_)
        refine fin1 (rs_c rfl) ?_
        exact congrArg vI (by unfold foldM; (repeat' split) <;> first | rfl | (exfalso; (try simp only [Lz, cond_true, cond_false, Bool.and_eq_true, Bool.or_eq_true, Bool.not_eq_true, Bool.or_eq_false_iff, decide_eq_true_eq, decide_eq_false_iff_not] at *); omega))
      ·try simp only [sx, List.length_map] at c8
       refine awp_seq ?_
       refine awp_region rfl ?_
       refine rwp_det rfl rfl (det_assign rfl rfl) ?_
       refine rwp_nil ?_
       refine awp_ret ?_
       repeat (first | refine thenQ_ret ?_ | refine blockQ_ret ?_)
       refine fin1 (rs_c rfl) ?_
       exact congrArg vI (by unfold foldM; (repeat' split) <;> first | rfl | (exfalso; (try simp only [Lz, cond_true, cond_false, Bool.and_eq_true, Bool.or_eq_true, Bool.not_eq_true, Bool.or_eq_false_iff, decide_eq_true_eq, decide_eq_false_iff_not] at *); omega))
    ·try simp only [sx, List.length_map] at c5
     refine awp_region rfl ?_
     refine rwp_det rfl rfl (det_eql rfl rfl rfl) ?_
     refine rwp_det rfl rfl (det_assign rfl rfl) ?_
     refine rwp_nil ?_
     refine awp_cond rfl (fun c6 => ?_) (fun c6 => ?_)
     ·try simp only [sx, List.length_map] at c6
      refine awp_seq ?_
      refine awp_region rfl ?_
      refine rwp_det rfl rfl (det_field_lit rfl fd35_3 rfl) ?_
      refine rwp_det rfl rfl (det_load_one rfl one24 rfl (ptr_row 0 rfl) rfl) ?_
      refine rwp_det rfl rfl (det_len_slm rfl el24 rfl) ?_
      refine rwp_det rfl rfl (det_eql rfl rfl rfl) ?_
      refine rwp_nil ?_
      refine awp_cond rfl (fun c7 => ?_) (fun c7 => ?_)
      ·try simp only [sx, List.length_map] at c7
       refine awp_seq ?_
       refine awp_region rfl ?_
       refine rwp_det rfl rfl (det_assign rfl rfl) ?_
       refine rwp_nil ?_
       refine awp_ret ?_
       repeat (first | refine thenQ_ret ?_ | refine blockQ_ret ?_)
       refine fin1 (rs_c rfl) ?_
       exact congrArg vI (by unfold foldM; (repeat' split) <;> first | rfl | (exfalso; (try simp only [Lz, cond_true, cond_false, Bool.and_eq_true, Bool.or_eq_true, Bool.not_eq_true, Bool.or_eq_false_iff, decide_eq_true_eq, decide_eq_false_iff_not] at *); omega))
      ·try simp only [sx, List.length_map] at c7
       refine awp_skip ?_
       refine awp_seq ?_
       refine awp_region rfl ?_
       refine rwp_det rfl rfl (det_assign rfl rfl) ?_
       refine rwp_nil ?_
       refine awp_ret ?_
       repeat (first | refine thenQ_ret ?_ | refine blockQ_ret ?_)
       refine fin1 (rs_c rfl) ?_
       exact congrArg vI (by unfold foldM; (repeat' split) <;> first | rfl | (exfalso; (try simp only [Lz, cond_true, cond_false, Bool.and_eq_true, Bool.or_eq_true, Bool.not_eq_true, Bool.or_eq_false_iff, decide_eq_true_eq, decide_eq_false_iff_not] at *); omega))
     ·try simp only [sx, List.length_map] at c6
      refine awp_seq ?_
      refine awp_region rfl ?_
      refine rwp_det rfl rfl (det_eql rfl rfl rfl) ?_
      refine rwp_det rfl rfl (det_assign rfl rfl) ?_
      refine rwp_nil ?_
      refine awp_cond rfl (fun c8 => ?_) (fun c8 => ?_)
      ·try simp only [sx, List.length_map] at c8
       refine awp_seq ?_
       refine awp_region rfl ?_
       refine rwp_det rfl rfl (det_field_lit rfl fd35_3 rfl) ?_
       refine rwp_det rfl rfl (det_load_one rfl one24 rfl (ptr_row 0 rfl) rfl) ?_
       refine rwp_det rfl rfl (det_len_slm rfl el24 rfl) ?_
       refine rwp_det rfl rfl (det_gtr rfl rfl rfl) ?_
       refine rwp_det rfl rfl (det_move rfl rfl) ?_
       refine rwp_lazy [] rfl rfl rfl rfl gv1 trivial (fun g13_4 => det_field_lit rfl fd35_2 rfl) rfl ?_
       refine rwp_lazy [(27, _)] rfl rfl rfl rfl gv1 ⟨rfl, rfl, trivial⟩ (fun g13_4 => det_load_one rfl one24 rfl (ptr_row 0 rfl) rfl) rfl ?_
       refine rwp_lazy [(28, _)] rfl rfl rfl rfl gv1 ⟨rfl, rfl, trivial⟩ (fun g13_4 => det_len_slm rfl el24 rfl) rfl ?_
       refine rwp_lazy [(29, _)] rfl rfl rfl rfl gv1 ⟨rfl, rfl, trivial⟩ (fun g13_4 => det_eql rfl rfl rfl) rfl ?_
       refine rwp_det rfl rfl (det_or rfl rfl rfl rfl (fun h => (lzf h))) ?_
       refine rwp_nil ?_
       refine awp_cond rfl (fun c9 => ?_) (fun c9 => ?_)
       ·try simp only [sx, List.length_map] at c9
        refine awp_seq ?_
        refine awp_region rfl ?_
        refine rwp_det rfl rfl (det_assign rfl rfl) ?_
        refine rwp_nil ?_
        refine awp_ret ?_
        repeat (first | refine thenQ_ret ?_ | refine blockQ_ret ?_)
        refine fin1 (rs_c rfl) ?_
        exact congrArg vI (by unfold foldM; (repeat' split) <;> first | rfl | (exfalso; (try simp only [Lz, cond_true, cond_false, Bool.and_eq_true, Bool.or_eq_true, Bool.not_eq_true, Bool.or_eq_false_iff, decide_eq_true_eq, decide_eq_false_iff_not] at *); omega))
       ·try simp only [sx, List.length_map] at c9
        refine awp_skip ?_
        refine awp_seq ?_
        refine awp_region rfl ?_
        refine rwp_det rfl rfl (det_assign rfl rfl) ?_
        refine rwp_nil ?_
        refine awp_ret ?_
        repeat (first | refine thenQ_ret ?_ | refine blockQ_ret ?_)
        refine fin1 (rs_c rfl) ?_
        exact congrArg vI (by unfold foldM; (repeat' split) <;> first | rfl | (exfalso; (try simp only [Lz, cond_true, cond_false, Bool.and_eq_true, Bool.or_eq_true, Bool.not_eq_true, Bool.or_eq_false_iff, decide_eq_true_eq, decide_eq_false_iff_not] at *); omega))
      ·try simp only [sx, List.length_map] at c8
       refine awp_seq ?_
       refine awp_region rfl ?_
       refine rwp_det rfl rfl (det_assign rfl rfl) ?_
       refine rwp_nil ?_
       refine awp_ret ?_
       repeat (first | refine thenQ_ret ?_ | refine blockQ_ret ?_)
       refine fin1 (rs_c rfl) ?_
       exact congrArg vI (by unfold foldM; (repeat' split) <;> first | rfl | (exfalso; (try simp only [Lz, cond_true, cond_false, Bool.and_eq_true, Bool.or_eq_true, Bool.not_eq_true, Bool.or_eq_false_iff, decide_eq_true_eq, decide_eq_false_iff_not] at *); omega))

end Go.W
