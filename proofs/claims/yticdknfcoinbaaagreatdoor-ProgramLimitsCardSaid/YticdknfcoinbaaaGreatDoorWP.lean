/-
  Walks: what functions of the program compute. Printed by wip/gen/mk2.py.
  Conditions: none.
-/
import Derived.Test.YticdknfcoinbaaaGreatDoorWO
set_option linter.unusedSimpArgs false
set_option linter.unusedVariables false
namespace Go.W
open Go Go.Eng Go.Proofs Go.L41 Go.Br
attribute [local irreducible] AWP RWP TD
theorem ok17 : callOk Tryz.prog 17 = true := by kernel_rfl
theorem ok29 : callOk Tryz.prog 29 = true := by kernel_rfl
theorem ok49 : callOk Tryz.prog 49 = true := by kernel_rfl
theorem ok50 : callOk Tryz.prog 50 = true := by kernel_rfl
theorem ok51 : callOk Tryz.prog 51 = true := by kernel_rfl
theorem ok52 : callOk Tryz.prog 52 = true := by kernel_rfl
theorem ok109 : callOk Tryz.prog 109 = true := by kernel_rfl
theorem ok113 : callOk Tryz.prog 113 = true := by kernel_rfl
theorem ok114 : callOk Tryz.prog 114 = true := by kernel_rfl
theorem pl27 : placesT Tryz.prog 27 = some [(0, 1), (1, 1), (2, 1), (3, 1), (4, 1)] := by kernel_rfl
theorem ref17_form (l : Lf) (sz : List ByteArray) (hl : l.L.length ≤ 4294967296) (hz0 : sz.length ≤ 4294967296) :
    Pur cfg 50 [vLin l, vSs sz] (vI (formR l sz)) := by
 refine con_intro Tryz.func50 rfl Tryz.ntmps50 Tryz.results50 rfl ?_
 intro z hz
 refine awp_seq ?_
 refine awp_region rfl ?_
 refine rwp_op rfl rfl (ope_box rfl rfl) ?_
 rintro _ _ ⟨b1, rfl, rfl⟩
 refine rwp_det rfl rfl (det_assign rfl rfl) ?_
 refine rwp_nil ?_
 refine awp_seq ?_
 refine awp_seq ?_
 refine awp_region rfl ?_
 refine rwp_det rfl rfl (det_load_agg rfl agg42 rfl (ptr_row 0 rfl) rfl) ?_
 refine rwp_det rfl rfl (det_call rfl ok110 (base_LinRight l hl) ⟨VLe.refl _, rfl, trivial⟩) ?_
 refine rwp_det rfl rfl (det_not rfl rfl) ?_
 refine rwp_nil ?_
 refine awp_cond rfl (fun c1 => ?_) (fun c1 => ?_)
 ·try simp only [sx, List.length_map] at c1
  refine awp_seq ?_
  refine awp_region rfl ?_
  refine rwp_det rfl rfl (det_assign rfl rfl) ?_
  refine rwp_nil ?_
  refine awp_ret ?_
  repeat (first | refine thenQ_ret ?_ | refine blockQ_ret ?_)
  refine fin1 (rs_c rfl) ?_
  rw [formR_1 c1]
 ·try simp only [sx, List.length_map] at c1
  refine awp_skip ?_
  refine awp_seq ?_
  refine awp_seq ?_
  refine awp_region rfl ?_
  refine rwp_det rfl rfl (det_load_agg rfl agg42 rfl (ptr_row 0 rfl) rfl) ?_
  refine rwp_det rfl rfl (det_move rfl rfl) ?_
  refine rwp_det rfl rfl (det_call rfl ok111 (ref17_known l [] sz hl (by simp) hz0) ⟨VLe.refl _, rfl, VLe.nil, rfl, VLe.refl _, rfl, trivial⟩) ?_
  refine rwp_det rfl rfl (det_not rfl rfl) ?_
  refine rwp_nil ?_
  refine awp_cond rfl (fun c2 => ?_) (fun c2 => ?_)
  ·try simp only [sx, List.length_map] at c2
   refine awp_seq ?_
   refine awp_region rfl ?_
   refine rwp_det rfl rfl (det_assign rfl rfl) ?_
   refine rwp_nil ?_
   refine awp_ret ?_
   repeat (first | refine thenQ_ret ?_ | refine blockQ_ret ?_)
   refine fin1 (rs_c rfl) ?_
   rw [formR_9 c1 c2]
  ·try simp only [sx, List.length_map] at c2
   refine awp_skip ?_
   refine awp_seq ?_
   refine awp_region rfl ?_
   refine rwp_det rfl rfl (det_assign rfl rfl) ?_
   refine rwp_nil ?_
   refine awp_ret ?_
   repeat (first | refine thenQ_ret ?_ | refine blockQ_ret ?_)
   refine fin1 (rs_c rfl) ?_
   rw [formR_0 c1 c2]

theorem ref17_name (s : ByteArray) (t : List ByteArray) (ht : t.length ≤ 4294967296) :
    Pur cfg 109 [vS s, vSs t] (vI (nameR s t)) := by
 refine con_intro Tryz.func109 rfl Tryz.ntmps109 Tryz.results109 rfl ?_
 intro z hz
 refine awp_seq ?_
 refine awp_region rfl ?_
 refine rwp_det rfl rfl (det_assign rfl rfl) ?_
 refine rwp_nil ?_
 refine awp_seq ?_
 refine awp_seq ?_
 refine awp_region rfl ?_
 refine rwp_det rfl rfl (det_move rfl rfl) ?_
 refine rwp_det rfl rfl (det_call rfl ok165 (base_Name s) ⟨VLe.refl _, rfl, trivial⟩) ?_
 refine rwp_det rfl rfl (det_not rfl rfl) ?_
 refine rwp_nil ?_
 refine awp_cond rfl (fun c1 => ?_) (fun c1 => ?_)
 ·try simp only [sx, List.length_map] at c1
  refine awp_seq ?_
  refine awp_region rfl ?_
  refine rwp_det rfl rfl (det_assign rfl rfl) ?_
  refine rwp_nil ?_
  refine awp_ret ?_
  repeat (first | refine thenQ_ret ?_ | refine blockQ_ret ?_)
  refine fin1 (rs_c rfl) ?_
  rw [nameR_7 c1]
 ·try simp only [sx, List.length_map] at c1
  refine awp_skip ?_
  refine awp_seq ?_
  refine awp_seq ?_
  refine awp_region rfl ?_
  refine rwp_det rfl rfl (det_move rfl rfl) ?_
  refine rwp_det rfl rfl (det_move rfl rfl) ?_
  refine rwp_det rfl rfl (det_call rfl ok53 (base_Has t s ht) ⟨VLe.refl _, rfl, VLe.refl _, rfl, trivial⟩) ?_
  refine rwp_nil ?_
  refine awp_cond rfl (fun c2 => ?_) (fun c2 => ?_)
  ·try simp only [sx, List.length_map] at c2
   refine awp_seq ?_
   refine awp_region rfl ?_
   refine rwp_det rfl rfl (det_assign rfl rfl) ?_
   refine rwp_nil ?_
   refine awp_ret ?_
   repeat (first | refine thenQ_ret ?_ | refine blockQ_ret ?_)
   refine fin1 (rs_c rfl) ?_
   rw [nameR_8 c1 c2]
  ·try simp only [sx, List.length_map] at c2
   refine awp_skip ?_
   refine awp_seq ?_
   refine awp_region rfl ?_
   refine rwp_det rfl rfl (det_assign rfl rfl) ?_
   refine rwp_nil ?_
   refine awp_ret ?_
   repeat (first | refine thenQ_ret ?_ | refine blockQ_ret ?_)
   refine fin1 (rs_c rfl) ?_
   rw [nameR_0 c1 (by simpa using c2)]

theorem ref17_param (x : Pm) (sz t : List ByteArray) (hl0 : x.Dims.length ≤ 4294967296) (hx0 : ∀ l, l ∈ x.Dims → l.L.length ≤ 4294967296) (hz0 : sz.length ≤ 4294967296) (ht : t.length ≤ 4294967296) :
    Pur cfg 51 [vPm x, vSs sz, vSs t] (vI (paramR x sz t)) := by
 refine con_intro Tryz.func51 rfl Tryz.ntmps51 Tryz.results51 rfl ?_
 intro z hz
 refine awp_seq ?_
 refine awp_region rfl ?_
 refine rwp_op rfl rfl (ope_box rfl rfl) ?_
 rintro _ _ ⟨b1, rfl, rfl⟩
 refine rwp_det rfl rfl (det_assign rfl rfl) ?_
 refine rwp_nil ?_
 refine awp_seq ?_
 refine awp_seq ?_
 refine awp_region rfl ?_
 refine rwp_det rfl rfl (det_field_lit rfl fd77_0 rfl) ?_
 refine rwp_det rfl rfl (det_load_one rfl one9 rfl (ptr_row 0 rfl) rfl) ?_
 refine rwp_det rfl rfl (det_move rfl rfl) ?_
 refine rwp_det rfl rfl (det_call rfl ok109 (ref17_name x.Name t ht) ⟨VLe.refl _, rfl, VLe.refl _, rfl, trivial⟩) ?_
 refine rwp_det rfl rfl (det_assign rfl rfl) ?_
 refine rwp_nil ?_
 refine awp_seq ?_
 refine awp_region rfl ?_
 refine rwp_det rfl rfl (det_move rfl rfl) ?_
 refine rwp_det rfl rfl (det_neq rfl rfl rfl) ?_
 refine rwp_nil ?_
 refine awp_cond rfl (fun c1 => ?_) (fun c1 => ?_)
 ·try simp only [sx, List.length_map] at c1
  refine awp_seq ?_
  refine awp_region rfl ?_
  refine rwp_det rfl rfl (det_move rfl rfl) ?_
  refine rwp_det rfl rfl (det_assign rfl rfl) ?_
  refine rwp_nil ?_
  refine awp_ret ?_
  repeat (first | refine thenQ_ret ?_ | refine blockQ_ret ?_)
  refine fin1 (rs_c rfl) ?_
  rw [paramR_1 c1]
 ·try simp only [sx, List.length_map] at c1
  refine awp_skip ?_
  refine awp_seq ?_
  refine awp_seq ?_
  refine awp_region rfl ?_
  refine rwp_det rfl rfl (det_field_lit rfl fd77_1 rfl) ?_
  refine rwp_det rfl rfl (det_load_agg rfl agg39 rfl (ptr_row 0 rfl) rfl) ?_
  refine rwp_det rfl rfl (det_call rfl ok112 (base_Type x.T) ⟨VLe.refl _, rfl, trivial⟩) ?_
  refine rwp_det rfl rfl (det_not rfl rfl) ?_
  refine rwp_nil ?_
  refine awp_cond rfl (fun c2 => ?_) (fun c2 => ?_)
  ·try simp only [sx, List.length_map] at c2
   refine awp_seq ?_
   refine awp_region rfl ?_
   refine rwp_det rfl rfl (det_assign rfl rfl) ?_
   refine rwp_nil ?_
   refine awp_ret ?_
   repeat (first | refine thenQ_ret ?_ | refine blockQ_ret ?_)
   refine fin1 (rs_c rfl) ?_
   rw [paramR_10 c1 c2]
  ·try simp only [sx, List.length_map] at c2
   refine awp_skip ?_
   refine awp_seq ?_
   refine awp_seq ?_
   refine awp_region rfl ?_
   refine rwp_det rfl rfl (det_field_lit rfl fd77_2 rfl) ?_
   refine rwp_det rfl rfl (det_load_one rfl one54 rfl (ptr_row 0 rfl) rfl) ?_
   refine rwp_det rfl rfl (det_len_slm rfl el54 rfl) ?_
   refine rwp_det rfl rfl (det_gtr rfl rfl rfl) ?_
   refine rwp_nil ?_
   refine awp_cond rfl (fun c3 => ?_) (fun c3 => ?_)
   ·try simp only [sx, List.length_map] at c3
    refine awp_seq ?_
    refine awp_region rfl ?_
    refine rwp_det rfl rfl (det_assign rfl rfl) ?_
    refine rwp_nil ?_
    refine awp_ret ?_
    repeat (first | refine thenQ_ret ?_ | refine blockQ_ret ?_)
    refine fin1 (rs_c rfl) ?_
    rw [paramR_11 c1 c2 (by omega)]
   ·try simp only [sx, List.length_map] at c3
    refine awp_skip ?_
    refine awp_seq ?_
    refine awp_seq ?_
    refine awp_region rfl ?_
    refine rwp_det rfl rfl (det_assign rfl rfl) ?_
    refine rwp_nil ?_
    refine awp_block ?_
    refine awp_weak ⟨[(8, .c _), (1, .c _), (3, .c _)], [_]⟩ (Weak.mk [true] ⟨VLe.of_eq rfl, VLe.of_eq rfl, VLe.of_eq rfl, trivial⟩ rfl) ?_
    refine awp_loop_k 1 0 rfl rfl (Nat) (fun k => [(8, vI k)]) (fun k => []) (fun k => k ≤ x.Dims.length ∧ (formsR sz x.Dims = formsR sz (x.Dims.drop k))) (fun k => x.Dims.length - k) ⟨0, ⟨by omega, rfl⟩, Weak.mk [true] ⟨VLe.refl _, VLe.refl _, VLe.refl _, trivial⟩ rfl⟩ ?_
    rintro k ⟨hk, hp⟩
    refine awp_seq ?_
    refine awp_seq ?_
    refine awp_region rfl ?_
    refine rwp_det rfl rfl (det_move rfl rfl) ?_
    refine rwp_det rfl rfl (det_field_lit rfl fd77_2 rfl) ?_
    refine rwp_det rfl rfl (det_load_one rfl one54 rfl (ptr_row 0 rfl) rfl) ?_
    refine rwp_det rfl rfl (det_len_slm rfl el54 rfl) ?_
    refine rwp_det rfl rfl (det_lss rfl rfl rfl) ?_
    refine rwp_nil ?_
    refine awp_cond rfl (fun c4 => ?_) (fun c4 => ?_)
    ·try simp only [sx, List.length_map] at c4
     obtain ⟨y, hy⟩ := ex_get x.Dims k (by omega)
     refine awp_skip ?_
     refine awp_seq ?_
     refine awp_block ?_
     refine awp_seq ?_
     refine awp_region rfl ?_
     refine rwp_det rfl rfl (det_field_lit rfl fd77_2 rfl) ?_
     refine rwp_det rfl rfl (det_load_one rfl one54 rfl (ptr_row 0 rfl) rfl) ?_
     refine rwp_det rfl rfl (det_move rfl rfl) ?_
     refine rwp_det rfl rfl (det_index_sl rfl el54 rfl rfl (by omega) (getm (by assumption))) ?_
     refine rwp_det rfl rfl (det_load_agg rfl agg42 rfl ptr_imm rfl) ?_
     refine rwp_det rfl rfl (det_move rfl rfl) ?_
     refine rwp_det rfl rfl (det_call rfl ok50 (ref17_form y sz (hx0 y (mem_of_get hy)) hz0) ⟨VLe.refl _, rfl, VLe.refl _, rfl, trivial⟩) ?_
     refine rwp_det rfl rfl (det_assign rfl rfl) ?_
     refine rwp_nil ?_
     refine awp_seq ?_
     refine awp_region rfl ?_
     refine rwp_det rfl rfl (det_move rfl rfl) ?_
     refine rwp_det rfl rfl (det_neq rfl rfl rfl) ?_
     refine rwp_nil ?_
     refine awp_cond rfl (fun c5 => ?_) (fun c5 => ?_)
     ·try simp only [sx, List.length_map] at c5
      refine awp_seq ?_
      refine awp_region rfl ?_
      refine rwp_det rfl rfl (det_move rfl rfl) ?_
      refine rwp_det rfl rfl (det_assign rfl rfl) ?_
      refine rwp_nil ?_
      refine awp_ret ?_
      repeat (first | refine thenQ_ret ?_ | refine blockQ_ret ?_)
      refine fin1 (rs_c rfl) ?_
      rw [paramR_f c1 c2 (by omega), hp, formsR_no hy c5]
     ·try simp only [sx, List.length_map] at c5
      refine awp_skip ?_
      refine awp_region rfl ?_
      refine rwp_det rfl rfl (det_move rfl rfl) ?_
      refine rwp_det rfl rfl (det_add_nw rfl rfl rfl ⟨by omega, by omega⟩) ?_
      refine rwp_det rfl rfl (det_assign rfl rfl) ?_
      refine rwp_nil ?_
      refine ⟨k + 1, ⟨by omega, hp.trans (formsR_next hy c5)⟩, (by omega), Weak.mk [true] ⟨VLe.refl _, VLe.refl _, VLe.refl _, trivial⟩ rfl⟩
    ·try simp only [sx, List.length_map] at c4
     refine awp_exit ?_
     refine awp_seq ?_
     refine awp_region rfl ?_
     refine rwp_det rfl rfl (det_assign rfl rfl) ?_
     refine rwp_nil ?_
     refine awp_ret ?_
     repeat (first | refine thenQ_ret ?_ | refine blockQ_ret ?_)
     refine fin1 (rs_c rfl) ?_
     rw [paramR_f c1 c2 (by omega), hp, drop_all (by omega)]; rfl

theorem ref17_axes (l : List Ax) (sz : List ByteArray) (hl0 : l.length ≤ 2147483648) (hx0 : ∀ a, a ∈ l → a.Size.L.length ≤ 4294967296) (hz0 : sz.length ≤ 4194304) :
    Pur cfg 113 [.c (.sl 3 (l.map Ax.cells)), vSs sz] (vI (axesR sz sz l)) := by
 refine con_intro Tryz.func113 rfl Tryz.ntmps113 Tryz.results113 rfl ?_
 intro z hz
 refine awp_seq ?_
 refine awp_region rfl ?_
 refine rwp_det rfl rfl (det_assign rfl rfl) ?_
 refine rwp_nil ?_
 refine awp_seq ?_
 refine awp_region rfl ?_
 refine rwp_op rfl rfl (ope_bslice rfl el22 zr9 rfl rfl rfl rfl) ?_
 rintro _ _ ⟨sv1, rfl, rfl⟩
 refine rwp_det rfl rfl (det_move rfl rfl) ?_
 refine rwp_op rfl rfl (ope_append 0 rfl el22 rfl rfl rfl (by simp only [List.length_append, List.length_take, List.length_map, List.length_cons, List.length_nil]; omega) (by simp only [List.length_append, List.length_take, List.length_map, List.length_cons, List.length_nil]; omega)) ?_
 rintro _ _ ⟨sv2, rfl, rfl⟩
 refine rwp_det rfl rfl (det_assign rfl rfl) ?_
 refine rwp_nil ?_
 refine awp_seq ?_
 refine awp_seq ?_
 refine awp_region rfl ?_
 refine rwp_det rfl rfl (det_assign rfl rfl) ?_
 refine rwp_nil ?_
 refine awp_block ?_
 refine awp_weak ⟨[(6, .c _), (5, .c _), (0, .c _), (1, .c _)], [_]⟩ (Weak.mk [true] ⟨VLe.of_eq rfl, VLe.of_eq rfl, VLe.of_eq rfl, VLe.of_eq rfl, trivial⟩ rfl) ?_
 refine awp_loop_k 2 1 rfl rfl (Nat × Value) (fun ⟨k, sv⟩ => [(6, vI k), (5, .c (.lit sv))]) (fun ⟨k, sv⟩ => [E.vec sv 9 1 ((sz ++ (l.take k).map Ax.Name).map fun s => [cS s])]) (fun ⟨k, sv⟩ => k ≤ l.length ∧ (axesR sz sz l = axesR sz (sz ++ (l.take k).map Ax.Name) (l.drop k))) (fun ⟨k, sv⟩ => l.length - k) ⟨⟨0, _⟩, ⟨by omega, by simp⟩, Weak.mk [true] ⟨VLe.refl _, VLe.refl _, VLe.refl _, VLe.refl _, trivial⟩ (by show _ = [E.vec _ _ 1 ((sz ++ []).map fun s => [cS s])] ++ _; rw [List.append_nil sz]; rfl)⟩ ?_
 rintro ⟨k, sv⟩ ⟨hk, hp⟩
 show AWP _ _ _ _ _ ⟨[(6, vI k), (5, .c (.lit sv))] ++ _, [E.vec sv 9 1 ((sz ++ (l.take k).map Ax.Name).map fun s => [cS s])] ++ _⟩
 refine awp_seq ?_
 refine awp_seq ?_
 refine awp_region rfl ?_
 refine rwp_det rfl rfl (det_move rfl rfl) ?_
 refine rwp_det rfl rfl (det_move rfl rfl) ?_
 refine rwp_det rfl rfl (det_len_slm rfl el61 rfl) ?_
 refine rwp_det rfl rfl (det_lss rfl rfl rfl) ?_
 refine rwp_nil ?_
 refine awp_cond rfl (fun c1 => ?_) (fun c1 => ?_)
 ·try simp only [sx, List.length_map] at c1
  obtain ⟨x, hx⟩ := ex_get l k (by omega)
  refine awp_skip ?_
  refine awp_seq ?_
  refine awp_block ?_
  refine awp_seq ?_
  refine awp_seq ?_
  refine awp_region rfl ?_
  refine rwp_det rfl rfl (det_move rfl rfl) ?_
  refine rwp_det rfl rfl (det_move rfl rfl) ?_
  refine rwp_det rfl rfl (det_index_sl rfl el61 rfl rfl (by omega) (getm (by assumption))) ?_
  refine rwp_det rfl rfl (det_field_imm rfl fd80_0 rfl) ?_
  refine rwp_det rfl rfl (det_load_one rfl one9 rfl ptr_imm rfl) ?_
  refine rwp_det rfl rfl (det_move rfl rfl) ?_
  refine rwp_det rfl rfl (det_call_lend 0 rfl ok109 rfl (ref17_name x.Name (sz ++ (l.take k).map Ax.Name) (by simp only [List.length_append, List.length_take, List.length_map, List.length_cons, List.length_nil]; omega)) rfl ⟨.inr ⟨VLe.refl _, rfl⟩, .inl ⟨rfl, rfl⟩, trivial⟩) ?_
  refine rwp_det rfl rfl (det_assign rfl rfl) ?_
  refine rwp_nil ?_
  refine awp_seq ?_
  refine awp_region rfl ?_
  refine rwp_det rfl rfl (det_move rfl rfl) ?_
  refine rwp_det rfl rfl (det_neq rfl rfl rfl) ?_
  refine rwp_nil ?_
  refine awp_cond rfl (fun c2 => ?_) (fun c2 => ?_)
  ·try simp only [sx, List.length_map] at c2
   refine awp_seq ?_
   refine awp_region rfl ?_
   refine rwp_det rfl rfl (det_move rfl rfl) ?_
   refine rwp_det rfl rfl (det_assign rfl rfl) ?_
   refine rwp_nil ?_
   refine awp_ret ?_
   repeat (first | refine thenQ_ret ?_ | refine blockQ_ret ?_)
   refine fin1 (rs_c rfl) ?_
   rw [hp, axesR_n hx c2]
  ·try simp only [sx, List.length_map] at c2
   refine awp_skip ?_
   refine awp_seq ?_
   refine awp_seq ?_
   refine awp_region rfl ?_
   refine rwp_det rfl rfl (det_move rfl rfl) ?_
   refine rwp_det rfl rfl (det_move rfl rfl) ?_
   refine rwp_det rfl rfl (det_index_sl rfl el61 rfl rfl (by omega) (getm (by assumption))) ?_
   refine rwp_det rfl rfl (det_field_imm rfl fd80_1 rfl) ?_
   refine rwp_det rfl rfl (det_load_agg rfl agg42 rfl ptr_imm rfl) ?_
   refine rwp_det rfl rfl (det_move rfl rfl) ?_
   refine rwp_det rfl rfl (det_call rfl ok50 (ref17_form x.Size sz (hx0 x (mem_of_get hx)) (by omega)) ⟨VLe.refl _, rfl, VLe.refl _, rfl, trivial⟩) ?_
   refine rwp_det rfl rfl (det_assign rfl rfl) ?_
   refine rwp_nil ?_
   refine awp_seq ?_
   refine awp_region rfl ?_
   refine rwp_det rfl rfl (det_move rfl rfl) ?_
   refine rwp_det rfl rfl (det_neq rfl rfl rfl) ?_
   refine rwp_nil ?_
   refine awp_cond rfl (fun c3 => ?_) (fun c3 => ?_)
   ·try simp only [sx, List.length_map] at c3
    refine awp_seq ?_
    refine awp_region rfl ?_
    refine rwp_det rfl rfl (det_move rfl rfl) ?_
    refine rwp_det rfl rfl (det_assign rfl rfl) ?_
    refine rwp_nil ?_
    refine awp_ret ?_
    repeat (first | refine thenQ_ret ?_ | refine blockQ_ret ?_)
    refine fin1 (rs_c rfl) ?_
    rw [hp, axesR_f hx c2 c3]
   ·try simp only [sx, List.length_map] at c3
    refine awp_skip ?_
    refine awp_region rfl ?_
    refine rwp_det rfl rfl (det_move rfl rfl) ?_
    refine rwp_det rfl rfl (det_move rfl rfl) ?_
    refine rwp_det rfl rfl (det_move rfl rfl) ?_
    refine rwp_det rfl rfl (det_index_sl rfl el61 rfl rfl (by omega) (getm (by assumption))) ?_
    refine rwp_det rfl rfl (det_field_imm rfl fd80_0 rfl) ?_
    refine rwp_det rfl rfl (det_load_one rfl one9 rfl ptr_imm rfl) ?_
    refine rwp_det rfl rfl (det_bslice rfl el22 zr9 rfl rfl rfl rfl) ?_
    refine rwp_op rfl rfl (ope_append 0 rfl el22 rfl rfl rfl (by simp only [List.length_append, List.length_take, List.length_map, List.length_cons, List.length_nil]; omega) (by simp only [List.length_append, List.length_take, List.length_map, List.length_cons, List.length_nil]; omega)) ?_
    rintro _ _ ⟨sv3, rfl, rfl⟩
    refine rwp_det rfl rfl (det_assign rfl rfl) ?_
    refine rwp_nil ?_
    refine awp_region rfl ?_
    refine rwp_det rfl rfl (det_move rfl rfl) ?_
    refine rwp_det rfl rfl (det_add_nw rfl rfl rfl ⟨by omega, by omega⟩) ?_
    refine rwp_det rfl rfl (det_assign rfl rfl) ?_
    refine rwp_nil ?_
    refine ⟨⟨k + 1, sv3⟩, ⟨by omega, by rw [hp, axesR_next hx c2 c3, take_next hx, List.map_append, ← List.append_assoc]; rfl⟩, (by show l.length - (k + 1) < l.length - k; omega), Weak.mk [true] ⟨VLe.refl _, VLe.refl _, VLe.refl _, VLe.refl _, trivial⟩ (by show _ = [E.vec sv3 _ 1 ((sz ++ (l.take (k + 1)).map Ax.Name).map fun s => [cS s])] ++ _; rw [take_next hx, List.map_append (f := Ax.Name), ← List.append_assoc, List.map_append (f := fun s => [cS s]) (l₁ := sz ++ (l.take k).map Ax.Name)]; rfl)⟩
 ·try simp only [sx, List.length_map] at c1
  refine awp_exit ?_
  refine awp_seq ?_
  refine awp_region rfl ?_
  refine rwp_det rfl rfl (det_assign rfl rfl) ?_
  refine rwp_nil ?_
  refine awp_ret ?_
  repeat (first | refine thenQ_ret ?_ | refine blockQ_ret ?_)
  refine fin1 (rs_c rfl) ?_
  rw [hp, drop_all (by omega)]; rfl

theorem ref17_reduction (d : Df) :
    Pur cfg 114 [vDf d] (vI (foldR d)) := by
 refine con_intro Tryz.func114 rfl Tryz.ntmps114 Tryz.results114 rfl ?_
 intro z hz
 refine awp_seq ?_
 refine awp_region rfl ?_
 refine rwp_op rfl rfl (ope_box rfl rfl) ?_
 rintro _ _ ⟨b1, rfl, rfl⟩
 refine rwp_det rfl rfl (det_assign rfl rfl) ?_
 refine rwp_nil ?_
 refine awp_seq ?_
 refine awp_seq ?_
 refine awp_region rfl ?_
 refine rwp_det rfl rfl (det_field_lit rfl fd63_4 rfl) ?_
 refine rwp_det rfl rfl (det_load_one rfl one3 rfl (ptr_row 0 rfl) rfl) ?_
 refine rwp_det rfl rfl (det_lss rfl rfl rfl) ?_
 refine rwp_det rfl rfl (det_move rfl rfl) ?_
 refine rwp_lazy [] rfl rfl rfl rfl gv1 trivial (fun g1_3 => det_field_lit rfl fd63_4 rfl) rfl ?_
 refine rwp_lazy [(8, _)] rfl rfl rfl rfl gv1 ⟨rfl, rfl, trivial⟩ (fun g1_3 => det_load_one rfl one3 rfl (ptr_row 0 rfl) rfl) rfl ?_
 refine rwp_lazy [(9, _)] rfl rfl rfl rfl gv1 ⟨rfl, rfl, trivial⟩ (fun g1_3 => det_gtr rfl rfl rfl) rfl ?_
 refine rwp_det rfl rfl (det_or rfl rfl rfl rfl (fun h => (lzf h))) ?_
 refine rwp_nil ?_
 refine awp_cond rfl (fun c1 => ?_) (fun c1 => ?_)
 ·have h1 := (red1 d).1 c1
  refine awp_seq ?_
  refine awp_region rfl ?_
  refine rwp_det rfl rfl (det_assign rfl rfl) ?_
  refine rwp_nil ?_
  refine awp_ret ?_
  repeat (first | refine thenQ_ret ?_ | refine blockQ_ret ?_)
  refine fin1 (rs_c rfl) ?_
  rw [foldR, if_pos h1]
 ·have h1 := (red1 d).2 c1
  refine awp_skip ?_
  refine awp_seq ?_
  refine awp_region rfl ?_
  refine rwp_det rfl rfl (det_field_lit rfl fd63_4 rfl) ?_
  refine rwp_det rfl rfl (det_load_one rfl one3 rfl (ptr_row 0 rfl) rfl) ?_
  refine rwp_det rfl rfl (det_eql rfl rfl rfl) ?_
  refine rwp_det rfl rfl (det_move rfl rfl) ?_
  refine rwp_lazy [] rfl rfl rfl rfl gv1 trivial (fun g3_3 => det_field_lit rfl fd63_4 rfl) rfl ?_
  refine rwp_lazy [(16, _)] rfl rfl rfl rfl gv1 ⟨rfl, rfl, trivial⟩ (fun g3_3 => det_load_one rfl one3 rfl (ptr_row 0 rfl) rfl) rfl ?_
  refine rwp_lazy [(17, _)] rfl rfl rfl rfl gv1 ⟨rfl, rfl, trivial⟩ (fun g3_3 => det_eql rfl rfl rfl) rfl ?_
  refine rwp_det rfl rfl (det_or rfl rfl rfl rfl (fun h => (lzf h))) ?_
  refine rwp_det rfl rfl (det_assign rfl rfl) ?_
  refine rwp_nil ?_
  refine awp_seq ?_
  refine awp_seq ?_
  refine awp_region rfl ?_
  refine rwp_det rfl rfl (det_move rfl rfl) ?_
  refine rwp_det rfl rfl (det_field_lit rfl fd63_3 rfl) ?_
  refine rwp_det rfl rfl (det_load_one rfl one61 rfl (ptr_row 0 rfl) rfl) ?_
  refine rwp_det rfl rfl (det_len_slm rfl el61 rfl) ?_
  refine rwp_det rfl rfl (det_eql rfl rfl rfl) ?_
  refine rwp_det rfl rfl (det_bneq rfl un4 rfl rfl) ?_
  refine rwp_det rfl rfl (det_move rfl rfl) ?_
  refine rwp_lazy [] rfl rfl rfl rfl gv1 trivial (fun g4_6 => det_field_lit rfl fd63_4 rfl) rfl ?_
  refine rwp_lazy [(27, _)] rfl rfl rfl rfl gv1 ⟨rfl, rfl, trivial⟩ (fun g4_6 => det_load_one rfl one3 rfl (ptr_row 0 rfl) rfl) rfl ?_
  refine rwp_lazy [(28, _)] rfl rfl rfl rfl gv1 ⟨rfl, rfl, trivial⟩ (fun g4_6 => det_eql rfl rfl rfl) rfl ?_
  refine rwp_lazy [(29, _)] rfl rfl rfl rfl gv1 ⟨rfl, rfl, trivial⟩ (fun g4_6 => det_move rfl rfl) rfl ?_
  refine rwp_lazy [] rfl rfl rfl rfl gv2 trivial (fun g4_10 => det_field_lit rfl fd63_2 rfl) rfl ?_
  refine rwp_lazy [(31, _)] rfl rfl rfl rfl gv2 ⟨rfl, rfl, trivial⟩ (fun g4_10 => det_load_one rfl one61 rfl (ptr_row 0 rfl) rfl) rfl ?_
  refine rwp_lazy [(32, _)] rfl rfl rfl rfl gv2 ⟨rfl, rfl, trivial⟩ (fun g4_10 => det_len_slm rfl el61 rfl) rfl ?_
  refine rwp_lazy [(33, _)] rfl rfl rfl rfl gv2 ⟨rfl, rfl, trivial⟩ (fun g4_10 => det_eql rfl rfl rfl) rfl ?_
  refine rwp_lazy [(30, _)] rfl rfl rfl rfl gv1 ⟨rfl, rfl, trivial⟩ (fun g4_6 => det_and rfl rfl rfl (fun h => and_mk (by assumption) h) rfl) rfl ?_
  refine rwp_det rfl rfl (det_or rfl rfl rfl rfl (fun h => (lzf h))) ?_
  refine rwp_nil ?_
  refine awp_cond rfl (fun c2 => ?_) (fun c2 => ?_)
  ·refine awp_seq ?_
   refine awp_region rfl ?_
   refine rwp_det rfl rfl (det_assign rfl rfl) ?_
   refine rwp_nil ?_
   refine awp_ret ?_
   repeat (first | refine thenQ_ret ?_ | refine blockQ_ret ?_)
   refine fin1 (rs_c rfl) ?_
   rw [foldR, if_neg h1, if_pos (red2 c2)]
  ·refine awp_skip ?_
   refine awp_seq ?_
   refine awp_region rfl ?_
   refine rwp_det rfl rfl (det_assign rfl rfl) ?_
   refine rwp_nil ?_
   refine awp_ret ?_
   repeat (first | refine thenQ_ret ?_ | refine blockQ_ret ?_)
   refine fin1 (rs_c rfl) ?_
   rw [foldR, if_neg h1, if_neg (red3 c2)]

theorem ref17_def (p : Pg) (hP : p.Ok) (hz0 : p.Sizes.length ≤ 64) (k : Nat) (d : Df) (hd : p.Defs[k]? = some d) (t : List ByteArray) (ht : t.length ≤ 4294967296) :
    Pur cfg 52 [vPg p, vI k, vSs t] (vI (defR ⟨p.Sizes, p.Params, p.Defs.take k⟩ d t)) := by
 refine con_intro Tryz.func52 rfl Tryz.ntmps52 Tryz.results52 rfl ?_
 intro z hz
 obtain ⟨hD, hR, hA, hA2, hB⟩ := hP.ds d (mem_of_get hd)
 have hlen := len_of_get hd
 have hpd := hP.defs
 have hDR : (d.Dims ++ d.Red).length = d.Dims.length + d.Red.length := List.length_append
 have hAx : ∀ a, a ∈ d.Dims ++ d.Red → a.Size.L.length ≤ 4294967296 := fun a ha => by rcases List.mem_append.1 ha with h | h; exact hA a h; exact hA2 a h
 have hrows : [] ++ d.Dims.map Ax.cells ++ d.Red.map Ax.cells = (d.Dims ++ d.Red).map Ax.cells := by simp
 have hax : Pur cfg 113 [.c (.sl 3 ([] ++ d.Dims.map Ax.cells ++ d.Red.map Ax.cells)), vSs p.Sizes] (vI (axesR p.Sizes p.Sizes (d.Dims ++ d.Red))) := by rw [hrows]; exact ref17_axes (d.Dims ++ d.Red) p.Sizes (by omega) hAx (by omega)
 have hP2 : (⟨p.Sizes, [], p.Params, p.Defs.take k, []⟩ : Pg).Ok := ⟨hP.sizes, by simp, hP.params, (hP.take k).defs, by simp, fun c hc => (by cases hc), hP.ps, (hP.take k).ds⟩
 refine awp_seq ?_
 refine awp_region rfl ?_
 refine rwp_op rfl rfl (ope_box rfl rfl) ?_
 rintro _ _ ⟨b1, rfl, rfl⟩
 refine rwp_det rfl rfl (det_assign rfl rfl) ?_
 refine rwp_nil ?_
 refine awp_seq ?_
 refine awp_region rfl ?_
 refine rwp_det rfl rfl (det_field_lit rfl fd27_3 rfl) ?_
 refine rwp_det rfl rfl (det_load_one rfl one25 rfl (ptr_row 0 rfl) rfl) ?_
 refine rwp_det rfl rfl (det_move rfl rfl) ?_
 refine rwp_det rfl rfl (det_index_sl rfl el25 rfl rfl (by omega) (getm (by assumption))) ?_
 refine rwp_det rfl rfl (det_load_agg rfl agg63 rfl ptr_imm rfl) ?_
 refine rwp_op rfl rfl (ope_allocN [none, none, none, none, none, none, some 3, some 3, none, none, none, none, none, none, none, none, none, none, none, some 2, some 4, some 13] rfl zr63 rfl) ?_
 rintro _ _ ⟨b2, rfl, rfl⟩
 refine rwp_det0 rfl rfl (det_store rfl sz63 rfl rfl rfl (st_row 0 rfl rfl)) ?_
 refine rwp_nil ?_
 refine awp_seq ?_
 refine awp_seq ?_
 refine awp_region rfl ?_
 refine rwp_det rfl rfl (det_field_lit rfl fd63_0 rfl) ?_
 refine rwp_det rfl rfl (det_load_one rfl one9 rfl (ptr_row 0 rfl) rfl) ?_
 refine rwp_det rfl rfl (det_move rfl rfl) ?_
 refine rwp_det rfl rfl (det_call rfl ok109 (ref17_name d.Name t ht) ⟨VLe.refl _, rfl, VLe.refl _, rfl, trivial⟩) ?_
 refine rwp_det rfl rfl (det_assign rfl rfl) ?_
 refine rwp_nil ?_
 refine awp_seq ?_
 refine awp_region rfl ?_
 refine rwp_det rfl rfl (det_move rfl rfl) ?_
 refine rwp_det rfl rfl (det_neq rfl rfl rfl) ?_
 refine rwp_nil ?_
 refine awp_cond rfl (fun c1 => ?_) (fun c1 => ?_)
 ·try simp only [sx, List.length_map] at c1
  refine awp_seq ?_
  refine awp_region rfl ?_
  refine rwp_det rfl rfl (det_move rfl rfl) ?_
  refine rwp_det rfl rfl (det_assign rfl rfl) ?_
  refine rwp_nil ?_
  refine awp_ret ?_
  repeat (first | refine thenQ_ret ?_ | refine blockQ_ret ?_)
  refine fin1 (rs_c rfl) ?_
  rw [defR_1 c1]
 ·try simp only [sx, List.length_map] at c1
  refine awp_skip ?_
  refine awp_seq ?_
  refine awp_seq ?_
  refine awp_region rfl ?_
  refine rwp_det rfl rfl (det_field_lit rfl fd63_1 rfl) ?_
  refine rwp_det rfl rfl (det_load_agg rfl agg39 rfl (ptr_row 0 rfl) rfl) ?_
  refine rwp_det rfl rfl (det_call rfl ok112 (base_Type d.T) ⟨VLe.refl _, rfl, trivial⟩) ?_
  refine rwp_det rfl rfl (det_not rfl rfl) ?_
  refine rwp_nil ?_
  refine awp_cond rfl (fun c2 => ?_) (fun c2 => ?_)
  ·try simp only [sx, List.length_map] at c2
   refine awp_seq ?_
   refine awp_region rfl ?_
   refine rwp_det rfl rfl (det_assign rfl rfl) ?_
   refine rwp_nil ?_
   refine awp_ret ?_
   repeat (first | refine thenQ_ret ?_ | refine blockQ_ret ?_)
   refine fin1 (rs_c rfl) ?_
   rw [defR_10 c1 c2]
  ·try simp only [sx, List.length_map] at c2
   refine awp_skip ?_
   refine awp_seq ?_
   refine awp_seq ?_
   refine awp_region rfl ?_
   refine rwp_det rfl rfl (det_field_lit rfl fd63_2 rfl) ?_
   refine rwp_det rfl rfl (det_load_one rfl one61 rfl (ptr_row 0 rfl) rfl) ?_
   refine rwp_det rfl rfl (det_len_slm rfl el61 rfl) ?_
   refine rwp_det rfl rfl (det_gtr rfl rfl rfl) ?_
   refine rwp_det rfl rfl (det_move rfl rfl) ?_
   refine rwp_lazy [] rfl rfl rfl rfl gv1 trivial (fun g7_4 => det_field_lit rfl fd63_3 rfl) rfl ?_
   refine rwp_lazy [(34, _)] rfl rfl rfl rfl gv1 ⟨rfl, rfl, trivial⟩ (fun g7_4 => det_load_one rfl one61 rfl (ptr_row 0 rfl) rfl) rfl ?_
   refine rwp_lazy [(35, _)] rfl rfl rfl rfl gv1 ⟨rfl, rfl, trivial⟩ (fun g7_4 => det_len_slm rfl el61 rfl) rfl ?_
   refine rwp_lazy [(36, _)] rfl rfl rfl rfl gv1 ⟨rfl, rfl, trivial⟩ (fun g7_4 => det_gtr rfl rfl rfl) rfl ?_
   refine rwp_det rfl rfl (det_or rfl rfl rfl rfl (fun h => (lzf h))) ?_
   refine rwp_nil ?_
   refine awp_cond rfl (fun c3 => ?_) (fun c3 => ?_)
   ·try simp only [sx, List.length_map] at c3
    refine awp_seq ?_
    refine awp_region rfl ?_
    refine rwp_det rfl rfl (det_assign rfl rfl) ?_
    refine rwp_nil ?_
    refine awp_ret ?_
    repeat (first | refine thenQ_ret ?_ | refine blockQ_ret ?_)
    refine fin1 (rs_c rfl) ?_
    rw [defR_11 c1 c2 (by omega)]
   ·try simp only [sx, List.length_map] at c3
    have hX := defR_ok (n := ⟨p.Sizes, p.Params, p.Defs.take k⟩) c1 c2 (by omega)
    refine awp_skip ?_
    refine awp_seq ?_
    refine awp_seq ?_
    refine awp_draw_c 9 1 [⟨1, .q []⟩, ⟨2, .q [1]⟩, ⟨4, .q []⟩, ⟨5, .q [1]⟩, ⟨7, .q []⟩, ⟨8, .q [2]⟩, ⟨0, .e 0 []⟩, ⟨3, .e 0 []⟩, ⟨6, .e 0 []⟩] mixed (by kernel_rfl) (by kernel_rfl) rfl rfl rfl ?_
    refine fx_skip rfl ?_
    refine fx_skip rfl ?_
    refine fx_skip rfl ?_
    refine fx_skip rfl ?_
    refine fx_skip rfl ?_
    refine fx_skip rfl ?_
    refine fx_skip rfl ?_
    refine fx_skip rfl ?_
    refine fx_skip rfl ?_
    refine fx_nil ?_
    refine sq_det rfl (by decide) rfl rfl (det_field_lit rfl fd63_2 rfl) ?_
    refine sq_det rfl (by decide) rfl rfl (det_load_one rfl one61 rfl (ptr_row 0 rfl) rfl) ?_
    refine sq_det rfl (by decide) rfl rfl (det_field_lit rfl fd63_3 rfl) ?_
    refine sq_det rfl (by decide) rfl rfl (det_load_one rfl one61 rfl (ptr_row 0 rfl) rfl) ?_
    refine sq_det rfl (by decide) rfl rfl (det_field_lit rfl fd27_0 rfl) ?_
    refine sq_det rfl (by decide) rfl rfl (det_load_one rfl one22 rfl (ptr_row 0 rfl) rfl) ?_
    refine sq_op rfl rfl (by decide) rfl rfl (ope_bslice rfl el61 zr80 rfl rfl rfl rfl) ?_
    rintro _ _ ⟨sv3, rfl, rfl⟩
    refine ⟨_, rfl, ?_⟩
    refine sq_op rfl rfl (by decide) rfl rfl (ope_append 0 rfl el61 rfl rfl rfl (by simp only [List.length_append, List.length_take, List.length_map, List.length_cons, List.length_nil]; omega) (by simp only [List.length_append, List.length_take, List.length_map, List.length_cons, List.length_nil]; omega)) ?_
    rintro _ _ ⟨sv4, rfl, rfl⟩
    refine ⟨_, rfl, ?_⟩
    refine sq_op rfl rfl (by decide) rfl rfl (ope_append 0 rfl el61 rfl rfl rfl (by simp only [List.length_append, List.length_take, List.length_map, List.length_cons, List.length_nil]; omega) (by simp only [List.length_append, List.length_take, List.length_map, List.length_cons, List.length_nil]; omega)) ?_
    rintro _ _ ⟨sv5, rfl, rfl⟩
    refine ⟨_, rfl, ?_⟩
    refine sq_nil rfl ?_
    refine rwp_det rfl rfl (det_call_lend 0 rfl ok113 rfl hax rfl ⟨.inl ⟨rfl, rfl⟩, .inr ⟨VLe.refl _, rfl⟩, trivial⟩) ?_
    refine rwp_det rfl rfl (det_assign rfl rfl) ?_
    refine rwp_nil ?_
    refine awp_seq ?_
    refine awp_region rfl ?_
    refine rwp_det rfl rfl (det_move rfl rfl) ?_
    refine rwp_det rfl rfl (det_neq rfl rfl rfl) ?_
    refine rwp_nil ?_
    refine awp_cond rfl (fun c4 => ?_) (fun c4 => ?_)
    ·try simp only [sx, List.length_map] at c4
     refine awp_seq ?_
     refine awp_region rfl ?_
     refine rwp_det rfl rfl (det_move rfl rfl) ?_
     refine rwp_det rfl rfl (det_assign rfl rfl) ?_
     refine rwp_nil ?_
     refine awp_ret ?_
     repeat (first | refine thenQ_ret ?_ | refine blockQ_ret ?_)
     refine fin1 (rs_c rfl) ?_
     rw [hX, if_neg c4]
    ·try simp only [sx, List.length_map] at c4
     rw [if_pos c4] at hX
     refine awp_skip ?_
     refine awp_seq ?_
     refine awp_seq ?_
     refine awp_region rfl ?_
     refine rwp_det rfl rfl (det_load_agg rfl agg63 rfl (ptr_row 1 rfl) rfl) ?_
     refine rwp_det rfl rfl (det_call rfl ok114 (ref17_reduction d) ⟨VLe.refl _, rfl, trivial⟩) ?_
     refine rwp_det rfl rfl (det_assign rfl rfl) ?_
     refine rwp_nil ?_
     refine awp_seq ?_
     refine awp_region rfl ?_
     refine rwp_det rfl rfl (det_move rfl rfl) ?_
     refine rwp_det rfl rfl (det_neq rfl rfl rfl) ?_
     refine rwp_nil ?_
     refine awp_cond rfl (fun c5 => ?_) (fun c5 => ?_)
     ·try simp only [sx, List.length_map] at c5
      refine awp_seq ?_
      refine awp_region rfl ?_
      refine rwp_det rfl rfl (det_move rfl rfl) ?_
      refine rwp_det rfl rfl (det_assign rfl rfl) ?_
      refine rwp_nil ?_
      refine awp_ret ?_
      repeat (first | refine thenQ_ret ?_ | refine blockQ_ret ?_)
      refine fin1 (rs_c rfl) ?_
      rw [hX, if_neg c5]
     ·try simp only [sx, List.length_map] at c5
      rw [if_pos c5] at hX
      unfold tyErrD at hX
      refine awp_skip ?_
      refine awp_seq ?_
      refine awp_draw_c 19 1 [⟨0, .q []⟩, ⟨1, .q [3]⟩, ⟨2, .q []⟩, ⟨3, .q [3]⟩, ⟨4, .q []⟩, ⟨5, .q [3]⟩, ⟨6, .q []⟩, ⟨7, .q []⟩, ⟨8, .q []⟩, ⟨9, .q [2]⟩, ⟨10, .q []⟩, ⟨11, .q []⟩, ⟨12, .q [2]⟩, ⟨13, .q []⟩, ⟨14, .q []⟩, ⟨15, .q []⟩, ⟨16, .q []⟩, ⟨17, .e 0 []⟩, ⟨18, .e 0 []⟩] mixed (by kernel_rfl) (by kernel_rfl) rfl rfl rfl ?_
      refine fx_skip rfl ?_
      refine fx_skip rfl ?_
      refine fx_skip rfl ?_
      refine fx_skip rfl ?_
      refine fx_skip rfl ?_
      refine fx_skip rfl ?_
      refine fx_skip rfl ?_
      refine fx_skip rfl ?_
      refine fx_skip rfl ?_
      refine fx_skip rfl ?_
      refine fx_skip rfl ?_
      refine fx_skip rfl ?_
      refine fx_skip rfl ?_
      refine fx_skip rfl ?_
      refine fx_skip rfl ?_
      refine fx_skip rfl ?_
      refine fx_skip rfl ?_
      refine fx_skip rfl ?_
      refine fx_skip rfl ?_
      refine fx_nil ?_
      refine sq_det rfl (by decide) rfl rfl (det_field_lit rfl fd27_0 rfl) ?_
      refine sq_det rfl (by decide) rfl rfl (det_load_one rfl one22 rfl (ptr_row 0 rfl) rfl) ?_
      refine sq_det rfl (by decide) rfl rfl (det_field_lit rfl fd27_2 rfl) ?_
      refine sq_det rfl (by decide) rfl rfl (det_load_one rfl one24 rfl (ptr_row 0 rfl) rfl) ?_
      refine sq_det rfl (by decide) rfl rfl (det_field_lit rfl fd27_3 rfl) ?_
      refine sq_det rfl (by decide) rfl rfl (det_load_one rfl one25 rfl (ptr_row 0 rfl) rfl) ?_
      refine sq_det rfl (by decide) rfl rfl (det_move rfl rfl) ?_
      refine sq_det rfl (by decide) rfl rfl (det_cut_take rfl el25 rfl rfl (by omega)) ?_
      refine sq_det rfl (by decide) rfl rfl (det_buildN [none, some 3, none, none, some 1] rfl zr27 pl27 rfl rfl) ?_
      refine sq_det rfl (by decide) rfl rfl (det_load_agg rfl agg63 rfl (ptr_row 0 rfl) rfl) ?_
      refine sq_det rfl (by decide) rfl rfl (det_call rfl ok29 (OwnR.pur (ref17_IndexNames d hD hR)) ⟨VLe.refl _, rfl, trivial⟩) ?_
      refine sq_det rfl (by decide) rfl rfl (det_field_lit rfl fd63_5 rfl) ?_
      refine sq_det rfl (by decide) rfl rfl (det_load_agg rfl agg46 rfl (ptr_row 0 rfl) rfl) ?_
      refine sq_det rfl (by decide) rfl rfl (det_call rfl ok17 (ref17_TypeOf (⟨p.Sizes, [], p.Params, p.Defs.take k, []⟩ : Pg) (namesD d) d.Body hP2 (by rw [namesD, List.length_append, List.length_map, List.length_map]; omega) hB) ⟨VLe.refl _, rfl, VLe.refl _, rfl, VLe.refl _, rfl, trivial⟩) ?_
      refine sq_det rfl (by decide) rfl rfl (det_move_tup rfl rfl) ?_
      refine sq_det rfl (by decide) rfl rfl (det_ex_agg rfl rfl rfl) ?_
      refine sq_det rfl (by decide) rfl rfl (det_ex_c rfl rfl rfl) ?_
      refine sq_op rfl rfl (by decide) rfl rfl (ope_alloc rfl zr39) ?_
      rintro _ _ ⟨b6, rfl, rfl⟩
      refine ⟨_, rfl, ?_⟩
      refine sq_op0 rfl rfl (by decide) rfl rfl (det_store rfl sz39 rfl rfl rfl (st_row 0 rfl rfl)) ?_
      rintro _ _ ⟨rfl, rfl⟩
      refine ⟨_, rfl, ?_⟩
      refine sq_nil rfl ?_
      refine rwp_det rfl rfl (det_assign rfl rfl) ?_
      refine rwp_nil ?_
      refine awp_seq ?_
      refine awp_seq ?_
      refine awp_region rfl ?_
      refine rwp_det rfl rfl (det_move rfl rfl) ?_
      refine rwp_det rfl rfl (det_neq rfl rfl rfl) ?_
      refine rwp_nil ?_
      refine awp_cond rfl (fun c6 => ?_) (fun c6 => ?_)
      ·try simp only [sx, List.length_map] at c6
       refine awp_seq ?_
       refine awp_region rfl ?_
       refine rwp_det rfl rfl (det_move rfl rfl) ?_
       refine rwp_det rfl rfl (det_assign rfl rfl) ?_
       refine rwp_nil ?_
       refine awp_ret ?_
       repeat (first | refine thenQ_ret ?_ | refine blockQ_ret ?_)
       refine fin1 (rs_c rfl) ?_
       rw [hX, if_neg (show ¬ (typeR (⟨p.Sizes, p.Params, p.Defs.take k⟩ : En) (namesD d) d.Body).2 = 0 from c6)]; rfl
      ·try simp only [sx, List.length_map] at c6
       rw [if_pos (show (typeR (⟨p.Sizes, p.Params, p.Defs.take k⟩ : En) (namesD d) d.Body).2 = 0 from c6)] at hX
       refine awp_skip ?_
       refine awp_seq ?_
       refine awp_seq ?_
       refine awp_region rfl ?_
       refine rwp_det rfl rfl (det_load_agg rfl agg39 rfl (ptr_row 0 rfl) rfl) ?_
       refine rwp_det rfl rfl (det_field_lit rfl fd63_1 rfl) ?_
       refine rwp_det rfl rfl (det_load_agg rfl agg39 rfl (ptr_row 2 rfl) rfl) ?_
       refine rwp_det rfl rfl (det_aneq rfl fl39 rfl rfl rfl) ?_
       refine rwp_nil ?_
       refine awp_cond rfl (fun c7 => ?_) (fun c7 => ?_)
       ·refine awp_seq ?_
        refine awp_region rfl ?_
        refine rwp_det rfl rfl (det_assign rfl rfl) ?_
        refine rwp_nil ?_
        refine awp_ret ?_
        repeat (first | refine thenQ_ret ?_ | refine blockQ_ret ?_)
        refine fin1 (rs_c rfl) ?_
        rw [hX, if_neg (show ¬ (typeR (⟨p.Sizes, p.Params, p.Defs.take k⟩ : En) (namesD d) d.Body).1 = d.T from unlike_t c7)]
       ·refine awp_skip ?_
        refine awp_seq ?_
        refine awp_region rfl ?_
        refine rwp_det rfl rfl (det_assign rfl rfl) ?_
        refine rwp_nil ?_
        refine awp_ret ?_
        repeat (first | refine thenQ_ret ?_ | refine blockQ_ret ?_)
        refine fin1 (rs_c rfl) ?_
        rw [hX, if_pos (show (typeR (⟨p.Sizes, p.Params, p.Defs.take k⟩ : En) (namesD d) d.Body).1 = d.T from unlike_f c7)]

theorem ref17_sizes (p : Pg) (hP : p.Ok) :
    Pur cfg 49 [vPg p] (vI (sizes0R p)) := by
 refine con_intro Tryz.func49 rfl Tryz.ntmps49 Tryz.results49 rfl ?_
 intro z hz
 have hpz := hP.sizes
 refine awp_seq ?_
 refine awp_region rfl ?_
 refine rwp_op rfl rfl (ope_box rfl rfl) ?_
 rintro _ _ ⟨b1, rfl, rfl⟩
 refine rwp_det rfl rfl (det_assign rfl rfl) ?_
 refine rwp_nil ?_
 refine awp_seq ?_
 refine awp_seq ?_
 refine awp_region rfl ?_
 refine rwp_det rfl rfl (det_field_lit rfl fd27_0 rfl) ?_
 refine rwp_det rfl rfl (det_load_one rfl one22 rfl (ptr_row 0 rfl) rfl) ?_
 refine rwp_det rfl rfl (det_len_slm rfl el22 rfl) ?_
 refine rwp_det rfl rfl (det_gtr rfl rfl rfl) ?_
 refine rwp_det rfl rfl (det_move rfl rfl) ?_
 refine rwp_lazy [] rfl rfl rfl rfl gv1 trivial (fun g1_4 => det_field_lit rfl fd27_2 rfl) rfl ?_
 refine rwp_lazy [(10, _)] rfl rfl rfl rfl gv1 ⟨rfl, rfl, trivial⟩ (fun g1_4 => det_load_one rfl one24 rfl (ptr_row 0 rfl) rfl) rfl ?_
 refine rwp_lazy [(11, _)] rfl rfl rfl rfl gv1 ⟨rfl, rfl, trivial⟩ (fun g1_4 => det_len_slm rfl el24 rfl) rfl ?_
 refine rwp_lazy [(12, _)] rfl rfl rfl rfl gv1 ⟨rfl, rfl, trivial⟩ (fun g1_4 => det_gtr rfl rfl rfl) rfl ?_
 refine rwp_det rfl rfl (det_or rfl rfl rfl rfl (fun h => (lzf h))) ?_
 refine rwp_det rfl rfl (det_move rfl rfl) ?_
 refine rwp_lazy [] rfl rfl rfl rfl gv1 trivial (fun g1_10 => det_field_lit rfl fd27_3 rfl) rfl ?_
 refine rwp_lazy [(16, _)] rfl rfl rfl rfl gv1 ⟨rfl, rfl, trivial⟩ (fun g1_10 => det_load_one rfl one25 rfl (ptr_row 0 rfl) rfl) rfl ?_
 refine rwp_lazy [(17, _)] rfl rfl rfl rfl gv1 ⟨rfl, rfl, trivial⟩ (fun g1_10 => det_len_slm rfl el25 rfl) rfl ?_
 refine rwp_lazy [(18, _)] rfl rfl rfl rfl gv1 ⟨rfl, rfl, trivial⟩ (fun g1_10 => det_gtr rfl rfl rfl) rfl ?_
 refine rwp_det rfl rfl (det_or rfl rfl rfl rfl (fun h => (lzf h))) ?_
 refine rwp_det rfl rfl (det_move rfl rfl) ?_
 refine rwp_lazy [] rfl rfl rfl rfl gv1 trivial (fun g1_16 => det_field_lit rfl fd27_4 rfl) rfl ?_
 refine rwp_lazy [(22, _)] rfl rfl rfl rfl gv1 ⟨rfl, rfl, trivial⟩ (fun g1_16 => det_load_one rfl one22 rfl (ptr_row 0 rfl) rfl) rfl ?_
 refine rwp_lazy [(23, _)] rfl rfl rfl rfl gv1 ⟨rfl, rfl, trivial⟩ (fun g1_16 => det_len_slm rfl el22 rfl) rfl ?_
 refine rwp_lazy [(24, _)] rfl rfl rfl rfl gv1 ⟨rfl, rfl, trivial⟩ (fun g1_16 => det_gtr rfl rfl rfl) rfl ?_
 refine rwp_det rfl rfl (det_or rfl rfl rfl rfl (fun h => (lzf h))) ?_
 refine rwp_det rfl rfl (det_move rfl rfl) ?_
 refine rwp_lazy [] rfl rfl rfl rfl gv1 trivial (fun g1_22 => det_field_lit rfl fd27_1 rfl) rfl ?_
 refine rwp_lazy [(28, _)] rfl rfl rfl rfl gv1 ⟨rfl, rfl, trivial⟩ (fun g1_22 => det_load_one rfl one23 rfl (ptr_row 0 rfl) rfl) rfl ?_
 refine rwp_lazy [(29, _)] rfl rfl rfl rfl gv1 ⟨rfl, rfl, trivial⟩ (fun g1_22 => det_len_slm rfl el23 rfl) rfl ?_
 refine rwp_lazy [(30, _)] rfl rfl rfl rfl gv1 ⟨rfl, rfl, trivial⟩ (fun g1_22 => det_gtr rfl rfl rfl) rfl ?_
 refine rwp_det rfl rfl (det_or rfl rfl rfl rfl (fun h => (lzf h))) ?_
 refine rwp_nil ?_
 refine awp_cond rfl (fun c1 => ?_) (fun c1 => ?_)
 ·have hl : ¬ limitOk p := lim_no c1
  refine awp_seq ?_
  refine awp_region rfl ?_
  refine rwp_det rfl rfl (det_assign rfl rfl) ?_
  refine rwp_nil ?_
  refine awp_ret ?_
  repeat (first | refine thenQ_ret ?_ | refine blockQ_ret ?_)
  refine fin1 (rs_c rfl) ?_
  rw [sizes0R, if_neg hl]
 ·have hl : limitOk p := lim_yes c1
  have hz : sizes0R p = sizesR [] p.Sizes := by unfold sizes0R; rw [if_pos hl]
  refine awp_skip ?_
  refine awp_seq ?_
  refine awp_seq ?_
  refine awp_region rfl ?_
  refine rwp_det rfl rfl (det_assign rfl rfl) ?_
  refine rwp_nil ?_
  refine awp_block ?_
  refine awp_weak ⟨[(3, .c _), (1, .c _)], [_]⟩ (Weak.mk [true] ⟨VLe.of_eq rfl, VLe.of_eq rfl, trivial⟩ rfl) ?_
  refine awp_loop_k 1 0 rfl rfl (Nat) (fun k => [(3, vI k)]) (fun k => []) (fun k => k ≤ p.Sizes.length ∧ (sizesR [] p.Sizes = sizesR (p.Sizes.take k) (p.Sizes.drop k))) (fun k => p.Sizes.length - k) ⟨0, ⟨by omega, rfl⟩, Weak.mk [true] ⟨VLe.refl _, VLe.refl _, trivial⟩ rfl⟩ ?_
  rintro k ⟨hk, hp⟩
  refine awp_seq ?_
  refine awp_seq ?_
  refine awp_region rfl ?_
  refine rwp_det rfl rfl (det_move rfl rfl) ?_
  refine rwp_det rfl rfl (det_field_lit rfl fd27_0 rfl) ?_
  refine rwp_det rfl rfl (det_load_one rfl one22 rfl (ptr_row 0 rfl) rfl) ?_
  refine rwp_det rfl rfl (det_len_slm rfl el22 rfl) ?_
  refine rwp_det rfl rfl (det_lss rfl rfl rfl) ?_
  refine rwp_nil ?_
  refine awp_cond rfl (fun c2 => ?_) (fun c2 => ?_)
  ·try simp only [sx, List.length_map] at c2
   obtain ⟨x, hx⟩ := ex_get p.Sizes k (by omega)
   refine awp_skip ?_
   refine awp_seq ?_
   refine awp_block ?_
   refine awp_seq ?_
   refine awp_draw 11 mixed (by kernel_rfl) rfl rfl ?_
   refine td_det rfl rfl (det_field_lit rfl fd27_0 rfl) ?_
   refine td_det rfl rfl (det_load_one rfl one22 rfl (ptr_row 0 rfl) rfl) ?_
   refine td_det rfl rfl (det_move rfl rfl) ?_
   refine td_det rfl rfl (det_index_sl rfl el22 rfl rfl (by omega) (getm (by assumption))) ?_
   refine td_det rfl rfl (det_load_one rfl one9 rfl ptr_imm rfl) ?_
   refine td_det rfl rfl (det_field_lit rfl fd27_0 rfl) ?_
   refine td_det rfl rfl (det_load_one rfl one22 rfl (ptr_row 0 rfl) rfl) ?_
   refine td_det rfl rfl (det_move rfl rfl) ?_
   refine td_det rfl rfl (det_cut_take rfl el22 rfl rfl (by omega)) ?_
   refine td_det rfl rfl (det_call rfl ok109 (ref17_name x (p.Sizes.take k) (by rw [List.length_take]; omega)) ⟨VLe.refl _, rfl, VLe.refl _, rfl, trivial⟩) ?_
   refine td_det rfl rfl (det_assign rfl rfl) ?_
   refine td_nil ?_
   refine rwp_nil ?_
   refine awp_seq ?_
   refine awp_region rfl ?_
   refine rwp_det rfl rfl (det_move rfl rfl) ?_
   refine rwp_det rfl rfl (det_neq rfl rfl rfl) ?_
   refine rwp_nil ?_
   refine awp_cond rfl (fun c3 => ?_) (fun c3 => ?_)
   ·try simp only [sx, List.length_map] at c3
    refine awp_seq ?_
    refine awp_region rfl ?_
    refine rwp_det rfl rfl (det_move rfl rfl) ?_
    refine rwp_det rfl rfl (det_assign rfl rfl) ?_
    refine rwp_nil ?_
    refine awp_ret ?_
    repeat (first | refine thenQ_ret ?_ | refine blockQ_ret ?_)
    refine fin1 (rs_c rfl) ?_
    rw [hz, hp, sizesR_no hx c3]
   ·try simp only [sx, List.length_map] at c3
    refine awp_skip ?_
    refine awp_region rfl ?_
    refine rwp_det rfl rfl (det_move rfl rfl) ?_
    refine rwp_det rfl rfl (det_add_nw rfl rfl rfl ⟨by omega, by omega⟩) ?_
    refine rwp_det rfl rfl (det_assign rfl rfl) ?_
    refine rwp_nil ?_
    refine ⟨k + 1, ⟨by omega, hp.trans (sizesR_next hx c3)⟩, (by omega), Weak.mk [true] ⟨VLe.refl _, VLe.refl _, trivial⟩ rfl⟩
  ·try simp only [sx, List.length_map] at c2
   refine awp_exit ?_
   refine awp_seq ?_
   refine awp_region rfl ?_
   refine rwp_det rfl rfl (det_assign rfl rfl) ?_
   refine rwp_nil ?_
   refine awp_ret ?_
   repeat (first | refine thenQ_ret ?_ | refine blockQ_ret ?_)
   refine fin1 (rs_c rfl) ?_
   rw [hz, hp, drop_all (by omega)]; rfl

theorem ref17_Validate (p : Pg) (hP : p.Ok) :
    Pur cfg 14 [vPg p] (.tup [vI (validR p).1, vI (validR p).2]) := by
 refine con_intro Tryz.func14 rfl Tryz.ntmps14 Tryz.results14 rfl ?_
 intro z hz
 have hps := hP.sizes
 have hpw := hP.wh
 have hpp := hP.params
 have hpd := hP.defs
 have hpo := hP.outs
 refine awp_seq ?_
 refine awp_region rfl ?_
 refine rwp_op rfl rfl (ope_box rfl rfl) ?_
 rintro _ _ ⟨b1, rfl, rfl⟩
 refine rwp_det rfl rfl (det_assign rfl rfl) ?_
 refine rwp_det rfl rfl (det_assign rfl rfl) ?_
 refine rwp_nil ?_
 refine awp_seq ?_
 refine awp_seq ?_
 refine awp_region rfl ?_
 refine rwp_det rfl rfl (det_load_agg rfl agg27 rfl (ptr_row 0 rfl) rfl) ?_
 refine rwp_det rfl rfl (det_call rfl ok49 (ref17_sizes p hP) ⟨VLe.refl _, rfl, trivial⟩) ?_
 refine rwp_det rfl rfl (det_assign rfl rfl) ?_
 refine rwp_nil ?_
 refine awp_seq ?_
 refine awp_region rfl ?_
 refine rwp_det rfl rfl (det_move rfl rfl) ?_
 refine rwp_det rfl rfl (det_neq rfl rfl rfl) ?_
 refine rwp_nil ?_
 refine awp_cond rfl (fun c1 => ?_) (fun c1 => ?_)
 ·try simp only [sx, List.length_map] at c1
  refine awp_seq ?_
  refine awp_region rfl ?_
  refine rwp_det rfl rfl (det_move rfl rfl) ?_
  refine rwp_det rfl rfl (det_assign rfl rfl) ?_
  refine rwp_det rfl rfl (det_assign rfl rfl) ?_
  refine rwp_nil ?_
  refine awp_ret ?_
  repeat (first | refine thenQ_ret ?_ | refine blockQ_ret ?_)
  refine fin2 (rs_c rfl) (rs_c rfl) ?_
  rw [validR_s c1]
 ·try simp only [sx, List.length_map] at c1
  have hlm : limitOk p := (sizes0_pos c1).1
  have hlp : p.Params.length ≤ 64 := hlm.2.1
  have hld : p.Defs.length ≤ 64 := hlm.2.2.1
  have hlz : p.Sizes.length ≤ 64 := hlm.1
  refine awp_skip ?_
  refine awp_seq ?_
  refine awp_seq ?_
  refine awp_region rfl ?_
  refine rwp_det rfl rfl (det_assign rfl rfl) ?_
  refine rwp_nil ?_
  refine awp_block ?_
  refine awp_weak ⟨[(5, .c _), (1, .c _)], [_]⟩ (Weak.mk [true] ⟨VLe.of_eq rfl, VLe.of_eq rfl, trivial⟩ rfl) ?_
  refine awp_loop_k 1 0 rfl rfl (Nat) (fun k => [(5, vI k)]) (fun k => []) (fun k => k ≤ p.Where.length ∧ (whereR p.Sizes p.Where = whereR p.Sizes (p.Where.drop k))) (fun k => p.Where.length - k) ⟨0, ⟨by omega, rfl⟩, Weak.mk [true] ⟨VLe.refl _, VLe.refl _, trivial⟩ rfl⟩ ?_
  rintro k ⟨hk, hp⟩
  refine awp_seq ?_
  refine awp_seq ?_
  refine awp_region rfl ?_
  refine rwp_det rfl rfl (det_move rfl rfl) ?_
  refine rwp_det rfl rfl (det_field_lit rfl fd27_1 rfl) ?_
  refine rwp_det rfl rfl (det_load_one rfl one23 rfl (ptr_row 0 rfl) rfl) ?_
  refine rwp_det rfl rfl (det_len_slm rfl el23 rfl) ?_
  refine rwp_det rfl rfl (det_lss rfl rfl rfl) ?_
  refine rwp_nil ?_
  refine awp_cond rfl (fun c2 => ?_) (fun c2 => ?_)
  ·try simp only [sx, List.length_map] at c2
   obtain ⟨x, hx⟩ := ex_get p.Where k (by omega)
   refine awp_skip ?_
   refine awp_seq ?_
   refine awp_block ?_
   refine awp_seq ?_
   refine awp_draw 10 mixed (by kernel_rfl) rfl rfl ?_
   refine td_det rfl rfl (det_field_lit rfl fd27_1 rfl) ?_
   refine td_det rfl rfl (det_load_one rfl one23 rfl (ptr_row 0 rfl) rfl) ?_
   refine td_det rfl rfl (det_move rfl rfl) ?_
   refine td_det rfl rfl (det_index_sl rfl el23 rfl rfl (by omega) (getm (by assumption))) ?_
   refine td_det rfl rfl (det_field_imm rfl fd75_0 rfl) ?_
   refine td_det rfl rfl (det_load_agg rfl agg42 rfl ptr_imm rfl) ?_
   refine td_det rfl rfl (det_field_lit rfl fd27_0 rfl) ?_
   refine td_det rfl rfl (det_load_one rfl one22 rfl (ptr_row 0 rfl) rfl) ?_
   refine td_det rfl rfl (det_call rfl ok50 (ref17_form x.Lin p.Sizes (hP.whs x (mem_of_get hx)) (by omega)) ⟨VLe.refl _, rfl, VLe.refl _, rfl, trivial⟩) ?_
   refine td_det rfl rfl (det_assign rfl rfl) ?_
   refine td_nil ?_
   refine rwp_nil ?_
   refine awp_seq ?_
   refine awp_region rfl ?_
   refine rwp_det rfl rfl (det_move rfl rfl) ?_
   refine rwp_det rfl rfl (det_neq rfl rfl rfl) ?_
   refine rwp_nil ?_
   refine awp_cond rfl (fun c3 => ?_) (fun c3 => ?_)
   ·try simp only [sx, List.length_map] at c3
    refine awp_seq ?_
    refine awp_region rfl ?_
    refine rwp_det rfl rfl (det_move rfl rfl) ?_
    refine rwp_det rfl rfl (det_assign rfl rfl) ?_
    refine rwp_det rfl rfl (det_assign rfl rfl) ?_
    refine rwp_nil ?_
    refine awp_ret ?_
    repeat (first | refine thenQ_ret ?_ | refine blockQ_ret ?_)
    refine fin2 (rs_c rfl) (rs_c rfl) ?_
    rw [validR_w c1 (by rw [hp, whereR_no hx c3]; exact c3), hp, whereR_no hx c3]
   ·try simp only [sx, List.length_map] at c3
    refine awp_skip ?_
    refine awp_region rfl ?_
    refine rwp_det rfl rfl (det_move rfl rfl) ?_
    refine rwp_det rfl rfl (det_add_nw rfl rfl rfl ⟨by omega, by omega⟩) ?_
    refine rwp_det rfl rfl (det_assign rfl rfl) ?_
    refine rwp_nil ?_
    refine ⟨k + 1, ⟨by omega, hp.trans (whereR_next hx c3)⟩, (by omega), Weak.mk [true] ⟨VLe.refl _, VLe.refl _, trivial⟩ rfl⟩
  ·try simp only [sx, List.length_map] at c2
   rw [drop_all (l := p.Where) (k := k) (by omega)] at hp
   have hV := validR_p c1 hp
   refine awp_exit ?_
   refine awp_seq ?_
   refine awp_region rfl ?_
   refine rwp_op rfl rfl (ope_bslice rfl el22 zr9 rfl rfl rfl rfl) ?_
   rintro _ _ ⟨sv2, rfl, rfl⟩
   refine rwp_det rfl rfl (det_field_lit rfl fd27_0 rfl) ?_
   refine rwp_det rfl rfl (det_load_one rfl one22 rfl (ptr_row 1 rfl) rfl) ?_
   refine rwp_op rfl rfl (ope_append 0 rfl el22 rfl rfl rfl (by simp only [List.length_append, List.length_take, List.length_map, List.length_cons, List.length_nil]; omega) (by simp only [List.length_append, List.length_take, List.length_map, List.length_cons, List.length_nil]; omega)) ?_
   rintro _ _ ⟨sv3, rfl, rfl⟩
   refine rwp_det rfl rfl (det_assign rfl rfl) ?_
   refine rwp_nil ?_
   refine awp_seq ?_
   refine awp_region rfl ?_
   refine rwp_det rfl rfl (det_assign rfl rfl) ?_
   refine rwp_nil ?_
   refine awp_seq ?_
   refine awp_seq ?_
   refine awp_region rfl ?_
   refine rwp_det rfl rfl (det_assign rfl rfl) ?_
   refine rwp_nil ?_
   refine awp_block ?_
   refine awp_weak ⟨[(9, .c _), (7, .c _), (8, .c _), (1, .c _)], [_, _]⟩ (Weak.mk [true, true] ⟨VLe.of_eq rfl, VLe.of_eq rfl, VLe.of_eq rfl, VLe.of_eq rfl, trivial⟩ rfl) ?_
   refine awp_loop_k 3 1 rfl rfl (Nat × Value) (fun ⟨k, sv⟩ => [(9, vI k), (7, .c (.lit sv)), (8, vI (2 + (k : Int)))]) (fun ⟨k, sv⟩ => [E.vec sv 9 1 ((p.Sizes ++ (p.Params.take k).map Pm.Name).map fun s => [cS s])]) (fun ⟨k, sv⟩ => k ≤ p.Params.length ∧ (validR p = paramsR p (2 + (k : Int)) (p.Sizes ++ (p.Params.take k).map Pm.Name) (p.Params.drop k))) (fun ⟨k, sv⟩ => p.Params.length - k) ⟨⟨0, _⟩, ⟨by omega, by rw [hV]; simp⟩, Weak.mk [true, true] ⟨VLe.refl _, VLe.refl _, VLe.refl _, VLe.refl _, trivial⟩ (by show _ = [E.vec _ _ 1 ((p.Sizes ++ []).map fun s => [cS s])] ++ _; rw [List.append_nil p.Sizes]; rfl)⟩ ?_
   rintro ⟨k, sv⟩ ⟨hk, hp⟩
   show AWP _ _ _ _ _ ⟨[(9, vI k), (7, .c (.lit sv)), (8, vI (2 + (k : Int)))] ++ _, [E.vec sv 9 1 ((p.Sizes ++ (p.Params.take k).map Pm.Name).map fun s => [cS s])] ++ _⟩
   refine awp_seq ?_
   refine awp_seq ?_
   refine awp_region rfl ?_
   refine rwp_det rfl rfl (det_move rfl rfl) ?_
   refine rwp_det rfl rfl (det_field_lit rfl fd27_2 rfl) ?_
   refine rwp_det rfl rfl (det_load_one rfl one24 rfl (ptr_row 1 rfl) rfl) ?_
   refine rwp_det rfl rfl (det_len_slm rfl el24 rfl) ?_
   refine rwp_det rfl rfl (det_lss rfl rfl rfl) ?_
   refine rwp_nil ?_
   refine awp_cond rfl (fun c4 => ?_) (fun c4 => ?_)
   ·try simp only [sx, List.length_map] at c4
    obtain ⟨x, hx⟩ := ex_get p.Params k (by omega)
    refine awp_skip ?_
    refine awp_seq ?_
    refine awp_block ?_
    refine awp_seq ?_
    refine awp_seq ?_
    refine awp_draw 8 mixed (by kernel_rfl) rfl rfl ?_
    refine td_det rfl rfl (det_field_lit rfl fd27_2 rfl) ?_
    refine td_det rfl rfl (det_load_one rfl one24 rfl (ptr_row 1 rfl) rfl) ?_
    refine td_det rfl rfl (det_move rfl rfl) ?_
    refine td_det rfl rfl (det_index_sl rfl el24 rfl rfl (by omega) (getm (by assumption))) ?_
    refine td_det rfl rfl (det_load_agg rfl agg77 rfl ptr_imm rfl) ?_
    refine td_det rfl rfl (det_field_lit rfl fd27_0 rfl) ?_
    refine td_det rfl rfl (det_load_one rfl one22 rfl (ptr_row 1 rfl) rfl) ?_
    refine td_det rfl rfl (det_move rfl rfl) ?_
    refine td_nil ?_
    refine rwp_det rfl rfl (det_call_lend 0 rfl ok51 rfl (ref17_param x p.Sizes (p.Sizes ++ (p.Params.take k).map Pm.Name) (hP.ps x (mem_of_get hx)).1 (hP.ps x (mem_of_get hx)).2 (by omega) (by simp only [List.length_append, List.length_take, List.length_map, List.length_cons, List.length_nil]; omega)) rfl ⟨.inr ⟨VLe.refl _, rfl⟩, .inr ⟨VLe.refl _, rfl⟩, .inl ⟨rfl, rfl⟩, trivial⟩) ?_
    refine rwp_det rfl rfl (det_assign rfl rfl) ?_
    refine rwp_nil ?_
    refine awp_seq ?_
    refine awp_region rfl ?_
    refine rwp_det rfl rfl (det_move rfl rfl) ?_
    refine rwp_det rfl rfl (det_neq rfl rfl rfl) ?_
    refine rwp_nil ?_
    refine awp_cond rfl (fun c5 => ?_) (fun c5 => ?_)
    ·try simp only [sx, List.length_map] at c5
     refine awp_seq ?_
     refine awp_region rfl ?_
     refine rwp_det rfl rfl (det_move rfl rfl) ?_
     refine rwp_det rfl rfl (det_move rfl rfl) ?_
     refine rwp_det rfl rfl (det_assign rfl rfl) ?_
     refine rwp_det rfl rfl (det_assign rfl rfl) ?_
     refine rwp_nil ?_
     refine awp_ret ?_
     repeat (first | refine thenQ_ret ?_ | refine blockQ_ret ?_)
     refine fin2 (rs_c rfl) (rs_c rfl) ?_
     rw [hp, paramsR_no hx c5]
    ·try simp only [sx, List.length_map] at c5
     refine awp_skip ?_
     refine awp_seq ?_
     refine awp_region rfl ?_
     refine rwp_det rfl rfl (det_move rfl rfl) ?_
     refine rwp_det rfl rfl (det_field_lit rfl fd27_2 rfl) ?_
     refine rwp_det rfl rfl (det_load_one rfl one24 rfl (ptr_row 1 rfl) rfl) ?_
     refine rwp_det rfl rfl (det_move rfl rfl) ?_
     refine rwp_det rfl rfl (det_index_sl rfl el24 rfl rfl (by omega) (getm (by assumption))) ?_
     refine rwp_det rfl rfl (det_field_imm rfl fd77_0 rfl) ?_
     refine rwp_det rfl rfl (det_load_one rfl one9 rfl ptr_imm rfl) ?_
     refine rwp_det rfl rfl (det_bslice rfl el22 zr9 rfl rfl rfl rfl) ?_
     refine rwp_op rfl rfl (ope_append 0 rfl el22 rfl rfl rfl (by simp only [List.length_append, List.length_take, List.length_map, List.length_cons, List.length_nil]; omega) (by simp only [List.length_append, List.length_take, List.length_map, List.length_cons, List.length_nil]; omega)) ?_
     rintro _ _ ⟨sv4, rfl, rfl⟩
     refine rwp_det rfl rfl (det_assign rfl rfl) ?_
     refine rwp_nil ?_
     refine awp_region rfl ?_
     refine rwp_det rfl rfl (det_move rfl rfl) ?_
     refine rwp_det rfl rfl (det_add_nw rfl rfl rfl ⟨by omega, by omega⟩) ?_
     refine rwp_det rfl rfl (det_assign rfl rfl) ?_
     refine rwp_nil ?_
     refine awp_region rfl ?_
     refine rwp_det rfl rfl (det_move rfl rfl) ?_
     refine rwp_det rfl rfl (det_add_nw rfl rfl rfl ⟨by omega, by omega⟩) ?_
     refine rwp_det rfl rfl (det_assign rfl rfl) ?_
     refine rwp_nil ?_
     refine ⟨⟨k + 1, sv4⟩, ⟨by omega, by rw [hp, paramsR_next hx c5, take_next hx, List.map_append, ← List.append_assoc]; congr 1 <;> first | omega | rfl⟩, (by show p.Params.length - (k + 1) < p.Params.length - k; omega), Weak.mk [true, true] ⟨VLe.refl _, VLe.refl _, VLe.of_eq (congrArg vI (by omega)), VLe.refl _, trivial⟩ (by show _ = [E.vec sv4 _ 1 ((p.Sizes ++ (p.Params.take (k + 1)).map Pm.Name).map fun s => [cS s])] ++ _; rw [take_next hx, List.map_append (f := Pm.Name), ← List.append_assoc, List.map_append (f := fun s => [cS s]) (l₁ := p.Sizes ++ (p.Params.take k).map Pm.Name)]; rfl)⟩
   ·try simp only [sx, List.length_map] at c4
    rw [take_all (l := p.Params) (k := k) (by omega)]
    rw [drop_all (l := p.Params) (k := k) (by omega), take_all (l := p.Params) (k := k) (by omega), paramsR] at hp
    refine awp_exit ?_
    refine awp_seq ?_
    refine awp_seq ?_
    refine awp_region rfl ?_
    refine rwp_det rfl rfl (det_assign rfl rfl) ?_
    refine rwp_nil ?_
    refine awp_block ?_
    refine awp_weak ⟨[(11, .c _), (7, .c _), (8, .c _), (1, .c _)], [_, _]⟩ (Weak.mk [true, true] ⟨VLe.of_eq rfl, VLe.of_eq rfl, VLe.of_eq rfl, VLe.of_eq rfl, trivial⟩ rfl) ?_
    refine awp_loop_k 3 1 rfl rfl (Nat × Value) (fun ⟨k, sv⟩ => [(11, vI k), (7, .c (.lit sv)), (8, vI (2 + (p.Params.length : Int) + (k : Int)))]) (fun ⟨k, sv⟩ => [E.vec sv 9 1 ((p.Sizes ++ p.Params.map Pm.Name ++ (p.Defs.take k).map Df.Name).map fun s => [cS s])]) (fun ⟨k, sv⟩ => k ≤ p.Defs.length ∧ (validR p = defsR p (2 + (p.Params.length : Int) + (k : Int)) (p.Sizes ++ p.Params.map Pm.Name ++ (p.Defs.take k).map Df.Name) (p.Defs.take k) (p.Defs.drop k))) (fun ⟨k, sv⟩ => p.Defs.length - k) ⟨⟨0, sv⟩, ⟨by omega, by rw [hp]; simp only [List.take_zero, List.map_nil, List.append_nil, List.drop_zero]; congr 1 <;> omega⟩, Weak.mk [true, true] ⟨VLe.refl _, VLe.refl _, VLe.of_eq (congrArg vI (by omega)), VLe.refl _, trivial⟩ (by show _ = [E.vec _ _ 1 ((p.Sizes ++ p.Params.map Pm.Name ++ []).map fun s => [cS s])] ++ _; rw [List.append_nil (p.Sizes ++ p.Params.map Pm.Name)]; rfl)⟩ ?_
    rintro ⟨k, sv⟩ ⟨hk, hq⟩
    show AWP _ _ _ _ _ ⟨[(11, vI k), (7, .c (.lit sv)), (8, vI (2 + (p.Params.length : Int) + (k : Int)))] ++ _, [E.vec sv 9 1 ((p.Sizes ++ p.Params.map Pm.Name ++ (p.Defs.take k).map Df.Name).map fun s => [cS s])] ++ _⟩
    refine awp_seq ?_
    refine awp_seq ?_
    refine awp_region rfl ?_
    refine rwp_det rfl rfl (det_move rfl rfl) ?_
    refine rwp_det rfl rfl (det_field_lit rfl fd27_3 rfl) ?_
    refine rwp_det rfl rfl (det_load_one rfl one25 rfl (ptr_row 1 rfl) rfl) ?_
    refine rwp_det rfl rfl (det_len_slm rfl el25 rfl) ?_
    refine rwp_det rfl rfl (det_lss rfl rfl rfl) ?_
    refine rwp_nil ?_
    refine awp_cond rfl (fun c6 => ?_) (fun c6 => ?_)
    ·try simp only [sx, List.length_map] at c6
     obtain ⟨x, hx⟩ := ex_get p.Defs k (by omega)
     refine awp_skip ?_
     refine awp_seq ?_
     refine awp_block ?_
     refine awp_seq ?_
     refine awp_seq ?_
     refine awp_region rfl ?_
     refine rwp_det rfl rfl (det_load_agg rfl agg27 rfl (ptr_row 1 rfl) rfl) ?_
     refine rwp_det rfl rfl (det_move rfl rfl) ?_
     refine rwp_det rfl rfl (det_move rfl rfl) ?_
     refine rwp_det rfl rfl (det_call_lend 0 rfl ok52 rfl (ref17_def p hP hlm.1 k x hx (p.Sizes ++ p.Params.map Pm.Name ++ (p.Defs.take k).map Df.Name) (by simp only [List.length_append, List.length_take, List.length_map, List.length_cons, List.length_nil]; omega)) rfl ⟨.inr ⟨VLe.refl _, rfl⟩, .inr ⟨VLe.refl _, rfl⟩, .inl ⟨rfl, rfl⟩, trivial⟩) ?_
     refine rwp_det rfl rfl (det_assign rfl rfl) ?_
     refine rwp_nil ?_
     refine awp_seq ?_
     refine awp_region rfl ?_
     refine rwp_det rfl rfl (det_move rfl rfl) ?_
     refine rwp_det rfl rfl (det_neq rfl rfl rfl) ?_
     refine rwp_nil ?_
     refine awp_cond rfl (fun c7 => ?_) (fun c7 => ?_)
     ·try simp only [sx, List.length_map] at c7
      refine awp_seq ?_
      refine awp_region rfl ?_
      refine rwp_det rfl rfl (det_move rfl rfl) ?_
      refine rwp_det rfl rfl (det_move rfl rfl) ?_
      refine rwp_det rfl rfl (det_assign rfl rfl) ?_
      refine rwp_det rfl rfl (det_assign rfl rfl) ?_
      refine rwp_nil ?_
      refine awp_ret ?_
      repeat (first | refine thenQ_ret ?_ | refine blockQ_ret ?_)
      refine fin2 (rs_c rfl) (rs_c rfl) ?_
      rw [hq, defsR_no hx c7]
     ·try simp only [sx, List.length_map] at c7
      refine awp_skip ?_
      refine awp_seq ?_
      refine awp_region rfl ?_
      refine rwp_det rfl rfl (det_move rfl rfl) ?_
      refine rwp_det rfl rfl (det_field_lit rfl fd27_3 rfl) ?_
      refine rwp_det rfl rfl (det_load_one rfl one25 rfl (ptr_row 1 rfl) rfl) ?_
      refine rwp_det rfl rfl (det_move rfl rfl) ?_
      refine rwp_det rfl rfl (det_index_sl rfl el25 rfl rfl (by omega) (getm (by assumption))) ?_
      refine rwp_det rfl rfl (det_field_imm rfl fd63_0 rfl) ?_
      refine rwp_det rfl rfl (det_load_one rfl one9 rfl ptr_imm rfl) ?_
      refine rwp_det rfl rfl (det_bslice rfl el22 zr9 rfl rfl rfl rfl) ?_
      refine rwp_op rfl rfl (ope_append 0 rfl el22 rfl rfl rfl (by simp only [List.length_append, List.length_take, List.length_map, List.length_cons, List.length_nil]; omega) (by simp only [List.length_append, List.length_take, List.length_map, List.length_cons, List.length_nil]; omega)) ?_
      rintro _ _ ⟨sv5, rfl, rfl⟩
      refine rwp_det rfl rfl (det_assign rfl rfl) ?_
      refine rwp_nil ?_
      refine awp_region rfl ?_
      refine rwp_det rfl rfl (det_move rfl rfl) ?_
      refine rwp_det rfl rfl (det_add_nw rfl rfl rfl ⟨by omega, by omega⟩) ?_
      refine rwp_det rfl rfl (det_assign rfl rfl) ?_
      refine rwp_nil ?_
      refine awp_region rfl ?_
      refine rwp_det rfl rfl (det_move rfl rfl) ?_
      refine rwp_det rfl rfl (det_add_nw rfl rfl rfl ⟨by omega, by omega⟩) ?_
      refine rwp_det rfl rfl (det_assign rfl rfl) ?_
      refine rwp_nil ?_
      refine ⟨⟨k + 1, sv5⟩, ⟨by omega, by rw [hq, defsR_next hx c7, take_next hx, List.map_append, ← List.append_assoc]; congr 1 <;> first | omega | rfl⟩, (by show p.Defs.length - (k + 1) < p.Defs.length - k; omega), Weak.mk [true, true] ⟨VLe.refl _, VLe.refl _, VLe.of_eq (congrArg vI (by omega)), VLe.refl _, trivial⟩ (by show _ = [E.vec sv5 _ 1 ((p.Sizes ++ p.Params.map Pm.Name ++ (p.Defs.take (k + 1)).map Df.Name).map fun s => [cS s])] ++ _; rw [take_next hx, List.map_append (f := Df.Name), ← List.append_assoc, List.map_append (f := fun s => [cS s]) (l₁ := p.Sizes ++ p.Params.map Pm.Name ++ (p.Defs.take k).map Df.Name)]; rfl)⟩
    ·try simp only [sx, List.length_map] at c6
     rw [drop_all (l := p.Defs) (k := k) (by omega), take_all (l := p.Defs) (k := k) (by omega), defsR] at hq
     refine awp_exit ?_
     refine awp_seq ?_
     refine awp_seq ?_
     refine awp_region rfl ?_
     refine rwp_det rfl rfl (det_assign rfl rfl) ?_
     refine rwp_nil ?_
     refine awp_block ?_
     refine awp_weak ⟨[(13, .c _), (8, .c _), (1, .c _)], [_]⟩ (Weak.mk [false, true] ⟨VLe.of_eq rfl, VLe.of_eq rfl, VLe.of_eq rfl, trivial⟩ rfl) ?_
     refine awp_loop_k 2 0 rfl rfl (Nat) (fun k => [(13, vI k), (8, vI (2 + (p.Params.length : Int) + (p.Defs.length : Int) + (k : Int)))]) (fun k => []) (fun k => k ≤ p.Outs.length ∧ (validR p = outsR p.en (2 + (p.Params.length : Int) + (p.Defs.length : Int) + (k : Int)) (p.Outs.take k) (p.Outs.drop k))) (fun k => p.Outs.length - k) ⟨0, ⟨by omega, by rw [hq]; congr 1; omega⟩, Weak.mk [true] ⟨VLe.refl _, VLe.of_eq (congrArg vI (by omega)), VLe.refl _, trivial⟩ rfl⟩ ?_
     rintro k ⟨hk, ho⟩
     refine awp_seq ?_
     refine awp_seq ?_
     refine awp_region rfl ?_
     refine rwp_det rfl rfl (det_move rfl rfl) ?_
     refine rwp_det rfl rfl (det_field_lit rfl fd27_4 rfl) ?_
     refine rwp_det rfl rfl (det_load_one rfl one22 rfl (ptr_row 0 rfl) rfl) ?_
     refine rwp_det rfl rfl (det_len_slm rfl el22 rfl) ?_
     refine rwp_det rfl rfl (det_lss rfl rfl rfl) ?_
     refine rwp_nil ?_
     refine awp_cond rfl (fun c8 => ?_) (fun c8 => ?_)
     ·try simp only [sx, List.length_map] at c8
      obtain ⟨x, hx⟩ := ex_get p.Outs k (by omega)
      refine awp_skip ?_
      refine awp_seq ?_
      refine awp_block ?_
      refine awp_seq ?_
      refine awp_seq ?_
      refine awp_draw_c 14 1 [⟨0, .q [1]⟩, ⟨1, .q []⟩, ⟨2, .q [1]⟩, ⟨3, .q []⟩, ⟨4, .q []⟩, ⟨5, .q []⟩, ⟨6, .q []⟩, ⟨7, .q []⟩, ⟨8, .q []⟩, ⟨9, .q []⟩, ⟨10, .q []⟩, ⟨11, .e 0 []⟩, ⟨12, .e 0 []⟩, ⟨13, .q []⟩] mixed (by kernel_rfl) (by kernel_rfl) rfl rfl rfl ?_
      refine fx_skip rfl ?_
      refine fx_skip rfl ?_
      refine fx_skip rfl ?_
      refine fx_skip rfl ?_
      refine fx_skip rfl ?_
      refine fx_skip rfl ?_
      refine fx_skip rfl ?_
      refine fx_skip rfl ?_
      refine fx_skip rfl ?_
      refine fx_skip rfl ?_
      refine fx_skip rfl ?_
      refine fx_skip rfl ?_
      refine fx_skip rfl ?_
      refine fx_skip rfl ?_
      refine fx_nil ?_
      refine sq_det rfl (by decide) rfl rfl (det_load_agg rfl agg27 rfl (ptr_row 0 rfl) rfl) ?_
      refine sq_det rfl (by decide) rfl rfl (det_field_lit rfl fd27_4 rfl) ?_
      refine sq_det rfl (by decide) rfl rfl (det_load_one rfl one22 rfl (ptr_row 0 rfl) rfl) ?_
      refine sq_det rfl (by decide) rfl rfl (det_move rfl rfl) ?_
      refine sq_det rfl (by decide) rfl rfl (det_index_sl rfl el22 rfl rfl (by omega) (getm (by assumption))) ?_
      refine sq_det rfl (by decide) rfl rfl (det_load_one rfl one9 rfl ptr_imm rfl) ?_
      refine sq_det rfl (by decide) rfl rfl (det_call rfl ok23 (ref17_Find p x hP) ⟨VLe.refl _, rfl, VLe.refl _, rfl, trivial⟩) ?_
      refine sq_det rfl (by decide) rfl rfl (det_move_tup rfl rfl) ?_
      refine sq_det rfl (by decide) rfl rfl (det_ex_agg rfl rfl rfl) ?_
      refine sq_det rfl (by decide) rfl rfl (det_ex_c rfl rfl rfl) ?_
      refine sq_det rfl (by decide) rfl rfl (det_ex_c rfl rfl rfl) ?_
      refine sq_op rfl rfl (by decide) rfl rfl (ope_alloc rfl zr39) ?_
      rintro _ _ ⟨b6, rfl, rfl⟩
      refine ⟨_, rfl, ?_⟩
      refine sq_op0 rfl rfl (by decide) rfl rfl (det_store rfl sz39 rfl rfl rfl (st_row 0 rfl rfl)) ?_
      rintro _ _ ⟨rfl, rfl⟩
      refine ⟨_, rfl, ?_⟩
      refine sq_det rfl (by decide) rfl rfl (det_assign rfl rfl) ?_
      refine sq_nil rfl ?_
      refine rwp_det rfl rfl (det_assign rfl rfl) ?_
      refine rwp_nil ?_
      refine awp_seq ?_
      refine awp_region rfl ?_
      refine rwp_det rfl rfl (det_move rfl rfl) ?_
      refine rwp_det rfl rfl (det_not rfl rfl) ?_
      refine rwp_nil ?_
      refine awp_cond rfl (fun c9 => ?_) (fun c9 => ?_)
      ·try simp only [sx, List.length_map] at c9
       refine awp_seq ?_
       refine awp_region rfl ?_
       refine rwp_det rfl rfl (det_move rfl rfl) ?_
       refine rwp_det rfl rfl (det_assign rfl rfl) ?_
       refine rwp_det rfl rfl (det_assign rfl rfl) ?_
       refine rwp_nil ?_
       refine awp_ret ?_
       repeat (first | refine thenQ_ret ?_ | refine blockQ_ret ?_)
       refine fin2 (rs_c rfl) (rs_c rfl) ?_
       rw [ho, outsR_9 hx c9]
      ·try simp only [sx, List.length_map] at c9
       refine awp_skip ?_
       refine awp_seq ?_
       refine awp_seq ?_
       refine awp_draw 10 mixed (by kernel_rfl) rfl rfl ?_
       refine td_det rfl rfl (det_field_lit rfl fd27_4 rfl) ?_
       refine td_det rfl rfl (det_load_one rfl one22 rfl (ptr_row 1 rfl) rfl) ?_
       refine td_det rfl rfl (det_move rfl rfl) ?_
       refine td_det rfl rfl (det_cut_take rfl el22 rfl rfl (by omega)) ?_
       refine td_det rfl rfl (det_field_lit rfl fd27_4 rfl) ?_
       refine td_det rfl rfl (det_load_one rfl one22 rfl (ptr_row 1 rfl) rfl) ?_
       refine td_det rfl rfl (det_move rfl rfl) ?_
       refine td_det rfl rfl (det_index_sl rfl el22 rfl rfl (by omega) (getm (by assumption))) ?_
       refine td_det rfl rfl (det_load_one rfl one9 rfl ptr_imm rfl) ?_
       refine td_det rfl rfl (det_call rfl ok53 (base_Has (p.Outs.take k) x (by rw [List.length_take]; omega)) ⟨VLe.refl _, rfl, VLe.refl _, rfl, trivial⟩) ?_
       refine td_nil ?_
       refine rwp_nil ?_
       refine awp_cond rfl (fun c10 => ?_) (fun c10 => ?_)
       ·try simp only [sx, List.length_map] at c10
        refine awp_seq ?_
        refine awp_region rfl ?_
        refine rwp_det rfl rfl (det_move rfl rfl) ?_
        refine rwp_det rfl rfl (det_assign rfl rfl) ?_
        refine rwp_det rfl rfl (det_assign rfl rfl) ?_
        refine rwp_nil ?_
        refine awp_ret ?_
        repeat (first | refine thenQ_ret ?_ | refine blockQ_ret ?_)
        refine fin2 (rs_c rfl) (rs_c rfl) ?_
        rw [ho, outsR_8 hx c9 c10]
       ·try simp only [sx, List.length_map] at c10
        refine awp_skip ?_
        refine awp_region rfl ?_
        refine rwp_det rfl rfl (det_move rfl rfl) ?_
        refine rwp_det rfl rfl (det_add_nw rfl rfl rfl ⟨by omega, by omega⟩) ?_
        refine rwp_det rfl rfl (det_assign rfl rfl) ?_
        refine rwp_nil ?_
        refine awp_region rfl ?_
        refine rwp_det rfl rfl (det_move rfl rfl) ?_
        refine rwp_det rfl rfl (det_add_nw rfl rfl rfl ⟨by omega, by omega⟩) ?_
        refine rwp_det rfl rfl (det_assign rfl rfl) ?_
        refine rwp_nil ?_
        refine ⟨k + 1, ⟨by omega, by rw [ho, outsR_next hx c9 (by simpa using c10)]; congr 1 <;> omega⟩, (by omega), Weak.mk [false, true] ⟨VLe.refl _, VLe.of_eq (congrArg vI (by omega)), VLe.refl _, trivial⟩ rfl⟩
     ·try simp only [sx, List.length_map] at c8
      refine awp_exit ?_
      refine awp_seq ?_
      refine awp_region rfl ?_
      refine rwp_det rfl rfl (det_assign rfl rfl) ?_
      refine rwp_det rfl rfl (det_assign rfl rfl) ?_
      refine rwp_nil ?_
      refine awp_ret ?_
      repeat (first | refine thenQ_ret ?_ | refine blockQ_ret ?_)
      refine fin2 (rs_c rfl) (rs_c rfl) ?_
      rw [ho, drop_all (by omega)]; rfl

end Go.W
