/-
  Walks: what functions of the program compute. Printed by wip/gen/mk2.py.
  Conditions: none.
-/
import Derived.Test.YtnnkemdiknefaaaGreatDoorVK
import Derived.Test.YtnnkemdiknefaaaGreatDoorPlain2
set_option linter.unusedSimpArgs false
set_option linter.unusedVariables false
namespace Go.W
open Go Go.Eng Go.Proofs Go.L41 Go.Br
attribute [local irreducible] AWP RWP TD
theorem ok32 : callOk Tryz.prog 32 = true := by kernel_rfl
theorem sz9 : (Tryz.prog.info? 9).map (·.size) = some 1 := by kernel_rfl
theorem law14_spoil_step (w0 : World) (bs : List Nat) (e : Ex) (hS : e.short 1000000) (ih : ∀ a, a ∈ e.Args → a.short 1000000 → a.wt ≤ 4294967296 → ∀ m, m + a.ixc ≤ 9000000000 → Con cfg 32 [vG w0 bs m a] [E.reg bs (Kp w0 bs (m))] (fun r μ' => r = .tup [] ∧ μ' = [E.reg bs (Kp w0 bs (m + a.ixc))])) (he : e.wt ≤ 4294967296) (m : Nat) (hm : m + e.ixc ≤ 9000000000) :
    Con cfg 32 [vG w0 bs m e] [E.reg bs (Kp w0 bs (m))] (fun r μ' => ∃ μ2, (∃ ν1 ν2, μ' = ν1 ++ (μ2 ++ ν2)) ∧ (r = .tup [] ∧ μ2 = [E.reg bs (Kp w0 bs (m + e.ixc))])) := by
 refine con_intro Tryz.func32 rfl Tryz.ntmps32 Tryz.results32 rfl ?_
 intro z hz
 obtain ⟨hL, hI, hA⟩ := e.parts he
 have hxc := e.ixc_eq
 refine awp_seq ?_
 refine awp_region rfl ?_
 refine rwp_op rfl rfl (ope_box rfl rfl) ?_
 rintro _ _ ⟨b1, rfl, rfl⟩
 refine rwp_nil ?_
 refine awp_seq ?_
 refine awp_seq ?_
 refine awp_region rfl ?_
 refine rwp_det rfl rfl (det_assign rfl rfl) ?_
 refine rwp_nil ?_
 refine awp_block ?_
 refine awp_weak ⟨[(2, .c _), (1, .c _)], [_, _]⟩ (Weak.mk [true, true] ⟨VLe.of_eq rfl, VLe.of_eq rfl, trivial⟩ rfl) ?_
 refine awp_loop_k 1 0 rfl rfl (Nat) (fun i => [(2, vI i)]) (fun i => []) (fun i => i ≤ e.Lin.L.length) (fun i => e.Lin.L.length - i) ⟨0, (by omega), Weak.mk [true, true] ⟨VLe.refl _, VLe.refl _, trivial⟩ rfl⟩ ?_
 rintro i hi
 refine awp_seq ?_
 refine awp_seq ?_
 refine awp_region rfl ?_
 refine rwp_det rfl rfl (det_move rfl rfl) ?_
 refine rwp_det rfl rfl (det_field_lit rfl fd33_4 rfl) ?_
 refine rwp_det rfl rfl (det_field_lit rfl fd29_1 rfl) ?_
 refine rwp_det rfl rfl (det_load_one rfl one27 rfl (ptr_row 0 rfl) rfl) ?_
 refine rwp_det rfl rfl (det_len_gm rfl el27 rfl) ?_
 refine rwp_det rfl rfl (det_lss rfl rfl rfl) ?_
 refine rwp_nil ?_
 refine awp_cond rfl (fun c1 => ?_) (fun c1 => ?_)
 ·try simp only [sx, List.length_map] at c1
  obtain ⟨y, hy⟩ := ex_get e.Lin.L i (by omega)
  refine awp_skip ?_
  refine awp_seq ?_
  refine awp_block ?_
  refine awp_region rfl ?_
  refine rwp_det rfl rfl (det_field_lit rfl fd33_4 rfl) ?_
  refine rwp_det rfl rfl (det_field_lit rfl fd29_1 rfl) ?_
  refine rwp_det rfl rfl (det_load_one rfl one27 rfl (ptr_row 0 rfl) rfl) ?_
  refine rwp_det rfl rfl (det_move rfl rfl) ?_
  refine rwp_det rfl rfl (det_index_g rfl el27 rfl rfl (by omega) (getm (by assumption))) ?_
  refine rwp_det rfl rfl (det_field_g rfl fd75_1 rfl) ?_
  refine rwp_det rfl rfl (det_load_one rfl one2 rfl (ptr_g 1 rfl) rfl) ?_
  refine rwp_det rfl rfl (det_add_g rfl rfl rfl) ?_
  refine rwp_det rfl rfl (det_index_g rfl el27 rfl rfl (by omega) (getm (by assumption))) ?_
  refine rwp_det rfl rfl (det_field_g rfl fd75_1 rfl) ?_
  refine rwp_det0 rfl rfl (det_store rfl sz2 rfl rfl rfl (st_g 1 rfl (Nat.le_refl _))) ?_
  refine rwp_nil ?_
  refine awp_region rfl ?_
  refine rwp_det rfl rfl (det_move rfl rfl) ?_
  refine rwp_det rfl rfl (det_add_nw rfl rfl rfl ⟨by omega, by omega⟩) ?_
  refine rwp_det rfl rfl (det_assign rfl rfl) ?_
  refine rwp_nil ?_
  refine ⟨i + 1, (by omega), (by omega), Weak.mk [true, true] ⟨VLe.refl _, VLe.refl _, trivial⟩ rfl⟩
 ·try simp only [sx, List.length_map] at c1
  refine awp_exit ?_
  refine awp_seq ?_
  refine awp_seq ?_
  refine awp_region rfl ?_
  refine rwp_det rfl rfl (det_assign rfl rfl) ?_
  refine rwp_nil ?_
  refine awp_block ?_
  refine awp_weak ⟨[(3, .c _), (1, .c _)], [_, _]⟩ (Weak.mk [true, true] ⟨VLe.of_eq rfl, VLe.of_eq rfl, trivial⟩ rfl) ?_
  refine awp_loop_k 1 2 rfl rfl (Nat) (fun k => [(3, vI k)]) (fun k => [E.row b1 33 (e.cs.map (Gc w0 bs m)), E.reg bs (Kp w0 bs (m + k))]) (fun k => k ≤ e.Idx.length) (fun k => e.Idx.length - k) ⟨0, (by omega), Weak.mk [true, true] ⟨VLe.refl _, VLe.refl _, trivial⟩ rfl⟩ ?_
  rintro k hk
  refine awp_seq ?_
  refine awp_seq ?_
  refine awp_region rfl ?_
  refine rwp_det rfl rfl (det_move rfl rfl) ?_
  refine rwp_det rfl rfl (det_field_lit rfl fd33_5 rfl) ?_
  refine rwp_det rfl rfl (det_load_one rfl one30 rfl (ptr_row 0 rfl) rfl) ?_
  refine rwp_det rfl rfl (det_len_gm rfl el30 rfl) ?_
  refine rwp_det rfl rfl (det_lss rfl rfl rfl) ?_
  refine rwp_nil ?_
  refine awp_cond rfl (fun c2 => ?_) (fun c2 => ?_)
  ·try simp only [sx, List.length_map] at c2
   obtain ⟨x, hx⟩ := ex_get e.Idx k (by omega)
   have hxw := Ex.idx_wt (mem_of_get hx)
   have hxs := hS.head (mem_of_get hx)
   refine awp_skip ?_
   refine awp_seq ?_
   refine awp_block ?_
   refine awp_seq ?_
   refine awp_seq ?_
   refine awp_region rfl ?_
   refine rwp_det rfl rfl (det_assign rfl rfl) ?_
   refine rwp_nil ?_
   refine awp_block ?_
   refine awp_weak ⟨[(4, .c _), (1, .c _), (3, .c _)], [_, _]⟩ (Weak.mk [true, true] ⟨VLe.of_eq rfl, VLe.of_eq rfl, VLe.of_eq rfl, trivial⟩ rfl) ?_
   refine awp_loop_k 1 0 rfl rfl (Nat) (fun i => [(4, vI i)]) (fun i => []) (fun i => i ≤ x.Lin.L.length) (fun i => x.Lin.L.length - i) ⟨0, (by omega), Weak.mk [true, true] ⟨VLe.refl _, VLe.refl _, VLe.refl _, trivial⟩ rfl⟩ ?_
   rintro i hi
   refine awp_seq ?_
   refine awp_seq ?_
   refine awp_region rfl ?_
   refine rwp_det rfl rfl (det_move rfl rfl) ?_
   refine rwp_det rfl rfl (det_field_lit rfl fd33_5 rfl) ?_
   refine rwp_det rfl rfl (det_load_one rfl one30 rfl (ptr_row 0 rfl) rfl) ?_
   refine rwp_det rfl rfl (det_move rfl rfl) ?_
   refine rwp_det rfl rfl (det_index_g rfl el30 rfl rfl (by omega) (getm (by assumption))) ?_
   refine rwp_det rfl rfl (det_field_g rfl fd117_0 rfl) ?_
   refine rwp_det rfl rfl (det_field_g rfl fd29_1 rfl) ?_
   refine rwp_det rfl rfl (det_load_one rfl one27 rfl (ptr_g 1 rfl) rfl) ?_
   refine rwp_det rfl rfl (det_len_gm rfl el27 rfl) ?_
   refine rwp_det rfl rfl (det_lss rfl rfl rfl) ?_
   refine rwp_nil ?_
   refine awp_cond rfl (fun c3 => ?_) (fun c3 => ?_)
   ·try simp only [sx, List.length_map] at c3
    obtain ⟨y, hy⟩ := ex_get x.Lin.L i (by omega)
    refine awp_skip ?_
    refine awp_seq ?_
    refine awp_block ?_
    refine awp_region rfl ?_
    refine rwp_det rfl rfl (det_field_lit rfl fd33_5 rfl) ?_
    refine rwp_det rfl rfl (det_load_one rfl one30 rfl (ptr_row 0 rfl) rfl) ?_
    refine rwp_det rfl rfl (det_move rfl rfl) ?_
    refine rwp_det rfl rfl (det_index_g rfl el30 rfl rfl (by omega) (getm (by assumption))) ?_
    refine rwp_det rfl rfl (det_field_g rfl fd117_0 rfl) ?_
    refine rwp_det rfl rfl (det_field_g rfl fd29_1 rfl) ?_
    refine rwp_det rfl rfl (det_load_one rfl one27 rfl (ptr_g 1 rfl) rfl) ?_
    refine rwp_det rfl rfl (det_move rfl rfl) ?_
    refine rwp_det rfl rfl (det_index_g rfl el27 rfl rfl (by omega) (getm (by assumption))) ?_
    refine rwp_det rfl rfl (det_field_g rfl fd75_1 rfl) ?_
    refine rwp_det rfl rfl (det_load_one rfl one2 rfl (ptr_g 1 rfl) rfl) ?_
    refine rwp_det rfl rfl (det_add_g rfl rfl rfl) ?_
    refine rwp_det rfl rfl (det_index_g rfl el27 rfl rfl (by omega) (getm (by assumption))) ?_
    refine rwp_det rfl rfl (det_field_g rfl fd75_1 rfl) ?_
    refine rwp_det0 rfl rfl (det_store rfl sz2 rfl rfl rfl (st_g 1 rfl (Nat.le_refl _))) ?_
    refine rwp_nil ?_
    refine awp_region rfl ?_
    refine rwp_det rfl rfl (det_move rfl rfl) ?_
    refine rwp_det rfl rfl (det_add_nw rfl rfl rfl ⟨by omega, by omega⟩) ?_
    refine rwp_det rfl rfl (det_assign rfl rfl) ?_
    refine rwp_nil ?_
    refine ⟨i + 1, (by omega), (by omega), Weak.mk [true, true] ⟨VLe.refl _, VLe.refl _, VLe.refl _, trivial⟩ rfl⟩
   ·try simp only [sx, List.length_map] at c3
    refine awp_exit ?_
    refine awp_seq ?_
    refine awp_seq ?_
    refine awp_region rfl ?_
    refine rwp_det rfl rfl (det_assign rfl rfl) ?_
    refine rwp_nil ?_
    refine awp_block ?_
    refine awp_weak ⟨[(5, .c _), (1, .c _), (3, .c _)], [_, _]⟩ (Weak.mk [true, true] ⟨VLe.of_eq rfl, VLe.of_eq rfl, VLe.of_eq rfl, trivial⟩ rfl) ?_
    refine awp_loop_k 1 0 rfl rfl (Nat) (fun j => [(5, vI j)]) (fun j => []) (fun j => j ≤ x.At.length) (fun j => x.At.length - j) ⟨0, (by omega), Weak.mk [true, true] ⟨VLe.refl _, VLe.refl _, VLe.refl _, trivial⟩ rfl⟩ ?_
    rintro j hj
    refine awp_seq ?_
    refine awp_seq ?_
    refine awp_region rfl ?_
    refine rwp_det rfl rfl (det_move rfl rfl) ?_
    refine rwp_det rfl rfl (det_field_lit rfl fd33_5 rfl) ?_
    refine rwp_det rfl rfl (det_load_one rfl one30 rfl (ptr_row 0 rfl) rfl) ?_
    refine rwp_det rfl rfl (det_move rfl rfl) ?_
    refine rwp_det rfl rfl (det_index_g rfl el30 rfl rfl (by omega) (getm (by assumption))) ?_
    refine rwp_det rfl rfl (det_field_g rfl fd117_2 rfl) ?_
    refine rwp_det rfl rfl (det_load_one rfl one104 rfl (ptr_g 1 rfl) rfl) ?_
    refine rwp_det rfl rfl (det_len_gm rfl el104 rfl) ?_
    refine rwp_det rfl rfl (det_lss rfl rfl rfl) ?_
    refine rwp_nil ?_
    refine awp_cond rfl (fun c4 => ?_) (fun c4 => ?_)
    ·try simp only [sx, List.length_map] at c4
     obtain ⟨l, hl⟩ := ex_get x.At j (by omega)
     have hlw := linsWt_mem (mem_of_get hl)
     refine awp_skip ?_
     refine awp_seq ?_
     refine awp_block ?_
     refine awp_seq ?_
     refine awp_seq ?_
     refine awp_region rfl ?_
     refine rwp_det rfl rfl (det_assign rfl rfl) ?_
     refine rwp_nil ?_
     refine awp_block ?_
     refine awp_weak ⟨[(6, .c _), (1, .c _), (3, .c _), (5, .c _)], [_, _]⟩ (Weak.mk [true, true] ⟨VLe.of_eq rfl, VLe.of_eq rfl, VLe.of_eq rfl, VLe.of_eq rfl, trivial⟩ rfl) ?_
     refine awp_loop_k 1 0 rfl rfl (Nat) (fun i => [(6, vI i)]) (fun i => []) (fun i => i ≤ l.L.length) (fun i => l.L.length - i) ⟨0, (by omega), Weak.mk [true, true] ⟨VLe.refl _, VLe.refl _, VLe.refl _, VLe.refl _, trivial⟩ rfl⟩ ?_
     rintro i hi
     refine awp_seq ?_
     refine awp_seq ?_
     refine awp_region rfl ?_
     refine rwp_det rfl rfl (det_move rfl rfl) ?_
     refine rwp_det rfl rfl (det_field_lit rfl fd33_5 rfl) ?_
     refine rwp_det rfl rfl (det_load_one rfl one30 rfl (ptr_row 0 rfl) rfl) ?_
     refine rwp_det rfl rfl (det_move rfl rfl) ?_
     refine rwp_det rfl rfl (det_index_g rfl el30 rfl rfl (by omega) (getm (by assumption))) ?_
     refine rwp_det rfl rfl (det_field_g rfl fd117_2 rfl) ?_
     refine rwp_det rfl rfl (det_load_one rfl one104 rfl (ptr_g 1 rfl) rfl) ?_
     refine rwp_det rfl rfl (det_move rfl rfl) ?_
     refine rwp_det rfl rfl (det_index_g rfl el104 rfl rfl (by omega) (getm (by assumption))) ?_
     refine rwp_det rfl rfl (det_field_g rfl fd29_1 rfl) ?_
     refine rwp_det rfl rfl (det_load_one rfl one27 rfl (ptr_g 1 rfl) rfl) ?_
     refine rwp_det rfl rfl (det_len_gm rfl el27 rfl) ?_
     refine rwp_det rfl rfl (det_lss rfl rfl rfl) ?_
     refine rwp_nil ?_
     refine awp_cond rfl (fun c5 => ?_) (fun c5 => ?_)
     ·try simp only [sx, List.length_map] at c5
      obtain ⟨y, hy⟩ := ex_get l.L i (by omega)
      refine awp_skip ?_
      refine awp_seq ?_
      refine awp_block ?_
      refine awp_region rfl ?_
      refine rwp_det rfl rfl (det_field_lit rfl fd33_5 rfl) ?_
      refine rwp_det rfl rfl (det_load_one rfl one30 rfl (ptr_row 0 rfl) rfl) ?_
      refine rwp_det rfl rfl (det_move rfl rfl) ?_
      refine rwp_det rfl rfl (det_index_g rfl el30 rfl rfl (by omega) (getm (by assumption))) ?_
      refine rwp_det rfl rfl (det_field_g rfl fd117_2 rfl) ?_
      refine rwp_det rfl rfl (det_load_one rfl one104 rfl (ptr_g 1 rfl) rfl) ?_
      refine rwp_det rfl rfl (det_move rfl rfl) ?_
      refine rwp_det rfl rfl (det_index_g rfl el104 rfl rfl (by omega) (getm (by assumption))) ?_
      refine rwp_det rfl rfl (det_field_g rfl fd29_1 rfl) ?_
      refine rwp_det rfl rfl (det_load_one rfl one27 rfl (ptr_g 1 rfl) rfl) ?_
      refine rwp_det rfl rfl (det_move rfl rfl) ?_
      refine rwp_det rfl rfl (det_index_g rfl el27 rfl rfl (by omega) (getm (by assumption))) ?_
      refine rwp_det rfl rfl (det_field_g rfl fd75_1 rfl) ?_
      refine rwp_det rfl rfl (det_load_one rfl one2 rfl (ptr_g 1 rfl) rfl) ?_
      refine rwp_det rfl rfl (det_add_g rfl rfl rfl) ?_
      refine rwp_det rfl rfl (det_index_g rfl el27 rfl rfl (by omega) (getm (by assumption))) ?_
      refine rwp_det rfl rfl (det_field_g rfl fd75_1 rfl) ?_
      refine rwp_det0 rfl rfl (det_store rfl sz2 rfl rfl rfl (st_g 1 rfl (Nat.le_refl _))) ?_
      refine rwp_nil ?_
      refine awp_region rfl ?_
      refine rwp_det rfl rfl (det_move rfl rfl) ?_
      refine rwp_det rfl rfl (det_add_nw rfl rfl rfl ⟨by omega, by omega⟩) ?_
      refine rwp_det rfl rfl (det_assign rfl rfl) ?_
      refine rwp_nil ?_
      refine ⟨i + 1, (by omega), (by omega), Weak.mk [true, true] ⟨VLe.refl _, VLe.refl _, VLe.refl _, VLe.refl _, trivial⟩ rfl⟩
     ·try simp only [sx, List.length_map] at c5
      refine awp_exit ?_
      refine awp_region rfl ?_
      refine rwp_det rfl rfl (det_field_lit rfl fd33_5 rfl) ?_
      refine rwp_det rfl rfl (det_load_one rfl one30 rfl (ptr_row 0 rfl) rfl) ?_
      refine rwp_det rfl rfl (det_move rfl rfl) ?_
      refine rwp_det rfl rfl (det_index_g rfl el30 rfl rfl (by omega) (getm (by assumption))) ?_
      refine rwp_det rfl rfl (det_field_g rfl fd117_2 rfl) ?_
      refine rwp_det rfl rfl (det_load_one rfl one104 rfl (ptr_g 1 rfl) rfl) ?_
      refine rwp_det rfl rfl (det_move rfl rfl) ?_
      refine rwp_det rfl rfl (det_index_g rfl el104 rfl rfl (by omega) (getm (by assumption))) ?_
      refine rwp_det rfl rfl (det_field_g rfl fd29_0 rfl) ?_
      refine rwp_det rfl rfl (det_load_one rfl one2 rfl (ptr_g 1 rfl) rfl) ?_
      refine rwp_det rfl rfl (det_add_g rfl rfl rfl) ?_
      refine rwp_det rfl rfl (det_index_g rfl el104 rfl rfl (by omega) (getm (by assumption))) ?_
      refine rwp_det rfl rfl (det_field_g rfl fd29_0 rfl) ?_
      refine rwp_det0 rfl rfl (det_store rfl sz2 rfl rfl rfl (st_g 1 rfl (Nat.le_refl _))) ?_
      refine rwp_nil ?_
      refine awp_region rfl ?_
      refine rwp_det rfl rfl (det_move rfl rfl) ?_
      refine rwp_det rfl rfl (det_add_nw rfl rfl rfl ⟨by omega, by omega⟩) ?_
      refine rwp_det rfl rfl (det_assign rfl rfl) ?_
      refine rwp_nil ?_
      refine ⟨j + 1, (by omega), (by omega), Weak.mk [true, true] ⟨VLe.refl _, VLe.refl _, VLe.refl _, trivial⟩ rfl⟩
    ·try simp only [sx, List.length_map] at c4
     refine awp_exit ?_
     refine awp_draw 12 mixed (by kernel_rfl) rfl rfl ?_
     refine td_det rfl rfl (det_field_lit rfl fd33_5 rfl) ?_
     refine td_det rfl rfl (det_load_one rfl one30 rfl (ptr_row 0 rfl) rfl) ?_
     refine td_det rfl rfl (det_move rfl rfl) ?_
     refine td_det rfl rfl (det_field_lit rfl fd33_5 rfl) ?_
     refine td_det rfl rfl (det_load_one rfl one30 rfl (ptr_row 0 rfl) rfl) ?_
     refine td_det rfl rfl (det_move rfl rfl) ?_
     refine td_det rfl rfl (det_index_g rfl el30 rfl rfl (by omega) (getm (by assumption))) ?_
     refine td_det rfl rfl (det_field_g rfl fd117_1 rfl) ?_
     refine td_det rfl rfl (det_load_one rfl one9 rfl (ptr_g 1 rfl) rfl) ?_
     refine td_det rfl rfl (det_sadd_g rfl rfl rfl (by have h1 : (ByteArray.mk #[120]).size = 1 := rfl; rw [h1]; omega)) ?_
     refine td_det rfl rfl (det_index_g rfl el30 rfl rfl (by omega) (getm (by assumption))) ?_
     refine td_det rfl rfl (det_field_g rfl fd117_1 rfl) ?_
     refine td_nil ?_
     refine rwp_det0 rfl rfl (det_store rfl sz9 rfl rfl rfl (st_g 1 rfl (Nat.le_add_right _ _))) ?_
     refine rwp_nil ?_
     refine awp_region rfl ?_
     refine rwp_det rfl rfl (det_move rfl rfl) ?_
     refine rwp_det rfl rfl (det_add_nw rfl rfl rfl ⟨by omega, by omega⟩) ?_
     refine rwp_det rfl rfl (det_assign rfl rfl) ?_
     refine rwp_nil ?_
     refine ⟨k + 1, (by omega), (by omega), Weak.mk [true, true] ⟨VLe.refl _, VLe.refl _, trivial⟩ rfl⟩
  ·try simp only [sx, List.length_map] at c2
   have he2 : k = e.Idx.length := by omega
   subst he2
   refine awp_exit ?_
   refine awp_seq ?_
   refine awp_region rfl ?_
   refine rwp_det rfl rfl (det_assign rfl rfl) ?_
   refine rwp_nil ?_
   refine awp_block ?_
   refine awp_weak ⟨[(7, .c _), (1, .c _)], [_, _]⟩ (Weak.mk [true, true] ⟨VLe.of_eq rfl, VLe.of_eq rfl, trivial⟩ rfl) ?_
   refine awp_loop_k 1 2 rfl rfl (Nat) (fun n => [(7, vI n)]) (fun n => [E.row b1 33 (e.cs.map (Gc w0 bs m)), E.reg bs (Kp w0 bs (m + e.Idx.length + ixcL (e.Args.take n)))]) (fun n => n ≤ e.Args.length) (fun n => e.Args.length - n) ⟨0, (by omega), Weak.mk [true, true] ⟨VLe.refl _, VLe.refl _, trivial⟩ (by rw [List.take_zero]; rfl)⟩ ?_
   rintro n hn
   refine awp_seq ?_
   refine awp_seq ?_
   refine awp_region rfl ?_
   refine rwp_det rfl rfl (det_move rfl rfl) ?_
   refine rwp_det rfl rfl (det_field_lit rfl fd33_6 rfl) ?_
   refine rwp_det rfl rfl (det_load_one rfl one31 rfl (ptr_row 0 rfl) rfl) ?_
   refine rwp_det rfl rfl (det_len_gm rfl el31 rfl) ?_
   refine rwp_det rfl rfl (det_lss rfl rfl rfl) ?_
   refine rwp_nil ?_
   refine awp_cond rfl (fun c6 => ?_) (fun c6 => ?_)
   ·try simp only [sx, List.length_map] at c6
    obtain ⟨a, ha⟩ := ex_get e.Args n (by omega)
    refine awp_skip ?_
    refine awp_seq ?_
    refine awp_block ?_
    refine awp_seq ?_
    refine awp_region rfl ?_
    refine rwp_det rfl rfl (det_field_lit rfl fd33_6 rfl) ?_
    refine rwp_det rfl rfl (det_load_one rfl one31 rfl (ptr_row 0 rfl) rfl) ?_
    refine rwp_det rfl rfl (det_move rfl rfl) ?_
    refine rwp_det rfl rfl (det_index_g rfl el31 rfl rfl (by omega) (getmE ha)) ?_
    refine rwp_det rfl rfl (det_load_agg rfl agg33 rfl (ptr_g 1 rfl) rfl) ?_
    refine rwp_op rfl rfl (ope_call_reg 1 rfl rfl ok32 (ih a (mem_of_get ha) (hS.arg (mem_of_get ha)) (by have := Ex.arg_wt (mem_of_get ha); omega) (m + e.Idx.length + ixcL (e.Args.take n)) (by have := ixcL_le ha; omega)) ⟨VLe.refl _, rfl, trivial⟩) ?_
    rintro _ _ ⟨rfl, rfl⟩
    refine rwp_nil ?_
    refine awp_region rfl ?_
    refine rwp_det rfl rfl (det_field_lit rfl fd33_6 rfl) ?_
    refine rwp_det rfl rfl (det_load_one rfl one31 rfl (ptr_row 0 rfl) rfl) ?_
    refine rwp_det rfl rfl (det_move rfl rfl) ?_
    refine rwp_det rfl rfl (det_index_g rfl el31 rfl rfl (by omega) (getmE ha)) ?_
    refine rwp_det rfl rfl (det_field_g rfl fd33_0 rfl) ?_
    refine rwp_det rfl rfl (det_load_one rfl one3 rfl (ptr_g 1 rfl) rfl) ?_
    refine rwp_det rfl rfl (det_add_g rfl rfl rfl) ?_
    refine rwp_det rfl rfl (det_index_g rfl el31 rfl rfl (by omega) (getmE ha)) ?_
    refine rwp_det rfl rfl (det_field_g rfl fd33_0 rfl) ?_
    refine rwp_det0 rfl rfl (det_store rfl sz3 rfl rfl rfl (st_g 1 rfl (Nat.le_refl _))) ?_
    refine rwp_nil ?_
    refine awp_region rfl ?_
    refine rwp_det rfl rfl (det_move rfl rfl) ?_
    refine rwp_det rfl rfl (det_add_nw rfl rfl rfl ⟨by omega, by omega⟩) ?_
    refine rwp_det rfl rfl (det_assign rfl rfl) ?_
    refine rwp_nil ?_
    refine ⟨n + 1, (by omega), (by omega), Weak.mk [true, true] ⟨VLe.refl _, VLe.refl _, trivial⟩ (by rw [ixcL_next ha, ← Nat.add_assoc]; rfl)⟩
   ·try simp only [sx, List.length_map] at c6
    rw [take_all (l := e.Args) (k := n) (by omega)]
    refine awp_exit ?_
    repeat (first | refine then_exit ?_ | refine block_exit ?_)
    refine fin_end <| fin0 ?_
    exact ⟨[E.reg _ _], ⟨[E.row _ _ _], [], rfl⟩, rfl, by rw [hxc, ← Nat.add_assoc]⟩

theorem law14_spoil (w0 : World) (bs : List Nat) (e : Ex) : e.short 1000000 → e.wt ≤ 4294967296 → ∀ m, m + e.ixc ≤ 9000000000 → Con cfg 32 [vG w0 bs m e] [E.reg bs (Kp w0 bs (m))] (fun r μ' => r = .tup [] ∧ μ' = [E.reg bs (Kp w0 bs (m + e.ixc))]) := by
  induction e using Ex.ind with
  | _ e ih => exact fun hS he m hm => Con.dropG (law14_spoil_step w0 bs e hS (fun a ha h1 h2 m h3 => ih a ha h1 h2 m h3) he m hm)

theorem expr_CopyP (e : Ex) (he : e.wt ≤ 4294967296) : Con cfg 31 [vE e] [] fun r μ' => ∃ q : List Nat × P13, r = q.2.v ∧ μ' = [E.reg q.1 (RegR q.1 e.cs q.2.vals)] :=
  (expr_CopyN e he).mono fun r μ' ⟨bs, vs, h1, h2, h3⟩ => by
    obtain ⟨p, rfl⟩ := list13 h2
    exact ⟨(bs, p), h1, h3⟩
/-- A copy that is spoiled. -/
theorem law14_spoilR (e : Ex) (bs : List Nat) (p : P13) (hS : e.short 1000000) (he : e.wt ≤ 4294967296) : Con cfg 32 [p.v] [E.reg bs (RegR bs e.cs p.vals)] fun r μ' => r = .tup [] ∧ μ' = [E.reg bs fun _ => True] := by
  intro w I vs hH hv
  have hrep := hH.rep _ (List.mem_singleton.2 rfl)
  have hbl : blocksOf [E.reg bs (Kp w bs 0)] = blocksOf [E.reg bs (RegR bs e.cs p.vals)] := rfl
  have hbl2 : blocksOf [E.reg bs fun _ => True] = bs := by simp [blocksOf, E.blocks]
  have H0 : Heap cfg w I [E.reg bs (Kp w bs 0)] :=
    ⟨hH.lo, hH.glob, hH.nodup, hH.own, hH.imm, fun en hen => by rw [List.mem_singleton.1 hen]; exact ⟨hrep.1, Kp.refl w bs 0⟩, fun en hen => by rw [List.mem_singleton.1 hen]; exact Kp.mono w bs 0⟩
  have hv' : V1Reps w I [vG w bs 0 e] vs := by
    cases vs with
    | nil => exact hv.elim
    | cons u us =>
      refine ⟨?_, hv.2⟩
      obtain ⟨ws, e1, k⟩ := hv.1
      have e2 : ws = p.vals := lits_inv (vs := p.vals) k
      subst e2
      refine ⟨p.vals, e1, ?_⟩
      have hr : FReps w (fun b => b ∈ bs) e.cs p.vals := hrep.2
      generalize e.cs = cs at hr
      generalize p.vals = xs at hr
      clear hv e1 k hrep hH H0
      induction hr with
      | nil => exact .nil
      | cons h _ ih => exact .cons (CRep.gh _ _ h.one (ShV.of_kp h (.inl rfl))) ih
  refine (law14_spoil w bs e hS he 0 (by have := e.ixc_le; omega) w I vs H0 hv').mono ?_
  rintro en w' ⟨v, r', μ', I', h1, ⟨rfl, rfl⟩, h3, h4, h5⟩
  have hrep' := h4.rep _ (List.mem_singleton.2 rfl)
  exact ⟨v, _, [E.reg bs fun _ => True], I', h1, ⟨rfl, rfl⟩, h3, ⟨h4.lo, h4.glob, h4.nodup, h4.own, h4.imm, fun en hen => by rw [List.mem_singleton.1 hen]; exact ⟨hrep'.1, trivial⟩, fun en hen => by rw [List.mem_singleton.1 hen]; exact fun _ _ _ _ => trivial⟩, ⟨h5.os, h5.tape, h5.output, h5.size, h5.block, h5.imm, h5.imm', h5.own'⟩⟩

theorem law_ExprCopies (e : Ex) (hfe : e.fit) :
    Pur cfg 7 [vE e] (vB true) := by
 refine con_intro Tryz.func7 rfl Tryz.ntmps7 Tryz.results7 rfl ?_
 intro z hz
 refine awp_seq ?_
 refine awp_region rfl ?_
 refine rwp_op rfl rfl (ope_box rfl rfl) ?_
 rintro _ _ ⟨b1, rfl, rfl⟩
 refine rwp_det rfl rfl (det_assign rfl rfl) ?_
 refine rwp_nil ?_
 refine awp_seq ?_
 refine awp_seq ?_
 refine awp_region rfl ?_
 refine rwp_det rfl rfl (det_load_agg rfl agg33 rfl (ptr_row 0 rfl) rfl) ?_
 refine rwp_det rfl rfl (det_call rfl ok22 (law14_Few e 200 200 hfe (by omega) rfl) ⟨VLe.refl _, rfl, VLe.refl _, rfl, trivial⟩) ?_
 refine rwp_det rfl rfl (det_not rfl rfl) ?_
 refine rwp_nil ?_
 refine awp_cond rfl (fun c1 => ?_) (fun c1 => ?_)
 ·try simp only [sx, List.length_map] at c1
  refine awp_seq ?_
  refine awp_region rfl ?_
  refine rwp_det rfl rfl (det_call rfl ok23 law14_live trivial) ?_
  refine rwp_det rfl rfl (det_assign rfl rfl) ?_
  refine rwp_nil ?_
  refine awp_ret ?_
  repeat (first | refine thenQ_ret ?_ | refine blockQ_ret ?_)
  refine fin1 (rs_c rfl) ?_
  rfl
 ·try simp only [sx, List.length_map] at c1
  have w1 := few_wt c1
  have hes := few_short c1
  refine awp_skip ?_
  refine awp_seq ?_
  refine awp_draw_c 6 3 [⟨0, .q [3]⟩, ⟨1, .q []⟩, ⟨2, .q [3]⟩, ⟨3, .e 2 []⟩, ⟨4, .f 1⟩, ⟨5, .f 0⟩] mixed (by kernel_rfl) (by kernel_rfl) rfl rfl rfl ?_
  refine fx_skip rfl ?_
  refine fx_skip rfl ?_
  refine fx_skip rfl ?_
  refine fx_skip rfl ?_
  refine fx_fresh rfl rfl (fresh_alloc' (ope_allocN [none, none, none, none, none, none, none, none, none, none, some 2, some 4, some 13] rfl zr33 rfl)) ?_
  refine fx_fresh rfl rfl (fresh_alloc' (ope_allocN [none, none, none, none, none, none, none, none, none, none, some 2, some 4, some 13] rfl zr33 rfl)) ?_
  refine fx_nil ?_
  refine sq_det rfl (by decide) rfl rfl (det_load_agg rfl agg33 rfl (ptr_row 0 rfl) rfl) ?_
  refine sq_det rfl (by decide) rfl rfl (det_call rfl ok30 (ref14_Twin e (by omega)) ⟨VLe.refl _, rfl, trivial⟩) ?_
  refine sq_det rfl (by decide) rfl rfl (det_load_agg rfl agg33 rfl (ptr_row 0 rfl) rfl) ?_
  refine sq_op rfl rfl (by decide) rfl rfl (ope_call_newE rfl ok31 (expr_CopyP e (by omega)) ⟨VLe.refl _, rfl, trivial⟩) ?_
  rintro _ _ ⟨q, rfl, rfl⟩
  refine ⟨_, rfl, ?_⟩
  refine sq_fresh rfl rfl ?_
  rintro _ _ ⟨b2, rfl, rfl⟩
  refine sq_fresh rfl rfl ?_
  rintro _ _ ⟨b3, rfl, rfl⟩
  refine sq_nil rfl ?_
  refine rwp_det0 rfl rfl (det_store rfl sz33 rfl rfl rfl (st_row 1 rfl rfl)) ?_
  refine rwp_det0 rfl rfl (det_store rfl sz33 rfl rfl rfl (st_row 0 rfl rfl)) ?_
  refine rwp_nil ?_
  refine awp_seq ?_
  refine awp_seq ?_
  refine awp_region rfl ?_
  refine rwp_det rfl rfl (det_load_agg rfl agg33 rfl (ptr_row 0 rfl) rfl) ?_
  refine rwp_det rfl rfl (det_load_agg rfl agg33 rfl (ptr_row 1 rfl) rfl) ?_
  refine rwp_op rfl rfl (ope_call_reg 2 rfl rfl ok26 (Con.lendReg (args' := [q.2.v, vE e]) (cs := e.cs) (us := q.2.vals) (base_Expr e e (by omega)) rfl ⟨.inr ⟨rfl, rfl⟩, .inl rfl, trivial⟩) ⟨VLe.refl _, rfl, VLe.refl _, rfl, trivial⟩) ?_
  rintro _ _ ⟨rfl, rfl⟩
  refine rwp_det rfl rfl (det_not rfl rfl) ?_
  refine rwp_nil ?_
  refine awp_cond rfl (fun c2 => ?_) (fun c2 => ?_)
  ·try simp only [sx, List.length_map] at c2
   refine awp_seq ?_
   refine awp_region rfl ?_
   refine rwp_det rfl rfl (det_assign rfl rfl) ?_
   refine rwp_nil ?_
   refine awp_ret ?_
   repeat (first | refine thenQ_ret ?_ | refine blockQ_ret ?_)
   refine fin1 (rs_c rfl) ?_
   simp at c2
  ·try simp only [sx, List.length_map] at c2
   refine awp_skip ?_
   refine awp_seq ?_
   refine awp_region rfl ?_
   refine rwp_det rfl rfl (det_load_agg rfl agg33 rfl (ptr_row 0 rfl) rfl) ?_
   refine rwp_op rfl rfl (ope_call_reg 2 rfl rfl ok32 (law14_spoilR e q.1 q.2 hes (by omega)) ⟨VLe.refl _, rfl, trivial⟩) ?_
   rintro _ _ ⟨rfl, rfl⟩
   refine rwp_nil ?_
   refine awp_seq ?_
   refine awp_region rfl ?_
   refine rwp_det rfl rfl (det_load_agg rfl agg33 rfl (ptr_row 3 rfl) rfl) ?_
   refine rwp_det rfl rfl (det_load_agg rfl agg33 rfl (ptr_row 1 rfl) rfl) ?_
   refine rwp_det rfl rfl (det_call rfl ok26 (base_Expr e e (by omega)) ⟨VLe.refl _, rfl, VLe.refl _, rfl, trivial⟩) ?_
   refine rwp_det rfl rfl (det_move rfl rfl) ?_
   refine rwp_lazy [] rfl rfl rfl rfl gv1 trivial (fun g7_3 => det_call rfl ok23 law14_live trivial) rfl ?_
   refine rwp_det rfl rfl (det_and rfl rfl rfl (fun h => h) rfl) ?_
   refine rwp_det rfl rfl (det_assign rfl rfl) ?_
   refine rwp_nil ?_
   refine awp_ret ?_
   repeat (first | refine thenQ_ret ?_ | refine blockQ_ret ?_)
   refine fin1 (rs_c rfl) ?_
   simp

end Go.W
