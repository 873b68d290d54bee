/-
  Walks: what functions of the program compute. Printed by wip/gen/mk2.py.
  Conditions: none.
-/
import Derived.Test.YtdbflnlalkfeeaaGreatDoorNP
set_option linter.unusedSimpArgs false
set_option linter.unusedVariables false
set_option maxRecDepth 10000
namespace Go.W
open Go Go.Eng Go.Proofs Go.L41 Go.Br
attribute [local irreducible] AWP RWP TD finQ
theorem ok54 : callOk Tryz.prog 54 = true := by kernel_rfl
theorem law30_spoil_step (w0 : World) (bs : List Nat) (m0 m : Nat) (l : List St) (ih : ∀ s, s ∈ l → Con cfg 54 [.c (Gc w0 bs m (.sl 20 (s.Body.map St.cells)))] [E.reg bs (Kp w0 bs m)] (fun r μ' => r = .tup [] ∧ μ' = [E.reg bs (Kp w0 bs m)])) (hl : stsWt l ≤ 4294967296) :
    Con cfg 54 [.c (Gc w0 bs m0 (.sl 20 (l.map St.cells)))] [E.reg bs (Kp w0 bs m)] (fun r μ' => ∃ μ2, (∃ ν1 ν2, μ' = ν1 ++ (μ2 ++ ν2)) ∧ (r = .tup [] ∧ μ2 = [E.reg bs (Kp w0 bs m)])) := by
 refine con_intro Tryz.func54 rfl Tryz.ntmps54 Tryz.results54 rfl ?_
 intro z hz
 have hll := stsWt_len l
 refine sReg rfl <|
  rMv rfl <|
  rwp_nil <|
  awp_block <|
  awp_weak ⟨[(2, .c _), (0, .c _)], [_]⟩ (Weak.mk [true] ⟨VLe.of_eq rfl, VLe.of_eq rfl, trivial⟩ rfl) <|
  awp_loop_k 1 0 rfl rfl (Nat) (fun k => [(2, vI k)]) (fun k => []) (fun k => k ≤ l.length) (fun k => l.length - k) ⟨0, (by omega), Weak.mk [true] ⟨VLe.refl _, VLe.refl _, trivial⟩ rfl⟩ ?_
 rintro k hk
 refine awp_seq <|
  sReg rfl <|
  rMv rfl <|
  rMv rfl <|
  rwp_det rfl rfl (det_len_gm rfl el23 rfl) <|
  rwp_det rfl rfl (det_lss rfl rfl rfl) <|
  rwp_nil <|
  awp_cond rfl (fun c1 => ?_) (fun c1 => ?_)
 ·try simp only [sx] at c1
  obtain ⟨s, hs⟩ := ex_get l k (by omega)
  have hsw := stsWt_mem (mem_of_get hs)
  have hse := St.wt_eq s
  refine awp_skip <|
   awp_seq <|
   awp_block <|
   sReg rfl <|
   rMv rfl <|
   rMv rfl <|
   rwp_det rfl rfl (det_index_g rfl el23 rfl rfl (by omega) (getmS hs)) <|
   rwp_det rfl rfl (det_field_g rfl fd54_7 rfl) <|
   rwp_det rfl rfl (det_load_one rfl one23 rfl (ptr_g 0 rfl) rfl) <|
   rwp_op rfl rfl (ope_call_reg 0 rfl rfl ok54 (ih s (mem_of_get hs)) ⟨VLe.refl _, rfl, trivial⟩) ?_
  rintro _ _ ⟨rfl, rfl⟩
  refine rwp_nil <|
   sReg rfl <|
   rMv rfl <|
   rMv rfl <|
   rwp_det rfl rfl (det_index_g rfl el23 rfl rfl (by omega) (getmS hs)) <|
   rwp_det rfl rfl (det_field_g rfl fd54_6 rfl) <|
   rwp_det rfl rfl (det_load_agg rfl agg52 rfl (ptr_g 0 rfl) rfl) <|
   rwp_op rfl rfl (ope_allocN [none, none, none, none, none, none, none, none, none, none, some 2, some 4, some 13] rfl zr52 rfl) ?_
  rintro _ _ ⟨b1, rfl, rfl⟩
  refine rwp_det0 rfl rfl (det_store rfl sz52 rfl rfl rfl (st_row 0 rfl rfl)) <|
   rwp_nil <|
   awp_seq <|
   awp_block <|
   awp_weak ⟨[(0, .c _), (2, .c _), (3, .c _)], [_, _]⟩ (Weak.mk [true, true] ⟨VLe.of_eq rfl, VLe.of_eq rfl, VLe.of_eq rfl, trivial⟩ rfl) <|
   awp_loop_k 0 2 rfl rfl (Ex) (fun e => []) (fun e => [E.row b1 52 (e.cs.map (Gc w0 bs m)), E.reg bs (Kp w0 bs m)]) (fun e => e.wt ≤ s.E.wt) (fun e => e.wt) ⟨s.E, (by omega), Weak.mk [true, true] ⟨VLe.refl _, VLe.refl _, VLe.refl _, trivial⟩ rfl⟩ ?_
  rintro e hew
  refine awp_seq <|
   sReg rfl <|
   rwp_det rfl rfl (det_field_lit rfl fd52_6 rfl) <|
   rwp_det rfl rfl (det_load_one rfl one50 rfl (ptr_row 0 rfl) rfl) <|
   rwp_det rfl rfl (det_len_gm rfl el50 rfl) <|
   rwp_det rfl rfl (det_gtr rfl rfl rfl) <|
   rwp_nil <|
   awp_cond rfl (fun c2 => ?_) (fun c2 => ?_)
  ·try simp only [sx] at c2
   obtain ⟨a, ha⟩ := ex_get e.Args 0 (by omega)
   have haw := Ex.arg_wt (mem_of_get ha)
   have hae := Ex.wt_eq e
   refine awp_skip <|
    awp_block <|
    sReg rfl <|
    rwp_det rfl rfl (det_field_lit rfl fd52_6 rfl) <|
    rwp_det rfl rfl (det_load_one rfl one50 rfl (ptr_row 0 rfl) rfl) <|
    rwp_det rfl rfl (det_index_g rfl el50 rfl rfl (by omega) (getmE ha)) <|
    rwp_det rfl rfl (det_field_g rfl fd52_0 rfl) <|
    rwp_det rfl rfl (det_load_one rfl one3 rfl (ptr_g 1 rfl) rfl) <|
    rwp_det rfl rfl (det_add_g rfl rfl rfl) <|
    rwp_det rfl rfl (det_index_g rfl el50 rfl rfl (by omega) (getmE ha)) <|
    rwp_det rfl rfl (det_field_g rfl fd52_0 rfl) <|
    rwp_det0 rfl rfl (det_store rfl sz3 rfl rfl rfl (st_g 1 rfl (Nat.le_refl _))) <|
    rwp_nil <|
    awp_region rfl <|
    rwp_det rfl rfl (det_field_lit rfl fd52_6 rfl) <|
    rwp_det rfl rfl (det_load_one rfl one50 rfl (ptr_row 0 rfl) rfl) <|
    rwp_det rfl rfl (det_index_g rfl el50 rfl rfl (by omega) (getmE ha)) <|
    rwp_det rfl rfl (det_load_agg rfl agg52 rfl (ptr_g 1 rfl) rfl) <|
    rwp_det0 rfl rfl (det_store rfl sz52 rfl rfl rfl (st_row 0 rfl rfl)) <|
    rwp_nil ?_
   refine ⟨a, (by omega), (by show a.wt < e.wt; omega), Weak.mk [true, true] ⟨VLe.refl _, VLe.refl _, VLe.refl _, trivial⟩ rfl⟩
  ·try simp only [sx] at c2
   refine awp_exit <|
    awp_seq <|
    sReg rfl <|
    rMv rfl <|
    rwp_nil <|
    awp_block <|
    awp_weak ⟨[(4, .c _), (0, .c _), (2, .c _)], [_]⟩ (Weak.mk [false, true] ⟨VLe.of_eq rfl, VLe.of_eq rfl, VLe.of_eq rfl, trivial⟩ rfl) <|
    awp_loop_k 1 0 rfl rfl (Nat) (fun j => [(4, vI j)]) (fun j => []) (fun j => j ≤ s.Idx.length) (fun j => s.Idx.length - j) ⟨0, (by omega), Weak.mk [true] ⟨VLe.refl _, VLe.refl _, VLe.refl _, trivial⟩ rfl⟩ ?_
   rintro j hj
   refine awp_seq <|
    sReg rfl <|
    rMv rfl <|
    rMv rfl <|
    rMv rfl <|
    rwp_det rfl rfl (det_index_g rfl el23 rfl rfl (by omega) (getmS hs)) <|
    rwp_det rfl rfl (det_field_g rfl fd54_5 rfl) <|
    rwp_det rfl rfl (det_load_one rfl one44 rfl (ptr_g 0 rfl) rfl) <|
    rwp_det rfl rfl (det_len_gm rfl el44 rfl) <|
    rwp_det rfl rfl (det_lss rfl rfl rfl) <|
    rwp_nil <|
    awp_cond rfl (fun c3 => ?_) (fun c3 => ?_)
   ·try simp only [sx] at c3
    obtain ⟨x, hx⟩ := ex_get s.Idx j (by omega)
    have hxw := idxWt_mem (mem_of_get hx)
    rw [Ix.wt] at hxw
    refine awp_skip <|
     awp_seq <|
     awp_block <|
     awp_seq <|
     sReg rfl <|
     rMv rfl <|
     rwp_nil <|
     awp_block <|
     awp_weak ⟨[(5, .c _), (0, .c _), (2, .c _), (4, .c _)], [_]⟩ (Weak.mk [true] ⟨VLe.of_eq rfl, VLe.of_eq rfl, VLe.of_eq rfl, VLe.of_eq rfl, trivial⟩ rfl) <|
     awp_loop_k 1 0 rfl rfl (Nat) (fun i => [(5, vI i)]) (fun i => []) (fun i => i ≤ x.Lin.L.length) (fun i => x.Lin.L.length - i) ⟨0, (by omega), Weak.mk [true] ⟨VLe.refl _, VLe.refl _, VLe.refl _, VLe.refl _, trivial⟩ rfl⟩ ?_
    rintro i hi
    refine awp_seq <|
     sReg rfl <|
     rMv rfl <|
     rMv rfl <|
     rMv rfl <|
     rwp_det rfl rfl (det_index_g rfl el23 rfl rfl (by omega) (getmS hs)) <|
     rwp_det rfl rfl (det_field_g rfl fd54_5 rfl) <|
     rwp_det rfl rfl (det_load_one rfl one44 rfl (ptr_g 0 rfl) rfl) <|
     rMv rfl <|
     rwp_det rfl rfl (det_index_g rfl el44 rfl rfl (by omega) (getm (by assumption))) <|
     rwp_det rfl rfl (det_field_g rfl fd114_0 rfl) <|
     rwp_det rfl rfl (det_field_g rfl fd49_1 rfl) <|
     rwp_det rfl rfl (det_load_one rfl one47 rfl (ptr_g 0 rfl) rfl) <|
     rwp_det rfl rfl (det_len_gm rfl el47 rfl) <|
     rwp_det rfl rfl (det_lss rfl rfl rfl) <|
     rwp_nil <|
     awp_cond rfl (fun c4 => ?_) (fun c4 => ?_)
    ·try simp only [sx] at c4
     obtain ⟨y, hy⟩ := ex_get x.Lin.L i (by omega)
     refine awp_skip <|
      awp_seq <|
      awp_block <|
      awp_region rfl <|
      rMv rfl <|
      rMv rfl <|
      rwp_det rfl rfl (det_index_g rfl el23 rfl rfl (by omega) (getmS hs)) <|
      rwp_det rfl rfl (det_field_g rfl fd54_5 rfl) <|
      rwp_det rfl rfl (det_load_one rfl one44 rfl (ptr_g 0 rfl) rfl) <|
      rMv rfl <|
      rwp_det rfl rfl (det_index_g rfl el44 rfl rfl (by omega) (getm (by assumption))) <|
      rwp_det rfl rfl (det_field_g rfl fd114_0 rfl) <|
      rwp_det rfl rfl (det_field_g rfl fd49_1 rfl) <|
      rwp_det rfl rfl (det_load_one rfl one47 rfl (ptr_g 0 rfl) rfl) <|
      rMv rfl <|
      rwp_det rfl rfl (det_index_g rfl el47 rfl rfl (by omega) (getm (by assumption))) <|
      rwp_det rfl rfl (det_field_g rfl fd111_1 rfl) <|
      rwp_det rfl rfl (det_load_one rfl one2 rfl (ptr_g 0 rfl) rfl) <|
      rwp_det rfl rfl (det_add_g rfl rfl rfl) <|
      rwp_det rfl rfl (det_index_g rfl el47 rfl rfl (by omega) (getm (by assumption))) <|
      rwp_det rfl rfl (det_field_g rfl fd111_1 rfl) <|
      rwp_det0 rfl rfl (det_store rfl sz2 rfl rfl rfl (st_g 0 rfl (Nat.le_refl _))) <|
      rwp_nil <|
      awp_region rfl <|
      rMv rfl <|
      rwp_det rfl rfl (det_add_nw rfl rfl rfl ⟨by omega, by omega⟩) <|
      rMv rfl <|
      rwp_nil ?_
     refine ⟨i + 1, (by omega), (by omega), Weak.mk [true] ⟨VLe.refl _, VLe.refl _, VLe.refl _, VLe.refl _, trivial⟩ rfl⟩
    ·try simp only [sx] at c4
     refine awp_exit <|
      awp_region rfl <|
      rMv rfl <|
      rMv rfl <|
      rwp_det rfl rfl (det_index_g rfl el23 rfl rfl (by omega) (getmS hs)) <|
      rwp_det rfl rfl (det_field_g rfl fd54_5 rfl) <|
      rwp_det rfl rfl (det_load_one rfl one44 rfl (ptr_g 0 rfl) rfl) <|
      rMv rfl <|
      rwp_det rfl rfl (det_index_g rfl el44 rfl rfl (by omega) (getm (by assumption))) <|
      rwp_det rfl rfl (det_field_g rfl fd114_0 rfl) <|
      rwp_det rfl rfl (det_field_g rfl fd49_0 rfl) <|
      rwp_det rfl rfl (det_load_one rfl one2 rfl (ptr_g 0 rfl) rfl) <|
      rwp_det rfl rfl (det_add_g rfl rfl rfl) <|
      rwp_det rfl rfl (det_index_g rfl el44 rfl rfl (by omega) (getm (by assumption))) <|
      rwp_det rfl rfl (det_field_g rfl fd114_0 rfl) <|
      rwp_det rfl rfl (det_field_g rfl fd49_0 rfl) <|
      rwp_det0 rfl rfl (det_store rfl sz2 rfl rfl rfl (st_g 0 rfl (Nat.le_refl _))) <|
      rwp_nil <|
      awp_region rfl <|
      rMv rfl <|
      rwp_det rfl rfl (det_add_nw rfl rfl rfl ⟨by omega, by omega⟩) <|
      rMv rfl <|
      rwp_nil ?_
     refine ⟨j + 1, (by omega), (by omega), Weak.mk [true] ⟨VLe.refl _, VLe.refl _, VLe.refl _, trivial⟩ rfl⟩
   ·try simp only [sx] at c3
    refine awp_exit <|
     awp_region rfl <|
     rMv rfl <|
     rMv rfl <|
     rwp_det rfl rfl (det_index_g rfl el23 rfl rfl (by omega) (getmS hs)) <|
     rwp_det rfl rfl (det_field_g rfl fd54_2 rfl) <|
     rwp_det rfl rfl (det_load_one rfl one3 rfl (ptr_g 0 rfl) rfl) <|
     rwp_det rfl rfl (det_add_g rfl rfl rfl) <|
     rwp_det rfl rfl (det_index_g rfl el23 rfl rfl (by omega) (getmS hs)) <|
     rwp_det rfl rfl (det_field_g rfl fd54_2 rfl) <|
     rwp_det0 rfl rfl (det_store rfl sz3 rfl rfl rfl (st_g 0 rfl (Nat.le_refl _))) <|
     rwp_nil <|
     awp_region rfl <|
     rMv rfl <|
     rwp_det rfl rfl (det_add_nw rfl rfl rfl ⟨by omega, by omega⟩) <|
     rMv rfl <|
     rwp_nil ?_
    refine ⟨k + 1, (by omega), (by omega), Weak.mk [true] ⟨VLe.refl _, VLe.refl _, trivial⟩ rfl⟩
 ·try simp only [sx] at c1
  refine awp_exit ?_
  repeat (first | refine then_exit ?_ | refine block_exit ?_)
  refine fin_end <| fin0 ?_
  exact ⟨[E.reg _ _], ⟨[], [], rfl⟩, rfl, rfl⟩

theorem law30_spoil_body (w0 : World) (bs : List Nat) (m : Nat) (s : St) (hl : stsWt s.Body ≤ 4294967296) : Con cfg 54 [.c (Gc w0 bs m (.sl 20 (s.Body.map St.cells)))] [E.reg bs (Kp w0 bs m)] (fun r μ' => r = .tup [] ∧ μ' = [E.reg bs (Kp w0 bs m)]) := by
  induction s using St.ind with
  | _ s ih => exact Con.dropG (law30_spoil_step w0 bs m m s.Body (fun a ha => ih a ha (by have := stsWt_mem ha; have := St.body_wt a; omega)) hl)
theorem law30_spoil (w0 : World) (bs : List Nat) (m0 m : Nat) (l : List St) (hl : stsWt l ≤ 4294967296) : Con cfg 54 [.c (Gc w0 bs m0 (.sl 20 (l.map St.cells)))] [E.reg bs (Kp w0 bs m)] (fun r μ' => r = .tup [] ∧ μ' = [E.reg bs (Kp w0 bs m)]) :=
  Con.dropG (law30_spoil_step w0 bs m0 m l (fun s hs => law30_spoil_body w0 bs m s (by have := stsWt_mem hs; have := St.body_wt s; omega)) hl)

end Go.W
