/-
  Walks: what functions of the program compute. Printed by wip/gen/mk2.py.
  Conditions: none.
-/
import Derived.Test.YtmmiedgoamlhpaaGreatDoorYD
import Derived.Test.YtmmiedgoamlhpaaGreatDoorPlainM
import Derived.Test.YtmmiedgoamlhpaaGreatDoorSub
set_option linter.unusedSimpArgs false
set_option linter.unusedVariables false
set_option maxRecDepth 10000
namespace Go.W
open Go Go.Eng Go.Proofs Go.L41 Go.Br
attribute [local irreducible] AWP RWP TD finQ
theorem ar77 : arrT Tryz.prog 77 = some (256, 2, 1) := by kernel_rfl
theorem ar78 : arrT Tryz.prog 78 = some (256, 63, 2) := by kernel_rfl
theorem fd80_0 : fieldT Tryz.prog 80 0 = some (0, 4) := by kernel_rfl
theorem fd80_1 : fieldT Tryz.prog 80 1 = some (1, 22) := by kernel_rfl
theorem fd80_2 : fieldT Tryz.prog 80 2 = some (2, 23) := by kernel_rfl
theorem fd80_3 : fieldT Tryz.prog 80 3 = some (3, 36) := by kernel_rfl
theorem fd80_4 : fieldT Tryz.prog 80 4 = some (4, 77) := by kernel_rfl
theorem fd80_5 : fieldT Tryz.prog 80 5 = some (260, 78) := by kernel_rfl
theorem fd80_6 : fieldT Tryz.prog 80 6 = some (772, 3) := by kernel_rfl
theorem fd80_7 : fieldT Tryz.prog 80 7 = some (773, 4) := by kernel_rfl
theorem ok57 : callOk Tryz.prog 57 = true := by kernel_rfl
theorem ok68 : callOk Tryz.prog 68 = true := by kernel_rfl
theorem ok69 : callOk Tryz.prog 69 = true := by kernel_rfl
theorem ok70 : callOk Tryz.prog 70 = true := by kernel_rfl
theorem ok71 : callOk Tryz.prog 71 = true := by kernel_rfl
theorem ok119 : callOk Tryz.prog 119 = true := by kernel_rfl
theorem ok120 : callOk Tryz.prog 120 = true := by kernel_rfl
theorem one4 : oneT Tryz.prog 4 = true := by kernel_rfl
theorem one22 : oneT Tryz.prog 22 = true := by kernel_rfl
theorem one23 : oneT Tryz.prog 23 = true := by kernel_rfl
theorem one36 : oneT Tryz.prog 36 = true := by kernel_rfl
theorem sz2 : (Tryz.prog.info? 2).map (·.size) = some 1 := by kernel_rfl
theorem sz4 : (Tryz.prog.info? 4).map (·.size) = some 1 := by kernel_rfl
theorem un31 : Tryz.prog.underlying 31 = some (.pointer 80) := by kernel_rfl
theorem vm_ready0 (b : Nat) (sv : Value) (s : Mc) (w : Int) (hs : s.Ok w)  :
    Con cfg 57 [vPt b] (mcE b sv s) fun r μ' => r = vB true ∧ ∃ ν, μ' = ν ++ mcE b sv s := by
 refine con_intro Tryz.func57 rfl Tryz.ntmps57 Tryz.results57 rfl ?_
 intro z hz
 refine sReg rfl <|
  rMv rfl <|
  rwp_nil <|
  sReg rfl <|
  rMv rfl <|
  rwp_det rfl rfl (det_ptr_ne rfl rfl rfl un31) <|
  rMv rfl <|
  rLz [] rfl gv1 trivial (fun g1_2 => det_move rfl rfl) rfl <|
  rLz [(6, _)] rfl gv1 ⟨rfl, rfl, trivial⟩ (fun g1_2 => det_nilcheck_ptr rfl rfl) rfl <|
  rLz [(7, _)] rfl gv1 ⟨rfl, rfl, trivial⟩ (fun g1_2 => det_field_lit rfl fd80_0 rfl) rfl <|
  rLz [(8, _)] rfl gv1 ⟨rfl, rfl, trivial⟩ (fun g1_2 => det_load_one rfl one4 rfl (ptr_row 0 rfl) rfl) rfl <|
  rwp_det rfl rfl (det_and rfl rfl rfl (fun h => h) rfl) <|
  rMv rfl <|
  rwp_nil <|
  awp_ret <|
  fin1 (rs_c rfl) ?_
 exact ⟨rfl, [], rfl⟩

theorem vm_ready (b : Nat) (sv : Value) (s : Mc) (w : Int) (hs : s.Ok w)  : Con cfg 57 [vPt b] (mcE b sv s) fun r μ' => r = vB true ∧ μ' = mcE b sv s := Con.drop (vm_ready0 b sv s w hs)
theorem vm_holds0 (b : Nat) (sv : Value) (s : Mc) (w : Int) (hs : s.Ok w) (a m : Int) (hl : s.M.length ≤ 1048576) :
    Con cfg 66 [vPt b, vI a, vI m] (mcE b sv s) fun r μ' => r = vB (hold s a m) ∧ ∃ ν, μ' = ν ++ mcE b sv s := by
 refine con_intro Tryz.func66 rfl Tryz.ntmps66 Tryz.results66 rfl ?_
 intro z hz
 refine sReg rfl <|
  rMv rfl <|
  rwp_nil <|
  sReg rfl <|
  rMv rfl <|
  rwp_det rfl rfl (det_geq rfl rfl rfl) <|
  rMv rfl <|
  rLz [] rfl gv1 trivial (fun g1_2 => det_move rfl rfl) rfl <|
  rLz [(10, _)] rfl gv1 ⟨rfl, rfl, trivial⟩ (fun g1_2 => det_geq rfl rfl rfl) rfl <|
  rwp_det rfl rfl (det_and rfl rfl rfl (fun h => h) rfl) <|
  rMv rfl <|
  rLz [] rfl gv1 trivial (fun g1_6 => det_move rfl rfl) rfl <|
  rLz [] rfl gv1 trivial (fun g1_6 => det_move rfl rfl) rfl <|
  rLz [(15, _)] rfl gv1 ⟨rfl, rfl, trivial⟩ (fun g1_6 => det_nilcheck_ptr rfl rfl) rfl <|
  rLz [(16, _)] rfl gv1 ⟨rfl, rfl, trivial⟩ (fun g1_6 => det_field_lit rfl fd80_3 rfl) rfl <|
  rLz [(17, _)] rfl gv1 ⟨rfl, rfl, trivial⟩ (fun g1_6 => det_load_one rfl one36 rfl (ptr_row 0 rfl) rfl) rfl <|
  rLz [(18, _)] rfl gv1 ⟨rfl, rfl, trivial⟩ (fun g1_6 => det_len_vec 1 rfl el36 rfl rfl) rfl <|
  rLz [(14, _), (19, _)] rfl gv1 ⟨rfl, rfl, rfl, rfl, trivial⟩ (fun g1_6 => det_leq rfl rfl rfl) rfl <|
  rwp_det rfl rfl (det_and rfl rfl rfl (fun h => h) rfl) <|
  rMv rfl <|
  rLz [] rfl gv1 trivial (fun g1_15 => det_move rfl rfl) rfl <|
  rLz [] rfl gv1 trivial (fun g1_15 => det_move rfl rfl) rfl <|
  rLz [(24, _)] rfl gv1 ⟨rfl, rfl, trivial⟩ (fun g1_15 => det_nilcheck_ptr rfl rfl) rfl <|
  rLz [(25, _)] rfl gv1 ⟨rfl, rfl, trivial⟩ (fun g1_15 => det_field_lit rfl fd80_3 rfl) rfl <|
  rLz [(26, _)] rfl gv1 ⟨rfl, rfl, trivial⟩ (fun g1_15 => det_load_one rfl one36 rfl (ptr_row 0 rfl) rfl) rfl <|
  rLz [(27, _)] rfl gv1 ⟨rfl, rfl, trivial⟩ (fun g1_15 => det_len_vec 1 rfl el36 rfl rfl) rfl <|
  rLz [] rfl gv1 trivial (fun g1_15 => det_move rfl rfl) rfl <|
  rLz [(28, _), (29, _)] rfl gv1 ⟨rfl, rfl, rfl, rfl, trivial⟩ (fun g1_15 => det_sub_nw rfl rfl rfl ⟨by simp only [List.length_map]; have := (by simpa [Lz, and_assoc] using g1_15 : 0 ≤ a ∧ 0 ≤ m ∧ a ≤ s.M.length); omega, by simp only [List.length_map]; have := (by simpa [Lz, and_assoc] using g1_15 : 0 ≤ a ∧ 0 ≤ m ∧ a ≤ s.M.length); omega⟩) rfl <|
  rLz [(23, _), (30, _)] rfl gv1 ⟨rfl, rfl, rfl, rfl, trivial⟩ (fun g1_15 => det_leq rfl rfl rfl) rfl <|
  rwp_det rfl rfl (det_and rfl rfl rfl (fun h => h) rfl) <|
  rMv rfl <|
  rwp_nil <|
  awp_ret <|
  fin1 (rs_c rfl) ?_
 exact ⟨by simp only [hold, List.length_map], [], rfl⟩

theorem vm_holds (b : Nat) (sv : Value) (s : Mc) (w : Int) (hs : s.Ok w) (a m : Int) (hl : s.M.length ≤ 1048576) : Con cfg 66 [vPt b, vI a, vI m] (mcE b sv s) fun r μ' => r = vB (hold s a m) ∧ μ' = mcE b sv s := Con.drop (vm_holds0 b sv s w hs a m hl)
theorem vm_PC0 (b : Nat) (sv : Value) (s : Mc) (w : Int) (hs : s.Ok w)  :
    Con cfg 21 [vPt b] (mcE b sv s) fun r μ' => r = vI s.pc ∧ ∃ ν, μ' = ν ++ mcE b sv s := by
 refine con_intro Tryz.func21 rfl Tryz.ntmps21 Tryz.results21 rfl ?_
 intro z hz
 refine sReg rfl <|
  rMv rfl <|
  rwp_nil <|
  awp_seq <|
  sReg rfl <|
  rMv rfl <|
  rwp_det rfl rfl (det_call_same [0, 0] rfl ok57 (vm_ready b sv s w hs) ⟨VLe.refl _, rfl, trivial⟩ rfl) <|
  rwp_det rfl rfl (det_not rfl rfl) <|
  rwp_nil <|
  awp_cond rfl (fun c1 => ?_) (fun c1 => ?_)
 ·try simp only [sx] at c1
  exact absurd c1 (by simp)
 ·try simp only [sx] at c1
  refine awp_skip <|
   sReg rfl <|
   rMv rfl <|
   rwp_det rfl rfl (det_nilcheck_ptr rfl rfl) <|
   rwp_det rfl rfl (det_field_lit rfl fd80_6 rfl) <|
   rwp_det rfl rfl (det_load_one rfl one3 rfl (ptr_row 0 rfl) (mc_pc hs)) <|
   rMv rfl <|
   rwp_nil <|
   awp_ret <|
   fin1 (rs_c rfl) ?_
  exact ⟨rfl, [], rfl⟩

theorem vm_PC (b : Nat) (sv : Value) (s : Mc) (w : Int) (hs : s.Ok w)  : Con cfg 21 [vPt b] (mcE b sv s) fun r μ' => r = vI s.pc ∧ μ' = mcE b sv s := Con.drop (vm_PC0 b sv s w hs)
theorem vm_integer0 (b : Nat) (sv : Value) (s : Mc) (w : Int) (hs : s.Ok w) (x : In) (hx : fmd x = true) (ho : jmpB x.Op = false ∧ memB x.Op = false ∧ cptB x.Op = false ∧ x.Op ≠ 0) :
    Con cfg 71 [vPt b, vIn x] (mcE b sv s) fun r μ' => r = .tup [] ∧ ∃ ν, μ' = ν ++ mcE b sv (s.sX x.A (intV s x)) := by
 refine con_intro Tryz.func71 rfl Tryz.ntmps71 Tryz.results71 rfl ?_
 intro z hz
 obtain ⟨⟨a1, a2⟩, fB, fC, fD, fo⟩ := int_facts hx ho
 refine sReg rfl <|
  rwp_op rfl rfl (ope_box rfl rfl) ?_
 rintro _ _ ⟨b1, rfl, rfl⟩
 refine rwp_nil <|
  awp_seq <|
  awp_draw 18 mixed (by kernel_rfl) rfl rfl <|
  td_det rfl rfl (det_move rfl rfl) <|
  td_det rfl rfl (det_field_lit rfl fd67_2 rfl) <|
  td_det rfl rfl (det_load_one rfl one3 rfl (ptr_row 0 rfl) rfl) <|
  td_det rfl rfl (det_low8 rfl rfl rfl) <|
  td_det rfl rfl (det_nilcheck_ptr rfl rfl) <|
  td_det rfl rfl (det_field_lit rfl fd80_4 rfl) <|
  td_det rfl rfl (det_arr_lit rfl ar77 rfl rfl (low8_0 _) (low8_1 _)) <|
  td_det rfl rfl (det_load_one rfl one2 rfl (ptr_row 1 rfl) (mc_X hs (low8_0 _) (low8_1 _))) <|
  td_det rfl rfl (det_move rfl rfl) <|
  td_det rfl rfl (det_field_lit rfl fd67_3 rfl) <|
  td_det rfl rfl (det_load_one rfl one3 rfl (ptr_row 0 rfl) rfl) <|
  td_det rfl rfl (det_low8 rfl rfl rfl) <|
  td_det rfl rfl (det_nilcheck_ptr rfl rfl) <|
  td_det rfl rfl (det_field_lit rfl fd80_4 rfl) <|
  td_det rfl rfl (det_arr_lit rfl ar77 rfl rfl (low8_0 _) (low8_1 _)) <|
  td_det rfl rfl (det_load_one rfl one2 rfl (ptr_row 1 rfl) (mc_X hs (low8_0 _) (low8_1 _))) <|
  td_det rfl rfl (det_assign rfl rfl) <|
  td_det rfl rfl (det_assign rfl rfl) <|
  td_nil <|
  rwp_nil <|
  awp_seq <|
  sReg rfl <|
  rwp_det rfl rfl (det_field_lit rfl fd67_0 rfl) <|
  rwp_det rfl rfl (det_load_one rfl one3 rfl (ptr_row 0 rfl) rfl) <|
  rwp_nil <|
  awp_block <|
  sReg rfl <|
  rwp_det rfl rfl (det_eql rfl rfl rfl) <|
  rMv rfl <|
  rwp_nil <|
  awp_cond rfl (fun c1 => ?_) (fun c1 => ?_)
 ·try simp only [sx] at c1
  refine awp_region rfl <|
   rwp_det rfl rfl (det_field_lit rfl fd67_2 rfl) <|
   rwp_det rfl rfl (det_load_one rfl one3 rfl (ptr_row 0 rfl) rfl) <|
   rMv rfl <|
   rwp_nil <|
   awp_draw 7 mixed (by kernel_rfl) rfl rfl <|
   td_det rfl rfl (det_move rfl rfl) <|
   td_det rfl rfl (det_field_lit rfl fd67_1 rfl) <|
   td_det rfl rfl (det_load_one rfl one3 rfl (ptr_row 0 rfl) rfl) <|
   td_det rfl rfl (det_move rfl rfl) <|
   td_det rfl rfl (det_nilcheck_ptr rfl rfl) <|
   td_det rfl rfl (det_field_lit rfl fd80_4 rfl) <|
   td_det rfl rfl (det_arr_lit rfl ar77 rfl rfl (by omega) (by omega)) <|
   td_nil <|
   rwp_det0 rfl rfl (det_store rfl sz2 rfl rfl rfl (st_rowE 1 rfl (by rw [mc_len hs]; show 0 + 4 + x.A.toNat * 1 + 1 ≤ 774; omega) (mc_sX hs _ (by omega) (by omega)))) <|
   rwp_nil ?_
  repeat (first | refine then_exit ?_ | refine block_exit ?_)
  refine fin_end <| fin0 ?_
  exact ⟨rfl, [_], by rw [intv1 c1]; rfl⟩
 ·try simp only [sx] at c1
  refine sReg rfl <|
   rwp_det rfl rfl (det_eql rfl rfl rfl) <|
   rMv rfl <|
   rwp_nil <|
   awp_cond rfl (fun c2 => ?_) (fun c2 => ?_)
  ·try simp only [sx] at c2
   refine awp_region rfl <|
    rMv rfl <|
    rMv rfl <|
    rwp_det rfl rfl (det_add rfl rfl rfl) <|
    rMv rfl <|
    rwp_nil <|
    awp_draw 7 mixed (by kernel_rfl) rfl rfl <|
    td_det rfl rfl (det_move rfl rfl) <|
    td_det rfl rfl (det_field_lit rfl fd67_1 rfl) <|
    td_det rfl rfl (det_load_one rfl one3 rfl (ptr_row 0 rfl) rfl) <|
    td_det rfl rfl (det_move rfl rfl) <|
    td_det rfl rfl (det_nilcheck_ptr rfl rfl) <|
    td_det rfl rfl (det_field_lit rfl fd80_4 rfl) <|
    td_det rfl rfl (det_arr_lit rfl ar77 rfl rfl (by omega) (by omega)) <|
    td_nil <|
    rwp_det0 rfl rfl (det_store rfl sz2 rfl rfl rfl (st_rowE 1 rfl (by rw [mc_len hs]; show 0 + 4 + x.A.toNat * 1 + 1 ≤ 774; omega) (mc_sX hs _ (by omega) (by omega)))) <|
    rwp_nil ?_
   repeat (first | refine then_exit ?_ | refine block_exit ?_)
   refine fin_end <| fin0 ?_
   exact ⟨rfl, [_], by rw [intv3 c2 (low8_eq (fB (by omega)).1 (fB (by omega)).2) (low8_eq (fC (by omega)).1 (fC (by omega)).2)]; rfl⟩
  ·try simp only [sx] at c2
   refine sReg rfl <|
    rwp_det rfl rfl (det_eql rfl rfl rfl) <|
    rMv rfl <|
    rwp_nil <|
    awp_cond rfl (fun c3 => ?_) (fun c3 => ?_)
   ·try simp only [sx] at c3
    refine awp_region rfl <|
     rMv rfl <|
     rwp_det rfl rfl (det_field_lit rfl fd67_3 rfl) <|
     rwp_det rfl rfl (det_load_one rfl one3 rfl (ptr_row 0 rfl) rfl) <|
     rwp_det rfl rfl (det_mul rfl rfl rfl) <|
     rMv rfl <|
     rwp_nil <|
     awp_draw 7 mixed (by kernel_rfl) rfl rfl <|
     td_det rfl rfl (det_move rfl rfl) <|
     td_det rfl rfl (det_field_lit rfl fd67_1 rfl) <|
     td_det rfl rfl (det_load_one rfl one3 rfl (ptr_row 0 rfl) rfl) <|
     td_det rfl rfl (det_move rfl rfl) <|
     td_det rfl rfl (det_nilcheck_ptr rfl rfl) <|
     td_det rfl rfl (det_field_lit rfl fd80_4 rfl) <|
     td_det rfl rfl (det_arr_lit rfl ar77 rfl rfl (by omega) (by omega)) <|
     td_nil <|
     rwp_det0 rfl rfl (det_store rfl sz2 rfl rfl rfl (st_rowE 1 rfl (by rw [mc_len hs]; show 0 + 4 + x.A.toNat * 1 + 1 ≤ 774; omega) (mc_sX hs _ (by omega) (by omega)))) <|
     rwp_nil ?_
    repeat (first | refine then_exit ?_ | refine block_exit ?_)
    refine fin_end <| fin0 ?_
    exact ⟨rfl, [_], by rw [intv4 c3 (low8_eq (fB (by omega)).1 (fB (by omega)).2)]; rfl⟩
   ·try simp only [sx] at c3
    refine sReg rfl <|
     rwp_det rfl rfl (det_eql rfl rfl rfl) <|
     rMv rfl <|
     rwp_nil <|
     awp_cond rfl (fun c4 => ?_) (fun c4 => ?_)
    ·try simp only [sx] at c4
     refine awp_region rfl <|
      rMv rfl <|
      rMv rfl <|
      rwp_det rfl rfl (det_min rfl rfl rfl) <|
      rMv rfl <|
      rwp_nil <|
      awp_draw 7 mixed (by kernel_rfl) rfl rfl <|
      td_det rfl rfl (det_move rfl rfl) <|
      td_det rfl rfl (det_field_lit rfl fd67_1 rfl) <|
      td_det rfl rfl (det_load_one rfl one3 rfl (ptr_row 0 rfl) rfl) <|
      td_det rfl rfl (det_move rfl rfl) <|
      td_det rfl rfl (det_nilcheck_ptr rfl rfl) <|
      td_det rfl rfl (det_field_lit rfl fd80_4 rfl) <|
      td_det rfl rfl (det_arr_lit rfl ar77 rfl rfl (by omega) (by omega)) <|
      td_nil <|
      rwp_det0 rfl rfl (det_store rfl sz2 rfl rfl rfl (st_rowE 1 rfl (by rw [mc_len hs]; show 0 + 4 + x.A.toNat * 1 + 1 ≤ 774; omega) (mc_sX hs _ (by omega) (by omega)))) <|
      rwp_nil ?_
     repeat (first | refine then_exit ?_ | refine block_exit ?_)
     refine fin_end <| fin0 ?_
     exact ⟨rfl, [_], by rw [intv5 c4 (low8_eq (fB (by omega)).1 (fB (by omega)).2) (low8_eq (fC (by omega)).1 (fC (by omega)).2)]; rfl⟩
    ·try simp only [sx] at c4
     refine sReg rfl <|
      rwp_det rfl rfl (det_eql rfl rfl rfl) <|
      rMv rfl <|
      rwp_nil <|
      awp_cond rfl (fun c5 => ?_) (fun c5 => ?_)
     ·try simp only [sx] at c5
      refine awp_region rfl <|
       rMv rfl <|
       rMv rfl <|
       rwp_det rfl rfl (det_max rfl rfl rfl) <|
       rMv rfl <|
       rwp_nil <|
       awp_draw 7 mixed (by kernel_rfl) rfl rfl <|
       td_det rfl rfl (det_move rfl rfl) <|
       td_det rfl rfl (det_field_lit rfl fd67_1 rfl) <|
       td_det rfl rfl (det_load_one rfl one3 rfl (ptr_row 0 rfl) rfl) <|
       td_det rfl rfl (det_move rfl rfl) <|
       td_det rfl rfl (det_nilcheck_ptr rfl rfl) <|
       td_det rfl rfl (det_field_lit rfl fd80_4 rfl) <|
       td_det rfl rfl (det_arr_lit rfl ar77 rfl rfl (by omega) (by omega)) <|
       td_nil <|
       rwp_det0 rfl rfl (det_store rfl sz2 rfl rfl rfl (st_rowE 1 rfl (by rw [mc_len hs]; show 0 + 4 + x.A.toNat * 1 + 1 ≤ 774; omega) (mc_sX hs _ (by omega) (by omega)))) <|
       rwp_nil ?_
      repeat (first | refine then_exit ?_ | refine block_exit ?_)
      refine fin_end <| fin0 ?_
      exact ⟨rfl, [_], by rw [intv6 c5 (low8_eq (fB (by omega)).1 (fB (by omega)).2) (low8_eq (fC (by omega)).1 (fC (by omega)).2)]; rfl⟩
     ·try simp only [sx] at c5
      refine sReg rfl <|
       rwp_det rfl rfl (det_eql rfl rfl rfl) <|
       rMv rfl <|
       rwp_nil <|
       awp_cond rfl (fun c6 => ?_) (fun c6 => ?_)
      ·try simp only [sx] at c6
       refine awp_draw 14 mixed (by kernel_rfl) rfl rfl <|
        td_det rfl rfl (det_move rfl rfl) <|
        td_det rfl rfl (det_field_lit rfl fd67_2 rfl) <|
        td_det rfl rfl (det_load_one rfl one3 rfl (ptr_row 0 rfl) rfl) <|
        td_det rfl rfl (det_nilcheck_ptr rfl rfl) <|
        td_det rfl rfl (det_field_lit rfl fd80_5 rfl) <|
        td_det rfl rfl (det_arr_lit rfl ar78 rfl rfl (by have := fB (by omega); omega) (by have := fB (by omega); omega)) <|
        td_det rfl rfl (det_field_lit rfl fd63_0 rfl) <|
        td_det rfl rfl (det_load_one rfl one2 rfl (ptr_row 1 rfl) (mc_RN hs (by have := fB (by omega); omega) (by have := fB (by omega); omega))) <|
        td_det rfl rfl (det_field_lit rfl fd67_3 rfl) <|
        td_det rfl rfl (det_load_one rfl one3 rfl (ptr_row 0 rfl) rfl) <|
        td_det rfl rfl (det_sub_nw rfl rfl rfl ⟨by have := fD (by omega); omega, by have := fD (by omega); omega⟩) <|
        td_det rfl rfl (det_min rfl rfl rfl) <|
        td_det rfl rfl (det_max rfl rfl rfl) <|
        td_det rfl rfl (det_assign rfl rfl) <|
        td_nil <|
        rwp_nil <|
        awp_draw 7 mixed (by kernel_rfl) rfl rfl <|
        td_det rfl rfl (det_move rfl rfl) <|
        td_det rfl rfl (det_field_lit rfl fd67_1 rfl) <|
        td_det rfl rfl (det_load_one rfl one3 rfl (ptr_row 0 rfl) rfl) <|
        td_det rfl rfl (det_move rfl rfl) <|
        td_det rfl rfl (det_nilcheck_ptr rfl rfl) <|
        td_det rfl rfl (det_field_lit rfl fd80_4 rfl) <|
        td_det rfl rfl (det_arr_lit rfl ar77 rfl rfl (by omega) (by omega)) <|
        td_nil <|
        rwp_det0 rfl rfl (det_store rfl sz2 rfl rfl rfl (st_rowE 1 rfl (by rw [mc_len hs]; show 0 + 4 + x.A.toNat * 1 + 1 ≤ 774; omega) (mc_sX hs _ (by omega) (by omega)))) <|
        rwp_nil ?_
       repeat (first | refine then_exit ?_ | refine block_exit ?_)
       refine fin_end <| fin0 ?_
       exact ⟨rfl, [_], by rw [intv7 c6]; rfl⟩
      ·try simp only [sx] at c6
       refine awp_skip <|
        awp_draw 7 mixed (by kernel_rfl) rfl rfl <|
        td_det rfl rfl (det_move rfl rfl) <|
        td_det rfl rfl (det_field_lit rfl fd67_1 rfl) <|
        td_det rfl rfl (det_load_one rfl one3 rfl (ptr_row 0 rfl) rfl) <|
        td_det rfl rfl (det_move rfl rfl) <|
        td_det rfl rfl (det_nilcheck_ptr rfl rfl) <|
        td_det rfl rfl (det_field_lit rfl fd80_4 rfl) <|
        td_det rfl rfl (det_arr_lit rfl ar77 rfl rfl (by omega) (by omega)) <|
        td_nil <|
        rwp_det0 rfl rfl (det_store rfl sz2 rfl rfl rfl (st_rowE 1 rfl (by rw [mc_len hs]; show 0 + 4 + x.A.toNat * 1 + 1 ≤ 774; omega) (mc_sX hs _ (by omega) (by omega)))) <|
        rwp_nil ?_
       repeat (first | refine then_exit ?_ | refine block_exit ?_)
       refine fin_end <| fin0 ?_
       exact ⟨rfl, [_], by rw [intv2 (by omega) (low8_eq (fB (by omega)).1 (fB (by omega)).2)]; rfl⟩

theorem vm_integer (b : Nat) (sv : Value) (s : Mc) (w : Int) (hs : s.Ok w) (x : In) (hx : fmd x = true) (ho : jmpB x.Op = false ∧ memB x.Op = false ∧ cptB x.Op = false ∧ x.Op ≠ 0) : Con cfg 71 [vPt b, vIn x] (mcE b sv s) fun r μ' => r = .tup [] ∧ μ' = mcE b sv (s.sX x.A (intV s x)) := Con.drop (vm_integer0 b sv s w hs x hx ho)
theorem vm_memory0 (b : Nat) (sv : Value) (s : Mc) (w : Int) (hs : s.Ok w) (x : In) (hx : fmd x = true) (ho : memB x.Op = true) (hC : x.C ≤ w) :
    Con cfg 69 [vPt b, vIn x] (mcE b sv s) fun r μ' => r = vI (memV s x).2 ∧ ∃ ν, μ' = ν ++ mcE b sv (memV s x).1 := by
 refine con_intro Tryz.func69 rfl Tryz.ntmps69 Tryz.results69 rfl ?_
 intro z hz
 obtain ⟨⟨a1, a2⟩, ⟨b1, b2⟩, ⟨d1, d2, d3, d4⟩, fo⟩ := mem_facts hx ho
 have hMl := hs.hM
 refine sReg rfl <|
  rwp_op rfl rfl (ope_box rfl rfl) ?_
 rintro _ _ ⟨b1, rfl, rfl⟩
 refine rMv rfl <|
  rwp_nil <|
  awp_seq <|
  awp_draw 8 mixed (by kernel_rfl) rfl rfl <|
  td_det rfl rfl (det_move rfl rfl) <|
  td_det rfl rfl (det_field_lit rfl fd67_2 rfl) <|
  td_det rfl rfl (det_load_one rfl one3 rfl (ptr_row 0 rfl) rfl) <|
  td_det rfl rfl (det_nilcheck_ptr rfl rfl) <|
  td_det rfl rfl (det_field_lit rfl fd80_4 rfl) <|
  td_det rfl rfl (det_arr_lit rfl ar77 rfl rfl (by omega) (by omega)) <|
  td_det rfl rfl (det_load_one rfl one2 rfl (ptr_row 1 rfl) (mc_X hs (by omega) (by omega))) <|
  td_det rfl rfl (det_assign rfl rfl) <|
  td_nil <|
  rwp_nil <|
  awp_seq <|
  sReg rfl <|
  rMv rfl <|
  rwp_det rfl rfl (det_field_lit rfl fd67_4 rfl) <|
  rwp_det rfl rfl (det_field_lit rfl fd63_0 rfl) <|
  rwp_det rfl rfl (det_load_one rfl one2 rfl (ptr_row 0 rfl) rfl) <|
  rwp_det rfl rfl (det_lss rfl rfl rfl) <|
  rMv rfl <|
  rLz [] rfl gv1 trivial (fun g2_5 => det_move rfl rfl) rfl <|
  rLz [] rfl gv1 trivial (fun g2_5 => det_field_lit rfl fd67_3 rfl) rfl <|
  rLz [(20, _)] rfl gv1 ⟨rfl, rfl, trivial⟩ (fun g2_5 => det_load_one rfl one3 rfl (ptr_row 0 rfl) rfl) rfl <|
  rLz [(19, _), (21, _)] rfl gv1 ⟨rfl, rfl, rfl, rfl, trivial⟩ (fun g2_5 => det_geq rfl rfl rfl) rfl <|
  rwp_det rfl rfl (det_or rfl rfl rfl rfl (fun h => (lzf h))) <|
  rwp_nil <|
  awp_cond rfl (fun c1 => ?_) (fun c1 => ?_)
 ·have c1 : (decide (s.gX x.B < x.Val.N) || decide (x.C ≤ s.gX x.B)) = true := c1
  refine sReg rfl <|
   rMv rfl <|
   rwp_nil <|
   awp_ret <|
   fin1 (rs_c rfl) ?_
  rw [memv1 c1]
  exact ⟨rfl, [_], rfl⟩
 ·have c1 : (decide (s.gX x.B < x.Val.N) || decide (x.C ≤ s.gX x.B)) = false := c1
  refine awp_skip <|
   awp_seq <|
   sReg rfl <|
   rwp_det rfl rfl (det_field_lit rfl fd67_0 rfl) <|
   rwp_det rfl rfl (det_load_one rfl one3 rfl (ptr_row 0 rfl) rfl) <|
   rwp_det rfl rfl (det_eql rfl rfl rfl) <|
   rwp_nil <|
   awp_cond rfl (fun c2 => ?_) (fun c2 => ?_)
  ·try simp only [sx] at c2
   refine awp_draw 13 mixed (by kernel_rfl) rfl rfl <|
    td_det rfl rfl (det_move rfl rfl) <|
    td_det rfl rfl (det_field_lit rfl fd67_1 rfl) <|
    td_det rfl rfl (det_load_one rfl one3 rfl (ptr_row 0 rfl) rfl) <|
    td_det rfl rfl (det_move rfl rfl) <|
    td_det rfl rfl (det_nilcheck_ptr rfl rfl) <|
    td_det rfl rfl (det_field_lit rfl fd80_3 rfl) <|
    td_det rfl rfl (det_load_one rfl one36 rfl (ptr_row 1 rfl) rfl) <|
    td_det rfl rfl (det_move rfl rfl) <|
    td_det rfl rfl (det_index_vec 2 rfl el36 rfl rfl rfl (by have h_ := mem_rng c1; omega) (by have h_ := mem_rng c1; rw [List.length_map]; omega)) <|
    td_det rfl rfl (det_load_agg rfl agg63 rfl (ptr_vec 2 rfl (getm (gM_at (by have h_ := mem_rng c1; omega)))) rfl) <|
    td_det rfl rfl (det_nilcheck_ptr rfl rfl) <|
    td_det rfl rfl (det_field_lit rfl fd80_5 rfl) <|
    td_det rfl rfl (det_arr_lit rfl ar78 rfl rfl (by omega) (by omega)) <|
    td_nil <|
    rwp_det0 rfl rfl (det_store rfl sz63 rfl rfl rfl (st_rowE 1 rfl (by rw [mc_len hs]; show 0 + 260 + x.A.toNat * 2 + 2 ≤ 774; omega) (mc_sR hs _ (by omega) (by omega)))) <|
    rwp_nil <|
    sReg rfl <|
    rMv rfl <|
    rwp_nil <|
    awp_ret <|
    fin1 (rs_c rfl) ?_
   rw [memv2 c1 c2]
   exact ⟨rfl, [_], rfl⟩
  ·try simp only [sx] at c2
   refine awp_draw 13 mixed (by kernel_rfl) rfl rfl <|
    td_det rfl rfl (det_move rfl rfl) <|
    td_det rfl rfl (det_nilcheck_ptr rfl rfl) <|
    td_det rfl rfl (det_field_lit rfl fd80_3 rfl) <|
    td_det rfl rfl (det_load_one rfl one36 rfl (ptr_row 1 rfl) rfl) <|
    td_det rfl rfl (det_move rfl rfl) <|
    td_det rfl rfl (det_move rfl rfl) <|
    td_det rfl rfl (det_field_lit rfl fd67_1 rfl) <|
    td_det rfl rfl (det_load_one rfl one3 rfl (ptr_row 0 rfl) rfl) <|
    td_det rfl rfl (det_nilcheck_ptr rfl rfl) <|
    td_det rfl rfl (det_field_lit rfl fd80_5 rfl) <|
    td_det rfl rfl (det_arr_lit rfl ar78 rfl rfl (by omega) (by omega)) <|
    td_det rfl rfl (det_load_aggE rfl agg63 rfl (ptr_row 1 rfl) (mc_R hs (by omega) (by omega)) rfl) <|
    td_det rfl rfl (det_index_vec 2 rfl el36 rfl rfl rfl (by have h_ := mem_rng c1; omega) (by have h_ := mem_rng c1; rw [List.length_map]; omega)) <|
    td_nil <|
    rwp_det0 rfl rfl (det_store rfl sz63 rfl rfl rfl (st_vecE 2 rfl (getm (gM_at (by have h_ := mem_rng c1; omega))) rfl set_row)) <|
    rwp_nil <|
    sReg rfl <|
    rMv rfl <|
    rwp_nil <|
    awp_ret <|
    fin1 (rs_c rfl) ?_
   rw [memv3 c1 c2]
   exact ⟨rfl, [_], rfl⟩

theorem vm_memory (b : Nat) (sv : Value) (s : Mc) (w : Int) (hs : s.Ok w) (x : In) (hx : fmd x = true) (ho : memB x.Op = true) (hC : x.C ≤ w) : Con cfg 69 [vPt b, vIn x] (mcE b sv s) fun r μ' => r = vI (memV s x).2 ∧ μ' = mcE b sv (memV s x).1 := Con.drop (vm_memory0 b sv s w hs x hx ho hC)
theorem vm_element0 (b : Nat) (sv : Value) (s : Mc) (w : Int) (hs : s.Ok w) (x : In) (hx : fmd x = true) (ho : cptB x.Op = true) (hT : x.Op = 13 → x.Val.N < s.tys.length) :
    Con cfg 70 [vPt b, vIn x] (mcE b sv s) fun r μ' => r = vI (cptM s x).2 ∧ ∃ ν, μ' = ν ++ mcE b sv (cptM s x).1 := by
 refine con_intro Tryz.func70 rfl Tryz.ntmps70 Tryz.results70 rfl ?_
 intro z hz
 obtain ⟨⟨a1, a2⟩, fB, fC, fD, fo⟩ := cpt_facts hx ho
 refine sReg rfl <|
  rwp_op rfl rfl (ope_box rfl rfl) ?_
 rintro _ _ ⟨b1, rfl, rfl⟩
 refine rMv rfl <|
  rwp_nil <|
  sReg rfl <|
  rwp_det rfl rfl (det_field_lit rfl fd67_4 rfl) <|
  rwp_det rfl rfl (det_load_agg rfl agg63 rfl (ptr_row 0 rfl) rfl) <|
  rwp_op rfl rfl (ope_alloc rfl zr63) ?_
 rintro _ _ ⟨b2, rfl, rfl⟩
 refine rwp_det0 rfl rfl (det_store rfl sz63 rfl rfl rfl (st_row 0 rfl rfl)) <|
  rMv rfl <|
  rwp_nil <|
  awp_seq <|
  sReg rfl <|
  rwp_det rfl rfl (det_field_lit rfl fd67_0 rfl) <|
  rwp_det rfl rfl (det_load_one rfl one3 rfl (ptr_row 1 rfl) rfl) <|
  rwp_nil <|
  awp_block <|
  sReg rfl <|
  rwp_det rfl rfl (det_eql rfl rfl rfl) <|
  rMv rfl <|
  rwp_nil <|
  awp_cond rfl (fun c1 => ?_) (fun c1 => ?_)
 ·try simp only [sx] at c1
  have hB := fB (by omega)
  have hC := fC c1
  refine awp_draw_c 24 0 [⟨0, .q []⟩, ⟨1, .q []⟩, ⟨2, .q [1]⟩, ⟨3, .q []⟩, ⟨4, .q [1]⟩, ⟨5, .q []⟩, ⟨6, .q []⟩, ⟨7, .q [1]⟩, ⟨8, .q []⟩, ⟨9, .q []⟩, ⟨10, .q []⟩, ⟨11, .q [2]⟩, ⟨12, .q []⟩, ⟨13, .q []⟩, ⟨14, .q [1]⟩, ⟨15, .q []⟩, ⟨16, .q []⟩, ⟨17, .q []⟩, ⟨18, .q [2]⟩, ⟨19, .q []⟩, ⟨20, .q []⟩, ⟨21, .q []⟩, ⟨22, .q []⟩, ⟨23, .e 0 []⟩] mixed (by kernel_rfl) (by kernel_rfl) rfl rfl rfl <|
   fx_skip rfl <|
   fx_skip rfl <|
   fx_skip rfl <|
   fx_skip rfl <|
   fx_skip rfl <|
   fx_skip rfl <|
   fx_skip rfl <|
   fx_skip rfl <|
   fx_skip rfl <|
   fx_skip rfl <|
   fx_skip rfl <|
   fx_skip rfl <|
   fx_skip rfl <|
   fx_skip rfl <|
   fx_skip rfl <|
   fx_skip rfl <|
   fx_skip rfl <|
   fx_skip rfl <|
   fx_skip rfl <|
   fx_skip rfl <|
   fx_skip rfl <|
   fx_skip rfl <|
   fx_skip rfl <|
   fx_skip rfl <|
   fx_nil <|
   sq_det rfl (by decide) rfl rfl (det_field_lit rfl fd67_4 rfl) <|
   sq_det rfl (by decide) rfl rfl (det_field_lit rfl fd63_0 rfl) <|
   sq_det rfl (by decide) rfl rfl (det_load_one rfl one2 rfl (ptr_row 0 rfl) rfl) <|
   sq_det rfl (by decide) rfl rfl (det_field_lit rfl fd67_5 rfl) <|
   sq_det rfl (by decide) rfl rfl (det_load_agg rfl agg65 rfl (ptr_row 0 rfl) rfl) <|
   sq_det rfl (by decide) rfl rfl (det_move rfl rfl) <|
   sq_det rfl (by decide) rfl rfl (det_field_lit rfl fd67_2 rfl) <|
   sq_det rfl (by decide) rfl rfl (det_load_one rfl one3 rfl (ptr_row 0 rfl) rfl) <|
   sq_det rfl (by decide) rfl rfl (det_nilcheck_ptr rfl rfl) <|
   sq_det rfl (by decide) rfl rfl (det_field_lit rfl fd80_5 rfl) <|
   sq_det rfl (by decide) rfl rfl (det_arr_lit rfl ar78 rfl rfl (by omega) (by omega)) <|
   sq_det rfl (by decide) rfl rfl (det_load_aggE rfl agg63 rfl (ptr_row 0 rfl) (mc_R hs (by omega) (by omega)) rfl) <|
   sq_det rfl (by decide) rfl rfl (det_move rfl rfl) <|
   sq_det rfl (by decide) rfl rfl (det_field_lit rfl fd67_3 rfl) <|
   sq_det rfl (by decide) rfl rfl (det_load_one rfl one3 rfl (ptr_row 0 rfl) rfl) <|
   sq_det rfl (by decide) rfl rfl (det_nilcheck_ptr rfl rfl) <|
   sq_det rfl (by decide) rfl rfl (det_field_lit rfl fd80_5 rfl) <|
   sq_det rfl (by decide) rfl rfl (det_arr_lit rfl ar78 rfl rfl (by omega) (by omega)) <|
   sq_det rfl (by decide) rfl rfl (det_load_aggE rfl agg63 rfl (ptr_row 0 rfl) (mc_R hs (by omega) (by omega)) rfl) <|
   sq_det rfl (by decide) rfl rfl (det_call rfl ok119 (value_Apply x.Val.N x.Ty (s.gR x.B) (s.gR x.C)) ⟨VLe.refl _, rfl, VLe.refl _, rfl, VLe.refl _, rfl, VLe.refl _, rfl, trivial⟩) <|
   sq_det rfl (by decide) rfl rfl (det_move_tup rfl rfl) <|
   sq_det rfl (by decide) rfl rfl (det_ex_agg rfl rfl rfl) <|
   sq_det rfl (by decide) rfl rfl (det_ex_c rfl rfl rfl) <|
   sq_op0 rfl rfl (by decide) rfl rfl (det_store rfl sz63 rfl rfl rfl (st_row 0 rfl rfl)) ?_
  rintro _ _ ⟨rfl, rfl⟩
  refine ⟨_, rfl, ?_⟩
  refine sq_nil rfl <|
   rMv rfl <|
   rwp_nil <|
   awp_seq <|
   sReg rfl <|
   rMv rfl <|
   rwp_det rfl rfl (det_eql rfl rfl rfl) <|
   rwp_nil <|
   awp_cond rfl (fun c5 => ?_) (fun c5 => ?_)
  ·try simp only [sx] at c5
   have hv := cptv2 (s := s) c1
   rw [← hv] at c5
   refine awp_draw 7 mixed (by kernel_rfl) rfl rfl <|
    td_det rfl rfl (det_move rfl rfl) <|
    td_det rfl rfl (det_field_lit rfl fd67_1 rfl) <|
    td_det rfl rfl (det_load_one rfl one3 rfl (ptr_row 1 rfl) rfl) <|
    td_det rfl rfl (det_load_agg rfl agg63 rfl (ptr_row 0 rfl) rfl) <|
    td_det rfl rfl (det_nilcheck_ptr rfl rfl) <|
    td_det rfl rfl (det_field_lit rfl fd80_5 rfl) <|
    td_det rfl rfl (det_arr_lit rfl ar78 rfl rfl (by omega) (by omega)) <|
    td_nil <|
    rwp_det0 rfl rfl (det_store rfl sz63 rfl rfl rfl (st_rowE 2 rfl (by rw [mc_len hs]; show 0 + 260 + x.A.toNat * 2 + 2 ≤ 774; omega) (mc_sR hs ((aplV x.Val.N x.Ty (s.gR x.B) (s.gR x.C)).1) (by omega) (by omega)))) <|
    rwp_nil <|
    sReg rfl <|
    rMv rfl <|
    rMv rfl <|
    rwp_nil <|
    awp_ret <|
    fin1 (rs_c rfl) ?_
   rw [cptm1 (by exact c5), hv]
   exact ⟨by rw [hv] at c5; rw [c5], [_, _], rfl⟩
  ·try simp only [sx] at c5
   have hv := cptv2 (s := s) c1
   rw [← hv] at c5
   refine awp_skip <|
    sReg rfl <|
    rMv rfl <|
    rMv rfl <|
    rwp_nil <|
    awp_ret <|
    fin1 (rs_c rfl) ?_
   rw [cptm2 c5, hv]
   exact ⟨rfl, [_, _], rfl⟩
 ·try simp only [sx] at c1
  refine sReg rfl <|
   rwp_det rfl rfl (det_eql rfl rfl rfl) <|
   rMv rfl <|
   rwp_nil <|
   awp_cond rfl (fun c2 => ?_) (fun c2 => ?_)
  ·try simp only [sx] at c2
   have hB := fB (by omega)
   have hD := fD c2
   have hT := hT c2
   refine awp_draw_c 23 0 [⟨0, .q []⟩, ⟨1, .q []⟩, ⟨2, .q []⟩, ⟨3, .q [2]⟩, ⟨4, .q []⟩, ⟨5, .q []⟩, ⟨6, .q [1]⟩, ⟨7, .q []⟩, ⟨8, .q []⟩, ⟨9, .q []⟩, ⟨10, .q [1]⟩, ⟨11, .q []⟩, ⟨12, .q []⟩, ⟨13, .q [1]⟩, ⟨14, .q []⟩, ⟨15, .q []⟩, ⟨16, .q []⟩, ⟨17, .q [2]⟩, ⟨18, .q []⟩, ⟨19, .q []⟩, ⟨20, .q []⟩, ⟨21, .q []⟩, ⟨22, .e 0 []⟩] mixed (by kernel_rfl) (by kernel_rfl) rfl rfl rfl <|
    fx_skip rfl <|
    fx_skip rfl <|
    fx_skip rfl <|
    fx_skip rfl <|
    fx_skip rfl <|
    fx_skip rfl <|
    fx_skip rfl <|
    fx_skip rfl <|
    fx_skip rfl <|
    fx_skip rfl <|
    fx_skip rfl <|
    fx_skip rfl <|
    fx_skip rfl <|
    fx_skip rfl <|
    fx_skip rfl <|
    fx_skip rfl <|
    fx_skip rfl <|
    fx_skip rfl <|
    fx_skip rfl <|
    fx_skip rfl <|
    fx_skip rfl <|
    fx_skip rfl <|
    fx_skip rfl <|
    fx_nil <|
    sq_det rfl (by decide) rfl rfl (det_move rfl rfl) <|
    sq_det rfl (by decide) rfl rfl (det_nilcheck_ptr rfl rfl) <|
    sq_det rfl (by decide) rfl rfl (det_field_lit rfl fd80_2 rfl) <|
    sq_det rfl (by decide) rfl rfl (det_load_one rfl one23 rfl (ptr_row 0 rfl) rfl) <|
    sq_det rfl (by decide) rfl rfl (det_field_lit rfl fd67_4 rfl) <|
    sq_det rfl (by decide) rfl rfl (det_field_lit rfl fd63_0 rfl) <|
    sq_det rfl (by decide) rfl rfl (det_load_one rfl one2 rfl (ptr_row 0 rfl) rfl) <|
    sq_det rfl (by decide) rfl rfl (det_index_sl rfl el23 rfl rfl (by omega) (getm (ty_at (by omega)))) <|
    sq_det rfl (by decide) rfl rfl (det_load_agg rfl agg65 rfl ptr_imm rfl) <|
    sq_det rfl (by decide) rfl rfl (det_field_lit rfl fd67_5 rfl) <|
    sq_det rfl (by decide) rfl rfl (det_load_agg rfl agg65 rfl (ptr_row 0 rfl) rfl) <|
    sq_det rfl (by decide) rfl rfl (det_move rfl rfl) <|
    sq_det rfl (by decide) rfl rfl (det_field_lit rfl fd67_2 rfl) <|
    sq_det rfl (by decide) rfl rfl (det_load_one rfl one3 rfl (ptr_row 0 rfl) rfl) <|
    sq_det rfl (by decide) rfl rfl (det_nilcheck_ptr rfl rfl) <|
    sq_det rfl (by decide) rfl rfl (det_field_lit rfl fd80_5 rfl) <|
    sq_det rfl (by decide) rfl rfl (det_arr_lit rfl ar78 rfl rfl (by omega) (by omega)) <|
    sq_det rfl (by decide) rfl rfl (det_load_aggE rfl agg63 rfl (ptr_row 0 rfl) (mc_R hs (by omega) (by omega)) rfl) <|
    sq_det rfl (by decide) rfl rfl (det_call rfl ok120 (value_Cast (s.tys.getD x.Val.N.toNat ⟨0, 0, 0, 0, 0⟩) x.Ty (s.gR x.B)) ⟨VLe.refl _, rfl, VLe.refl _, rfl, VLe.refl _, rfl, trivial⟩) <|
    sq_det rfl (by decide) rfl rfl (det_move_tup rfl rfl) <|
    sq_det rfl (by decide) rfl rfl (det_ex_agg rfl rfl rfl) <|
    sq_det rfl (by decide) rfl rfl (det_ex_c rfl rfl rfl) <|
    sq_op0 rfl rfl (by decide) rfl rfl (det_store rfl sz63 rfl rfl rfl (st_row 0 rfl rfl)) ?_
   rintro _ _ ⟨rfl, rfl⟩
   refine ⟨_, rfl, ?_⟩
   refine sq_nil rfl <|
    rMv rfl <|
    rwp_nil <|
    awp_seq <|
    sReg rfl <|
    rMv rfl <|
    rwp_det rfl rfl (det_eql rfl rfl rfl) <|
    rwp_nil <|
    awp_cond rfl (fun c5 => ?_) (fun c5 => ?_)
   ·try simp only [sx] at c5
    have hv := cptv3 (s := s) c2
    rw [← hv] at c5
    refine awp_draw 7 mixed (by kernel_rfl) rfl rfl <|
     td_det rfl rfl (det_move rfl rfl) <|
     td_det rfl rfl (det_field_lit rfl fd67_1 rfl) <|
     td_det rfl rfl (det_load_one rfl one3 rfl (ptr_row 1 rfl) rfl) <|
     td_det rfl rfl (det_load_agg rfl agg63 rfl (ptr_row 0 rfl) rfl) <|
     td_det rfl rfl (det_nilcheck_ptr rfl rfl) <|
     td_det rfl rfl (det_field_lit rfl fd80_5 rfl) <|
     td_det rfl rfl (det_arr_lit rfl ar78 rfl rfl (by omega) (by omega)) <|
     td_nil <|
     rwp_det0 rfl rfl (det_store rfl sz63 rfl rfl rfl (st_rowE 2 rfl (by rw [mc_len hs]; show 0 + 260 + x.A.toNat * 2 + 2 ≤ 774; omega) (mc_sR hs ((cstV (s.tys.getD x.Val.N.toNat ⟨0, 0, 0, 0, 0⟩) x.Ty (s.gR x.B)).1) (by omega) (by omega)))) <|
     rwp_nil <|
     sReg rfl <|
     rMv rfl <|
     rMv rfl <|
     rwp_nil <|
     awp_ret <|
     fin1 (rs_c rfl) ?_
    rw [cptm1 (by exact c5), hv]
    exact ⟨by rw [hv] at c5; rw [c5], [_, _], rfl⟩
   ·try simp only [sx] at c5
    have hv := cptv3 (s := s) c2
    rw [← hv] at c5
    refine awp_skip <|
     sReg rfl <|
     rMv rfl <|
     rMv rfl <|
     rwp_nil <|
     awp_ret <|
     fin1 (rs_c rfl) ?_
    rw [cptm2 c5, hv]
    exact ⟨rfl, [_, _], rfl⟩
  ·try simp only [sx] at c2
   refine sReg rfl <|
    rwp_det rfl rfl (det_eql rfl rfl rfl) <|
    rMv rfl <|
    rwp_nil <|
    awp_cond rfl (fun c3 => ?_) (fun c3 => ?_)
   ·try simp only [sx] at c3
    have hB := fB (by omega)
    refine awp_seq <|
     awp_draw 8 mixed (by kernel_rfl) rfl rfl <|
     td_det rfl rfl (det_move rfl rfl) <|
     td_det rfl rfl (det_field_lit rfl fd67_2 rfl) <|
     td_det rfl rfl (det_load_one rfl one3 rfl (ptr_row 1 rfl) rfl) <|
     td_det rfl rfl (det_nilcheck_ptr rfl rfl) <|
     td_det rfl rfl (det_field_lit rfl fd80_4 rfl) <|
     td_det rfl rfl (det_arr_lit rfl ar77 rfl rfl (by omega) (by omega)) <|
     td_det rfl rfl (det_load_one rfl one2 rfl (ptr_row 2 rfl) (mc_X hs (by omega) (by omega))) <|
     td_det rfl rfl (det_assign rfl rfl) <|
     td_nil <|
     rwp_nil <|
     awp_seq <|
     sReg rfl <|
     rMv rfl <|
     rwp_det rfl rfl (det_gtr rfl rfl rfl) <|
     rMv rfl <|
     rLz [] rfl gv1 trivial (fun g9_2 => det_move rfl rfl) rfl <|
     rLz [(73, _)] rfl gv1 ⟨rfl, rfl, trivial⟩ (fun g9_2 => det_lss rfl rfl rfl) rfl <|
     rwp_det rfl rfl (det_or rfl rfl rfl rfl (fun h => (lzf h))) <|
     rwp_nil <|
     awp_cond rfl (fun c4 => ?_) (fun c4 => ?_)
    ·have c4 : (decide (2147483647 < s.gX x.B) || decide (s.gX x.B < -2147483647)) = true := c4
     refine sReg rfl <|
      rMv rfl <|
      rwp_nil <|
      awp_ret <|
      fin1 (rs_c rfl) ?_
     rw [show cptM s x = (s, 3) by rw [cptm2 (by rw [cptv4 c3 c4]; decide), cptv4 c3 c4]]
     exact ⟨rfl, [_, _], rfl⟩
    ·have c4 : (decide (2147483647 < s.gX x.B) || decide (s.gX x.B < -2147483647)) = false := c4
     refine awp_skip <|
      awp_region rfl <|
      rMv rfl <|
      rwp_det rfl rfl (det_build rfl zr63 pl63 rfl) <|
      rwp_det0 rfl rfl (det_store rfl sz63 rfl rfl rfl (st_row 0 rfl rfl)) <|
      rwp_nil <|
      awp_seq <|
      sReg rfl <|
      rMv rfl <|
      rwp_det rfl rfl (det_eql rfl rfl rfl) <|
      rwp_nil <|
      awp_cond rfl (fun c5 => ?_) (fun c5 => ?_)
     ·try simp only [sx] at c5
      have hv := cptv5 c3 c4
      refine awp_draw 7 mixed (by kernel_rfl) rfl rfl <|
       td_det rfl rfl (det_move rfl rfl) <|
       td_det rfl rfl (det_field_lit rfl fd67_1 rfl) <|
       td_det rfl rfl (det_load_one rfl one3 rfl (ptr_row 1 rfl) rfl) <|
       td_det rfl rfl (det_load_agg rfl agg63 rfl (ptr_row 0 rfl) rfl) <|
       td_det rfl rfl (det_nilcheck_ptr rfl rfl) <|
       td_det rfl rfl (det_field_lit rfl fd80_5 rfl) <|
       td_det rfl rfl (det_arr_lit rfl ar78 rfl rfl (by omega) (by omega)) <|
       td_nil <|
       rwp_det0 rfl rfl (det_store rfl sz63 rfl rfl rfl (st_rowE 2 rfl (by rw [mc_len hs]; show 0 + 260 + x.A.toNat * 2 + 2 ≤ 774; omega) (mc_sR hs (⟨s.gX x.B, 1⟩) (by omega) (by omega)))) <|
       rwp_nil <|
       sReg rfl <|
       rMv rfl <|
       rMv rfl <|
       rwp_nil <|
       awp_ret <|
       fin1 (rs_c rfl) ?_
      rw [cptm1 (by rw [hv]), hv]
      exact ⟨rfl, [_, _], rfl⟩
     ·try simp only [sx] at c5
      have hv := cptv5 c3 c4
      refine awp_skip <|
       sReg rfl <|
       rMv rfl <|
       rMv rfl <|
       rwp_nil <|
       awp_ret <|
       fin1 (rs_c rfl) ?_
      exact absurd trivial c5
   ·try simp only [sx] at c3
    refine awp_skip <|
     awp_seq <|
     sReg rfl <|
     rMv rfl <|
     rwp_det rfl rfl (det_eql rfl rfl rfl) <|
     rwp_nil <|
     awp_cond rfl (fun c5 => ?_) (fun c5 => ?_)
    ·try simp only [sx] at c5
     have hv := cptv1 (s := s) (show x.Op = 9 by omega)
     refine awp_draw 7 mixed (by kernel_rfl) rfl rfl <|
      td_det rfl rfl (det_move rfl rfl) <|
      td_det rfl rfl (det_field_lit rfl fd67_1 rfl) <|
      td_det rfl rfl (det_load_one rfl one3 rfl (ptr_row 1 rfl) rfl) <|
      td_det rfl rfl (det_load_agg rfl agg63 rfl (ptr_row 0 rfl) rfl) <|
      td_det rfl rfl (det_nilcheck_ptr rfl rfl) <|
      td_det rfl rfl (det_field_lit rfl fd80_5 rfl) <|
      td_det rfl rfl (det_arr_lit rfl ar78 rfl rfl (by omega) (by omega)) <|
      td_nil <|
      rwp_det0 rfl rfl (det_store rfl sz63 rfl rfl rfl (st_rowE 2 rfl (by rw [mc_len hs]; show 0 + 260 + x.A.toNat * 2 + 2 ≤ 774; omega) (mc_sR hs (x.Val) (by omega) (by omega)))) <|
      rwp_nil <|
      sReg rfl <|
      rMv rfl <|
      rMv rfl <|
      rwp_nil <|
      awp_ret <|
      fin1 (rs_c rfl) ?_
     rw [cptm1 (by rw [hv]), hv]
     exact ⟨rfl, [_, _], rfl⟩
    ·try simp only [sx] at c5
     have hv := cptv1 (s := s) (show x.Op = 9 by omega)
     refine awp_skip <|
      sReg rfl <|
      rMv rfl <|
      rMv rfl <|
      rwp_nil <|
      awp_ret <|
      fin1 (rs_c rfl) ?_
     exact absurd trivial c5

theorem vm_element (b : Nat) (sv : Value) (s : Mc) (w : Int) (hs : s.Ok w) (x : In) (hx : fmd x = true) (ho : cptB x.Op = true) (hT : x.Op = 13 → x.Val.N < s.tys.length) : Con cfg 70 [vPt b, vIn x] (mcE b sv s) fun r μ' => r = vI (cptM s x).2 ∧ μ' = mcE b sv (cptM s x).1 := Con.drop (vm_element0 b sv s w hs x hx ho hT)
theorem vm_jumps0 (b : Nat) (sv : Value) (s : Mc) (w : Int) (hs : s.Ok w) (x : In) (hx : fmd x = true) (ho : jmpB x.Op = true) :
    Con cfg 68 [vPt b, vIn x] (mcE b sv s) fun r μ' => r = .tup [vB (jmpV s x).1, vI (jmpV s x).2] ∧ ∃ ν, μ' = ν ++ mcE b sv s := by
 refine con_intro Tryz.func68 rfl Tryz.ntmps68 Tryz.results68 rfl ?_
 intro z hz
 obtain ⟨⟨a1, a2⟩, fB, fC, fo⟩ := jmp_facts hx ho
 refine sReg rfl <|
  rwp_op rfl rfl (ope_box rfl rfl) ?_
 rintro _ _ ⟨b1, rfl, rfl⟩
 refine rMv rfl <|
  rMv rfl <|
  rwp_nil <|
  awp_seq <|
  sReg rfl <|
  rwp_det rfl rfl (det_field_lit rfl fd67_0 rfl) <|
  rwp_det rfl rfl (det_load_one rfl one3 rfl (ptr_row 0 rfl) rfl) <|
  rwp_nil <|
  awp_block <|
  sReg rfl <|
  rwp_det rfl rfl (det_eql rfl rfl rfl) <|
  rMv rfl <|
  rwp_nil <|
  awp_cond rfl (fun c1 => ?_) (fun c1 => ?_)
 ·try simp only [sx] at c1
  refine sReg rfl <|
   rMv rfl <|
   rMv rfl <|
   rwp_nil <|
   awp_ret <|
   fin2 (rs_c rfl) (rs_c rfl) ?_
  rw [jmpv1 c1]
  exact ⟨rfl, [_], rfl⟩
 ·try simp only [sx] at c1
  refine sReg rfl <|
   rwp_det rfl rfl (det_eql rfl rfl rfl) <|
   rMv rfl <|
   rwp_nil <|
   awp_cond rfl (fun c2 => ?_) (fun c2 => ?_)
  ·try simp only [sx] at c2
   obtain ⟨⟨b1, b2⟩, d1, d2⟩ := fB (by omega)
   refine awp_seq <|
    awp_draw 17 mixed (by kernel_rfl) rfl rfl <|
    td_det rfl rfl (det_move rfl rfl) <|
    td_det rfl rfl (det_field_lit rfl fd67_2 rfl) <|
    td_det rfl rfl (det_load_one rfl one3 rfl (ptr_row 0 rfl) rfl) <|
    td_det rfl rfl (det_nilcheck_ptr rfl rfl) <|
    td_det rfl rfl (det_field_lit rfl fd80_4 rfl) <|
    td_det rfl rfl (det_arr_lit rfl ar77 rfl rfl (by omega) (by omega)) <|
    td_det rfl rfl (det_load_one rfl one2 rfl (ptr_row 1 rfl) (mc_X hs (by omega) (by omega))) <|
    td_det rfl rfl (det_move rfl rfl) <|
    td_det rfl rfl (det_field_lit rfl fd67_3 rfl) <|
    td_det rfl rfl (det_load_one rfl one3 rfl (ptr_row 0 rfl) rfl) <|
    td_det rfl rfl (det_nilcheck_ptr rfl rfl) <|
    td_det rfl rfl (det_field_lit rfl fd80_4 rfl) <|
    td_det rfl rfl (det_arr_lit rfl ar77 rfl rfl (by omega) (by omega)) <|
    td_det rfl rfl (det_load_one rfl one2 rfl (ptr_row 1 rfl) (mc_X hs (by omega) (by omega))) <|
    td_det rfl rfl (det_lss rfl rfl rfl) <|
    td_det rfl rfl (det_assign rfl rfl) <|
    td_det rfl rfl (det_assign rfl rfl) <|
    td_nil <|
    rwp_nil <|
    awp_ret <|
    fin2 (rs_c rfl) (rs_c rfl) ?_
   rw [jmpv2 c2]
   exact ⟨rfl, [_], rfl⟩
  ·try simp only [sx] at c2
   obtain ⟨⟨b1, b2⟩, d1, d2⟩ := fB (by omega)
   have h14 : x.Op = 14 := by omega
   have hN := fC h14
   refine awp_skip <|
    awp_seq <|
    awp_draw_c 17 2 [⟨0, .q []⟩, ⟨1, .q []⟩, ⟨2, .q [2]⟩, ⟨3, .q []⟩, ⟨4, .q []⟩, ⟨5, .q []⟩, ⟨6, .q [3]⟩, ⟨7, .q []⟩, ⟨8, .q []⟩, ⟨9, .q [2]⟩, ⟨10, .q []⟩, ⟨11, .q []⟩, ⟨12, .q []⟩, ⟨13, .q [3]⟩, ⟨14, .f 1⟩, ⟨15, .f 0⟩, ⟨16, .g 1 []⟩] mixed (by kernel_rfl) (by kernel_rfl) rfl rfl rfl <|
    fx_skip rfl <|
    fx_skip rfl <|
    fx_skip rfl <|
    fx_skip rfl <|
    fx_skip rfl <|
    fx_skip rfl <|
    fx_skip rfl <|
    fx_skip rfl <|
    fx_skip rfl <|
    fx_skip rfl <|
    fx_skip rfl <|
    fx_skip rfl <|
    fx_skip rfl <|
    fx_skip rfl <|
    fx_fresh rfl rfl (fresh_alloc' (ope_alloc rfl zr63)) ⟨_, _, 0, rfl, rfl⟩ <|
    fx_fresh rfl rfl (fresh_alloc' (ope_alloc rfl zr63)) ⟨_, _, 0, rfl, rfl⟩ <|
    fx_skip rfl <|
    fx_nil <|
    sq_det rfl (by decide) rfl rfl (det_move rfl rfl) <|
    sq_det rfl (by decide) rfl rfl (det_field_lit rfl fd67_2 rfl) <|
    sq_det rfl (by decide) rfl rfl (det_load_one rfl one3 rfl (ptr_row 0 rfl) rfl) <|
    sq_det rfl (by decide) rfl rfl (det_nilcheck_ptr rfl rfl) <|
    sq_det rfl (by decide) rfl rfl (det_field_lit rfl fd80_5 rfl) <|
    sq_det rfl (by decide) rfl rfl (det_arr_lit rfl ar78 rfl rfl (by omega) (by omega)) <|
    sq_det rfl (by decide) rfl rfl (det_load_aggE rfl agg63 rfl (ptr_row 0 rfl) (mc_R hs (by omega) (by omega)) rfl) <|
    sq_det rfl (by decide) rfl rfl (det_move rfl rfl) <|
    sq_det rfl (by decide) rfl rfl (det_field_lit rfl fd67_3 rfl) <|
    sq_det rfl (by decide) rfl rfl (det_load_one rfl one3 rfl (ptr_row 0 rfl) rfl) <|
    sq_det rfl (by decide) rfl rfl (det_nilcheck_ptr rfl rfl) <|
    sq_det rfl (by decide) rfl rfl (det_field_lit rfl fd80_5 rfl) <|
    sq_det rfl (by decide) rfl rfl (det_arr_lit rfl ar78 rfl rfl (by omega) (by omega)) <|
    sq_det rfl (by decide) rfl rfl (det_load_aggE rfl agg63 rfl (ptr_row 0 rfl) (mc_R hs (by omega) (by omega)) rfl) <|
    sq_fresh rfl rfl ?_
   rintro _ _ ⟨b2, rfl, rfl⟩
   refine sq_fresh rfl rfl ?_
   rintro _ _ ⟨b3, rfl, rfl⟩
   refine sq_v0 rfl rfl (by decide) rfl rfl rfl (det_store rfl sz63 rfl rfl rfl (st_row 0 rfl rfl)) rfl <|
    sq_nil rfl <|
    rwp_det0 rfl rfl (det_store rfl sz63 rfl rfl rfl (st_row 0 rfl rfl)) <|
    rwp_nil <|
    awp_seq <|
    sReg rfl <|
    rwp_det rfl rfl (det_field_lit rfl fd67_5 rfl) <|
    rwp_det rfl rfl (det_load_agg rfl agg65 rfl (ptr_row 2 rfl) rfl) <|
    rwp_det rfl rfl (det_load_agg rfl agg63 rfl (ptr_row 1 rfl) rfl) <|
    rwp_det rfl rfl (det_call rfl ok117 (value_Valid x.Ty (s.gR x.B)) ⟨VLe.refl _, rfl, VLe.refl _, rfl, trivial⟩) <|
    rwp_det rfl rfl (det_not rfl rfl) <|
    rMv rfl <|
    rLz [] rfl gv1 trivial (fun g7_5 => det_field_lit rfl fd67_5 rfl) rfl <|
    rLz [(50, _)] rfl gv1 ⟨rfl, rfl, trivial⟩ (fun g7_5 => det_load_agg rfl agg65 rfl (ptr_row 2 rfl) rfl) rfl <|
    rLz [] rfl gv1 trivial (fun g7_5 => det_load_agg rfl agg63 rfl (ptr_row 0 rfl) rfl) rfl <|
    rLz [(51, _), (52, _)] rfl gv1 ⟨rfl, rfl, rfl, rfl, trivial⟩ (fun g7_5 => det_call rfl ok117 (value_Valid x.Ty (s.gR x.C)) ⟨VLe.refl _, rfl, VLe.refl _, rfl, trivial⟩) rfl <|
    rLz [(53, _)] rfl gv1 ⟨rfl, rfl, trivial⟩ (fun g7_5 => det_not rfl rfl) rfl <|
    rwp_det rfl rfl (det_or rfl rfl rfl rfl (fun h => (lzf h))) <|
    rwp_nil <|
    awp_cond rfl (fun c3 => ?_) (fun c3 => ?_)
   ·have c3 : (!(tyOk x.Ty && valOk x.Ty (s.gR x.B)) || !(tyOk x.Ty && valOk x.Ty (s.gR x.C))) = true := c3
    refine sReg rfl <|
     rMv rfl <|
     rMv rfl <|
     rwp_nil <|
     awp_ret <|
     fin2 (rs_c rfl) (rs_c rfl) ?_
    rw [jmpv3 h14 c3]
    exact ⟨rfl, [_, _, _], rfl⟩
   ·have c3 : (!(tyOk x.Ty && valOk x.Ty (s.gR x.B)) || !(tyOk x.Ty && valOk x.Ty (s.gR x.C))) = false := c3
    refine awp_skip <|
     sReg rfl <|
     rwp_det rfl rfl (det_field_lit rfl fd67_5 rfl) <|
     rwp_det rfl rfl (det_load_agg rfl agg65 rfl (ptr_row 2 rfl) rfl) <|
     rwp_det rfl rfl (det_load_agg rfl agg63 rfl (ptr_row 1 rfl) rfl) <|
     rwp_det rfl rfl (det_load_agg rfl agg63 rfl (ptr_row 0 rfl) rfl) <|
     rwp_det rfl rfl (det_call rfl ok118 (value_Compare x.Ty (s.gR x.B) (s.gR x.C)) ⟨VLe.refl _, rfl, VLe.refl _, rfl, VLe.refl _, rfl, trivial⟩) <|
     rMv rfl <|
     rwp_nil <|
     awp_seq <|
     sReg rfl <|
     rwp_det rfl rfl (det_field_lit rfl fd67_4 rfl) <|
     rwp_det rfl rfl (det_field_lit rfl fd63_0 rfl) <|
     rwp_det rfl rfl (det_load_one rfl one2 rfl (ptr_row 2 rfl) rfl) <|
     rwp_nil <|
     awp_block <|
     sReg rfl <|
     rwp_det rfl rfl (det_eql rfl rfl rfl) <|
     rMv rfl <|
     rwp_nil <|
     awp_cond rfl (fun c4 => ?_) (fun c4 => ?_)
    ·try simp only [sx] at c4
     refine sReg rfl <|
      rMv rfl <|
      rwp_det rfl rfl (det_geq rfl rfl rfl) <|
      rMv rfl <|
      rMv rfl <|
      rwp_nil <|
      awp_ret <|
      fin2 (rs_c rfl) (rs_c rfl) ?_
     rw [jmpv4 h14 c3]
     exact ⟨congrArg (fun q => V.tup [vB q, vI 0]) (jmp13 c4), [_, _, _], rfl⟩
    ·try simp only [sx] at c4
     refine sReg rfl <|
      rwp_det rfl rfl (det_eql rfl rfl rfl) <|
      rMv rfl <|
      rwp_nil <|
      awp_cond rfl (fun c5 => ?_) (fun c5 => ?_)
     ·try simp only [sx] at c5
      refine sReg rfl <|
       rMv rfl <|
       rwp_det rfl rfl (det_gtr rfl rfl rfl) <|
       rMv rfl <|
       rMv rfl <|
       rwp_nil <|
       awp_ret <|
       fin2 (rs_c rfl) (rs_c rfl) ?_
      rw [jmpv4 h14 c3]
      exact ⟨congrArg (fun q => V.tup [vB q, vI 0]) (jmp14 c5), [_, _, _], rfl⟩
     ·try simp only [sx] at c5
      refine awp_skip <|
       sReg rfl <|
       rMv rfl <|
       rwp_det rfl rfl (det_neq rfl rfl rfl) <|
       rMv rfl <|
       rMv rfl <|
       rwp_nil <|
       awp_ret <|
       fin2 (rs_c rfl) (rs_c rfl) ?_
      rw [jmpv4 h14 c3]
      exact ⟨congrArg (fun q => V.tup [vB q, vI 0]) (jmp15 (by omega)), [_, _, _], rfl⟩

theorem vm_jumps (b : Nat) (sv : Value) (s : Mc) (w : Int) (hs : s.Ok w) (x : In) (hx : fmd x = true) (ho : jmpB x.Op = true) : Con cfg 68 [vPt b, vIn x] (mcE b sv s) fun r μ' => r = .tup [vB (jmpV s x).1, vI (jmpV s x).2] ∧ μ' = mcE b sv s := Con.drop (vm_jumps0 b sv s w hs x hx ho)
theorem vm_Step0 (b : Nat) (sv : Value) (s : Mc) (w : Int) (hs : s.Ok w)  :
    Con cfg 31 [vPt b] (mcE b sv s) fun r μ' => r = .tup [vB (stepM s).2.1, vI (stepM s).2.2] ∧ ∃ ν, μ' = ν ++ mcE b sv (stepM s).1 := by
 refine con_intro Tryz.func31 rfl Tryz.ntmps31 Tryz.results31 rfl ?_
 intro z hz
 refine sReg rfl <|
  rMv rfl <|
  rMv rfl <|
  rwp_nil <|
  awp_seq <|
  awp_block <|
  sReg rfl <|
  rMv rfl <|
  rwp_det rfl rfl (det_call_same [0, 0] rfl ok57 (vm_ready b sv s w hs) ⟨VLe.refl _, rfl, trivial⟩ rfl) <|
  rwp_det rfl rfl (det_not rfl rfl) <|
  rMv rfl <|
  rwp_nil <|
  awp_cond rfl (fun c1 => ?_) (fun c1 => ?_)
 ·try simp only [sx] at c1
  exact absurd c1 (by simp)
 ·try simp only [sx] at c1
  refine sReg rfl <|
   rMv rfl <|
   rwp_det rfl rfl (det_nilcheck_ptr rfl rfl) <|
   rwp_det rfl rfl (det_field_lit rfl fd80_7 rfl) <|
   rwp_det rfl rfl (det_load_one rfl one4 rfl (ptr_row 0 rfl) (mc_hl hs)) <|
   rMv rfl <|
   rwp_nil <|
   awp_cond rfl (fun c2 => ?_) (fun c2 => ?_)
  ·try simp only [sx] at c2
   refine sReg rfl <|
    rMv rfl <|
    rMv rfl <|
    rwp_nil <|
    awp_ret <|
    fin2 (rs_c rfl) (rs_c rfl) ?_
   rw [stepM1 c2]
   exact ⟨rfl, [], rfl⟩
  ·try simp only [sx] at c2
   have hl0 : s.hl = false := by simpa using c2
   refine awp_seq <|
    awp_draw 11 mixed (by kernel_rfl) rfl rfl <|
    td_det rfl rfl (det_move rfl rfl) <|
    td_det rfl rfl (det_nilcheck_ptr rfl rfl) <|
    td_det rfl rfl (det_field_lit rfl fd80_6 rfl) <|
    td_det rfl rfl (det_load_one rfl one3 rfl (ptr_row 0 rfl) (mc_pc hs)) <|
    td_det rfl rfl (det_move rfl rfl) <|
    td_det rfl rfl (det_nilcheck_ptr rfl rfl) <|
    td_det rfl rfl (det_field_lit rfl fd80_1 rfl) <|
    td_det rfl rfl (det_load_one rfl one22 rfl (ptr_row 0 rfl) rfl) <|
    td_det rfl rfl (det_len_slm rfl el22 rfl) <|
    td_det rfl rfl (det_geq rfl rfl rfl) <|
    td_det rfl rfl (det_assign rfl rfl) <|
    td_nil <|
    rwp_nil <|
    awp_cond rfl (fun c3 => ?_) (fun c3 => ?_)
   ·try simp only [sx] at c3
    refine sReg rfl <|
     rMv rfl <|
     rMv rfl <|
     rwp_nil <|
     awp_ret <|
     fin2 (rs_c rfl) (rs_c rfl) ?_
    rw [stepM2 hl0 c3]
    exact ⟨rfl, [], rfl⟩
   ·try simp only [sx] at c3
    have h3 : ¬ (s.code.length : Int) ≤ s.pc := by omega
    obtain ⟨hget, hok⟩ := hs.insOk (by omega)
    obtain ⟨hf, hJ, hMm, hT⟩ := inOk_fmd hok
    have hpc := hs.hp
    have hcl := hs.hn
    refine awp_skip <|
     awp_seq <|
     awp_draw_c 11 1 [⟨0, .q []⟩, ⟨1, .q []⟩, ⟨2, .q []⟩, ⟨3, .q [1]⟩, ⟨4, .q []⟩, ⟨5, .q []⟩, ⟨6, .q []⟩, ⟨7, .q [1]⟩, ⟨8, .q []⟩, ⟨9, .q []⟩, ⟨10, .f 0⟩] mixed (by kernel_rfl) (by kernel_rfl) rfl rfl rfl <|
     fx_skip rfl <|
     fx_skip rfl <|
     fx_skip rfl <|
     fx_skip rfl <|
     fx_skip rfl <|
     fx_skip rfl <|
     fx_skip rfl <|
     fx_skip rfl <|
     fx_skip rfl <|
     fx_skip rfl <|
     fx_fresh rfl rfl (fresh_alloc' (ope_alloc rfl zr67)) ⟨_, _, 0, rfl, rfl⟩ <|
     fx_nil <|
     sq_det rfl (by decide) rfl rfl (det_move rfl rfl) <|
     sq_det rfl (by decide) rfl rfl (det_nilcheck_ptr rfl rfl) <|
     sq_det rfl (by decide) rfl rfl (det_field_lit rfl fd80_1 rfl) <|
     sq_det rfl (by decide) rfl rfl (det_load_one rfl one22 rfl (ptr_row 0 rfl) rfl) <|
     sq_det rfl (by decide) rfl rfl (det_move rfl rfl) <|
     sq_det rfl (by decide) rfl rfl (det_nilcheck_ptr rfl rfl) <|
     sq_det rfl (by decide) rfl rfl (det_field_lit rfl fd80_6 rfl) <|
     sq_det rfl (by decide) rfl rfl (det_load_one rfl one3 rfl (ptr_row 0 rfl) (mc_pc hs)) <|
     sq_det rfl (by decide) rfl rfl (det_index_sl rfl el22 rfl rfl (by have := hs.hp; omega) (getm hget)) <|
     sq_det rfl (by decide) rfl rfl (det_load_agg rfl agg67 rfl ptr_imm rfl) <|
     sq_fresh rfl rfl ?_
    rintro _ _ ⟨b1, rfl, rfl⟩
    refine sq_nil rfl <|
     rwp_det0 rfl rfl (det_store rfl sz67 rfl rfl rfl (st_row 0 rfl rfl)) <|
     rwp_nil <|
     sReg rfl <|
     rMv rfl <|
     rwp_det rfl rfl (det_nilcheck_ptr rfl rfl) <|
     rwp_det rfl rfl (det_field_lit rfl fd80_6 rfl) <|
     rwp_det rfl rfl (det_load_one rfl one3 rfl (ptr_row 1 rfl) (mc_pc hs)) <|
     rwp_det rfl rfl (det_add_nw rfl rfl rfl ⟨by omega, by omega⟩) <|
     rMv rfl <|
     rwp_nil <|
     sReg rfl <|
     rMv rfl <|
     rwp_nil <|
     awp_seq <|
     sReg rfl <|
     rwp_det rfl rfl (det_field_lit rfl fd67_0 rfl) <|
     rwp_det rfl rfl (det_load_one rfl one3 rfl (ptr_row 0 rfl) rfl) <|
     rwp_nil <|
     awp_block <|
     sReg rfl <|
     rwp_det rfl rfl (det_eql rfl rfl rfl) <|
     rMv rfl <|
     rwp_nil <|
     awp_cond rfl (fun c4 => ?_) (fun c4 => ?_)
    ·try simp only [sx] at c4
     refine sReg rfl <|
      rMv rfl <|
      rwp_det rfl rfl (det_nilcheck_ptr rfl rfl) <|
      rwp_det rfl rfl (det_field_lit rfl fd80_7 rfl) <|
      rwp_det0 rfl rfl (det_store rfl sz4 rfl rfl rfl (st_rowE 1 rfl (by rw [mc_len hs]; show 0 + 773 + 1 ≤ 774; omega) (mc_sHL hs))) <|
      rwp_nil <|
      sReg rfl <|
      rMv rfl <|
      rMv rfl <|
      rwp_nil <|
      awp_ret <|
      fin2 (rs_c rfl) (rs_c rfl) ?_
     rw [stepM3 hl0 h3 c4]
     exact ⟨rfl, [_], rfl⟩
    ·try simp only [sx] at c4
     refine awp_seq <|
      sReg rfl <|
      rwp_det rfl rfl (det_eql rfl rfl rfl) <|
      rMv rfl <|
      rwp_nil <|
      awp_cond rfl (fun c5 => ?_) (fun c5 => ?_)
     ·try simp only [sx] at c5
      refine awp_skip <|
       awp_cond rfl (fun c7 => ?_) (fun c7 => ?_)
      ·try simp only [sx] at c7
       have hj : jmpB s.ins.Op = true := by simp [jmpB]; omega
       refine sReg rfl <|
        rMv rfl <|
        rwp_nil <|
        sReg rfl <|
        rMv rfl <|
        rwp_det rfl rfl (det_load_agg rfl agg67 rfl (ptr_row 0 rfl) rfl) <|
        rwp_det rfl rfl (det_call_same [1, 1] rfl ok68 (vm_jumps b sv s w hs s.ins hf hj) ⟨VLe.refl _, rfl, VLe.refl _, rfl, trivial⟩ rfl) <|
        rwp_det rfl rfl (det_move_tup rfl rfl) <|
        rwp_det rfl rfl (det_ex_c rfl rfl rfl) <|
        rwp_det rfl rfl (det_ex_c rfl rfl rfl) <|
        rMv rfl <|
        rMv rfl <|
        rwp_nil <|
        sReg rfl <|
        rMv rfl <|
        rwp_nil <|
        awp_cond rfl (fun c8 => ?_) (fun c8 => ?_)
       ·try simp only [sx] at c8
        refine awp_region rfl <|
         rwp_det rfl rfl (det_field_lit rfl fd67_1 rfl) <|
         rwp_det rfl rfl (det_load_one rfl one3 rfl (ptr_row 0 rfl) rfl) <|
         rMv rfl <|
         rwp_nil <|
         awp_seq <|
         sReg rfl <|
         rMv rfl <|
         rwp_det rfl rfl (det_neq rfl rfl rfl) <|
         rwp_nil <|
         awp_cond rfl (fun c15 => ?_) (fun c15 => ?_)
        ·try simp only [sx] at c15
         have hd := doM1 (s := s) hj
         refine sReg rfl <|
          rMv rfl <|
          rMv rfl <|
          rMv rfl <|
          rwp_nil <|
          awp_ret <|
          fin2 (rs_c rfl) (rs_c rfl) ?_
         rw [stepM5 hl0 h3 c4 hd c15]
         exact ⟨rfl, [_], rfl⟩
        ·try simp only [sx] at c15
         have hd := doM1 (s := s) hj
         have hd0 : doM s s.ins = (s, 0) := by rw [hd]; rw [c15]
         have hs2 := doM_ok hs s.ins
         rw [hd0] at hs2
         have hnx : nextM s s.ins = s.ins.A := next1 hj c8
         refine awp_skip <|
          sReg rfl <|
          rMv rfl <|
          rMv rfl <|
          rwp_det rfl rfl (det_nilcheck_ptr rfl rfl) <|
          rwp_det rfl rfl (det_field_lit rfl fd80_6 rfl) <|
          rwp_det0 rfl rfl (det_store rfl sz3 rfl rfl rfl (st_rowE 1 rfl (by rw [mc_len hs2]; show 0 + 772 + 1 ≤ 774; omega) (mc_sPC hs2 _))) <|
          rwp_nil <|
          sReg rfl <|
          rMv rfl <|
          rMv rfl <|
          rwp_nil <|
          awp_ret <|
          fin2 (rs_c rfl) (rs_c rfl) ?_
         rw [stepM4 hl0 h3 c4 hd0 hnx]
         exact ⟨rfl, [_], rfl⟩
       ·try simp only [sx] at c8
        refine awp_skip <|
         awp_seq <|
         sReg rfl <|
         rMv rfl <|
         rwp_det rfl rfl (det_neq rfl rfl rfl) <|
         rwp_nil <|
         awp_cond rfl (fun c15 => ?_) (fun c15 => ?_)
        ·try simp only [sx] at c15
         have hd := doM1 (s := s) hj
         refine sReg rfl <|
          rMv rfl <|
          rMv rfl <|
          rMv rfl <|
          rwp_nil <|
          awp_ret <|
          fin2 (rs_c rfl) (rs_c rfl) ?_
         rw [stepM5 hl0 h3 c4 hd c15]
         exact ⟨rfl, [_], rfl⟩
        ·try simp only [sx] at c15
         have hd := doM1 (s := s) hj
         have hd0 : doM s s.ins = (s, 0) := by rw [hd]; rw [c15]
         have hs2 := doM_ok hs s.ins
         rw [hd0] at hs2
         have hnx : nextM s s.ins = s.pc + 1 := next2 (by simpa using c8)
         refine awp_skip <|
          sReg rfl <|
          rMv rfl <|
          rMv rfl <|
          rwp_det rfl rfl (det_nilcheck_ptr rfl rfl) <|
          rwp_det rfl rfl (det_field_lit rfl fd80_6 rfl) <|
          rwp_det0 rfl rfl (det_store rfl sz3 rfl rfl rfl (st_rowE 1 rfl (by rw [mc_len hs2]; show 0 + 772 + 1 ≤ 774; omega) (mc_sPC hs2 _))) <|
          rwp_nil <|
          sReg rfl <|
          rMv rfl <|
          rMv rfl <|
          rwp_nil <|
          awp_ret <|
          fin2 (rs_c rfl) (rs_c rfl) ?_
         rw [stepM4 hl0 h3 c4 hd0 hnx]
         exact ⟨rfl, [_], rfl⟩
      ·try simp only [sx] at c7
       exact absurd c5 c7
     ·try simp only [sx] at c5
      refine sReg rfl <|
       rwp_det rfl rfl (det_eql rfl rfl rfl) <|
       rMv rfl <|
       rwp_nil <|
       awp_cond rfl (fun c6 => ?_) (fun c6 => ?_)
      ·try simp only [sx] at c6
       refine awp_skip <|
        awp_cond rfl (fun c7 => ?_) (fun c7 => ?_)
       ·try simp only [sx] at c7
        have hj : jmpB s.ins.Op = true := by simp [jmpB]; omega
        refine sReg rfl <|
         rMv rfl <|
         rwp_nil <|
         sReg rfl <|
         rMv rfl <|
         rwp_det rfl rfl (det_load_agg rfl agg67 rfl (ptr_row 0 rfl) rfl) <|
         rwp_det rfl rfl (det_call_same [1, 1] rfl ok68 (vm_jumps b sv s w hs s.ins hf hj) ⟨VLe.refl _, rfl, VLe.refl _, rfl, trivial⟩ rfl) <|
         rwp_det rfl rfl (det_move_tup rfl rfl) <|
         rwp_det rfl rfl (det_ex_c rfl rfl rfl) <|
         rwp_det rfl rfl (det_ex_c rfl rfl rfl) <|
         rMv rfl <|
         rMv rfl <|
         rwp_nil <|
         sReg rfl <|
         rMv rfl <|
         rwp_nil <|
         awp_cond rfl (fun c8 => ?_) (fun c8 => ?_)
        ·try simp only [sx] at c8
         refine awp_region rfl <|
          rwp_det rfl rfl (det_field_lit rfl fd67_1 rfl) <|
          rwp_det rfl rfl (det_load_one rfl one3 rfl (ptr_row 0 rfl) rfl) <|
          rMv rfl <|
          rwp_nil <|
          awp_seq <|
          sReg rfl <|
          rMv rfl <|
          rwp_det rfl rfl (det_neq rfl rfl rfl) <|
          rwp_nil <|
          awp_cond rfl (fun c15 => ?_) (fun c15 => ?_)
         ·try simp only [sx] at c15
          have hd := doM1 (s := s) hj
          refine sReg rfl <|
           rMv rfl <|
           rMv rfl <|
           rMv rfl <|
           rwp_nil <|
           awp_ret <|
           fin2 (rs_c rfl) (rs_c rfl) ?_
          rw [stepM5 hl0 h3 c4 hd c15]
          exact ⟨rfl, [_], rfl⟩
         ·try simp only [sx] at c15
          have hd := doM1 (s := s) hj
          have hd0 : doM s s.ins = (s, 0) := by rw [hd]; rw [c15]
          have hs2 := doM_ok hs s.ins
          rw [hd0] at hs2
          have hnx : nextM s s.ins = s.ins.A := next1 hj c8
          refine awp_skip <|
           sReg rfl <|
           rMv rfl <|
           rMv rfl <|
           rwp_det rfl rfl (det_nilcheck_ptr rfl rfl) <|
           rwp_det rfl rfl (det_field_lit rfl fd80_6 rfl) <|
           rwp_det0 rfl rfl (det_store rfl sz3 rfl rfl rfl (st_rowE 1 rfl (by rw [mc_len hs2]; show 0 + 772 + 1 ≤ 774; omega) (mc_sPC hs2 _))) <|
           rwp_nil <|
           sReg rfl <|
           rMv rfl <|
           rMv rfl <|
           rwp_nil <|
           awp_ret <|
           fin2 (rs_c rfl) (rs_c rfl) ?_
          rw [stepM4 hl0 h3 c4 hd0 hnx]
          exact ⟨rfl, [_], rfl⟩
        ·try simp only [sx] at c8
         refine awp_skip <|
          awp_seq <|
          sReg rfl <|
          rMv rfl <|
          rwp_det rfl rfl (det_neq rfl rfl rfl) <|
          rwp_nil <|
          awp_cond rfl (fun c15 => ?_) (fun c15 => ?_)
         ·try simp only [sx] at c15
          have hd := doM1 (s := s) hj
          refine sReg rfl <|
           rMv rfl <|
           rMv rfl <|
           rMv rfl <|
           rwp_nil <|
           awp_ret <|
           fin2 (rs_c rfl) (rs_c rfl) ?_
          rw [stepM5 hl0 h3 c4 hd c15]
          exact ⟨rfl, [_], rfl⟩
         ·try simp only [sx] at c15
          have hd := doM1 (s := s) hj
          have hd0 : doM s s.ins = (s, 0) := by rw [hd]; rw [c15]
          have hs2 := doM_ok hs s.ins
          rw [hd0] at hs2
          have hnx : nextM s s.ins = s.pc + 1 := next2 (by simpa using c8)
          refine awp_skip <|
           sReg rfl <|
           rMv rfl <|
           rMv rfl <|
           rwp_det rfl rfl (det_nilcheck_ptr rfl rfl) <|
           rwp_det rfl rfl (det_field_lit rfl fd80_6 rfl) <|
           rwp_det0 rfl rfl (det_store rfl sz3 rfl rfl rfl (st_rowE 1 rfl (by rw [mc_len hs2]; show 0 + 772 + 1 ≤ 774; omega) (mc_sPC hs2 _))) <|
           rwp_nil <|
           sReg rfl <|
           rMv rfl <|
           rMv rfl <|
           rwp_nil <|
           awp_ret <|
           fin2 (rs_c rfl) (rs_c rfl) ?_
          rw [stepM4 hl0 h3 c4 hd0 hnx]
          exact ⟨rfl, [_], rfl⟩
       ·try simp only [sx] at c7
        exact absurd c6 c7
      ·try simp only [sx] at c6
       refine awp_region rfl <|
        rwp_det rfl rfl (det_eql rfl rfl rfl) <|
        rMv rfl <|
        rwp_nil <|
        awp_cond rfl (fun c7 => ?_) (fun c7 => ?_)
       ·try simp only [sx] at c7
        have hj : jmpB s.ins.Op = true := by simp [jmpB]; omega
        refine sReg rfl <|
         rMv rfl <|
         rwp_nil <|
         sReg rfl <|
         rMv rfl <|
         rwp_det rfl rfl (det_load_agg rfl agg67 rfl (ptr_row 0 rfl) rfl) <|
         rwp_det rfl rfl (det_call_same [1, 1] rfl ok68 (vm_jumps b sv s w hs s.ins hf hj) ⟨VLe.refl _, rfl, VLe.refl _, rfl, trivial⟩ rfl) <|
         rwp_det rfl rfl (det_move_tup rfl rfl) <|
         rwp_det rfl rfl (det_ex_c rfl rfl rfl) <|
         rwp_det rfl rfl (det_ex_c rfl rfl rfl) <|
         rMv rfl <|
         rMv rfl <|
         rwp_nil <|
         sReg rfl <|
         rMv rfl <|
         rwp_nil <|
         awp_cond rfl (fun c8 => ?_) (fun c8 => ?_)
        ·try simp only [sx] at c8
         refine awp_region rfl <|
          rwp_det rfl rfl (det_field_lit rfl fd67_1 rfl) <|
          rwp_det rfl rfl (det_load_one rfl one3 rfl (ptr_row 0 rfl) rfl) <|
          rMv rfl <|
          rwp_nil <|
          awp_seq <|
          sReg rfl <|
          rMv rfl <|
          rwp_det rfl rfl (det_neq rfl rfl rfl) <|
          rwp_nil <|
          awp_cond rfl (fun c15 => ?_) (fun c15 => ?_)
         ·try simp only [sx] at c15
          have hd := doM1 (s := s) hj
          refine sReg rfl <|
           rMv rfl <|
           rMv rfl <|
           rMv rfl <|
           rwp_nil <|
           awp_ret <|
           fin2 (rs_c rfl) (rs_c rfl) ?_
          rw [stepM5 hl0 h3 c4 hd c15]
          exact ⟨rfl, [_], rfl⟩
         ·try simp only [sx] at c15
          have hd := doM1 (s := s) hj
          have hd0 : doM s s.ins = (s, 0) := by rw [hd]; rw [c15]
          have hs2 := doM_ok hs s.ins
          rw [hd0] at hs2
          have hnx : nextM s s.ins = s.ins.A := next1 hj c8
          refine awp_skip <|
           sReg rfl <|
           rMv rfl <|
           rMv rfl <|
           rwp_det rfl rfl (det_nilcheck_ptr rfl rfl) <|
           rwp_det rfl rfl (det_field_lit rfl fd80_6 rfl) <|
           rwp_det0 rfl rfl (det_store rfl sz3 rfl rfl rfl (st_rowE 1 rfl (by rw [mc_len hs2]; show 0 + 772 + 1 ≤ 774; omega) (mc_sPC hs2 _))) <|
           rwp_nil <|
           sReg rfl <|
           rMv rfl <|
           rMv rfl <|
           rwp_nil <|
           awp_ret <|
           fin2 (rs_c rfl) (rs_c rfl) ?_
          rw [stepM4 hl0 h3 c4 hd0 hnx]
          exact ⟨rfl, [_], rfl⟩
        ·try simp only [sx] at c8
         refine awp_skip <|
          awp_seq <|
          sReg rfl <|
          rMv rfl <|
          rwp_det rfl rfl (det_neq rfl rfl rfl) <|
          rwp_nil <|
          awp_cond rfl (fun c15 => ?_) (fun c15 => ?_)
         ·try simp only [sx] at c15
          have hd := doM1 (s := s) hj
          refine sReg rfl <|
           rMv rfl <|
           rMv rfl <|
           rMv rfl <|
           rwp_nil <|
           awp_ret <|
           fin2 (rs_c rfl) (rs_c rfl) ?_
          rw [stepM5 hl0 h3 c4 hd c15]
          exact ⟨rfl, [_], rfl⟩
         ·try simp only [sx] at c15
          have hd := doM1 (s := s) hj
          have hd0 : doM s s.ins = (s, 0) := by rw [hd]; rw [c15]
          have hs2 := doM_ok hs s.ins
          rw [hd0] at hs2
          have hnx : nextM s s.ins = s.pc + 1 := next2 (by simpa using c8)
          refine awp_skip <|
           sReg rfl <|
           rMv rfl <|
           rMv rfl <|
           rwp_det rfl rfl (det_nilcheck_ptr rfl rfl) <|
           rwp_det rfl rfl (det_field_lit rfl fd80_6 rfl) <|
           rwp_det0 rfl rfl (det_store rfl sz3 rfl rfl rfl (st_rowE 1 rfl (by rw [mc_len hs2]; show 0 + 772 + 1 ≤ 774; omega) (mc_sPC hs2 _))) <|
           rwp_nil <|
           sReg rfl <|
           rMv rfl <|
           rMv rfl <|
           rwp_nil <|
           awp_ret <|
           fin2 (rs_c rfl) (rs_c rfl) ?_
          rw [stepM4 hl0 h3 c4 hd0 hnx]
          exact ⟨rfl, [_], rfl⟩
       ·try simp only [sx] at c7
        have hjn : jmpB s.ins.Op = false := by simp [jmpB]; omega
        refine awp_seq <|
         sReg rfl <|
         rwp_det rfl rfl (det_eql rfl rfl rfl) <|
         rMv rfl <|
         rwp_nil <|
         awp_cond rfl (fun c9 => ?_) (fun c9 => ?_)
        ·try simp only [sx] at c9
         refine awp_skip <|
          awp_cond rfl (fun c10 => ?_) (fun c10 => ?_)
         ·try simp only [sx] at c10
          have hm : memB s.ins.Op = true := by simp [memB]; omega
          refine awp_region rfl <|
           rMv rfl <|
           rwp_det rfl rfl (det_load_agg rfl agg67 rfl (ptr_row 0 rfl) rfl) <|
           rwp_det rfl rfl (det_call_mem [1, 1] rfl ok69 (vm_memory b sv s w hs s.ins hf hm (hMm hm)) ⟨VLe.refl _, rfl, VLe.refl _, rfl, trivial⟩ rfl) <|
           rMv rfl <|
           rwp_nil <|
           awp_seq <|
           sReg rfl <|
           rMv rfl <|
           rwp_det rfl rfl (det_neq rfl rfl rfl) <|
           rwp_nil <|
           awp_cond rfl (fun c15 => ?_) (fun c15 => ?_)
          ·try simp only [sx] at c15
           have hd := doM2 (s := s) hjn hm
           refine sReg rfl <|
            rMv rfl <|
            rMv rfl <|
            rMv rfl <|
            rwp_nil <|
            awp_ret <|
            fin2 (rs_c rfl) (rs_c rfl) ?_
           rw [stepM5 hl0 h3 c4 hd c15]
           exact ⟨rfl, [_], by rw [memV_err c15]; rfl⟩
          ·try simp only [sx] at c15
           have hd := doM2 (s := s) hjn hm
           have hd0 : doM s s.ins = ((memV s s.ins).1, 0) := by rw [hd]; exact pair0 c15
           have hs2 := doM_ok hs s.ins
           rw [hd0] at hs2
           have hnx : nextM s s.ins = s.pc + 1 := next3 hjn
           refine awp_skip <|
            sReg rfl <|
            rMv rfl <|
            rMv rfl <|
            rwp_det rfl rfl (det_nilcheck_ptr rfl rfl) <|
            rwp_det rfl rfl (det_field_lit rfl fd80_6 rfl) <|
            rwp_det0 rfl rfl (det_store rfl sz3 rfl rfl rfl (st_rowE 1 rfl (by rw [mc_len hs2]; show 0 + 772 + 1 ≤ 774; omega) (mc_sPC hs2 _))) <|
            rwp_nil <|
            sReg rfl <|
            rMv rfl <|
            rMv rfl <|
            rwp_nil <|
            awp_ret <|
            fin2 (rs_c rfl) (rs_c rfl) ?_
           rw [stepM4 hl0 h3 c4 hd0 hnx]
           exact ⟨rfl, [_], rfl⟩
         ·try simp only [sx] at c10
          exact absurd c9 c10
        ·try simp only [sx] at c9
         refine awp_region rfl <|
          rwp_det rfl rfl (det_eql rfl rfl rfl) <|
          rMv rfl <|
          rwp_nil <|
          awp_cond rfl (fun c10 => ?_) (fun c10 => ?_)
         ·try simp only [sx] at c10
          have hm : memB s.ins.Op = true := by simp [memB]; omega
          refine awp_region rfl <|
           rMv rfl <|
           rwp_det rfl rfl (det_load_agg rfl agg67 rfl (ptr_row 0 rfl) rfl) <|
           rwp_det rfl rfl (det_call_mem [1, 1] rfl ok69 (vm_memory b sv s w hs s.ins hf hm (hMm hm)) ⟨VLe.refl _, rfl, VLe.refl _, rfl, trivial⟩ rfl) <|
           rMv rfl <|
           rwp_nil <|
           awp_seq <|
           sReg rfl <|
           rMv rfl <|
           rwp_det rfl rfl (det_neq rfl rfl rfl) <|
           rwp_nil <|
           awp_cond rfl (fun c15 => ?_) (fun c15 => ?_)
          ·try simp only [sx] at c15
           have hd := doM2 (s := s) hjn hm
           refine sReg rfl <|
            rMv rfl <|
            rMv rfl <|
            rMv rfl <|
            rwp_nil <|
            awp_ret <|
            fin2 (rs_c rfl) (rs_c rfl) ?_
           rw [stepM5 hl0 h3 c4 hd c15]
           exact ⟨rfl, [_], by rw [memV_err c15]; rfl⟩
          ·try simp only [sx] at c15
           have hd := doM2 (s := s) hjn hm
           have hd0 : doM s s.ins = ((memV s s.ins).1, 0) := by rw [hd]; exact pair0 c15
           have hs2 := doM_ok hs s.ins
           rw [hd0] at hs2
           have hnx : nextM s s.ins = s.pc + 1 := next3 hjn
           refine awp_skip <|
            sReg rfl <|
            rMv rfl <|
            rMv rfl <|
            rwp_det rfl rfl (det_nilcheck_ptr rfl rfl) <|
            rwp_det rfl rfl (det_field_lit rfl fd80_6 rfl) <|
            rwp_det0 rfl rfl (det_store rfl sz3 rfl rfl rfl (st_rowE 1 rfl (by rw [mc_len hs2]; show 0 + 772 + 1 ≤ 774; omega) (mc_sPC hs2 _))) <|
            rwp_nil <|
            sReg rfl <|
            rMv rfl <|
            rMv rfl <|
            rwp_nil <|
            awp_ret <|
            fin2 (rs_c rfl) (rs_c rfl) ?_
           rw [stepM4 hl0 h3 c4 hd0 hnx]
           exact ⟨rfl, [_], rfl⟩
         ·try simp only [sx] at c10
          have hmn : memB s.ins.Op = false := by simp [memB]; omega
          refine awp_seq <|
           sReg rfl <|
           rwp_det rfl rfl (det_eql rfl rfl rfl) <|
           rMv rfl <|
           rwp_nil <|
           awp_cond rfl (fun c11 => ?_) (fun c11 => ?_)
          ·try simp only [sx] at c11
           refine awp_skip <|
            awp_cond rfl (fun c14 => ?_) (fun c14 => ?_)
           ·try simp only [sx] at c14
            have hp : cptB s.ins.Op = true := by simp [cptB]; omega
            refine awp_region rfl <|
             rMv rfl <|
             rwp_det rfl rfl (det_load_agg rfl agg67 rfl (ptr_row 0 rfl) rfl) <|
             rwp_det rfl rfl (det_call_mem [1, 1] rfl ok70 (vm_element b sv s w hs s.ins hf hp hT) ⟨VLe.refl _, rfl, VLe.refl _, rfl, trivial⟩ rfl) <|
             rMv rfl <|
             rwp_nil <|
             awp_seq <|
             sReg rfl <|
             rMv rfl <|
             rwp_det rfl rfl (det_neq rfl rfl rfl) <|
             rwp_nil <|
             awp_cond rfl (fun c15 => ?_) (fun c15 => ?_)
            ·try simp only [sx] at c15
             have hd := doM3 (s := s) hjn hmn hp
             refine sReg rfl <|
              rMv rfl <|
              rMv rfl <|
              rMv rfl <|
              rwp_nil <|
              awp_ret <|
              fin2 (rs_c rfl) (rs_c rfl) ?_
             rw [stepM5 hl0 h3 c4 hd c15]
             exact ⟨rfl, [_], by rw [cptM_err c15]; rfl⟩
            ·try simp only [sx] at c15
             have hd := doM3 (s := s) hjn hmn hp
             have hd0 : doM s s.ins = ((cptM s s.ins).1, 0) := by rw [hd]; exact pair0 c15
             have hs2 := doM_ok hs s.ins
             rw [hd0] at hs2
             have hnx : nextM s s.ins = s.pc + 1 := next3 hjn
             refine awp_skip <|
              sReg rfl <|
              rMv rfl <|
              rMv rfl <|
              rwp_det rfl rfl (det_nilcheck_ptr rfl rfl) <|
              rwp_det rfl rfl (det_field_lit rfl fd80_6 rfl) <|
              rwp_det0 rfl rfl (det_store rfl sz3 rfl rfl rfl (st_rowE 1 rfl (by rw [mc_len hs2]; show 0 + 772 + 1 ≤ 774; omega) (mc_sPC hs2 _))) <|
              rwp_nil <|
              sReg rfl <|
              rMv rfl <|
              rMv rfl <|
              rwp_nil <|
              awp_ret <|
              fin2 (rs_c rfl) (rs_c rfl) ?_
             rw [stepM4 hl0 h3 c4 hd0 hnx]
             exact ⟨rfl, [_], rfl⟩
           ·try simp only [sx] at c14
            exact absurd c11 c14
          ·try simp only [sx] at c11
           refine sReg rfl <|
            rwp_det rfl rfl (det_eql rfl rfl rfl) <|
            rMv rfl <|
            rwp_nil <|
            awp_cond rfl (fun c12 => ?_) (fun c12 => ?_)
           ·try simp only [sx] at c12
            refine awp_skip <|
             awp_cond rfl (fun c14 => ?_) (fun c14 => ?_)
            ·try simp only [sx] at c14
             have hp : cptB s.ins.Op = true := by simp [cptB]; omega
             refine awp_region rfl <|
              rMv rfl <|
              rwp_det rfl rfl (det_load_agg rfl agg67 rfl (ptr_row 0 rfl) rfl) <|
              rwp_det rfl rfl (det_call_mem [1, 1] rfl ok70 (vm_element b sv s w hs s.ins hf hp hT) ⟨VLe.refl _, rfl, VLe.refl _, rfl, trivial⟩ rfl) <|
              rMv rfl <|
              rwp_nil <|
              awp_seq <|
              sReg rfl <|
              rMv rfl <|
              rwp_det rfl rfl (det_neq rfl rfl rfl) <|
              rwp_nil <|
              awp_cond rfl (fun c15 => ?_) (fun c15 => ?_)
             ·try simp only [sx] at c15
              have hd := doM3 (s := s) hjn hmn hp
              refine sReg rfl <|
               rMv rfl <|
               rMv rfl <|
               rMv rfl <|
               rwp_nil <|
               awp_ret <|
               fin2 (rs_c rfl) (rs_c rfl) ?_
              rw [stepM5 hl0 h3 c4 hd c15]
              exact ⟨rfl, [_], by rw [cptM_err c15]; rfl⟩
             ·try simp only [sx] at c15
              have hd := doM3 (s := s) hjn hmn hp
              have hd0 : doM s s.ins = ((cptM s s.ins).1, 0) := by rw [hd]; exact pair0 c15
              have hs2 := doM_ok hs s.ins
              rw [hd0] at hs2
              have hnx : nextM s s.ins = s.pc + 1 := next3 hjn
              refine awp_skip <|
               sReg rfl <|
               rMv rfl <|
               rMv rfl <|
               rwp_det rfl rfl (det_nilcheck_ptr rfl rfl) <|
               rwp_det rfl rfl (det_field_lit rfl fd80_6 rfl) <|
               rwp_det0 rfl rfl (det_store rfl sz3 rfl rfl rfl (st_rowE 1 rfl (by rw [mc_len hs2]; show 0 + 772 + 1 ≤ 774; omega) (mc_sPC hs2 _))) <|
               rwp_nil <|
               sReg rfl <|
               rMv rfl <|
               rMv rfl <|
               rwp_nil <|
               awp_ret <|
               fin2 (rs_c rfl) (rs_c rfl) ?_
              rw [stepM4 hl0 h3 c4 hd0 hnx]
              exact ⟨rfl, [_], rfl⟩
            ·try simp only [sx] at c14
             exact absurd c12 c14
           ·try simp only [sx] at c12
            refine sReg rfl <|
             rwp_det rfl rfl (det_eql rfl rfl rfl) <|
             rMv rfl <|
             rwp_nil <|
             awp_cond rfl (fun c13 => ?_) (fun c13 => ?_)
            ·try simp only [sx] at c13
             refine awp_skip <|
              awp_cond rfl (fun c14 => ?_) (fun c14 => ?_)
             ·try simp only [sx] at c14
              have hp : cptB s.ins.Op = true := by simp [cptB]; omega
              refine awp_region rfl <|
               rMv rfl <|
               rwp_det rfl rfl (det_load_agg rfl agg67 rfl (ptr_row 0 rfl) rfl) <|
               rwp_det rfl rfl (det_call_mem [1, 1] rfl ok70 (vm_element b sv s w hs s.ins hf hp hT) ⟨VLe.refl _, rfl, VLe.refl _, rfl, trivial⟩ rfl) <|
               rMv rfl <|
               rwp_nil <|
               awp_seq <|
               sReg rfl <|
               rMv rfl <|
               rwp_det rfl rfl (det_neq rfl rfl rfl) <|
               rwp_nil <|
               awp_cond rfl (fun c15 => ?_) (fun c15 => ?_)
              ·try simp only [sx] at c15
               have hd := doM3 (s := s) hjn hmn hp
               refine sReg rfl <|
                rMv rfl <|
                rMv rfl <|
                rMv rfl <|
                rwp_nil <|
                awp_ret <|
                fin2 (rs_c rfl) (rs_c rfl) ?_
               rw [stepM5 hl0 h3 c4 hd c15]
               exact ⟨rfl, [_], by rw [cptM_err c15]; rfl⟩
              ·try simp only [sx] at c15
               have hd := doM3 (s := s) hjn hmn hp
               have hd0 : doM s s.ins = ((cptM s s.ins).1, 0) := by rw [hd]; exact pair0 c15
               have hs2 := doM_ok hs s.ins
               rw [hd0] at hs2
               have hnx : nextM s s.ins = s.pc + 1 := next3 hjn
               refine awp_skip <|
                sReg rfl <|
                rMv rfl <|
                rMv rfl <|
                rwp_det rfl rfl (det_nilcheck_ptr rfl rfl) <|
                rwp_det rfl rfl (det_field_lit rfl fd80_6 rfl) <|
                rwp_det0 rfl rfl (det_store rfl sz3 rfl rfl rfl (st_rowE 1 rfl (by rw [mc_len hs2]; show 0 + 772 + 1 ≤ 774; omega) (mc_sPC hs2 _))) <|
                rwp_nil <|
                sReg rfl <|
                rMv rfl <|
                rMv rfl <|
                rwp_nil <|
                awp_ret <|
                fin2 (rs_c rfl) (rs_c rfl) ?_
               rw [stepM4 hl0 h3 c4 hd0 hnx]
               exact ⟨rfl, [_], rfl⟩
             ·try simp only [sx] at c14
              exact absurd c13 c14
            ·try simp only [sx] at c13
             refine awp_region rfl <|
              rwp_det rfl rfl (det_eql rfl rfl rfl) <|
              rMv rfl <|
              rwp_nil <|
              awp_cond rfl (fun c14 => ?_) (fun c14 => ?_)
             ·try simp only [sx] at c14
              have hp : cptB s.ins.Op = true := by simp [cptB]; omega
              refine awp_region rfl <|
               rMv rfl <|
               rwp_det rfl rfl (det_load_agg rfl agg67 rfl (ptr_row 0 rfl) rfl) <|
               rwp_det rfl rfl (det_call_mem [1, 1] rfl ok70 (vm_element b sv s w hs s.ins hf hp hT) ⟨VLe.refl _, rfl, VLe.refl _, rfl, trivial⟩ rfl) <|
               rMv rfl <|
               rwp_nil <|
               awp_seq <|
               sReg rfl <|
               rMv rfl <|
               rwp_det rfl rfl (det_neq rfl rfl rfl) <|
               rwp_nil <|
               awp_cond rfl (fun c15 => ?_) (fun c15 => ?_)
              ·try simp only [sx] at c15
               have hd := doM3 (s := s) hjn hmn hp
               refine sReg rfl <|
                rMv rfl <|
                rMv rfl <|
                rMv rfl <|
                rwp_nil <|
                awp_ret <|
                fin2 (rs_c rfl) (rs_c rfl) ?_
               rw [stepM5 hl0 h3 c4 hd c15]
               exact ⟨rfl, [_], by rw [cptM_err c15]; rfl⟩
              ·try simp only [sx] at c15
               have hd := doM3 (s := s) hjn hmn hp
               have hd0 : doM s s.ins = ((cptM s s.ins).1, 0) := by rw [hd]; exact pair0 c15
               have hs2 := doM_ok hs s.ins
               rw [hd0] at hs2
               have hnx : nextM s s.ins = s.pc + 1 := next3 hjn
               refine awp_skip <|
                sReg rfl <|
                rMv rfl <|
                rMv rfl <|
                rwp_det rfl rfl (det_nilcheck_ptr rfl rfl) <|
                rwp_det rfl rfl (det_field_lit rfl fd80_6 rfl) <|
                rwp_det0 rfl rfl (det_store rfl sz3 rfl rfl rfl (st_rowE 1 rfl (by rw [mc_len hs2]; show 0 + 772 + 1 ≤ 774; omega) (mc_sPC hs2 _))) <|
                rwp_nil <|
                sReg rfl <|
                rMv rfl <|
                rMv rfl <|
                rwp_nil <|
                awp_ret <|
                fin2 (rs_c rfl) (rs_c rfl) ?_
               rw [stepM4 hl0 h3 c4 hd0 hnx]
               exact ⟨rfl, [_], rfl⟩
             ·try simp only [sx] at c14
              have hpn : cptB s.ins.Op = false := by simp [cptB]; omega
              refine awp_region rfl <|
               rMv rfl <|
               rwp_det rfl rfl (det_load_agg rfl agg67 rfl (ptr_row 0 rfl) rfl) <|
               rwp_det rfl rfl (det_call_mem [1, 1] rfl ok71 (vm_integer b sv s w hs s.ins hf ⟨hjn, hmn, hpn, c4⟩) ⟨VLe.refl _, rfl, VLe.refl _, rfl, trivial⟩ rfl) <|
               rwp_nil <|
               awp_seq <|
               sReg rfl <|
               rMv rfl <|
               rwp_det rfl rfl (det_neq rfl rfl rfl) <|
               rwp_nil <|
               awp_cond rfl (fun c15 => ?_) (fun c15 => ?_)
              ·try simp only [sx] at c15
               exact absurd trivial c15
              ·try simp only [sx] at c15
               have hd := doM4 (s := s) hjn hmn hpn
               have hd0 : doM s s.ins = (s.sX s.ins.A (intV s s.ins), 0) := by rw [hd]
               have hs2 := doM_ok hs s.ins
               rw [hd0] at hs2
               have hnx : nextM s s.ins = s.pc + 1 := next3 hjn
               refine awp_skip <|
                sReg rfl <|
                rMv rfl <|
                rMv rfl <|
                rwp_det rfl rfl (det_nilcheck_ptr rfl rfl) <|
                rwp_det rfl rfl (det_field_lit rfl fd80_6 rfl) <|
                rwp_det0 rfl rfl (det_store rfl sz3 rfl rfl rfl (st_rowE 1 rfl (by rw [mc_len hs2]; show 0 + 772 + 1 ≤ 774; omega) (mc_sPC hs2 _))) <|
                rwp_nil <|
                sReg rfl <|
                rMv rfl <|
                rMv rfl <|
                rwp_nil <|
                awp_ret <|
                fin2 (rs_c rfl) (rs_c rfl) ?_
               rw [stepM4 hl0 h3 c4 hd0 hnx]
               exact ⟨rfl, [_], rfl⟩

theorem vm_Step (b : Nat) (sv : Value) (s : Mc) (w : Int) (hs : s.Ok w)  : Con cfg 31 [vPt b] (mcE b sv s) fun r μ' => r = .tup [vB (stepM s).2.1, vI (stepM s).2.2] ∧ μ' = mcE b sv (stepM s).1 := Con.drop (vm_Step0 b sv s w hs)
end Go.W
