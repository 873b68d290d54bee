/-
  Walks: what functions of the program compute. Printed by wip/gen/mk2.py.
  Conditions: none.
-/
import Derived.Test.YtmmiedgoamlhpaaDoorYD
import Derived.Test.YtmmiedgoamlhpaaDoorPlainM
import Derived.Test.YtmmiedgoamlhpaaDoorSub
set_option linter.unusedSimpArgs false
set_option linter.unusedVariables false
set_option maxRecDepth 10000
namespace Go.W
open Go Go.Eng Go.Proofs Go.L41 Go.Br
attribute [local irreducible] AWP RWP TD finQ
theorem ar31 : arrT Tryd.prog 31 = some (256, 2, 1) := by kernel_rfl
theorem ar34 : arrT Tryd.prog 34 = some (256, 33, 2) := by kernel_rfl
theorem fd36_0 : fieldT Tryd.prog 36 0 = some (0, 4) := by kernel_rfl
theorem fd36_1 : fieldT Tryd.prog 36 1 = some (1, 29) := by kernel_rfl
theorem fd36_2 : fieldT Tryd.prog 36 2 = some (2, 30) := by kernel_rfl
theorem fd36_3 : fieldT Tryd.prog 36 3 = some (3, 22) := by kernel_rfl
theorem fd36_4 : fieldT Tryd.prog 36 4 = some (4, 31) := by kernel_rfl
theorem fd36_5 : fieldT Tryd.prog 36 5 = some (260, 34) := by kernel_rfl
theorem fd36_6 : fieldT Tryd.prog 36 6 = some (772, 3) := by kernel_rfl
theorem fd36_7 : fieldT Tryd.prog 36 7 = some (773, 4) := by kernel_rfl
theorem ok14 : callOk Tryd.prog 14 = true := by kernel_rfl
theorem ok21 : callOk Tryd.prog 21 = true := by kernel_rfl
theorem ok22 : callOk Tryd.prog 22 = true := by kernel_rfl
theorem ok23 : callOk Tryd.prog 23 = true := by kernel_rfl
theorem ok24 : callOk Tryd.prog 24 = true := by kernel_rfl
theorem ok33 : callOk Tryd.prog 33 = true := by kernel_rfl
theorem ok34 : callOk Tryd.prog 34 = true := by kernel_rfl
theorem one4 : oneT Tryd.prog 4 = true := by kernel_rfl
theorem one22 : oneT Tryd.prog 22 = true := by kernel_rfl
theorem one29 : oneT Tryd.prog 29 = true := by kernel_rfl
theorem one30 : oneT Tryd.prog 30 = true := by kernel_rfl
theorem sz2 : (Tryd.prog.info? 2).map (·.size) = some 1 := by kernel_rfl
theorem sz4 : (Tryd.prog.info? 4).map (·.size) = some 1 := by kernel_rfl
theorem un28 : Tryd.prog.underlying 28 = some (.pointer 36) := by kernel_rfl
theorem vm_ready0 (b : Nat) (sv : Value) (s : Mc) (w : Int) (hs : s.Ok w)  :
    Con cfg 14 [vPt b] (mcE b sv s) fun r μ' => r = vB true ∧ ∃ ν, μ' = ν ++ mcE b sv s := by
 refine con_intro Tryd.func14 rfl Tryd.ntmps14 Tryd.results14 rfl ?_
 intro z hz
 refine sReg rfl <|
  rMv rfl <|
  rwp_nil <|
  sReg rfl <|
  rMv rfl <|
  rwp_det rfl rfl (det_ptr_ne rfl rfl rfl un28) <|
  rMv rfl <|
  rLz [] rfl gv1 trivial (fun g1_2 => det_move rfl rfl) rfl <|
  rLz [(6, _)] rfl gv1 ⟨rfl, rfl, trivial⟩ (fun g1_2 => det_nilcheck_ptr rfl rfl) rfl <|
  rLz [(7, _)] rfl gv1 ⟨rfl, rfl, trivial⟩ (fun g1_2 => det_field_lit rfl fd36_0 rfl) rfl <|
  rLz [(8, _)] rfl gv1 ⟨rfl, rfl, trivial⟩ (fun g1_2 => det_load_one rfl one4 rfl (ptr_row 0 rfl) rfl) rfl <|
  rwp_det rfl rfl (det_and rfl rfl rfl (fun h => h) rfl) <|
  rMv rfl <|
  rwp_nil <|
  awp_ret <|
  fin1 (rs_c rfl) ?_
 exact ⟨rfl, [], rfl⟩

theorem vm_ready (b : Nat) (sv : Value) (s : Mc) (w : Int) (hs : s.Ok w)  : Con cfg 14 [vPt b] (mcE b sv s) fun r μ' => r = vB true ∧ μ' = mcE b sv s := Con.drop (vm_ready0 b sv s w hs)
theorem vm_PC0 (b : Nat) (sv : Value) (s : Mc) (w : Int) (hs : s.Ok w)  :
    Con cfg 7 [vPt b] (mcE b sv s) fun r μ' => r = vI s.pc ∧ ∃ ν, μ' = ν ++ mcE b sv s := by
 refine con_intro Tryd.func7 rfl Tryd.ntmps7 Tryd.results7 rfl ?_
 intro z hz
 refine sReg rfl <|
  rMv rfl <|
  rwp_nil <|
  awp_seq <|
  sReg rfl <|
  rMv rfl <|
  rwp_det rfl rfl (det_call_same [0, 0] rfl ok14 (vm_ready b sv s w hs) ⟨VLe.refl _, rfl, trivial⟩ rfl) <|
  rwp_det rfl rfl (det_not rfl rfl) <|
  rwp_nil <|
  awp_cond rfl (fun c1 => ?_) (fun c1 => ?_)
 ·try simp only [sx] at c1
  exact absurd c1 (by simp)
 ·try simp only [sx] at c1
  refine awp_skip <|
   sReg rfl <|
   rMv rfl <|
   rwp_det rfl rfl (det_nilcheck_ptr rfl rfl) <|
   rwp_det rfl rfl (det_field_lit rfl fd36_6 rfl) <|
   rwp_det rfl rfl (det_load_one rfl one3 rfl (ptr_row 0 rfl) (mc_pc hs)) <|
   rMv rfl <|
   rwp_nil <|
   awp_ret <|
   fin1 (rs_c rfl) ?_
  exact ⟨rfl, [], rfl⟩

theorem vm_PC (b : Nat) (sv : Value) (s : Mc) (w : Int) (hs : s.Ok w)  : Con cfg 7 [vPt b] (mcE b sv s) fun r μ' => r = vI s.pc ∧ μ' = mcE b sv s := Con.drop (vm_PC0 b sv s w hs)
theorem vm_integer0 (b : Nat) (sv : Value) (s : Mc) (w : Int) (hs : s.Ok w) (x : In) (hx : fmd x = true) (ho : jmpB x.Op = false ∧ memB x.Op = false ∧ cptB x.Op = false ∧ x.Op ≠ 0) :
    Con cfg 24 [vPt b, vIn x] (mcE b sv s) fun r μ' => r = .tup [] ∧ ∃ ν, μ' = ν ++ mcE b sv (s.sX x.A (intV s x)) := by
 refine con_intro Tryd.func24 rfl Tryd.ntmps24 Tryd.results24 rfl ?_
 intro z hz
 obtain ⟨⟨a1, a2⟩, fB, fC, fD, fo⟩ := int_facts hx ho
 refine sReg rfl <|
  rwp_op rfl rfl (ope_box rfl rfl) ?_
 rintro _ _ ⟨b1, rfl, rfl⟩
 refine rwp_nil <|
  awp_seq <|
  awp_draw 18 mixed (by kernel_rfl) rfl rfl <|
  td_det rfl rfl (det_move rfl rfl) <|
  td_det rfl rfl (det_field_lit rfl fd50_2 rfl) <|
  td_det rfl rfl (det_load_one rfl one3 rfl (ptr_row 0 rfl) rfl) <|
  td_det rfl rfl (det_low8 rfl rfl rfl) <|
  td_det rfl rfl (det_nilcheck_ptr rfl rfl) <|
  td_det rfl rfl (det_field_lit rfl fd36_4 rfl) <|
  td_det rfl rfl (det_arr_lit rfl ar31 rfl rfl (low8_0 _) (low8_1 _)) <|
  td_det rfl rfl (det_load_one rfl one2 rfl (ptr_row 1 rfl) (mc_X hs (low8_0 _) (low8_1 _))) <|
  td_det rfl rfl (det_move rfl rfl) <|
  td_det rfl rfl (det_field_lit rfl fd50_3 rfl) <|
  td_det rfl rfl (det_load_one rfl one3 rfl (ptr_row 0 rfl) rfl) <|
  td_det rfl rfl (det_low8 rfl rfl rfl) <|
  td_det rfl rfl (det_nilcheck_ptr rfl rfl) <|
  td_det rfl rfl (det_field_lit rfl fd36_4 rfl) <|
  td_det rfl rfl (det_arr_lit rfl ar31 rfl rfl (low8_0 _) (low8_1 _)) <|
  td_det rfl rfl (det_load_one rfl one2 rfl (ptr_row 1 rfl) (mc_X hs (low8_0 _) (low8_1 _))) <|
  td_det rfl rfl (det_assign rfl rfl) <|
  td_det rfl rfl (det_assign rfl rfl) <|
  td_nil <|
  rwp_nil <|
  awp_seq <|
  sReg rfl <|
  rwp_det rfl rfl (det_field_lit rfl fd50_0 rfl) <|
  rwp_det rfl rfl (det_load_one rfl one3 rfl (ptr_row 0 rfl) rfl) <|
  rwp_nil <|
  awp_block <|
  sReg rfl <|
  rwp_det rfl rfl (det_eql rfl rfl rfl) <|
  rMv rfl <|
  rwp_nil <|
  awp_cond rfl (fun c1 => ?_) (fun c1 => ?_)
 ·try simp only [sx] at c1
  refine awp_region rfl <|
   rwp_det rfl rfl (det_field_lit rfl fd50_2 rfl) <|
   rwp_det rfl rfl (det_load_one rfl one3 rfl (ptr_row 0 rfl) rfl) <|
   rMv rfl <|
   rwp_nil <|
   awp_draw 7 mixed (by kernel_rfl) rfl rfl <|
   td_det rfl rfl (det_move rfl rfl) <|
   td_det rfl rfl (det_field_lit rfl fd50_1 rfl) <|
   td_det rfl rfl (det_load_one rfl one3 rfl (ptr_row 0 rfl) rfl) <|
   td_det rfl rfl (det_move rfl rfl) <|
   td_det rfl rfl (det_nilcheck_ptr rfl rfl) <|
   td_det rfl rfl (det_field_lit rfl fd36_4 rfl) <|
   td_det rfl rfl (det_arr_lit rfl ar31 rfl rfl (by omega) (by omega)) <|
   td_nil <|
   rwp_det0 rfl rfl (det_store rfl sz2 rfl rfl rfl (st_rowE 1 rfl (by rw [mc_len hs]; show 0 + 4 + x.A.toNat * 1 + 1 ≤ 774; omega) (mc_sX hs _ (by omega) (by omega)))) <|
   rwp_nil ?_
  repeat (first | refine then_exit ?_ | refine block_exit ?_)
  refine fin_end <| fin0 ?_
  exact ⟨rfl, [_], by rw [intv1 c1]; rfl⟩
 ·try simp only [sx] at c1
  refine sReg rfl <|
   rwp_det rfl rfl (det_eql rfl rfl rfl) <|
   rMv rfl <|
   rwp_nil <|
   awp_cond rfl (fun c2 => ?_) (fun c2 => ?_)
  ·try simp only [sx] at c2
   refine awp_region rfl <|
    rMv rfl <|
    rMv rfl <|
    rwp_det rfl rfl (det_add rfl rfl rfl) <|
    rMv rfl <|
    rwp_nil <|
    awp_draw 7 mixed (by kernel_rfl) rfl rfl <|
    td_det rfl rfl (det_move rfl rfl) <|
    td_det rfl rfl (det_field_lit rfl fd50_1 rfl) <|
    td_det rfl rfl (det_load_one rfl one3 rfl (ptr_row 0 rfl) rfl) <|
    td_det rfl rfl (det_move rfl rfl) <|
    td_det rfl rfl (det_nilcheck_ptr rfl rfl) <|
    td_det rfl rfl (det_field_lit rfl fd36_4 rfl) <|
    td_det rfl rfl (det_arr_lit rfl ar31 rfl rfl (by omega) (by omega)) <|
    td_nil <|
    rwp_det0 rfl rfl (det_store rfl sz2 rfl rfl rfl (st_rowE 1 rfl (by rw [mc_len hs]; show 0 + 4 + x.A.toNat * 1 + 1 ≤ 774; omega) (mc_sX hs _ (by omega) (by omega)))) <|
    rwp_nil ?_
   repeat (first | refine then_exit ?_ | refine block_exit ?_)
   refine fin_end <| fin0 ?_
   exact ⟨rfl, [_], by rw [intv3 c2 (low8_eq (fB (by omega)).1 (fB (by omega)).2) (low8_eq (fC (by omega)).1 (fC (by omega)).2)]; rfl⟩
  ·try simp only [sx] at c2
   refine sReg rfl <|
    rwp_det rfl rfl (det_eql rfl rfl rfl) <|
    rMv rfl <|
    rwp_nil <|
    awp_cond rfl (fun c3 => ?_) (fun c3 => ?_)
   ·try simp only [sx] at c3
    refine awp_region rfl <|
     rMv rfl <|
     rwp_det rfl rfl (det_field_lit rfl fd50_3 rfl) <|
     rwp_det rfl rfl (det_load_one rfl one3 rfl (ptr_row 0 rfl) rfl) <|
     rwp_det rfl rfl (det_mul rfl rfl rfl) <|
     rMv rfl <|
     rwp_nil <|
     awp_draw 7 mixed (by kernel_rfl) rfl rfl <|
     td_det rfl rfl (det_move rfl rfl) <|
     td_det rfl rfl (det_field_lit rfl fd50_1 rfl) <|
     td_det rfl rfl (det_load_one rfl one3 rfl (ptr_row 0 rfl) rfl) <|
     td_det rfl rfl (det_move rfl rfl) <|
     td_det rfl rfl (det_nilcheck_ptr rfl rfl) <|
     td_det rfl rfl (det_field_lit rfl fd36_4 rfl) <|
     td_det rfl rfl (det_arr_lit rfl ar31 rfl rfl (by omega) (by omega)) <|
     td_nil <|
     rwp_det0 rfl rfl (det_store rfl sz2 rfl rfl rfl (st_rowE 1 rfl (by rw [mc_len hs]; show 0 + 4 + x.A.toNat * 1 + 1 ≤ 774; omega) (mc_sX hs _ (by omega) (by omega)))) <|
     rwp_nil ?_
    repeat (first | refine then_exit ?_ | refine block_exit ?_)
    refine fin_end <| fin0 ?_
    exact ⟨rfl, [_], by rw [intv4 c3 (low8_eq (fB (by omega)).1 (fB (by omega)).2)]; rfl⟩
   ·try simp only [sx] at c3
    refine sReg rfl <|
     rwp_det rfl rfl (det_eql rfl rfl rfl) <|
     rMv rfl <|
     rwp_nil <|
     awp_cond rfl (fun c4 => ?_) (fun c4 => ?_)
    ·try simp only [sx] at c4
     refine awp_region rfl <|
      rMv rfl <|
      rMv rfl <|
      rwp_det rfl rfl (det_min rfl rfl rfl) <|
      rMv rfl <|
      rwp_nil <|
      awp_draw 7 mixed (by kernel_rfl) rfl rfl <|
      td_det rfl rfl (det_move rfl rfl) <|
      td_det rfl rfl (det_field_lit rfl fd50_1 rfl) <|
      td_det rfl rfl (det_load_one rfl one3 rfl (ptr_row 0 rfl) rfl) <|
      td_det rfl rfl (det_move rfl rfl) <|
      td_det rfl rfl (det_nilcheck_ptr rfl rfl) <|
      td_det rfl rfl (det_field_lit rfl fd36_4 rfl) <|
      td_det rfl rfl (det_arr_lit rfl ar31 rfl rfl (by omega) (by omega)) <|
      td_nil <|
      rwp_det0 rfl rfl (det_store rfl sz2 rfl rfl rfl (st_rowE 1 rfl (by rw [mc_len hs]; show 0 + 4 + x.A.toNat * 1 + 1 ≤ 774; omega) (mc_sX hs _ (by omega) (by omega)))) <|
      rwp_nil ?_
     repeat (first | refine then_exit ?_ | refine block_exit ?_)
     refine fin_end <| fin0 ?_
     exact ⟨rfl, [_], by rw [intv5 c4 (low8_eq (fB (by omega)).1 (fB (by omega)).2) (low8_eq (fC (by omega)).1 (fC (by omega)).2)]; rfl⟩
    ·try simp only [sx] at c4
     refine sReg rfl <|
      rwp_det rfl rfl (det_eql rfl rfl rfl) <|
      rMv rfl <|
      rwp_nil <|
      awp_cond rfl (fun c5 => ?_) (fun c5 => ?_)
     ·try simp only [sx] at c5
      refine awp_region rfl <|
       rMv rfl <|
       rMv rfl <|
       rwp_det rfl rfl (det_max rfl rfl rfl) <|
       rMv rfl <|
       rwp_nil <|
       awp_draw 7 mixed (by kernel_rfl) rfl rfl <|
       td_det rfl rfl (det_move rfl rfl) <|
       td_det rfl rfl (det_field_lit rfl fd50_1 rfl) <|
       td_det rfl rfl (det_load_one rfl one3 rfl (ptr_row 0 rfl) rfl) <|
       td_det rfl rfl (det_move rfl rfl) <|
       td_det rfl rfl (det_nilcheck_ptr rfl rfl) <|
       td_det rfl rfl (det_field_lit rfl fd36_4 rfl) <|
       td_det rfl rfl (det_arr_lit rfl ar31 rfl rfl (by omega) (by omega)) <|
       td_nil <|
       rwp_det0 rfl rfl (det_store rfl sz2 rfl rfl rfl (st_rowE 1 rfl (by rw [mc_len hs]; show 0 + 4 + x.A.toNat * 1 + 1 ≤ 774; omega) (mc_sX hs _ (by omega) (by omega)))) <|
       rwp_nil ?_
      repeat (first | refine then_exit ?_ | refine block_exit ?_)
      refine fin_end <| fin0 ?_
      exact ⟨rfl, [_], by rw [intv6 c5 (low8_eq (fB (by omega)).1 (fB (by omega)).2) (low8_eq (fC (by omega)).1 (fC (by omega)).2)]; rfl⟩
     ·try simp only [sx] at c5
      refine sReg rfl <|
       rwp_det rfl rfl (det_eql rfl rfl rfl) <|
       rMv rfl <|
       rwp_nil <|
       awp_cond rfl (fun c6 => ?_) (fun c6 => ?_)
      ·try simp only [sx] at c6
       refine awp_draw 14 mixed (by kernel_rfl) rfl rfl <|
        td_det rfl rfl (det_move rfl rfl) <|
        td_det rfl rfl (det_field_lit rfl fd50_2 rfl) <|
        td_det rfl rfl (det_load_one rfl one3 rfl (ptr_row 0 rfl) rfl) <|
        td_det rfl rfl (det_nilcheck_ptr rfl rfl) <|
        td_det rfl rfl (det_field_lit rfl fd36_5 rfl) <|
        td_det rfl rfl (det_arr_lit rfl ar34 rfl rfl (by have := fB (by omega); omega) (by have := fB (by omega); omega)) <|
        td_det rfl rfl (det_field_lit rfl fd33_0 rfl) <|
        td_det rfl rfl (det_load_one rfl one2 rfl (ptr_row 1 rfl) (mc_RN hs (by have := fB (by omega); omega) (by have := fB (by omega); omega))) <|
        td_det rfl rfl (det_field_lit rfl fd50_3 rfl) <|
        td_det rfl rfl (det_load_one rfl one3 rfl (ptr_row 0 rfl) rfl) <|
        td_det rfl rfl (det_sub_nw rfl rfl rfl ⟨by have := fD (by omega); omega, by have := fD (by omega); omega⟩) <|
        td_det rfl rfl (det_min rfl rfl rfl) <|
        td_det rfl rfl (det_max rfl rfl rfl) <|
        td_det rfl rfl (det_assign rfl rfl) <|
        td_nil <|
        rwp_nil <|
        awp_draw 7 mixed (by kernel_rfl) rfl rfl <|
        td_det rfl rfl (det_move rfl rfl) <|
        td_det rfl rfl (det_field_lit rfl fd50_1 rfl) <|
        td_det rfl rfl (det_load_one rfl one3 rfl (ptr_row 0 rfl) rfl) <|
        td_det rfl rfl (det_move rfl rfl) <|
        td_det rfl rfl (det_nilcheck_ptr rfl rfl) <|
        td_det rfl rfl (det_field_lit rfl fd36_4 rfl) <|
        td_det rfl rfl (det_arr_lit rfl ar31 rfl rfl (by omega) (by omega)) <|
        td_nil <|
        rwp_det0 rfl rfl (det_store rfl sz2 rfl rfl rfl (st_rowE 1 rfl (by rw [mc_len hs]; show 0 + 4 + x.A.toNat * 1 + 1 ≤ 774; omega) (mc_sX hs _ (by omega) (by omega)))) <|
        rwp_nil ?_
       repeat (first | refine then_exit ?_ | refine block_exit ?_)
       refine fin_end <| fin0 ?_
       exact ⟨rfl, [_], by rw [intv7 c6]; rfl⟩
      ·try simp only [sx] at c6
       refine awp_skip <|
        awp_draw 7 mixed (by kernel_rfl) rfl rfl <|
        td_det rfl rfl (det_move rfl rfl) <|
        td_det rfl rfl (det_field_lit rfl fd50_1 rfl) <|
        td_det rfl rfl (det_load_one rfl one3 rfl (ptr_row 0 rfl) rfl) <|
        td_det rfl rfl (det_move rfl rfl) <|
        td_det rfl rfl (det_nilcheck_ptr rfl rfl) <|
        td_det rfl rfl (det_field_lit rfl fd36_4 rfl) <|
        td_det rfl rfl (det_arr_lit rfl ar31 rfl rfl (by omega) (by omega)) <|
        td_nil <|
        rwp_det0 rfl rfl (det_store rfl sz2 rfl rfl rfl (st_rowE 1 rfl (by rw [mc_len hs]; show 0 + 4 + x.A.toNat * 1 + 1 ≤ 774; omega) (mc_sX hs _ (by omega) (by omega)))) <|
        rwp_nil ?_
       repeat (first | refine then_exit ?_ | refine block_exit ?_)
       refine fin_end <| fin0 ?_
       exact ⟨rfl, [_], by rw [intv2 (by omega) (low8_eq (fB (by omega)).1 (fB (by omega)).2)]; rfl⟩

theorem vm_integer (b : Nat) (sv : Value) (s : Mc) (w : Int) (hs : s.Ok w) (x : In) (hx : fmd x = true) (ho : jmpB x.Op = false ∧ memB x.Op = false ∧ cptB x.Op = false ∧ x.Op ≠ 0) : Con cfg 24 [vPt b, vIn x] (mcE b sv s) fun r μ' => r = .tup [] ∧ μ' = mcE b sv (s.sX x.A (intV s x)) := Con.drop (vm_integer0 b sv s w hs x hx ho)
theorem vm_memory0 (b : Nat) (sv : Value) (s : Mc) (w : Int) (hs : s.Ok w) (x : In) (hx : fmd x = true) (ho : memB x.Op = true) (hC : x.C ≤ w) :
    Con cfg 22 [vPt b, vIn x] (mcE b sv s) fun r μ' => r = vI (memV s x).2 ∧ ∃ ν, μ' = ν ++ mcE b sv (memV s x).1 := by
 refine con_intro Tryd.func22 rfl Tryd.ntmps22 Tryd.results22 rfl ?_
 intro z hz
 obtain ⟨⟨a1, a2⟩, ⟨b1, b2⟩, ⟨d1, d2, d3, d4⟩, fo⟩ := mem_facts hx ho
 have hMl := hs.hM
 refine sReg rfl <|
  rwp_op rfl rfl (ope_box rfl rfl) ?_
 rintro _ _ ⟨b1, rfl, rfl⟩
 refine rMv rfl <|
  rwp_nil <|
  awp_seq <|
  awp_draw 8 mixed (by kernel_rfl) rfl rfl <|
  td_det rfl rfl (det_move rfl rfl) <|
  td_det rfl rfl (det_field_lit rfl fd50_2 rfl) <|
  td_det rfl rfl (det_load_one rfl one3 rfl (ptr_row 0 rfl) rfl) <|
  td_det rfl rfl (det_nilcheck_ptr rfl rfl) <|
  td_det rfl rfl (det_field_lit rfl fd36_4 rfl) <|
  td_det rfl rfl (det_arr_lit rfl ar31 rfl rfl (by omega) (by omega)) <|
  td_det rfl rfl (det_load_one rfl one2 rfl (ptr_row 1 rfl) (mc_X hs (by omega) (by omega))) <|
  td_det rfl rfl (det_assign rfl rfl) <|
  td_nil <|
  rwp_nil <|
  awp_seq <|
  sReg rfl <|
  rMv rfl <|
  rwp_det rfl rfl (det_field_lit rfl fd50_4 rfl) <|
  rwp_det rfl rfl (det_field_lit rfl fd33_0 rfl) <|
  rwp_det rfl rfl (det_load_one rfl one2 rfl (ptr_row 0 rfl) rfl) <|
  rwp_det rfl rfl (det_lss rfl rfl rfl) <|
  rMv rfl <|
  rLz [] rfl gv1 trivial (fun g2_5 => det_move rfl rfl) rfl <|
  rLz [] rfl gv1 trivial (fun g2_5 => det_field_lit rfl fd50_3 rfl) rfl <|
  rLz [(20, _)] rfl gv1 ⟨rfl, rfl, trivial⟩ (fun g2_5 => det_load_one rfl one3 rfl (ptr_row 0 rfl) rfl) rfl <|
  rLz [(19, _), (21, _)] rfl gv1 ⟨rfl, rfl, rfl, rfl, trivial⟩ (fun g2_5 => det_geq rfl rfl rfl) rfl <|
  rwp_det rfl rfl (det_or rfl rfl rfl rfl (fun h => (lzf h))) <|
  rwp_nil <|
  awp_cond rfl (fun c1 => ?_) (fun c1 => ?_)
 ·have c1 : (decide (s.gX x.B < x.Val.N) || decide (x.C ≤ s.gX x.B)) = true := c1
  refine sReg rfl <|
   rMv rfl <|
   rwp_nil <|
   awp_ret <|
   fin1 (rs_c rfl) ?_
  rw [memv1 c1]
  exact ⟨rfl, [_], rfl⟩
 ·have c1 : (decide (s.gX x.B < x.Val.N) || decide (x.C ≤ s.gX x.B)) = false := c1
  refine awp_skip <|
   awp_seq <|
   sReg rfl <|
   rwp_det rfl rfl (det_field_lit rfl fd50_0 rfl) <|
   rwp_det rfl rfl (det_load_one rfl one3 rfl (ptr_row 0 rfl) rfl) <|
   rwp_det rfl rfl (det_eql rfl rfl rfl) <|
   rwp_nil <|
   awp_cond rfl (fun c2 => ?_) (fun c2 => ?_)
  ·try simp only [sx] at c2
   refine awp_draw 13 mixed (by kernel_rfl) rfl rfl <|
    td_det rfl rfl (det_move rfl rfl) <|
    td_det rfl rfl (det_field_lit rfl fd50_1 rfl) <|
    td_det rfl rfl (det_load_one rfl one3 rfl (ptr_row 0 rfl) rfl) <|
    td_det rfl rfl (det_move rfl rfl) <|
    td_det rfl rfl (det_nilcheck_ptr rfl rfl) <|
    td_det rfl rfl (det_field_lit rfl fd36_3 rfl) <|
    td_det rfl rfl (det_load_one rfl one22 rfl (ptr_row 1 rfl) rfl) <|
    td_det rfl rfl (det_move rfl rfl) <|
    td_det rfl rfl (det_index_vec 2 rfl el22 rfl rfl rfl (by have h_ := mem_rng c1; omega) (by have h_ := mem_rng c1; rw [List.length_map]; omega)) <|
    td_det rfl rfl (det_load_agg rfl agg33 rfl (ptr_vec 2 rfl (getm (gM_at (by have h_ := mem_rng c1; omega)))) rfl) <|
    td_det rfl rfl (det_nilcheck_ptr rfl rfl) <|
    td_det rfl rfl (det_field_lit rfl fd36_5 rfl) <|
    td_det rfl rfl (det_arr_lit rfl ar34 rfl rfl (by omega) (by omega)) <|
    td_nil <|
    rwp_det0 rfl rfl (det_store rfl sz33 rfl rfl rfl (st_rowE 1 rfl (by rw [mc_len hs]; show 0 + 260 + x.A.toNat * 2 + 2 ≤ 774; omega) (mc_sR hs _ (by omega) (by omega)))) <|
    rwp_nil <|
    sReg rfl <|
    rMv rfl <|
    rwp_nil <|
    awp_ret <|
    fin1 (rs_c rfl) ?_
   rw [memv2 c1 c2]
   exact ⟨rfl, [_], rfl⟩
  ·try simp only [sx] at c2
   refine awp_draw 13 mixed (by kernel_rfl) rfl rfl <|
    td_det rfl rfl (det_move rfl rfl) <|
    td_det rfl rfl (det_nilcheck_ptr rfl rfl) <|
    td_det rfl rfl (det_field_lit rfl fd36_3 rfl) <|
    td_det rfl rfl (det_load_one rfl one22 rfl (ptr_row 1 rfl) rfl) <|
    td_det rfl rfl (det_move rfl rfl) <|
    td_det rfl rfl (det_move rfl rfl) <|
    td_det rfl rfl (det_field_lit rfl fd50_1 rfl) <|
    td_det rfl rfl (det_load_one rfl one3 rfl (ptr_row 0 rfl) rfl) <|
    td_det rfl rfl (det_nilcheck_ptr rfl rfl) <|
    td_det rfl rfl (det_field_lit rfl fd36_5 rfl) <|
    td_det rfl rfl (det_arr_lit rfl ar34 rfl rfl (by omega) (by omega)) <|
    td_det rfl rfl (det_load_aggE rfl agg33 rfl (ptr_row 1 rfl) (mc_R hs (by omega) (by omega)) rfl) <|
    td_det rfl rfl (det_index_vec 2 rfl el22 rfl rfl rfl (by have h_ := mem_rng c1; omega) (by have h_ := mem_rng c1; rw [List.length_map]; omega)) <|
    td_nil <|
    rwp_det0 rfl rfl (det_store rfl sz33 rfl rfl rfl (st_vecE 2 rfl (getm (gM_at (by have h_ := mem_rng c1; omega))) rfl set_row)) <|
    rwp_nil <|
    sReg rfl <|
    rMv rfl <|
    rwp_nil <|
    awp_ret <|
    fin1 (rs_c rfl) ?_
   rw [memv3 c1 c2]
   exact ⟨rfl, [_], rfl⟩

theorem vm_memory (b : Nat) (sv : Value) (s : Mc) (w : Int) (hs : s.Ok w) (x : In) (hx : fmd x = true) (ho : memB x.Op = true) (hC : x.C ≤ w) : Con cfg 22 [vPt b, vIn x] (mcE b sv s) fun r μ' => r = vI (memV s x).2 ∧ μ' = mcE b sv (memV s x).1 := Con.drop (vm_memory0 b sv s w hs x hx ho hC)
theorem vm_element0 (b : Nat) (sv : Value) (s : Mc) (w : Int) (hs : s.Ok w) (x : In) (hx : fmd x = true) (ho : cptB x.Op = true) (hT : x.Op = 13 → x.Val.N < s.tys.length) :
    Con cfg 23 [vPt b, vIn x] (mcE b sv s) fun r μ' => r = vI (cptM s x).2 ∧ ∃ ν, μ' = ν ++ mcE b sv (cptM s x).1 := by
 refine con_intro Tryd.func23 rfl Tryd.ntmps23 Tryd.results23 rfl ?_
 intro z hz
 obtain ⟨⟨a1, a2⟩, fB, fC, fD, fo⟩ := cpt_facts hx ho
 refine sReg rfl <|
  rwp_op rfl rfl (ope_box rfl rfl) ?_
 rintro _ _ ⟨b1, rfl, rfl⟩
 refine rMv rfl <|
  rwp_nil <|
  sReg rfl <|
  rwp_det rfl rfl (det_field_lit rfl fd50_4 rfl) <|
  rwp_det rfl rfl (det_load_agg rfl agg33 rfl (ptr_row 0 rfl) rfl) <|
  rwp_op rfl rfl (ope_alloc rfl zr33) ?_
 rintro _ _ ⟨b2, rfl, rfl⟩
 refine rwp_det0 rfl rfl (det_store rfl sz33 rfl rfl rfl (st_row 0 rfl rfl)) <|
  rMv rfl <|
  rwp_nil <|
  awp_seq <|
  sReg rfl <|
  rwp_det rfl rfl (det_field_lit rfl fd50_0 rfl) <|
  rwp_det rfl rfl (det_load_one rfl one3 rfl (ptr_row 1 rfl) rfl) <|
  rwp_nil <|
  awp_block <|
  sReg rfl <|
  rwp_det rfl rfl (det_eql rfl rfl rfl) <|
  rMv rfl <|
  rwp_nil <|
  awp_cond rfl (fun c1 => ?_) (fun c1 => ?_)
 ·try simp only [sx] at c1
  have hB := fB (by omega)
  have hC := fC c1
  refine awp_draw_c 24 0 [⟨0, .q []⟩, ⟨1, .q []⟩, ⟨2, .q [1]⟩, ⟨3, .q []⟩, ⟨4, .q [1]⟩, ⟨5, .q []⟩, ⟨6, .q []⟩, ⟨7, .q [1]⟩, ⟨8, .q []⟩, ⟨9, .q []⟩, ⟨10, .q []⟩, ⟨11, .q [2]⟩, ⟨12, .q []⟩, ⟨13, .q []⟩, ⟨14, .q [1]⟩, ⟨15, .q []⟩, ⟨16, .q []⟩, ⟨17, .q []⟩, ⟨18, .q [2]⟩, ⟨19, .q []⟩, ⟨20, .q []⟩, ⟨21, .q []⟩, ⟨22, .q []⟩, ⟨23, .e 0 []⟩] mixed (by kernel_rfl) (by kernel_rfl) rfl rfl rfl <|
   fx_skip rfl <|
   fx_skip rfl <|
   fx_skip rfl <|
   fx_skip rfl <|
   fx_skip rfl <|
   fx_skip rfl <|
   fx_skip rfl <|
   fx_skip rfl <|
   fx_skip rfl <|
   fx_skip rfl <|
   fx_skip rfl <|
   fx_skip rfl <|
   fx_skip rfl <|
   fx_skip rfl <|
   fx_skip rfl <|
   fx_skip rfl <|
   fx_skip rfl <|
   fx_skip rfl <|
   fx_skip rfl <|
   fx_skip rfl <|
   fx_skip rfl <|
   fx_skip rfl <|
   fx_skip rfl <|
   fx_skip rfl <|
   fx_nil <|
   sq_det rfl (by decide) rfl rfl (det_field_lit rfl fd50_4 rfl) <|
   sq_det rfl (by decide) rfl rfl (det_field_lit rfl fd33_0 rfl) <|
   sq_det rfl (by decide) rfl rfl (det_load_one rfl one2 rfl (ptr_row 0 rfl) rfl) <|
   sq_det rfl (by decide) rfl rfl (det_field_lit rfl fd50_5 rfl) <|
   sq_det rfl (by decide) rfl rfl (det_load_agg rfl agg48 rfl (ptr_row 0 rfl) rfl) <|
   sq_det rfl (by decide) rfl rfl (det_move rfl rfl) <|
   sq_det rfl (by decide) rfl rfl (det_field_lit rfl fd50_2 rfl) <|
   sq_det rfl (by decide) rfl rfl (det_load_one rfl one3 rfl (ptr_row 0 rfl) rfl) <|
   sq_det rfl (by decide) rfl rfl (det_nilcheck_ptr rfl rfl) <|
   sq_det rfl (by decide) rfl rfl (det_field_lit rfl fd36_5 rfl) <|
   sq_det rfl (by decide) rfl rfl (det_arr_lit rfl ar34 rfl rfl (by omega) (by omega)) <|
   sq_det rfl (by decide) rfl rfl (det_load_aggE rfl agg33 rfl (ptr_row 0 rfl) (mc_R hs (by omega) (by omega)) rfl) <|
   sq_det rfl (by decide) rfl rfl (det_move rfl rfl) <|
   sq_det rfl (by decide) rfl rfl (det_field_lit rfl fd50_3 rfl) <|
   sq_det rfl (by decide) rfl rfl (det_load_one rfl one3 rfl (ptr_row 0 rfl) rfl) <|
   sq_det rfl (by decide) rfl rfl (det_nilcheck_ptr rfl rfl) <|
   sq_det rfl (by decide) rfl rfl (det_field_lit rfl fd36_5 rfl) <|
   sq_det rfl (by decide) rfl rfl (det_arr_lit rfl ar34 rfl rfl (by omega) (by omega)) <|
   sq_det rfl (by decide) rfl rfl (det_load_aggE rfl agg33 rfl (ptr_row 0 rfl) (mc_R hs (by omega) (by omega)) rfl) <|
   sq_det rfl (by decide) rfl rfl (det_call rfl ok33 (value_Apply x.Val.N x.Ty (s.gR x.B) (s.gR x.C)) ⟨VLe.refl _, rfl, VLe.refl _, rfl, VLe.refl _, rfl, VLe.refl _, rfl, trivial⟩) <|
   sq_det rfl (by decide) rfl rfl (det_move_tup rfl rfl) <|
   sq_det rfl (by decide) rfl rfl (det_ex_agg rfl rfl rfl) <|
   sq_det rfl (by decide) rfl rfl (det_ex_c rfl rfl rfl) <|
   sq_op0 rfl rfl (by decide) rfl rfl (det_store rfl sz33 rfl rfl rfl (st_row 0 rfl rfl)) ?_
  rintro _ _ ⟨rfl, rfl⟩
  refine ⟨_, rfl, ?_⟩
  refine sq_nil rfl <|
   rMv rfl <|
   rwp_nil <|
   awp_seq <|
   sReg rfl <|
   rMv rfl <|
   rwp_det rfl rfl (det_eql rfl rfl rfl) <|
   rwp_nil <|
   awp_cond rfl (fun c5 => ?_) (fun c5 => ?_)
  ·try simp only [sx] at c5
   have hv := cptv2 (s := s) c1
   rw [← hv] at c5
   refine awp_draw 7 mixed (by kernel_rfl) rfl rfl <|
    td_det rfl rfl (det_move rfl rfl) <|
    td_det rfl rfl (det_field_lit rfl fd50_1 rfl) <|
    td_det rfl rfl (det_load_one rfl one3 rfl (ptr_row 1 rfl) rfl) <|
    td_det rfl rfl (det_load_agg rfl agg33 rfl (ptr_row 0 rfl) rfl) <|
    td_det rfl rfl (det_nilcheck_ptr rfl rfl) <|
    td_det rfl rfl (det_field_lit rfl fd36_5 rfl) <|
    td_det rfl rfl (det_arr_lit rfl ar34 rfl rfl (by omega) (by omega)) <|
    td_nil <|
    rwp_det0 rfl rfl (det_store rfl sz33 rfl rfl rfl (st_rowE 2 rfl (by rw [mc_len hs]; show 0 + 260 + x.A.toNat * 2 + 2 ≤ 774; omega) (mc_sR hs ((aplV x.Val.N x.Ty (s.gR x.B) (s.gR x.C)).1) (by omega) (by omega)))) <|
    rwp_nil <|
    sReg rfl <|
    rMv rfl <|
    rMv rfl <|
    rwp_nil <|
    awp_ret <|
    fin1 (rs_c rfl) ?_
   rw [cptm1 (by exact c5), hv]
   exact ⟨by rw [hv] at c5; rw [c5], [_, _], rfl⟩
  ·try simp only [sx] at c5
   have hv := cptv2 (s := s) c1
   rw [← hv] at c5
   refine awp_skip <|
    sReg rfl <|
    rMv rfl <|
    rMv rfl <|
    rwp_nil <|
    awp_ret <|
    fin1 (rs_c rfl) ?_
   rw [cptm2 c5, hv]
   exact ⟨rfl, [_, _], rfl⟩
 ·try simp only [sx] at c1
  refine sReg rfl <|
   rwp_det rfl rfl (det_eql rfl rfl rfl) <|
   rMv rfl <|
   rwp_nil <|
   awp_cond rfl (fun c2 => ?_) (fun c2 => ?_)
  ·try simp only [sx] at c2
   have hB := fB (by omega)
   have hD := fD c2
   have hT := hT c2
   refine awp_draw_c 23 0 [⟨0, .q []⟩, ⟨1, .q []⟩, ⟨2, .q []⟩, ⟨3, .q [2]⟩, ⟨4, .q []⟩, ⟨5, .q []⟩, ⟨6, .q [1]⟩, ⟨7, .q []⟩, ⟨8, .q []⟩, ⟨9, .q []⟩, ⟨10, .q [1]⟩, ⟨11, .q []⟩, ⟨12, .q []⟩, ⟨13, .q [1]⟩, ⟨14, .q []⟩, ⟨15, .q []⟩, ⟨16, .q []⟩, ⟨17, .q [2]⟩, ⟨18, .q []⟩, ⟨19, .q []⟩, ⟨20, .q []⟩, ⟨21, .q []⟩, ⟨22, .e 0 []⟩] mixed (by kernel_rfl) (by kernel_rfl) rfl rfl rfl <|
    fx_skip rfl <|
    fx_skip rfl <|
    fx_skip rfl <|
    fx_skip rfl <|
    fx_skip rfl <|
    fx_skip rfl <|
    fx_skip rfl <|
    fx_skip rfl <|
    fx_skip rfl <|
    fx_skip rfl <|
    fx_skip rfl <|
    fx_skip rfl <|
    fx_skip rfl <|
    fx_skip rfl <|
    fx_skip rfl <|
    fx_skip rfl <|
    fx_skip rfl <|
    fx_skip rfl <|
    fx_skip rfl <|
    fx_skip rfl <|
    fx_skip rfl <|
    fx_skip rfl <|
    fx_skip rfl <|
    fx_nil <|
    sq_det rfl (by decide) rfl rfl (det_move rfl rfl) <|
    sq_det rfl (by decide) rfl rfl (det_nilcheck_ptr rfl rfl) <|
    sq_det rfl (by decide) rfl rfl (det_field_lit rfl fd36_2 rfl) <|
    sq_det rfl (by decide) rfl rfl (det_load_one rfl one30 rfl (ptr_row 0 rfl) rfl) <|
    sq_det rfl (by decide) rfl rfl (det_field_lit rfl fd50_4 rfl) <|
    sq_det rfl (by decide) rfl rfl (det_field_lit rfl fd33_0 rfl) <|
    sq_det rfl (by decide) rfl rfl (det_load_one rfl one2 rfl (ptr_row 0 rfl) rfl) <|
    sq_det rfl (by decide) rfl rfl (det_index_sl rfl el30 rfl rfl (by omega) (getm (ty_at (by omega)))) <|
    sq_det rfl (by decide) rfl rfl (det_load_agg rfl agg48 rfl ptr_imm rfl) <|
    sq_det rfl (by decide) rfl rfl (det_field_lit rfl fd50_5 rfl) <|
    sq_det rfl (by decide) rfl rfl (det_load_agg rfl agg48 rfl (ptr_row 0 rfl) rfl) <|
    sq_det rfl (by decide) rfl rfl (det_move rfl rfl) <|
    sq_det rfl (by decide) rfl rfl (det_field_lit rfl fd50_2 rfl) <|
    sq_det rfl (by decide) rfl rfl (det_load_one rfl one3 rfl (ptr_row 0 rfl) rfl) <|
    sq_det rfl (by decide) rfl rfl (det_nilcheck_ptr rfl rfl) <|
    sq_det rfl (by decide) rfl rfl (det_field_lit rfl fd36_5 rfl) <|
    sq_det rfl (by decide) rfl rfl (det_arr_lit rfl ar34 rfl rfl (by omega) (by omega)) <|
    sq_det rfl (by decide) rfl rfl (det_load_aggE rfl agg33 rfl (ptr_row 0 rfl) (mc_R hs (by omega) (by omega)) rfl) <|
    sq_det rfl (by decide) rfl rfl (det_call rfl ok34 (value_Cast (s.tys.getD x.Val.N.toNat ⟨0, 0, 0, 0, 0⟩) x.Ty (s.gR x.B)) ⟨VLe.refl _, rfl, VLe.refl _, rfl, VLe.refl _, rfl, trivial⟩) <|
    sq_det rfl (by decide) rfl rfl (det_move_tup rfl rfl) <|
    sq_det rfl (by decide) rfl rfl (det_ex_agg rfl rfl rfl) <|
    sq_det rfl (by decide) rfl rfl (det_ex_c rfl rfl rfl) <|
    sq_op0 rfl rfl (by decide) rfl rfl (det_store rfl sz33 rfl rfl rfl (st_row 0 rfl rfl)) ?_
   rintro _ _ ⟨rfl, rfl⟩
   refine ⟨_, rfl, ?_⟩
   refine sq_nil rfl <|
    rMv rfl <|
    rwp_nil <|
    awp_seq <|
    sReg rfl <|
    rMv rfl <|
    rwp_det rfl rfl (det_eql rfl rfl rfl) <|
    rwp_nil <|
    awp_cond rfl (fun c5 => ?_) (fun c5 => ?_)
   ·try simp only [sx] at c5
    have hv := cptv3 (s := s) c2
    rw [← hv] at c5
    refine awp_draw 7 mixed (by kernel_rfl) rfl rfl <|
     td_det rfl rfl (det_move rfl rfl) <|
     td_det rfl rfl (det_field_lit rfl fd50_1 rfl) <|
     td_det rfl rfl (det_load_one rfl one3 rfl (ptr_row 1 rfl) rfl) <|
     td_det rfl rfl (det_load_agg rfl agg33 rfl (ptr_row 0 rfl) rfl) <|
     td_det rfl rfl (det_nilcheck_ptr rfl rfl) <|
     td_det rfl rfl (det_field_lit rfl fd36_5 rfl) <|
     td_det rfl rfl (det_arr_lit rfl ar34 rfl rfl (by omega) (by omega)) <|
     td_nil <|
     rwp_det0 rfl rfl (det_store rfl sz33 rfl rfl rfl (st_rowE 2 rfl (by rw [mc_len hs]; show 0 + 260 + x.A.toNat * 2 + 2 ≤ 774; omega) (mc_sR hs ((cstV (s.tys.getD x.Val.N.toNat ⟨0, 0, 0, 0, 0⟩) x.Ty (s.gR x.B)).1) (by omega) (by omega)))) <|
     rwp_nil <|
     sReg rfl <|
     rMv rfl <|
     rMv rfl <|
     rwp_nil <|
     awp_ret <|
     fin1 (rs_c rfl) ?_
    rw [cptm1 (by exact c5), hv]
    exact ⟨by rw [hv] at c5; rw [c5], [_, _], rfl⟩
   ·try simp only [sx] at c5
    have hv := cptv3 (s := s) c2
    rw [← hv] at c5
    refine awp_skip <|
     sReg rfl <|
     rMv rfl <|
     rMv rfl <|
     rwp_nil <|
     awp_ret <|
     fin1 (rs_c rfl) ?_
    rw [cptm2 c5, hv]
    exact ⟨rfl, [_, _], rfl⟩
  ·try simp only [sx] at c2
   refine sReg rfl <|
    rwp_det rfl rfl (det_eql rfl rfl rfl) <|
    rMv rfl <|
    rwp_nil <|
    awp_cond rfl (fun c3 => ?_) (fun c3 => ?_)
   ·try simp only [sx] at c3
    have hB := fB (by omega)
    refine awp_seq <|
     awp_draw 8 mixed (by kernel_rfl) rfl rfl <|
     td_det rfl rfl (det_move rfl rfl) <|
     td_det rfl rfl (det_field_lit rfl fd50_2 rfl) <|
     td_det rfl rfl (det_load_one rfl one3 rfl (ptr_row 1 rfl) rfl) <|
     td_det rfl rfl (det_nilcheck_ptr rfl rfl) <|
     td_det rfl rfl (det_field_lit rfl fd36_4 rfl) <|
     td_det rfl rfl (det_arr_lit rfl ar31 rfl rfl (by omega) (by omega)) <|
     td_det rfl rfl (det_load_one rfl one2 rfl (ptr_row 2 rfl) (mc_X hs (by omega) (by omega))) <|
     td_det rfl rfl (det_assign rfl rfl) <|
     td_nil <|
     rwp_nil <|
     awp_seq <|
     sReg rfl <|
     rMv rfl <|
     rwp_det rfl rfl (det_gtr rfl rfl rfl) <|
     rMv rfl <|
     rLz [] rfl gv1 trivial (fun g9_2 => det_move rfl rfl) rfl <|
     rLz [(73, _)] rfl gv1 ⟨rfl, rfl, trivial⟩ (fun g9_2 => det_lss rfl rfl rfl) rfl <|
     rwp_det rfl rfl (det_or rfl rfl rfl rfl (fun h => (lzf h))) <|
     rwp_nil <|
     awp_cond rfl (fun c4 => ?_) (fun c4 => ?_)
    ·have c4 : (decide (2147483647 < s.gX x.B) || decide (s.gX x.B < -2147483647)) = true := c4
     refine sReg rfl <|
      rMv rfl <|
      rwp_nil <|
      awp_ret <|
      fin1 (rs_c rfl) ?_
     rw [show cptM s x = (s, 3) by rw [cptm2 (by rw [cptv4 c3 c4]; decide), cptv4 c3 c4]]
     exact ⟨rfl, [_, _], rfl⟩
    ·have c4 : (decide (2147483647 < s.gX x.B) || decide (s.gX x.B < -2147483647)) = false := c4
     refine awp_skip <|
      awp_region rfl <|
      rMv rfl <|
      rwp_det rfl rfl (det_build rfl zr33 pl33 rfl) <|
      rwp_det0 rfl rfl (det_store rfl sz33 rfl rfl rfl (st_row 0 rfl rfl)) <|
      rwp_nil <|
      awp_seq <|
      sReg rfl <|
      rMv rfl <|
      rwp_det rfl rfl (det_eql rfl rfl rfl) <|
      rwp_nil <|
      awp_cond rfl (fun c5 => ?_) (fun c5 => ?_)
     ·try simp only [sx] at c5
      have hv := cptv5 c3 c4
      refine awp_draw 7 mixed (by kernel_rfl) rfl rfl <|
       td_det rfl rfl (det_move rfl rfl) <|
       td_det rfl rfl (det_field_lit rfl fd50_1 rfl) <|
       td_det rfl rfl (det_load_one rfl one3 rfl (ptr_row 1 rfl) rfl) <|
       td_det rfl rfl (det_load_agg rfl agg33 rfl (ptr_row 0 rfl) rfl) <|
       td_det rfl rfl (det_nilcheck_ptr rfl rfl) <|
       td_det rfl rfl (det_field_lit rfl fd36_5 rfl) <|
       td_det rfl rfl (det_arr_lit rfl ar34 rfl rfl (by omega) (by omega)) <|
       td_nil <|
       rwp_det0 rfl rfl (det_store rfl sz33 rfl rfl rfl (st_rowE 2 rfl (by rw [mc_len hs]; show 0 + 260 + x.A.toNat * 2 + 2 ≤ 774; omega) (mc_sR hs (⟨s.gX x.B, 1⟩) (by omega) (by omega)))) <|
       rwp_nil <|
       sReg rfl <|
       rMv rfl <|
       rMv rfl <|
       rwp_nil <|
       awp_ret <|
       fin1 (rs_c rfl) ?_
      rw [cptm1 (by rw [hv]), hv]
      exact ⟨rfl, [_, _], rfl⟩
     ·try simp only [sx] at c5
      have hv := cptv5 c3 c4
      refine awp_skip <|
       sReg rfl <|
       rMv rfl <|
       rMv rfl <|
       rwp_nil <|
       awp_ret <|
       fin1 (rs_c rfl) ?_
      exact absurd trivial c5
   ·try simp only [sx] at c3
    refine awp_skip <|
     awp_seq <|
     sReg rfl <|
     rMv rfl <|
     rwp_det rfl rfl (det_eql rfl rfl rfl) <|
     rwp_nil <|
     awp_cond rfl (fun c5 => ?_) (fun c5 => ?_)
    ·try simp only [sx] at c5
     have hv := cptv1 (s := s) (show x.Op = 9 by omega)
     refine awp_draw 7 mixed (by kernel_rfl) rfl rfl <|
      td_det rfl rfl (det_move rfl rfl) <|
      td_det rfl rfl (det_field_lit rfl fd50_1 rfl) <|
      td_det rfl rfl (det_load_one rfl one3 rfl (ptr_row 1 rfl) rfl) <|
      td_det rfl rfl (det_load_agg rfl agg33 rfl (ptr_row 0 rfl) rfl) <|
      td_det rfl rfl (det_nilcheck_ptr rfl rfl) <|
      td_det rfl rfl (det_field_lit rfl fd36_5 rfl) <|
      td_det rfl rfl (det_arr_lit rfl ar34 rfl rfl (by omega) (by omega)) <|
      td_nil <|
      rwp_det0 rfl rfl (det_store rfl sz33 rfl rfl rfl (st_rowE 2 rfl (by rw [mc_len hs]; show 0 + 260 + x.A.toNat * 2 + 2 ≤ 774; omega) (mc_sR hs (x.Val) (by omega) (by omega)))) <|
      rwp_nil <|
      sReg rfl <|
      rMv rfl <|
      rMv rfl <|
      rwp_nil <|
      awp_ret <|
      fin1 (rs_c rfl) ?_
     rw [cptm1 (by rw [hv]), hv]
     exact ⟨rfl, [_, _], rfl⟩
    ·try simp only [sx] at c5
     have hv := cptv1 (s := s) (show x.Op = 9 by omega)
     refine awp_skip <|
      sReg rfl <|
      rMv rfl <|
      rMv rfl <|
      rwp_nil <|
      awp_ret <|
      fin1 (rs_c rfl) ?_
     exact absurd trivial c5

theorem vm_element (b : Nat) (sv : Value) (s : Mc) (w : Int) (hs : s.Ok w) (x : In) (hx : fmd x = true) (ho : cptB x.Op = true) (hT : x.Op = 13 → x.Val.N < s.tys.length) : Con cfg 23 [vPt b, vIn x] (mcE b sv s) fun r μ' => r = vI (cptM s x).2 ∧ μ' = mcE b sv (cptM s x).1 := Con.drop (vm_element0 b sv s w hs x hx ho hT)
theorem vm_jumps0 (b : Nat) (sv : Value) (s : Mc) (w : Int) (hs : s.Ok w) (x : In) (hx : fmd x = true) (ho : jmpB x.Op = true) :
    Con cfg 21 [vPt b, vIn x] (mcE b sv s) fun r μ' => r = .tup [vB (jmpV s x).1, vI (jmpV s x).2] ∧ ∃ ν, μ' = ν ++ mcE b sv s := by
 refine con_intro Tryd.func21 rfl Tryd.ntmps21 Tryd.results21 rfl ?_
 intro z hz
 obtain ⟨⟨a1, a2⟩, fB, fC, fo⟩ := jmp_facts hx ho
 refine sReg rfl <|
  rwp_op rfl rfl (ope_box rfl rfl) ?_
 rintro _ _ ⟨b1, rfl, rfl⟩
 refine rMv rfl <|
  rMv rfl <|
  rwp_nil <|
  awp_seq <|
  sReg rfl <|
  rwp_det rfl rfl (det_field_lit rfl fd50_0 rfl) <|
  rwp_det rfl rfl (det_load_one rfl one3 rfl (ptr_row 0 rfl) rfl) <|
  rwp_nil <|
  awp_block <|
  sReg rfl <|
  rwp_det rfl rfl (det_eql rfl rfl rfl) <|
  rMv rfl <|
  rwp_nil <|
  awp_cond rfl (fun c1 => ?_) (fun c1 => ?_)
 ·try simp only [sx] at c1
  refine sReg rfl <|
   rMv rfl <|
   rMv rfl <|
   rwp_nil <|
   awp_ret <|
   fin2 (rs_c rfl) (rs_c rfl) ?_
  rw [jmpv1 c1]
  exact ⟨rfl, [_], rfl⟩
 ·try simp only [sx] at c1
  refine sReg rfl <|
   rwp_det rfl rfl (det_eql rfl rfl rfl) <|
   rMv rfl <|
   rwp_nil <|
   awp_cond rfl (fun c2 => ?_) (fun c2 => ?_)
  ·try simp only [sx] at c2
   obtain ⟨⟨b1, b2⟩, d1, d2⟩ := fB (by omega)
   refine awp_seq <|
    awp_draw 17 mixed (by kernel_rfl) rfl rfl <|
    td_det rfl rfl (det_move rfl rfl) <|
    td_det rfl rfl (det_field_lit rfl fd50_2 rfl) <|
    td_det rfl rfl (det_load_one rfl one3 rfl (ptr_row 0 rfl) rfl) <|
    td_det rfl rfl (det_nilcheck_ptr rfl rfl) <|
    td_det rfl rfl (det_field_lit rfl fd36_4 rfl) <|
    td_det rfl rfl (det_arr_lit rfl ar31 rfl rfl (by omega) (by omega)) <|
    td_det rfl rfl (det_load_one rfl one2 rfl (ptr_row 1 rfl) (mc_X hs (by omega) (by omega))) <|
    td_det rfl rfl (det_move rfl rfl) <|
    td_det rfl rfl (det_field_lit rfl fd50_3 rfl) <|
    td_det rfl rfl (det_load_one rfl one3 rfl (ptr_row 0 rfl) rfl) <|
    td_det rfl rfl (det_nilcheck_ptr rfl rfl) <|
    td_det rfl rfl (det_field_lit rfl fd36_4 rfl) <|
    td_det rfl rfl (det_arr_lit rfl ar31 rfl rfl (by omega) (by omega)) <|
    td_det rfl rfl (det_load_one rfl one2 rfl (ptr_row 1 rfl) (mc_X hs (by omega) (by omega))) <|
    td_det rfl rfl (det_lss rfl rfl rfl) <|
    td_det rfl rfl (det_assign rfl rfl) <|
    td_det rfl rfl (det_assign rfl rfl) <|
    td_nil <|
    rwp_nil <|
    awp_ret <|
    fin2 (rs_c rfl) (rs_c rfl) ?_
   rw [jmpv2 c2]
   exact ⟨rfl, [_], rfl⟩
  ·try simp only [sx] at c2
   obtain ⟨⟨b1, b2⟩, d1, d2⟩ := fB (by omega)
   have h14 : x.Op = 14 := by omega
   have hN := fC h14
   refine awp_skip <|
    awp_seq <|
    awp_draw_c 17 2 [⟨0, .q []⟩, ⟨1, .q []⟩, ⟨2, .q [2]⟩, ⟨3, .q []⟩, ⟨4, .q []⟩, ⟨5, .q []⟩, ⟨6, .q [3]⟩, ⟨7, .q []⟩, ⟨8, .q []⟩, ⟨9, .q [2]⟩, ⟨10, .q []⟩, ⟨11, .q []⟩, ⟨12, .q []⟩, ⟨13, .q [3]⟩, ⟨14, .f 1⟩, ⟨15, .f 0⟩, ⟨16, .g 1 []⟩] mixed (by kernel_rfl) (by kernel_rfl) rfl rfl rfl <|
    fx_skip rfl <|
    fx_skip rfl <|
    fx_skip rfl <|
    fx_skip rfl <|
    fx_skip rfl <|
    fx_skip rfl <|
    fx_skip rfl <|
    fx_skip rfl <|
    fx_skip rfl <|
    fx_skip rfl <|
    fx_skip rfl <|
    fx_skip rfl <|
    fx_skip rfl <|
    fx_skip rfl <|
    fx_fresh rfl rfl (fresh_alloc' (ope_alloc rfl zr33)) ⟨_, _, 0, rfl, rfl⟩ <|
    fx_fresh rfl rfl (fresh_alloc' (ope_alloc rfl zr33)) ⟨_, _, 0, rfl, rfl⟩ <|
    fx_skip rfl <|
    fx_nil <|
    sq_det rfl (by decide) rfl rfl (det_move rfl rfl) <|
    sq_det rfl (by decide) rfl rfl (det_field_lit rfl fd50_2 rfl) <|
    sq_det rfl (by decide) rfl rfl (det_load_one rfl one3 rfl (ptr_row 0 rfl) rfl) <|
    sq_det rfl (by decide) rfl rfl (det_nilcheck_ptr rfl rfl) <|
    sq_det rfl (by decide) rfl rfl (det_field_lit rfl fd36_5 rfl) <|
    sq_det rfl (by decide) rfl rfl (det_arr_lit rfl ar34 rfl rfl (by omega) (by omega)) <|
    sq_det rfl (by decide) rfl rfl (det_load_aggE rfl agg33 rfl (ptr_row 0 rfl) (mc_R hs (by omega) (by omega)) rfl) <|
    sq_det rfl (by decide) rfl rfl (det_move rfl rfl) <|
    sq_det rfl (by decide) rfl rfl (det_field_lit rfl fd50_3 rfl) <|
    sq_det rfl (by decide) rfl rfl (det_load_one rfl one3 rfl (ptr_row 0 rfl) rfl) <|
    sq_det rfl (by decide) rfl rfl (det_nilcheck_ptr rfl rfl) <|
    sq_det rfl (by decide) rfl rfl (det_field_lit rfl fd36_5 rfl) <|
    sq_det rfl (by decide) rfl rfl (det_arr_lit rfl ar34 rfl rfl (by omega) (by omega)) <|
    sq_det rfl (by decide) rfl rfl (det_load_aggE rfl agg33 rfl (ptr_row 0 rfl) (mc_R hs (by omega) (by omega)) rfl) <|
    sq_fresh rfl rfl ?_
   rintro _ _ ⟨b2, rfl, rfl⟩
   refine sq_fresh rfl rfl ?_
   rintro _ _ ⟨b3, rfl, rfl⟩
   refine sq_v0 rfl rfl (by decide) rfl rfl rfl (det_store rfl sz33 rfl rfl rfl (st_row 0 rfl rfl)) rfl <|
    sq_nil rfl <|
    rwp_det0 rfl rfl (det_store rfl sz33 rfl rfl rfl (st_row 0 rfl rfl)) <|
    rwp_nil <|
    awp_seq <|
    sReg rfl <|
    rwp_det rfl rfl (det_field_lit rfl fd50_5 rfl) <|
    rwp_det rfl rfl (det_load_agg rfl agg48 rfl (ptr_row 2 rfl) rfl) <|
    rwp_det rfl rfl (det_load_agg rfl agg33 rfl (ptr_row 1 rfl) rfl) <|
    rwp_det rfl rfl (det_call rfl ok31 (value_Valid x.Ty (s.gR x.B)) ⟨VLe.refl _, rfl, VLe.refl _, rfl, trivial⟩) <|
    rwp_det rfl rfl (det_not rfl rfl) <|
    rMv rfl <|
    rLz [] rfl gv1 trivial (fun g7_5 => det_field_lit rfl fd50_5 rfl) rfl <|
    rLz [(50, _)] rfl gv1 ⟨rfl, rfl, trivial⟩ (fun g7_5 => det_load_agg rfl agg48 rfl (ptr_row 2 rfl) rfl) rfl <|
    rLz [] rfl gv1 trivial (fun g7_5 => det_load_agg rfl agg33 rfl (ptr_row 0 rfl) rfl) rfl <|
    rLz [(51, _), (52, _)] rfl gv1 ⟨rfl, rfl, rfl, rfl, trivial⟩ (fun g7_5 => det_call rfl ok31 (value_Valid x.Ty (s.gR x.C)) ⟨VLe.refl _, rfl, VLe.refl _, rfl, trivial⟩) rfl <|
    rLz [(53, _)] rfl gv1 ⟨rfl, rfl, trivial⟩ (fun g7_5 => det_not rfl rfl) rfl <|
    rwp_det rfl rfl (det_or rfl rfl rfl rfl (fun h => (lzf h))) <|
    rwp_nil <|
    awp_cond rfl (fun c3 => ?_) (fun c3 => ?_)
   ·have c3 : (!(tyOk x.Ty && valOk x.Ty (s.gR x.B)) || !(tyOk x.Ty && valOk x.Ty (s.gR x.C))) = true := c3
    refine sReg rfl <|
     rMv rfl <|
     rMv rfl <|
     rwp_nil <|
     awp_ret <|
     fin2 (rs_c rfl) (rs_c rfl) ?_
    rw [jmpv3 h14 c3]
    exact ⟨rfl, [_, _, _], rfl⟩
   ·have c3 : (!(tyOk x.Ty && valOk x.Ty (s.gR x.B)) || !(tyOk x.Ty && valOk x.Ty (s.gR x.C))) = false := c3
    refine awp_skip <|
     sReg rfl <|
     rwp_det rfl rfl (det_field_lit rfl fd50_5 rfl) <|
     rwp_det rfl rfl (det_load_agg rfl agg48 rfl (ptr_row 2 rfl) rfl) <|
     rwp_det rfl rfl (det_load_agg rfl agg33 rfl (ptr_row 1 rfl) rfl) <|
     rwp_det rfl rfl (det_load_agg rfl agg33 rfl (ptr_row 0 rfl) rfl) <|
     rwp_det rfl rfl (det_call rfl ok32 (value_Compare x.Ty (s.gR x.B) (s.gR x.C)) ⟨VLe.refl _, rfl, VLe.refl _, rfl, VLe.refl _, rfl, trivial⟩) <|
     rMv rfl <|
     rwp_nil <|
     awp_seq <|
     sReg rfl <|
     rwp_det rfl rfl (det_field_lit rfl fd50_4 rfl) <|
     rwp_det rfl rfl (det_field_lit rfl fd33_0 rfl) <|
     rwp_det rfl rfl (det_load_one rfl one2 rfl (ptr_row 2 rfl) rfl) <|
     rwp_nil <|
     awp_block <|
     sReg rfl <|
     rwp_det rfl rfl (det_eql rfl rfl rfl) <|
     rMv rfl <|
     rwp_nil <|
     awp_cond rfl (fun c4 => ?_) (fun c4 => ?_)
    ·try simp only [sx] at c4
     refine sReg rfl <|
      rMv rfl <|
      rwp_det rfl rfl (det_geq rfl rfl rfl) <|
      rMv rfl <|
      rMv rfl <|
      rwp_nil <|
      awp_ret <|
      fin2 (rs_c rfl) (rs_c rfl) ?_
     rw [jmpv4 h14 c3]
     exact ⟨congrArg (fun q => V.tup [vB q, vI 0]) (jmp13 c4), [_, _, _], rfl⟩
    ·try simp only [sx] at c4
     refine sReg rfl <|
      rwp_det rfl rfl (det_eql rfl rfl rfl) <|
      rMv rfl <|
      rwp_nil <|
      awp_cond rfl (fun c5 => ?_) (fun c5 => ?_)
     ·try simp only [sx] at c5
      refine sReg rfl <|
       rMv rfl <|
       rwp_det rfl rfl (det_gtr rfl rfl rfl) <|
       rMv rfl <|
       rMv rfl <|
       rwp_nil <|
       awp_ret <|
       fin2 (rs_c rfl) (rs_c rfl) ?_
      rw [jmpv4 h14 c3]
      exact ⟨congrArg (fun q => V.tup [vB q, vI 0]) (jmp14 c5), [_, _, _], rfl⟩
     ·try simp only [sx] at c5
      refine awp_skip <|
       sReg rfl <|
       rMv rfl <|
       rwp_det rfl rfl (det_neq rfl rfl rfl) <|
       rMv rfl <|
       rMv rfl <|
       rwp_nil <|
       awp_ret <|
       fin2 (rs_c rfl) (rs_c rfl) ?_
      rw [jmpv4 h14 c3]
      exact ⟨congrArg (fun q => V.tup [vB q, vI 0]) (jmp15 (by omega)), [_, _, _], rfl⟩

theorem vm_jumps (b : Nat) (sv : Value) (s : Mc) (w : Int) (hs : s.Ok w) (x : In) (hx : fmd x = true) (ho : jmpB x.Op = true) : Con cfg 21 [vPt b, vIn x] (mcE b sv s) fun r μ' => r = .tup [vB (jmpV s x).1, vI (jmpV s x).2] ∧ μ' = mcE b sv s := Con.drop (vm_jumps0 b sv s w hs x hx ho)
theorem vm_Step0 (b : Nat) (sv : Value) (s : Mc) (w : Int) (hs : s.Ok w)  :
    Con cfg 11 [vPt b] (mcE b sv s) fun r μ' => r = .tup [vB (stepM s).2.1, vI (stepM s).2.2] ∧ ∃ ν, μ' = ν ++ mcE b sv (stepM s).1 := by
 refine con_intro Tryd.func11 rfl Tryd.ntmps11 Tryd.results11 rfl ?_
 intro z hz
 refine sReg rfl <|
  rMv rfl <|
  rMv rfl <|
  rwp_nil <|
  awp_seq <|
  awp_block <|
  sReg rfl <|
  rMv rfl <|
  rwp_det rfl rfl (det_call_same [0, 0] rfl ok14 (vm_ready b sv s w hs) ⟨VLe.refl _, rfl, trivial⟩ rfl) <|
  rwp_det rfl rfl (det_not rfl rfl) <|
  rMv rfl <|
  rwp_nil <|
  awp_cond rfl (fun c1 => ?_) (fun c1 => ?_)
 ·try simp only [sx] at c1
  exact absurd c1 (by simp)
 ·try simp only [sx] at c1
  refine sReg rfl <|
   rMv rfl <|
   rwp_det rfl rfl (det_nilcheck_ptr rfl rfl) <|
   rwp_det rfl rfl (det_field_lit rfl fd36_7 rfl) <|
   rwp_det rfl rfl (det_load_one rfl one4 rfl (ptr_row 0 rfl) (mc_hl hs)) <|
   rMv rfl <|
   rwp_nil <|
   awp_cond rfl (fun c2 => ?_) (fun c2 => ?_)
  ·try simp only [sx] at c2
   refine sReg rfl <|
    rMv rfl <|
    rMv rfl <|
    rwp_nil <|
    awp_ret <|
    fin2 (rs_c rfl) (rs_c rfl) ?_
   rw [stepM1 c2]
   exact ⟨rfl, [], rfl⟩
  ·try simp only [sx] at c2
   have hl0 : s.hl = false := by simpa using c2
   refine awp_seq <|
    awp_draw 11 mixed (by kernel_rfl) rfl rfl <|
    td_det rfl rfl (det_move rfl rfl) <|
    td_det rfl rfl (det_nilcheck_ptr rfl rfl) <|
    td_det rfl rfl (det_field_lit rfl fd36_6 rfl) <|
    td_det rfl rfl (det_load_one rfl one3 rfl (ptr_row 0 rfl) (mc_pc hs)) <|
    td_det rfl rfl (det_move rfl rfl) <|
    td_det rfl rfl (det_nilcheck_ptr rfl rfl) <|
    td_det rfl rfl (det_field_lit rfl fd36_1 rfl) <|
    td_det rfl rfl (det_load_one rfl one29 rfl (ptr_row 0 rfl) rfl) <|
    td_det rfl rfl (det_len_slm rfl el29 rfl) <|
    td_det rfl rfl (det_geq rfl rfl rfl) <|
    td_det rfl rfl (det_assign rfl rfl) <|
    td_nil <|
    rwp_nil <|
    awp_cond rfl (fun c3 => ?_) (fun c3 => ?_)
   ·try simp only [sx] at c3
    refine sReg rfl <|
     rMv rfl <|
     rMv rfl <|
     rwp_nil <|
     awp_ret <|
     fin2 (rs_c rfl) (rs_c rfl) ?_
    rw [stepM2 hl0 c3]
    exact ⟨rfl, [], rfl⟩
   ·try simp only [sx] at c3
    have h3 : ¬ (s.code.length : Int) ≤ s.pc := by omega
    obtain ⟨hget, hok⟩ := hs.insOk (by omega)
    obtain ⟨hf, hJ, hMm, hT⟩ := inOk_fmd hok
    have hpc := hs.hp
    have hcl := hs.hn
    refine awp_skip <|
     awp_seq <|
     awp_draw_c 11 1 [⟨0, .q []⟩, ⟨1, .q []⟩, ⟨2, .q []⟩, ⟨3, .q [1]⟩, ⟨4, .q []⟩, ⟨5, .q []⟩, ⟨6, .q []⟩, ⟨7, .q [1]⟩, ⟨8, .q []⟩, ⟨9, .q []⟩, ⟨10, .f 0⟩] mixed (by kernel_rfl) (by kernel_rfl) rfl rfl rfl <|
     fx_skip rfl <|
     fx_skip rfl <|
     fx_skip rfl <|
     fx_skip rfl <|
     fx_skip rfl <|
     fx_skip rfl <|
     fx_skip rfl <|
     fx_skip rfl <|
     fx_skip rfl <|
     fx_skip rfl <|
     fx_fresh rfl rfl (fresh_alloc' (ope_alloc rfl zr50)) ⟨_, _, 0, rfl, rfl⟩ <|
     fx_nil <|
     sq_det rfl (by decide) rfl rfl (det_move rfl rfl) <|
     sq_det rfl (by decide) rfl rfl (det_nilcheck_ptr rfl rfl) <|
     sq_det rfl (by decide) rfl rfl (det_field_lit rfl fd36_1 rfl) <|
     sq_det rfl (by decide) rfl rfl (det_load_one rfl one29 rfl (ptr_row 0 rfl) rfl) <|
     sq_det rfl (by decide) rfl rfl (det_move rfl rfl) <|
     sq_det rfl (by decide) rfl rfl (det_nilcheck_ptr rfl rfl) <|
     sq_det rfl (by decide) rfl rfl (det_field_lit rfl fd36_6 rfl) <|
     sq_det rfl (by decide) rfl rfl (det_load_one rfl one3 rfl (ptr_row 0 rfl) (mc_pc hs)) <|
     sq_det rfl (by decide) rfl rfl (det_index_sl rfl el29 rfl rfl (by have := hs.hp; omega) (getm hget)) <|
     sq_det rfl (by decide) rfl rfl (det_load_agg rfl agg50 rfl ptr_imm rfl) <|
     sq_fresh rfl rfl ?_
    rintro _ _ ⟨b1, rfl, rfl⟩
    refine sq_nil rfl <|
     rwp_det0 rfl rfl (det_store rfl sz50 rfl rfl rfl (st_row 0 rfl rfl)) <|
     rwp_nil <|
     sReg rfl <|
     rMv rfl <|
     rwp_det rfl rfl (det_nilcheck_ptr rfl rfl) <|
     rwp_det rfl rfl (det_field_lit rfl fd36_6 rfl) <|
     rwp_det rfl rfl (det_load_one rfl one3 rfl (ptr_row 1 rfl) (mc_pc hs)) <|
     rwp_det rfl rfl (det_add_nw rfl rfl rfl ⟨by omega, by omega⟩) <|
     rMv rfl <|
     rwp_nil <|
     sReg rfl <|
     rMv rfl <|
     rwp_nil <|
     awp_seq <|
     sReg rfl <|
     rwp_det rfl rfl (det_field_lit rfl fd50_0 rfl) <|
     rwp_det rfl rfl (det_load_one rfl one3 rfl (ptr_row 0 rfl) rfl) <|
     rwp_nil <|
     awp_block <|
     sReg rfl <|
     rwp_det rfl rfl (det_eql rfl rfl rfl) <|
     rMv rfl <|
     rwp_nil <|
     awp_cond rfl (fun c4 => ?_) (fun c4 => ?_)
    ·try simp only [sx] at c4
     refine sReg rfl <|
      rMv rfl <|
      rwp_det rfl rfl (det_nilcheck_ptr rfl rfl) <|
      rwp_det rfl rfl (det_field_lit rfl fd36_7 rfl) <|
      rwp_det0 rfl rfl (det_store rfl sz4 rfl rfl rfl (st_rowE 1 rfl (by rw [mc_len hs]; show 0 + 773 + 1 ≤ 774; omega) (mc_sHL hs))) <|
      rwp_nil <|
      sReg rfl <|
      rMv rfl <|
      rMv rfl <|
      rwp_nil <|
      awp_ret <|
      fin2 (rs_c rfl) (rs_c rfl) ?_
     rw [stepM3 hl0 h3 c4]
     exact ⟨rfl, [_], rfl⟩
    ·try simp only [sx] at c4
     refine awp_seq <|
      sReg rfl <|
      rwp_det rfl rfl (det_eql rfl rfl rfl) <|
      rMv rfl <|
      rwp_nil <|
      awp_cond rfl (fun c5 => ?_) (fun c5 => ?_)
     ·try simp only [sx] at c5
      refine awp_skip <|
       awp_cond rfl (fun c7 => ?_) (fun c7 => ?_)
      ·try simp only [sx] at c7
       have hj : jmpB s.ins.Op = true := by simp [jmpB]; omega
       refine sReg rfl <|
        rMv rfl <|
        rwp_nil <|
        sReg rfl <|
        rMv rfl <|
        rwp_det rfl rfl (det_load_agg rfl agg50 rfl (ptr_row 0 rfl) rfl) <|
        rwp_det rfl rfl (det_call_same [1, 1] rfl ok21 (vm_jumps b sv s w hs s.ins hf hj) ⟨VLe.refl _, rfl, VLe.refl _, rfl, trivial⟩ rfl) <|
        rwp_det rfl rfl (det_move_tup rfl rfl) <|
        rwp_det rfl rfl (det_ex_c rfl rfl rfl) <|
        rwp_det rfl rfl (det_ex_c rfl rfl rfl) <|
        rMv rfl <|
        rMv rfl <|
        rwp_nil <|
        sReg rfl <|
        rMv rfl <|
        rwp_nil <|
        awp_cond rfl (fun c8 => ?_) (fun c8 => ?_)
       ·try simp only [sx] at c8
        refine awp_region rfl <|
         rwp_det rfl rfl (det_field_lit rfl fd50_1 rfl) <|
         rwp_det rfl rfl (det_load_one rfl one3 rfl (ptr_row 0 rfl) rfl) <|
         rMv rfl <|
         rwp_nil <|
         awp_seq <|
         sReg rfl <|
         rMv rfl <|
         rwp_det rfl rfl (det_neq rfl rfl rfl) <|
         rwp_nil <|
         awp_cond rfl (fun c15 => ?_) (fun c15 => ?_)
        ·try simp only [sx] at c15
         have hd := doM1 (s := s) hj
         refine sReg rfl <|
          rMv rfl <|
          rMv rfl <|
          rMv rfl <|
          rwp_nil <|
          awp_ret <|
          fin2 (rs_c rfl) (rs_c rfl) ?_
         rw [stepM5 hl0 h3 c4 hd c15]
         exact ⟨rfl, [_], rfl⟩
        ·try simp only [sx] at c15
         have hd := doM1 (s := s) hj
         have hd0 : doM s s.ins = (s, 0) := by rw [hd]; rw [c15]
         have hs2 := doM_ok hs s.ins
         rw [hd0] at hs2
         have hnx : nextM s s.ins = s.ins.A := next1 hj c8
         refine awp_skip <|
          sReg rfl <|
          rMv rfl <|
          rMv rfl <|
          rwp_det rfl rfl (det_nilcheck_ptr rfl rfl) <|
          rwp_det rfl rfl (det_field_lit rfl fd36_6 rfl) <|
          rwp_det0 rfl rfl (det_store rfl sz3 rfl rfl rfl (st_rowE 1 rfl (by rw [mc_len hs2]; show 0 + 772 + 1 ≤ 774; omega) (mc_sPC hs2 _))) <|
          rwp_nil <|
          sReg rfl <|
          rMv rfl <|
          rMv rfl <|
          rwp_nil <|
          awp_ret <|
          fin2 (rs_c rfl) (rs_c rfl) ?_
         rw [stepM4 hl0 h3 c4 hd0 hnx]
         exact ⟨rfl, [_], rfl⟩
       ·try simp only [sx] at c8
        refine awp_skip <|
         awp_seq <|
         sReg rfl <|
         rMv rfl <|
         rwp_det rfl rfl (det_neq rfl rfl rfl) <|
         rwp_nil <|
         awp_cond rfl (fun c15 => ?_) (fun c15 => ?_)
        ·try simp only [sx] at c15
         have hd := doM1 (s := s) hj
         refine sReg rfl <|
          rMv rfl <|
          rMv rfl <|
          rMv rfl <|
          rwp_nil <|
          awp_ret <|
          fin2 (rs_c rfl) (rs_c rfl) ?_
         rw [stepM5 hl0 h3 c4 hd c15]
         exact ⟨rfl, [_], rfl⟩
        ·try simp only [sx] at c15
         have hd := doM1 (s := s) hj
         have hd0 : doM s s.ins = (s, 0) := by rw [hd]; rw [c15]
         have hs2 := doM_ok hs s.ins
         rw [hd0] at hs2
         have hnx : nextM s s.ins = s.pc + 1 := next2 (by simpa using c8)
         refine awp_skip <|
          sReg rfl <|
          rMv rfl <|
          rMv rfl <|
          rwp_det rfl rfl (det_nilcheck_ptr rfl rfl) <|
          rwp_det rfl rfl (det_field_lit rfl fd36_6 rfl) <|
          rwp_det0 rfl rfl (det_store rfl sz3 rfl rfl rfl (st_rowE 1 rfl (by rw [mc_len hs2]; show 0 + 772 + 1 ≤ 774; omega) (mc_sPC hs2 _))) <|
          rwp_nil <|
          sReg rfl <|
          rMv rfl <|
          rMv rfl <|
          rwp_nil <|
          awp_ret <|
          fin2 (rs_c rfl) (rs_c rfl) ?_
         rw [stepM4 hl0 h3 c4 hd0 hnx]
         exact ⟨rfl, [_], rfl⟩
      ·try simp only [sx] at c7
       exact absurd c5 c7
     ·try simp only [sx] at c5
      refine sReg rfl <|
       rwp_det rfl rfl (det_eql rfl rfl rfl) <|
       rMv rfl <|
       rwp_nil <|
       awp_cond rfl (fun c6 => ?_) (fun c6 => ?_)
      ·try simp only [sx] at c6
       refine awp_skip <|
        awp_cond rfl (fun c7 => ?_) (fun c7 => ?_)
       ·try simp only [sx] at c7
        have hj : jmpB s.ins.Op = true := by simp [jmpB]; omega
        refine sReg rfl <|
         rMv rfl <|
         rwp_nil <|
         sReg rfl <|
         rMv rfl <|
         rwp_det rfl rfl (det_load_agg rfl agg50 rfl (ptr_row 0 rfl) rfl) <|
         rwp_det rfl rfl (det_call_same [1, 1] rfl ok21 (vm_jumps b sv s w hs s.ins hf hj) ⟨VLe.refl _, rfl, VLe.refl _, rfl, trivial⟩ rfl) <|
         rwp_det rfl rfl (det_move_tup rfl rfl) <|
         rwp_det rfl rfl (det_ex_c rfl rfl rfl) <|
         rwp_det rfl rfl (det_ex_c rfl rfl rfl) <|
         rMv rfl <|
         rMv rfl <|
         rwp_nil <|
         sReg rfl <|
         rMv rfl <|
         rwp_nil <|
         awp_cond rfl (fun c8 => ?_) (fun c8 => ?_)
        ·try simp only [sx] at c8
         refine awp_region rfl <|
          rwp_det rfl rfl (det_field_lit rfl fd50_1 rfl) <|
          rwp_det rfl rfl (det_load_one rfl one3 rfl (ptr_row 0 rfl) rfl) <|
          rMv rfl <|
          rwp_nil <|
          awp_seq <|
          sReg rfl <|
          rMv rfl <|
          rwp_det rfl rfl (det_neq rfl rfl rfl) <|
          rwp_nil <|
          awp_cond rfl (fun c15 => ?_) (fun c15 => ?_)
         ·try simp only [sx] at c15
          have hd := doM1 (s := s) hj
          refine sReg rfl <|
           rMv rfl <|
           rMv rfl <|
           rMv rfl <|
           rwp_nil <|
           awp_ret <|
           fin2 (rs_c rfl) (rs_c rfl) ?_
          rw [stepM5 hl0 h3 c4 hd c15]
          exact ⟨rfl, [_], rfl⟩
         ·try simp only [sx] at c15
          have hd := doM1 (s := s) hj
          have hd0 : doM s s.ins = (s, 0) := by rw [hd]; rw [c15]
          have hs2 := doM_ok hs s.ins
          rw [hd0] at hs2
          have hnx : nextM s s.ins = s.ins.A := next1 hj c8
          refine awp_skip <|
           sReg rfl <|
           rMv rfl <|
           rMv rfl <|
           rwp_det rfl rfl (det_nilcheck_ptr rfl rfl) <|
           rwp_det rfl rfl (det_field_lit rfl fd36_6 rfl) <|
           rwp_det0 rfl rfl (det_store rfl sz3 rfl rfl rfl (st_rowE 1 rfl (by rw [mc_len hs2]; show 0 + 772 + 1 ≤ 774; omega) (mc_sPC hs2 _))) <|
           rwp_nil <|
           sReg rfl <|
           rMv rfl <|
           rMv rfl <|
           rwp_nil <|
           awp_ret <|
           fin2 (rs_c rfl) (rs_c rfl) ?_
          rw [stepM4 hl0 h3 c4 hd0 hnx]
          exact ⟨rfl, [_], rfl⟩
        ·try simp only [sx] at c8
         refine awp_skip <|
          awp_seq <|
          sReg rfl <|
          rMv rfl <|
          rwp_det rfl rfl (det_neq rfl rfl rfl) <|
          rwp_nil <|
          awp_cond rfl (fun c15 => ?_) (fun c15 => ?_)
         ·try simp only [sx] at c15
          have hd := doM1 (s := s) hj
          refine sReg rfl <|
           rMv rfl <|
           rMv rfl <|
           rMv rfl <|
           rwp_nil <|
           awp_ret <|
           fin2 (rs_c rfl) (rs_c rfl) ?_
          rw [stepM5 hl0 h3 c4 hd c15]
          exact ⟨rfl, [_], rfl⟩
         ·try simp only [sx] at c15
          have hd := doM1 (s := s) hj
          have hd0 : doM s s.ins = (s, 0) := by rw [hd]; rw [c15]
          have hs2 := doM_ok hs s.ins
          rw [hd0] at hs2
          have hnx : nextM s s.ins = s.pc + 1 := next2 (by simpa using c8)
          refine awp_skip <|
           sReg rfl <|
           rMv rfl <|
           rMv rfl <|
           rwp_det rfl rfl (det_nilcheck_ptr rfl rfl) <|
           rwp_det rfl rfl (det_field_lit rfl fd36_6 rfl) <|
           rwp_det0 rfl rfl (det_store rfl sz3 rfl rfl rfl (st_rowE 1 rfl (by rw [mc_len hs2]; show 0 + 772 + 1 ≤ 774; omega) (mc_sPC hs2 _))) <|
           rwp_nil <|
           sReg rfl <|
           rMv rfl <|
           rMv rfl <|
           rwp_nil <|
           awp_ret <|
           fin2 (rs_c rfl) (rs_c rfl) ?_
          rw [stepM4 hl0 h3 c4 hd0 hnx]
          exact ⟨rfl, [_], rfl⟩
       ·try simp only [sx] at c7
        exact absurd c6 c7
      ·try simp only [sx] at c6
       refine awp_region rfl <|
        rwp_det rfl rfl (det_eql rfl rfl rfl) <|
        rMv rfl <|
        rwp_nil <|
        awp_cond rfl (fun c7 => ?_) (fun c7 => ?_)
       ·try simp only [sx] at c7
        have hj : jmpB s.ins.Op = true := by simp [jmpB]; omega
        refine sReg rfl <|
         rMv rfl <|
         rwp_nil <|
         sReg rfl <|
         rMv rfl <|
         rwp_det rfl rfl (det_load_agg rfl agg50 rfl (ptr_row 0 rfl) rfl) <|
         rwp_det rfl rfl (det_call_same [1, 1] rfl ok21 (vm_jumps b sv s w hs s.ins hf hj) ⟨VLe.refl _, rfl, VLe.refl _, rfl, trivial⟩ rfl) <|
         rwp_det rfl rfl (det_move_tup rfl rfl) <|
         rwp_det rfl rfl (det_ex_c rfl rfl rfl) <|
         rwp_det rfl rfl (det_ex_c rfl rfl rfl) <|
         rMv rfl <|
         rMv rfl <|
         rwp_nil <|
         sReg rfl <|
         rMv rfl <|
         rwp_nil <|
         awp_cond rfl (fun c8 => ?_) (fun c8 => ?_)
        ·try simp only [sx] at c8
         refine awp_region rfl <|
          rwp_det rfl rfl (det_field_lit rfl fd50_1 rfl) <|
          rwp_det rfl rfl (det_load_one rfl one3 rfl (ptr_row 0 rfl) rfl) <|
          rMv rfl <|
          rwp_nil <|
          awp_seq <|
          sReg rfl <|
          rMv rfl <|
          rwp_det rfl rfl (det_neq rfl rfl rfl) <|
          rwp_nil <|
          awp_cond rfl (fun c15 => ?_) (fun c15 => ?_)
         ·try simp only [sx] at c15
          have hd := doM1 (s := s) hj
          refine sReg rfl <|
           rMv rfl <|
           rMv rfl <|
           rMv rfl <|
           rwp_nil <|
           awp_ret <|
           fin2 (rs_c rfl) (rs_c rfl) ?_
          rw [stepM5 hl0 h3 c4 hd c15]
          exact ⟨rfl, [_], rfl⟩
         ·try simp only [sx] at c15
          have hd := doM1 (s := s) hj
          have hd0 : doM s s.ins = (s, 0) := by rw [hd]; rw [c15]
          have hs2 := doM_ok hs s.ins
          rw [hd0] at hs2
          have hnx : nextM s s.ins = s.ins.A := next1 hj c8
          refine awp_skip <|
           sReg rfl <|
           rMv rfl <|
           rMv rfl <|
           rwp_det rfl rfl (det_nilcheck_ptr rfl rfl) <|
           rwp_det rfl rfl (det_field_lit rfl fd36_6 rfl) <|
           rwp_det0 rfl rfl (det_store rfl sz3 rfl rfl rfl (st_rowE 1 rfl (by rw [mc_len hs2]; show 0 + 772 + 1 ≤ 774; omega) (mc_sPC hs2 _))) <|
           rwp_nil <|
           sReg rfl <|
           rMv rfl <|
           rMv rfl <|
           rwp_nil <|
           awp_ret <|
           fin2 (rs_c rfl) (rs_c rfl) ?_
          rw [stepM4 hl0 h3 c4 hd0 hnx]
          exact ⟨rfl, [_], rfl⟩
        ·try simp only [sx] at c8
         refine awp_skip <|
          awp_seq <|
          sReg rfl <|
          rMv rfl <|
          rwp_det rfl rfl (det_neq rfl rfl rfl) <|
          rwp_nil <|
          awp_cond rfl (fun c15 => ?_) (fun c15 => ?_)
         ·try simp only [sx] at c15
          have hd := doM1 (s := s) hj
          refine sReg rfl <|
           rMv rfl <|
           rMv rfl <|
           rMv rfl <|
           rwp_nil <|
           awp_ret <|
           fin2 (rs_c rfl) (rs_c rfl) ?_
          rw [stepM5 hl0 h3 c4 hd c15]
          exact ⟨rfl, [_], rfl⟩
         ·try simp only [sx] at c15
          have hd := doM1 (s := s) hj
          have hd0 : doM s s.ins = (s, 0) := by rw [hd]; rw [c15]
          have hs2 := doM_ok hs s.ins
          rw [hd0] at hs2
          have hnx : nextM s s.ins = s.pc + 1 := next2 (by simpa using c8)
          refine awp_skip <|
           sReg rfl <|
           rMv rfl <|
           rMv rfl <|
           rwp_det rfl rfl (det_nilcheck_ptr rfl rfl) <|
           rwp_det rfl rfl (det_field_lit rfl fd36_6 rfl) <|
           rwp_det0 rfl rfl (det_store rfl sz3 rfl rfl rfl (st_rowE 1 rfl (by rw [mc_len hs2]; show 0 + 772 + 1 ≤ 774; omega) (mc_sPC hs2 _))) <|
           rwp_nil <|
           sReg rfl <|
           rMv rfl <|
           rMv rfl <|
           rwp_nil <|
           awp_ret <|
           fin2 (rs_c rfl) (rs_c rfl) ?_
          rw [stepM4 hl0 h3 c4 hd0 hnx]
          exact ⟨rfl, [_], rfl⟩
       ·try simp only [sx] at c7
        have hjn : jmpB s.ins.Op = false := by simp [jmpB]; omega
        refine awp_seq <|
         sReg rfl <|
         rwp_det rfl rfl (det_eql rfl rfl rfl) <|
         rMv rfl <|
         rwp_nil <|
         awp_cond rfl (fun c9 => ?_) (fun c9 => ?_)
        ·try simp only [sx] at c9
         refine awp_skip <|
          awp_cond rfl (fun c10 => ?_) (fun c10 => ?_)
         ·try simp only [sx] at c10
          have hm : memB s.ins.Op = true := by simp [memB]; omega
          refine awp_region rfl <|
           rMv rfl <|
           rwp_det rfl rfl (det_load_agg rfl agg50 rfl (ptr_row 0 rfl) rfl) <|
           rwp_det rfl rfl (det_call_mem [1, 1] rfl ok22 (vm_memory b sv s w hs s.ins hf hm (hMm hm)) ⟨VLe.refl _, rfl, VLe.refl _, rfl, trivial⟩ rfl) <|
           rMv rfl <|
           rwp_nil <|
           awp_seq <|
           sReg rfl <|
           rMv rfl <|
           rwp_det rfl rfl (det_neq rfl rfl rfl) <|
           rwp_nil <|
           awp_cond rfl (fun c15 => ?_) (fun c15 => ?_)
          ·try simp only [sx] at c15
           have hd := doM2 (s := s) hjn hm
           refine sReg rfl <|
            rMv rfl <|
            rMv rfl <|
            rMv rfl <|
            rwp_nil <|
            awp_ret <|
            fin2 (rs_c rfl) (rs_c rfl) ?_
           rw [stepM5 hl0 h3 c4 hd c15]
           exact ⟨rfl, [_], by rw [memV_err c15]; rfl⟩
          ·try simp only [sx] at c15
           have hd := doM2 (s := s) hjn hm
           have hd0 : doM s s.ins = ((memV s s.ins).1, 0) := by rw [hd]; exact pair0 c15
           have hs2 := doM_ok hs s.ins
           rw [hd0] at hs2
           have hnx : nextM s s.ins = s.pc + 1 := next3 hjn
           refine awp_skip <|
            sReg rfl <|
            rMv rfl <|
            rMv rfl <|
            rwp_det rfl rfl (det_nilcheck_ptr rfl rfl) <|
            rwp_det rfl rfl (det_field_lit rfl fd36_6 rfl) <|
            rwp_det0 rfl rfl (det_store rfl sz3 rfl rfl rfl (st_rowE 1 rfl (by rw [mc_len hs2]; show 0 + 772 + 1 ≤ 774; omega) (mc_sPC hs2 _))) <|
            rwp_nil <|
            sReg rfl <|
            rMv rfl <|
            rMv rfl <|
            rwp_nil <|
            awp_ret <|
            fin2 (rs_c rfl) (rs_c rfl) ?_
           rw [stepM4 hl0 h3 c4 hd0 hnx]
           exact ⟨rfl, [_], rfl⟩
         ·try simp only [sx] at c10
          exact absurd c9 c10
        ·try simp only [sx] at c9
         refine awp_region rfl <|
          rwp_det rfl rfl (det_eql rfl rfl rfl) <|
          rMv rfl <|
          rwp_nil <|
          awp_cond rfl (fun c10 => ?_) (fun c10 => ?_)
         ·try simp only [sx] at c10
          have hm : memB s.ins.Op = true := by simp [memB]; omega
          refine awp_region rfl <|
           rMv rfl <|
           rwp_det rfl rfl (det_load_agg rfl agg50 rfl (ptr_row 0 rfl) rfl) <|
           rwp_det rfl rfl (det_call_mem [1, 1] rfl ok22 (vm_memory b sv s w hs s.ins hf hm (hMm hm)) ⟨VLe.refl _, rfl, VLe.refl _, rfl, trivial⟩ rfl) <|
           rMv rfl <|
           rwp_nil <|
           awp_seq <|
           sReg rfl <|
           rMv rfl <|
           rwp_det rfl rfl (det_neq rfl rfl rfl) <|
           rwp_nil <|
           awp_cond rfl (fun c15 => ?_) (fun c15 => ?_)
          ·try simp only [sx] at c15
           have hd := doM2 (s := s) hjn hm
           refine sReg rfl <|
            rMv rfl <|
            rMv rfl <|
            rMv rfl <|
            rwp_nil <|
            awp_ret <|
            fin2 (rs_c rfl) (rs_c rfl) ?_
           rw [stepM5 hl0 h3 c4 hd c15]
           exact ⟨rfl, [_], by rw [memV_err c15]; rfl⟩
          ·try simp only [sx] at c15
           have hd := doM2 (s := s) hjn hm
           have hd0 : doM s s.ins = ((memV s s.ins).1, 0) := by rw [hd]; exact pair0 c15
           have hs2 := doM_ok hs s.ins
           rw [hd0] at hs2
           have hnx : nextM s s.ins = s.pc + 1 := next3 hjn
           refine awp_skip <|
            sReg rfl <|
            rMv rfl <|
            rMv rfl <|
            rwp_det rfl rfl (det_nilcheck_ptr rfl rfl) <|
            rwp_det rfl rfl (det_field_lit rfl fd36_6 rfl) <|
            rwp_det0 rfl rfl (det_store rfl sz3 rfl rfl rfl (st_rowE 1 rfl (by rw [mc_len hs2]; show 0 + 772 + 1 ≤ 774; omega) (mc_sPC hs2 _))) <|
            rwp_nil <|
            sReg rfl <|
            rMv rfl <|
            rMv rfl <|
            rwp_nil <|
            awp_ret <|
            fin2 (rs_c rfl) (rs_c rfl) ?_
           rw [stepM4 hl0 h3 c4 hd0 hnx]
           exact ⟨rfl, [_], rfl⟩
         ·try simp only [sx] at c10
          have hmn : memB s.ins.Op = false := by simp [memB]; omega
          refine awp_seq <|
           sReg rfl <|
           rwp_det rfl rfl (det_eql rfl rfl rfl) <|
           rMv rfl <|
           rwp_nil <|
           awp_cond rfl (fun c11 => ?_) (fun c11 => ?_)
          ·try simp only [sx] at c11
           refine awp_skip <|
            awp_cond rfl (fun c14 => ?_) (fun c14 => ?_)
           ·try simp only [sx] at c14
            have hp : cptB s.ins.Op = true := by simp [cptB]; omega
            refine awp_region rfl <|
             rMv rfl <|
             rwp_det rfl rfl (det_load_agg rfl agg50 rfl (ptr_row 0 rfl) rfl) <|
             rwp_det rfl rfl (det_call_mem [1, 1] rfl ok23 (vm_element b sv s w hs s.ins hf hp hT) ⟨VLe.refl _, rfl, VLe.refl _, rfl, trivial⟩ rfl) <|
             rMv rfl <|
             rwp_nil <|
             awp_seq <|
             sReg rfl <|
             rMv rfl <|
             rwp_det rfl rfl (det_neq rfl rfl rfl) <|
             rwp_nil <|
             awp_cond rfl (fun c15 => ?_) (fun c15 => ?_)
            ·try simp only [sx] at c15
             have hd := doM3 (s := s) hjn hmn hp
             refine sReg rfl <|
              rMv rfl <|
              rMv rfl <|
              rMv rfl <|
              rwp_nil <|
              awp_ret <|
              fin2 (rs_c rfl) (rs_c rfl) ?_
             rw [stepM5 hl0 h3 c4 hd c15]
             exact ⟨rfl, [_], by rw [cptM_err c15]; rfl⟩
            ·try simp only [sx] at c15
             have hd := doM3 (s := s) hjn hmn hp
             have hd0 : doM s s.ins = ((cptM s s.ins).1, 0) := by rw [hd]; exact pair0 c15
             have hs2 := doM_ok hs s.ins
             rw [hd0] at hs2
             have hnx : nextM s s.ins = s.pc + 1 := next3 hjn
             refine awp_skip <|
              sReg rfl <|
              rMv rfl <|
              rMv rfl <|
              rwp_det rfl rfl (det_nilcheck_ptr rfl rfl) <|
              rwp_det rfl rfl (det_field_lit rfl fd36_6 rfl) <|
              rwp_det0 rfl rfl (det_store rfl sz3 rfl rfl rfl (st_rowE 1 rfl (by rw [mc_len hs2]; show 0 + 772 + 1 ≤ 774; omega) (mc_sPC hs2 _))) <|
              rwp_nil <|
              sReg rfl <|
              rMv rfl <|
              rMv rfl <|
              rwp_nil <|
              awp_ret <|
              fin2 (rs_c rfl) (rs_c rfl) ?_
             rw [stepM4 hl0 h3 c4 hd0 hnx]
             exact ⟨rfl, [_], rfl⟩
           ·try simp only [sx] at c14
            exact absurd c11 c14
          ·try simp only [sx] at c11
           refine sReg rfl <|
            rwp_det rfl rfl (det_eql rfl rfl rfl) <|
            rMv rfl <|
            rwp_nil <|
            awp_cond rfl (fun c12 => ?_) (fun c12 => ?_)
           ·try simp only [sx] at c12
            refine awp_skip <|
             awp_cond rfl (fun c14 => ?_) (fun c14 => ?_)
            ·try simp only [sx] at c14
             have hp : cptB s.ins.Op = true := by simp [cptB]; omega
             refine awp_region rfl <|
              rMv rfl <|
              rwp_det rfl rfl (det_load_agg rfl agg50 rfl (ptr_row 0 rfl) rfl) <|
              rwp_det rfl rfl (det_call_mem [1, 1] rfl ok23 (vm_element b sv s w hs s.ins hf hp hT) ⟨VLe.refl _, rfl, VLe.refl _, rfl, trivial⟩ rfl) <|
              rMv rfl <|
              rwp_nil <|
              awp_seq <|
              sReg rfl <|
              rMv rfl <|
              rwp_det rfl rfl (det_neq rfl rfl rfl) <|
              rwp_nil <|
              awp_cond rfl (fun c15 => ?_) (fun c15 => ?_)
             ·try simp only [sx] at c15
              have hd := doM3 (s := s) hjn hmn hp
              refine sReg rfl <|
               rMv rfl <|
               rMv rfl <|
               rMv rfl <|
               rwp_nil <|
               awp_ret <|
               fin2 (rs_c rfl) (rs_c rfl) ?_
              rw [stepM5 hl0 h3 c4 hd c15]
              exact ⟨rfl, [_], by rw [cptM_err c15]; rfl⟩
             ·try simp only [sx] at c15
              have hd := doM3 (s := s) hjn hmn hp
              have hd0 : doM s s.ins = ((cptM s s.ins).1, 0) := by rw [hd]; exact pair0 c15
              have hs2 := doM_ok hs s.ins
              rw [hd0] at hs2
              have hnx : nextM s s.ins = s.pc + 1 := next3 hjn
              refine awp_skip <|
               sReg rfl <|
               rMv rfl <|
               rMv rfl <|
               rwp_det rfl rfl (det_nilcheck_ptr rfl rfl) <|
               rwp_det rfl rfl (det_field_lit rfl fd36_6 rfl) <|
               rwp_det0 rfl rfl (det_store rfl sz3 rfl rfl rfl (st_rowE 1 rfl (by rw [mc_len hs2]; show 0 + 772 + 1 ≤ 774; omega) (mc_sPC hs2 _))) <|
               rwp_nil <|
               sReg rfl <|
               rMv rfl <|
               rMv rfl <|
               rwp_nil <|
               awp_ret <|
               fin2 (rs_c rfl) (rs_c rfl) ?_
              rw [stepM4 hl0 h3 c4 hd0 hnx]
              exact ⟨rfl, [_], rfl⟩
            ·try simp only [sx] at c14
             exact absurd c12 c14
           ·try simp only [sx] at c12
            refine sReg rfl <|
             rwp_det rfl rfl (det_eql rfl rfl rfl) <|
             rMv rfl <|
             rwp_nil <|
             awp_cond rfl (fun c13 => ?_) (fun c13 => ?_)
            ·try simp only [sx] at c13
             refine awp_skip <|
              awp_cond rfl (fun c14 => ?_) (fun c14 => ?_)
             ·try simp only [sx] at c14
              have hp : cptB s.ins.Op = true := by simp [cptB]; omega
              refine awp_region rfl <|
               rMv rfl <|
               rwp_det rfl rfl (det_load_agg rfl agg50 rfl (ptr_row 0 rfl) rfl) <|
               rwp_det rfl rfl (det_call_mem [1, 1] rfl ok23 (vm_element b sv s w hs s.ins hf hp hT) ⟨VLe.refl _, rfl, VLe.refl _, rfl, trivial⟩ rfl) <|
               rMv rfl <|
               rwp_nil <|
               awp_seq <|
               sReg rfl <|
               rMv rfl <|
               rwp_det rfl rfl (det_neq rfl rfl rfl) <|
               rwp_nil <|
               awp_cond rfl (fun c15 => ?_) (fun c15 => ?_)
              ·try simp only [sx] at c15
               have hd := doM3 (s := s) hjn hmn hp
               refine sReg rfl <|
                rMv rfl <|
                rMv rfl <|
                rMv rfl <|
                rwp_nil <|
                awp_ret <|
                fin2 (rs_c rfl) (rs_c rfl) ?_
               rw [stepM5 hl0 h3 c4 hd c15]
               exact ⟨rfl, [_], by rw [cptM_err c15]; rfl⟩
              ·try simp only [sx] at c15
               have hd := doM3 (s := s) hjn hmn hp
               have hd0 : doM s s.ins = ((cptM s s.ins).1, 0) := by rw [hd]; exact pair0 c15
               have hs2 := doM_ok hs s.ins
               rw [hd0] at hs2
               have hnx : nextM s s.ins = s.pc + 1 := next3 hjn
               refine awp_skip <|
                sReg rfl <|
                rMv rfl <|
                rMv rfl <|
                rwp_det rfl rfl (det_nilcheck_ptr rfl rfl) <|
                rwp_det rfl rfl (det_field_lit rfl fd36_6 rfl) <|
                rwp_det0 rfl rfl (det_store rfl sz3 rfl rfl rfl (st_rowE 1 rfl (by rw [mc_len hs2]; show 0 + 772 + 1 ≤ 774; omega) (mc_sPC hs2 _))) <|
                rwp_nil <|
                sReg rfl <|
                rMv rfl <|
                rMv rfl <|
                rwp_nil <|
                awp_ret <|
                fin2 (rs_c rfl) (rs_c rfl) ?_
               rw [stepM4 hl0 h3 c4 hd0 hnx]
               exact ⟨rfl, [_], rfl⟩
             ·try simp only [sx] at c14
              exact absurd c13 c14
            ·try simp only [sx] at c13
             refine awp_region rfl <|
              rwp_det rfl rfl (det_eql rfl rfl rfl) <|
              rMv rfl <|
              rwp_nil <|
              awp_cond rfl (fun c14 => ?_) (fun c14 => ?_)
             ·try simp only [sx] at c14
              have hp : cptB s.ins.Op = true := by simp [cptB]; omega
              refine awp_region rfl <|
               rMv rfl <|
               rwp_det rfl rfl (det_load_agg rfl agg50 rfl (ptr_row 0 rfl) rfl) <|
               rwp_det rfl rfl (det_call_mem [1, 1] rfl ok23 (vm_element b sv s w hs s.ins hf hp hT) ⟨VLe.refl _, rfl, VLe.refl _, rfl, trivial⟩ rfl) <|
               rMv rfl <|
               rwp_nil <|
               awp_seq <|
               sReg rfl <|
               rMv rfl <|
               rwp_det rfl rfl (det_neq rfl rfl rfl) <|
               rwp_nil <|
               awp_cond rfl (fun c15 => ?_) (fun c15 => ?_)
              ·try simp only [sx] at c15
               have hd := doM3 (s := s) hjn hmn hp
               refine sReg rfl <|
                rMv rfl <|
                rMv rfl <|
                rMv rfl <|
                rwp_nil <|
                awp_ret <|
                fin2 (rs_c rfl) (rs_c rfl) ?_
               rw [stepM5 hl0 h3 c4 hd c15]
               exact ⟨rfl, [_], by rw [cptM_err c15]; rfl⟩
              ·try simp only [sx] at c15
               have hd := doM3 (s := s) hjn hmn hp
               have hd0 : doM s s.ins = ((cptM s s.ins).1, 0) := by rw [hd]; exact pair0 c15
               have hs2 := doM_ok hs s.ins
               rw [hd0] at hs2
               have hnx : nextM s s.ins = s.pc + 1 := next3 hjn
               refine awp_skip <|
                sReg rfl <|
                rMv rfl <|
                rMv rfl <|
                rwp_det rfl rfl (det_nilcheck_ptr rfl rfl) <|
                rwp_det rfl rfl (det_field_lit rfl fd36_6 rfl) <|
                rwp_det0 rfl rfl (det_store rfl sz3 rfl rfl rfl (st_rowE 1 rfl (by rw [mc_len hs2]; show 0 + 772 + 1 ≤ 774; omega) (mc_sPC hs2 _))) <|
                rwp_nil <|
                sReg rfl <|
                rMv rfl <|
                rMv rfl <|
                rwp_nil <|
                awp_ret <|
                fin2 (rs_c rfl) (rs_c rfl) ?_
               rw [stepM4 hl0 h3 c4 hd0 hnx]
               exact ⟨rfl, [_], rfl⟩
             ·try simp only [sx] at c14
              have hpn : cptB s.ins.Op = false := by simp [cptB]; omega
              refine awp_region rfl <|
               rMv rfl <|
               rwp_det rfl rfl (det_load_agg rfl agg50 rfl (ptr_row 0 rfl) rfl) <|
               rwp_det rfl rfl (det_call_mem [1, 1] rfl ok24 (vm_integer b sv s w hs s.ins hf ⟨hjn, hmn, hpn, c4⟩) ⟨VLe.refl _, rfl, VLe.refl _, rfl, trivial⟩ rfl) <|
               rwp_nil <|
               awp_seq <|
               sReg rfl <|
               rMv rfl <|
               rwp_det rfl rfl (det_neq rfl rfl rfl) <|
               rwp_nil <|
               awp_cond rfl (fun c15 => ?_) (fun c15 => ?_)
              ·try simp only [sx] at c15
               exact absurd trivial c15
              ·try simp only [sx] at c15
               have hd := doM4 (s := s) hjn hmn hpn
               have hd0 : doM s s.ins = (s.sX s.ins.A (intV s s.ins), 0) := by rw [hd]
               have hs2 := doM_ok hs s.ins
               rw [hd0] at hs2
               have hnx : nextM s s.ins = s.pc + 1 := next3 hjn
               refine awp_skip <|
                sReg rfl <|
                rMv rfl <|
                rMv rfl <|
                rwp_det rfl rfl (det_nilcheck_ptr rfl rfl) <|
                rwp_det rfl rfl (det_field_lit rfl fd36_6 rfl) <|
                rwp_det0 rfl rfl (det_store rfl sz3 rfl rfl rfl (st_rowE 1 rfl (by rw [mc_len hs2]; show 0 + 772 + 1 ≤ 774; omega) (mc_sPC hs2 _))) <|
                rwp_nil <|
                sReg rfl <|
                rMv rfl <|
                rMv rfl <|
                rwp_nil <|
                awp_ret <|
                fin2 (rs_c rfl) (rs_c rfl) ?_
               rw [stepM4 hl0 h3 c4 hd0 hnx]
               exact ⟨rfl, [_], rfl⟩

theorem vm_Step (b : Nat) (sv : Value) (s : Mc) (w : Int) (hs : s.Ok w)  : Con cfg 11 [vPt b] (mcE b sv s) fun r μ' => r = .tup [vB (stepM s).2.1, vI (stepM s).2.2] ∧ μ' = mcE b sv (stepM s).1 := Con.drop (vm_Step0 b sv s w hs)
end Go.W
