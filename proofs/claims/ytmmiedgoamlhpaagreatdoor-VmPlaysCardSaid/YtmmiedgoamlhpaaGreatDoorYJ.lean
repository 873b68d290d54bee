/-
  Walks: what functions of the program compute. Printed by wip/gen/mk2.py.
  Conditions: none.
-/
import Derived.Test.YtmmiedgoamlhpaaGreatDoorYI
set_option linter.unusedSimpArgs false
set_option linter.unusedVariables false
set_option maxRecDepth 10000
namespace Go.W
open Go Go.Eng Go.Proofs Go.L41 Go.Br
attribute [local irreducible] AWP RWP TD finQ
theorem fd45_0 : fieldT Tryz.prog 45 0 = some (0, 3) := by kernel_rfl
theorem fd45_1 : fieldT Tryz.prog 45 1 = some (1, 3) := by kernel_rfl
theorem ok13 : callOk Tryz.prog 13 = true := by kernel_rfl
theorem ok19 : callOk Tryz.prog 19 = true := by kernel_rfl
theorem ok20 : callOk Tryz.prog 20 = true := by kernel_rfl
theorem ok21 : callOk Tryz.prog 21 = true := by kernel_rfl
theorem ok29 : callOk Tryz.prog 29 = true := by kernel_rfl
theorem ok30 : callOk Tryz.prog 30 = true := by kernel_rfl
theorem ok32 : callOk Tryz.prog 32 = true := by kernel_rfl
theorem ok35 : callOk Tryz.prog 35 = true := by kernel_rfl
theorem ok36 : callOk Tryz.prog 36 = true := by kernel_rfl
theorem vm_LoadAll (b : Nat) (sv : Value) (s : Mc) (w : Int) (hs : s.Ok w) : Con cfg 29 [vPt b, vI 0, vI (s.M.length : Nat)] (mcE b sv s) fun r μ' => r = .tup [vVals s.M, vI 0] ∧ μ' = mcE b sv s := by
  have h := vm_Load b sv s w hs 0 (s.M.length : Nat)
  rw [loa_all] at h
  exact h
theorem law49_like0 (b : Nat) (sv : Value) (s : Mc) (w : Int) (hs : s.Ok w)  :
    Con cfg 10 [vPt b, vSt s] (mcE b sv s) fun r μ' => r = vB true ∧ ∃ ν, μ' = ν ++ mcE b sv s := by
 refine con_intro Tryz.func10 rfl Tryz.ntmps10 Tryz.results10 rfl ?_
 intro z hz
 refine sReg rfl <|
  rwp_op rfl rfl (ope_box rfl rfl) ?_
 rintro _ _ ⟨b1, rfl, rfl⟩
 refine rMv rfl <|
  rwp_nil <|
  sReg rfl <|
  rMv rfl <|
  rwp_det rfl rfl (det_field_lit rfl fd38_5 rfl) <|
  rwp_det rfl rfl (det_load_one rfl one36 rfl (ptr_row 0 rfl) rfl) <|
  rwp_det rfl rfl (det_len_slm rfl el36 rfl) <|
  rwp_det rfl rfl (det_call_same [1, 1] rfl ok29 (vm_LoadAll b sv s w hs) ⟨VLe.refl _, rfl, VLe.refl _, rfl, VLe.refl _, rfl, trivial⟩ rfl) <|
  rwp_det rfl rfl (det_move_tup rfl rfl) <|
  rwp_det rfl rfl (det_ex_c rfl rfl rfl) <|
  rwp_det rfl rfl (det_ex_c rfl rfl rfl) <|
  rMv rfl <|
  rMv rfl <|
  rwp_nil <|
  awp_seq <|
  awp_draw_c 20 0 [⟨0, .q []⟩, ⟨1, .q [1, 2]⟩, ⟨2, .q []⟩, ⟨3, .q [0]⟩, ⟨4, .q []⟩, ⟨5, .q []⟩, ⟨6, .q []⟩, ⟨7, .q [1, 2]⟩, ⟨8, .q []⟩, ⟨9, .q [0]⟩, ⟨10, .q []⟩, ⟨11, .q []⟩, ⟨12, .q []⟩, ⟨13, .q []⟩, ⟨14, .q []⟩, ⟨15, .q []⟩, ⟨16, .q []⟩, ⟨17, .q []⟩, ⟨18, .q []⟩, ⟨19, .q [0]⟩] mixed (by kernel_rfl) (by kernel_rfl) rfl rfl rfl <|
  fx_skip rfl <|
  fx_skip rfl <|
  fx_skip rfl <|
  fx_skip rfl <|
  fx_skip rfl <|
  fx_skip rfl <|
  fx_skip rfl <|
  fx_skip rfl <|
  fx_skip rfl <|
  fx_skip rfl <|
  fx_skip rfl <|
  fx_skip rfl <|
  fx_skip rfl <|
  fx_skip rfl <|
  fx_skip rfl <|
  fx_skip rfl <|
  fx_skip rfl <|
  fx_skip rfl <|
  fx_skip rfl <|
  fx_skip rfl <|
  fx_nil <|
  sq_det rfl (by decide) rfl rfl (det_move rfl rfl) <|
  sq_det rfl (by decide) rfl rfl (det_call_same [0, 0] rfl ok21 (vm_PC b sv s w hs) ⟨VLe.refl _, rfl, trivial⟩ rfl) <|
  sq_det rfl (by decide) rfl rfl (det_field_lit rfl fd38_2 rfl) <|
  sq_det rfl (by decide) rfl rfl (det_load_one rfl one3 rfl (ptr_row 0 rfl) rfl) <|
  sq_det rfl (by decide) rfl rfl (det_eql rfl rfl rfl) <|
  sq_det rfl (by decide) rfl rfl (det_move rfl rfl) <|
  sq_lazy [] rfl (by decide) rfl rfl rfl rfl gv1 trivial (fun g2_5 => det_move rfl rfl) rfl <|
  sq_lazy [(21, _)] rfl (by decide) rfl rfl rfl rfl gv1 ⟨rfl, rfl, trivial⟩ (fun g2_5 => det_call_same [0, 0] rfl ok20 (vm_IntRegisters b sv s w hs) ⟨VLe.refl _, rfl, trivial⟩ rfl) rfl <|
  sq_lazy [] rfl (by decide) rfl rfl rfl rfl gv1 trivial (fun g2_5 => det_field_lit rfl fd38_3 rfl) rfl <|
  sq_lazy [(23, _)] rfl (by decide) rfl rfl rfl rfl gv1 ⟨rfl, rfl, trivial⟩ (fun g2_5 => det_load_one rfl one35 rfl (ptr_row 0 rfl) rfl) rfl <|
  sq_lazy [(22, _), (24, _)] rfl (by decide) rfl rfl rfl rfl gv1 ⟨rfl, rfl, rfl, rfl, trivial⟩ (fun g2_5 => det_call rfl ok30 (base_Int64s s.X (by rw [hs.hX]; decide)) ⟨VLe.refl _, rfl, VLe.refl _, rfl, trivial⟩) rfl <|
  sq_det rfl (by decide) rfl rfl (det_and rfl rfl rfl (fun h => h) rfl) <|
  sq_det rfl (by decide) rfl rfl (det_move rfl rfl) <|
  sq_lazy [] rfl (by decide) rfl rfl rfl rfl gv1 trivial (fun g2_12 => det_move rfl rfl) rfl <|
  sq_lazy [(28, _)] rfl (by decide) rfl rfl rfl rfl gv1 ⟨rfl, rfl, trivial⟩ (fun g2_12 => det_eql rfl rfl rfl) rfl <|
  sq_det rfl (by decide) rfl rfl (det_and rfl rfl rfl (fun h => h) rfl) <|
  sq_det rfl (by decide) rfl rfl (det_move rfl rfl) <|
  sq_lazy [] rfl (by decide) rfl rfl rfl rfl gv1 trivial (fun g2_16 => det_move rfl rfl) rfl <|
  sq_lazy [] rfl (by decide) rfl rfl rfl rfl gv1 trivial (fun g2_16 => det_field_lit rfl fd38_5 rfl) rfl <|
  sq_lazy [(33, _)] rfl (by decide) rfl rfl rfl rfl gv1 ⟨rfl, rfl, trivial⟩ (fun g2_16 => det_load_one rfl one36 rfl (ptr_row 0 rfl) rfl) rfl <|
  sq_nil rfl <|
  rLz [(32, _), (34, _)] rfl gv1 ⟨rfl, rfl, rfl, rfl, trivial⟩ (fun g2_16 => det_call rfl ok13 (base_Vals s.M (by have h1 := hs.hM; have h2 := hs.hw; omega)) ⟨VLe.refl _, rfl, VLe.refl _, rfl, trivial⟩) rfl <|
  rwp_det rfl rfl (det_and rfl rfl rfl (fun h => h) rfl) <|
  rMv rfl ?_
 refine rwp_nil <|
  awp_ret <|
  fin1 (rs_c rfl) ?_
 exact ⟨by simp [Lz], [_], rfl⟩

theorem law49_like (b : Nat) (sv : Value) (s : Mc) (w : Int) (hs : s.Ok w)  : Con cfg 10 [vPt b, vSt s] (mcE b sv s) fun r μ' => r = vB true ∧ μ' = mcE b sv s := Con.drop (law49_like0 b sv s w hs)
theorem law49_act0 (b : Nat) (sv : Value) (s : Mc) (w : Int) (hs : s.Ok w) (x : Ac) (hx : x.Vals.length ≤ 1048576) :
    Con cfg 11 [vPt b, vAc x] (mcE b sv s) fun r μ' => r = .tup [vI (actM s x).2.1, vVals (actM s x).2.2.1, vI (actM s x).2.2.2] ∧ ∃ ν, μ' = ν ++ mcE b sv (actM s x).1 := by
 refine con_intro Tryz.func11 rfl Tryz.ntmps11 Tryz.results11 rfl ?_
 intro z hz
 refine sReg rfl <|
  rwp_op rfl rfl (ope_box rfl rfl) ?_
 rintro _ _ ⟨b1, rfl, rfl⟩
 refine rMv rfl <|
  rwp_det rfl rfl (det_assignN 2 rfl rfl) <|
  rMv rfl <|
  rwp_nil <|
  awp_seq <|
  sReg rfl <|
  rwp_det rfl rfl (det_field_lit rfl fd45_0 rfl) <|
  rwp_det rfl rfl (det_load_one rfl one3 rfl (ptr_row 0 rfl) rfl) <|
  rwp_nil <|
  awp_block <|
  sReg rfl <|
  rwp_det rfl rfl (det_eql rfl rfl rfl) <|
  rMv rfl <|
  rwp_nil <|
  awp_cond rfl (fun c1 => ?_) (fun c1 => ?_)
 ·try simp only [sx] at c1
  refine sReg rfl <|
   rMv rfl <|
   rwp_det rfl rfl (det_call_mem [1, 1] rfl ok31 (vm_Step b sv s w hs) ⟨VLe.refl _, rfl, trivial⟩ rfl) <|
   rwp_det rfl rfl (det_move_tup rfl rfl) <|
   rwp_det rfl rfl (det_ex_c rfl rfl rfl) <|
   rwp_det rfl rfl (det_ex_c rfl rfl rfl) <|
   rMv rfl <|
   rMv rfl <|
   rwp_nil <|
   awp_seq <|
   sReg rfl <|
   rMv rfl <|
   rwp_nil <|
   awp_cond rfl (fun c2 => ?_) (fun c2 => ?_)
  ·try simp only [sx] at c2
   refine sReg rfl <|
    rMv rfl <|
    rMv rfl <|
    rwp_det rfl rfl (det_assignN 2 rfl rfl) <|
    rMv rfl <|
    rwp_nil <|
    awp_ret <|
    fin3 (rs_c rfl) (rs_c rfl) (rs_c rfl) ?_
   rw [actm1 c1 c2]
   exact ⟨rfl, [_], rfl⟩
  ·try simp only [sx] at c2
   refine awp_skip <|
    sReg rfl <|
    rMv rfl <|
    rMv rfl <|
    rwp_det rfl rfl (det_assignN 2 rfl rfl) <|
    rMv rfl <|
    rwp_nil <|
    awp_ret <|
    fin3 (rs_c rfl) (rs_c rfl) (rs_c rfl) ?_
   rw [actm2 c1 (by simpa using c2)]
   exact ⟨rfl, [_], rfl⟩
 ·try simp only [sx] at c1
  refine sReg rfl <|
   rwp_det rfl rfl (det_eql rfl rfl rfl) <|
   rMv rfl <|
   rwp_nil <|
   awp_cond rfl (fun c3 => ?_) (fun c3 => ?_)
  ·try simp only [sx] at c3
   refine sReg rfl <|
    rMv rfl <|
    rwp_det rfl rfl (det_field_lit rfl fd45_1 rfl) <|
    rwp_det rfl rfl (det_load_one rfl one3 rfl (ptr_row 0 rfl) rfl) <|
    rwp_det rfl rfl (det_field_lit rfl fd45_3 rfl) <|
    rwp_det rfl rfl (det_load_one rfl one36 rfl (ptr_row 0 rfl) rfl) <|
    rwp_det rfl rfl (det_call_mem [1, 1] rfl ok32 (vm_Store b sv s w hs x.At x.Vals hx) ⟨VLe.refl _, rfl, VLe.refl _, rfl, VLe.refl _, rfl, trivial⟩ rfl) <|
    rMv rfl <|
    rwp_det rfl rfl (det_assignN 2 rfl rfl) <|
    rMv rfl <|
    rwp_nil <|
    awp_ret <|
    fin3 (rs_c rfl) (rs_c rfl) (rs_c rfl) ?_
   rw [actm3 c3]
   exact ⟨rfl, [_], rfl⟩
  ·try simp only [sx] at c3
   refine sReg rfl <|
    rwp_det rfl rfl (det_eql rfl rfl rfl) <|
    rMv rfl <|
    rwp_nil <|
    awp_cond rfl (fun c4 => ?_) (fun c4 => ?_)
   ·try simp only [sx] at c4
    refine sReg rfl <|
     rMv rfl <|
     rwp_det rfl rfl (det_field_lit rfl fd45_1 rfl) <|
     rwp_det rfl rfl (det_load_one rfl one3 rfl (ptr_row 0 rfl) rfl) <|
     rwp_det rfl rfl (det_field_lit rfl fd45_2 rfl) <|
     rwp_det rfl rfl (det_load_one rfl one3 rfl (ptr_row 0 rfl) rfl) <|
     rwp_det rfl rfl (det_call_same [1, 1] rfl ok29 (vm_Load b sv s w hs x.At x.Many) ⟨VLe.refl _, rfl, VLe.refl _, rfl, VLe.refl _, rfl, trivial⟩ rfl) <|
     rwp_det rfl rfl (det_move_tup rfl rfl) <|
     rwp_det rfl rfl (det_ex_c rfl rfl rfl) <|
     rwp_det rfl rfl (det_ex_c rfl rfl rfl) <|
     rMv rfl <|
     rMv rfl <|
     rwp_nil <|
     sReg rfl <|
     rMv rfl <|
     rMv rfl <|
     rMv rfl <|
     rMv rfl <|
     rMv rfl <|
     rwp_nil <|
     awp_ret <|
     fin3 (rs_c rfl) (rs_c rfl) (rs_c rfl) ?_
    rw [actm4 c4]
    exact ⟨rfl, [_], rfl⟩
   ·try simp only [sx] at c4
    refine awp_skip <|
     sReg rfl <|
     rMv rfl <|
     rwp_det rfl rfl (det_field_lit rfl fd45_2 rfl) <|
     rwp_det rfl rfl (det_load_one rfl one3 rfl (ptr_row 0 rfl) rfl) <|
     rwp_det rfl rfl (det_call_mem [1, 1] rfl ok19 (vm_Run b sv s w hs x.Many) ⟨VLe.refl _, rfl, VLe.refl _, rfl, trivial⟩ rfl) <|
     rwp_det rfl rfl (det_move_tup rfl rfl) <|
     rwp_det rfl rfl (det_ex_c rfl rfl rfl) <|
     rwp_det rfl rfl (det_ex_c rfl rfl rfl) <|
     rMv rfl <|
     rMv rfl <|
     rwp_nil <|
     sReg rfl <|
     rMv rfl <|
     rMv rfl <|
     rMv rfl <|
     rwp_det rfl rfl (det_assignN 2 rfl rfl) <|
     rMv rfl <|
     rwp_nil <|
     awp_ret <|
     fin3 (rs_c rfl) (rs_c rfl) (rs_c rfl) ?_
    rw [actm5 c1 c3 c4]
    exact ⟨rfl, [_], rfl⟩

theorem law49_act (b : Nat) (sv : Value) (s : Mc) (w : Int) (hs : s.Ok w) (x : Ac) (hx : x.Vals.length ≤ 1048576) : Con cfg 11 [vPt b, vAc x] (mcE b sv s) fun r μ' => r = .tup [vI (actM s x).2.1, vVals (actM s x).2.2.1, vI (actM s x).2.2.2] ∧ μ' = mcE b sv (actM s x).1 := Con.drop (law49_act0 b sv s w hs x hx)
theorem law49_model (s : Mc) (w : Int) (hs : s.Ok w) (x : Ac) (hx : x.Vals.length ≤ 1048576) :
    Pur cfg 12 [vSt s, vAc x] (.tup [vSt (actM s x).1, vI (actM s x).2.1, vVals (actM s x).2.2.1, vI (actM s x).2.2.2]) := by
 refine con_intro Tryz.func12 rfl Tryz.ntmps12 Tryz.results12 rfl ?_
 intro z hz
 refine sReg rfl <|
  rwp_op rfl rfl (ope_box rfl rfl) ?_
 rintro _ _ ⟨b1, rfl, rfl⟩
 refine rwp_op rfl rfl (ope_box rfl rfl) ?_
 rintro _ _ ⟨b2, rfl, rfl⟩
 refine rwp_op rfl rfl (ope_allocN [some 11, some 5, none, some 1, some 2, some 2, none] rfl zr38 rfl) ?_
 rintro _ _ ⟨b3, rfl, rfl⟩
 refine rMv rfl <|
  rwp_det rfl rfl (det_assignN 2 rfl rfl) <|
  rMv rfl <|
  rwp_nil <|
  awp_seq <|
  sReg rfl <|
  rwp_det rfl rfl (det_field_lit rfl fd45_0 rfl) <|
  rwp_det rfl rfl (det_load_one rfl one3 rfl (ptr_row 1 rfl) rfl) <|
  rwp_nil <|
  awp_block <|
  sReg rfl <|
  rwp_det rfl rfl (det_eql rfl rfl rfl) <|
  rMv rfl <|
  rwp_nil <|
  awp_cond rfl (fun c1 => ?_) (fun c1 => ?_)
 ·try simp only [sx] at c1
  refine sReg rfl <|
   rwp_det rfl rfl (det_load_agg rfl agg38 rfl (ptr_row 2 rfl) rfl) <|
   rwp_det rfl rfl (det_call rfl ok33 (ref49_Step s w hs) ⟨VLe.refl _, rfl, trivial⟩) <|
   rwp_det rfl rfl (det_move_tup rfl rfl) <|
   rwp_det rfl rfl (det_ex_agg rfl rfl rfl) <|
   rwp_det rfl rfl (det_ex_c rfl rfl rfl) <|
   rwp_det rfl rfl (det_ex_c rfl rfl rfl) <|
   rwp_op rfl rfl (ope_allocN [some 11, some 5, none, some 1, some 2, some 2, none] rfl zr38 rfl) ?_
  rintro _ _ ⟨b4, rfl, rfl⟩
  refine rwp_det0 rfl rfl (det_store rfl sz38 rfl rfl rfl (st_row 0 rfl rfl)) <|
   rMv rfl <|
   rMv rfl <|
   rwp_nil <|
   awp_seq <|
   sReg rfl <|
   rMv rfl <|
   rwp_nil <|
   awp_cond rfl (fun c2 => ?_) (fun c2 => ?_)
  ·try simp only [sx] at c2
   refine sReg rfl <|
    rwp_det rfl rfl (det_load_agg rfl agg38 rfl (ptr_row 0 rfl) rfl) <|
    rMv rfl <|
    rwp_det0 rfl rfl (det_store rfl sz38 rfl rfl rfl (st_row 1 rfl rfl)) <|
    rMv rfl <|
    rwp_det rfl rfl (det_assignN 2 rfl rfl) <|
    rMv rfl <|
    rwp_nil <|
    awp_ret ?_
   repeat (first | refine thenQ_ret ?_ | refine blockQ_ret ?_)
   refine fin4 (rs_cell_agg agg38 rfl (ptr_row 1 rfl) rfl) (rs_c rfl) (rs_c rfl) (rs_c rfl) ?_
   rw [actm1 c1 c2]
   rfl
  ·try simp only [sx] at c2
   refine awp_skip <|
    sReg rfl <|
    rwp_det rfl rfl (det_load_agg rfl agg38 rfl (ptr_row 0 rfl) rfl) <|
    rMv rfl <|
    rwp_det0 rfl rfl (det_store rfl sz38 rfl rfl rfl (st_row 1 rfl rfl)) <|
    rMv rfl <|
    rwp_det rfl rfl (det_assignN 2 rfl rfl) <|
    rMv rfl <|
    rwp_nil <|
    awp_ret ?_
   repeat (first | refine thenQ_ret ?_ | refine blockQ_ret ?_)
   refine fin4 (rs_cell_agg agg38 rfl (ptr_row 1 rfl) rfl) (rs_c rfl) (rs_c rfl) (rs_c rfl) ?_
   rw [actm2 c1 (by simpa using c2)]
   rfl
 ·try simp only [sx] at c1
  refine sReg rfl <|
   rwp_det rfl rfl (det_eql rfl rfl rfl) <|
   rMv rfl <|
   rwp_nil <|
   awp_cond rfl (fun c3 => ?_) (fun c3 => ?_)
  ·try simp only [sx] at c3
   refine sReg rfl <|
    rwp_det rfl rfl (det_load_agg rfl agg38 rfl (ptr_row 2 rfl) rfl) <|
    rwp_det rfl rfl (det_field_lit rfl fd45_1 rfl) <|
    rwp_det rfl rfl (det_load_one rfl one3 rfl (ptr_row 1 rfl) rfl) <|
    rwp_det rfl rfl (det_field_lit rfl fd45_3 rfl) <|
    rwp_det rfl rfl (det_load_one rfl one36 rfl (ptr_row 1 rfl) rfl) <|
    rwp_det rfl rfl (det_call rfl ok34 (ref49_Store s x.At x.Vals (by have h1 := hs.hM; have h2 := hs.hw; omega) hx) ⟨VLe.refl _, rfl, VLe.refl _, rfl, VLe.refl _, rfl, trivial⟩) <|
    rwp_det rfl rfl (det_move_tup rfl rfl) <|
    rwp_det rfl rfl (det_ex_agg rfl rfl rfl) <|
    rwp_det rfl rfl (det_ex_c rfl rfl rfl) <|
    rwp_op rfl rfl (ope_allocN [some 11, some 5, none, some 1, some 2, some 2, none] rfl zr38 rfl) ?_
   rintro _ _ ⟨b5, rfl, rfl⟩
   refine rwp_det0 rfl rfl (det_store rfl sz38 rfl rfl rfl (st_row 0 rfl rfl)) <|
    rMv rfl <|
    rwp_nil <|
    sReg rfl <|
    rwp_det rfl rfl (det_load_agg rfl agg38 rfl (ptr_row 0 rfl) rfl) <|
    rMv rfl <|
    rwp_det0 rfl rfl (det_store rfl sz38 rfl rfl rfl (st_row 1 rfl rfl)) <|
    rMv rfl <|
    rwp_det rfl rfl (det_assignN 2 rfl rfl) <|
    rMv rfl <|
    rwp_nil <|
    awp_ret ?_
   repeat (first | refine thenQ_ret ?_ | refine blockQ_ret ?_)
   refine fin4 (rs_cell_agg agg38 rfl (ptr_row 1 rfl) rfl) (rs_c rfl) (rs_c rfl) (rs_c rfl) ?_
   rw [actm3 c3]
   rfl
  ·try simp only [sx] at c3
   refine sReg rfl <|
    rwp_det rfl rfl (det_eql rfl rfl rfl) <|
    rMv rfl <|
    rwp_nil <|
    awp_cond rfl (fun c4 => ?_) (fun c4 => ?_)
   ·try simp only [sx] at c4
    refine sReg rfl <|
     rwp_det rfl rfl (det_load_agg rfl agg38 rfl (ptr_row 2 rfl) rfl) <|
     rwp_det rfl rfl (det_field_lit rfl fd45_1 rfl) <|
     rwp_det rfl rfl (det_load_one rfl one3 rfl (ptr_row 1 rfl) rfl) <|
     rwp_det rfl rfl (det_field_lit rfl fd45_2 rfl) <|
     rwp_det rfl rfl (det_load_one rfl one3 rfl (ptr_row 1 rfl) rfl) <|
     rwp_det rfl rfl (det_call rfl ok35 (ref49_Load s x.At x.Many (by have h1 := hs.hM; have h2 := hs.hw; omega)) ⟨VLe.refl _, rfl, VLe.refl _, rfl, VLe.refl _, rfl, trivial⟩) <|
     rwp_det rfl rfl (det_move_tup rfl rfl) <|
     rwp_det rfl rfl (det_ex_c rfl rfl rfl) <|
     rwp_det rfl rfl (det_ex_c rfl rfl rfl) <|
     rMv rfl <|
     rMv rfl <|
     rwp_nil <|
     sReg rfl <|
     rwp_det rfl rfl (det_load_agg rfl agg38 rfl (ptr_row 2 rfl) rfl) <|
     rMv rfl <|
     rMv rfl <|
     rwp_det0 rfl rfl (det_store rfl sz38 rfl rfl rfl (st_row 0 rfl rfl)) <|
     rMv rfl <|
     rMv rfl <|
     rMv rfl <|
     rwp_nil <|
     awp_ret ?_
    repeat (first | refine thenQ_ret ?_ | refine blockQ_ret ?_)
    refine fin4 (rs_cell_agg agg38 rfl (ptr_row 0 rfl) rfl) (rs_c rfl) (rs_c rfl) (rs_c rfl) ?_
    rw [actm4 c4]
    rfl
   ·try simp only [sx] at c4
    refine awp_skip <|
     sReg rfl <|
     rwp_det rfl rfl (det_load_agg rfl agg38 rfl (ptr_row 2 rfl) rfl) <|
     rwp_det rfl rfl (det_field_lit rfl fd45_2 rfl) <|
     rwp_det rfl rfl (det_load_one rfl one3 rfl (ptr_row 1 rfl) rfl) <|
     rwp_det rfl rfl (det_call rfl ok36 (ref49_Run s x.Many w hs) ⟨VLe.refl _, rfl, VLe.refl _, rfl, trivial⟩) <|
     rwp_det rfl rfl (det_move_tup rfl rfl) <|
     rwp_det rfl rfl (det_ex_agg rfl rfl rfl) <|
     rwp_det rfl rfl (det_ex_c rfl rfl rfl) <|
     rwp_det rfl rfl (det_ex_c rfl rfl rfl) <|
     rwp_op rfl rfl (ope_allocN [some 11, some 5, none, some 1, some 2, some 2, none] rfl zr38 rfl) ?_
    rintro _ _ ⟨b6, rfl, rfl⟩
    refine rwp_det0 rfl rfl (det_store rfl sz38 rfl rfl rfl (st_row 0 rfl rfl)) <|
     rMv rfl <|
     rMv rfl <|
     rwp_nil <|
     sReg rfl <|
     rwp_det rfl rfl (det_load_agg rfl agg38 rfl (ptr_row 0 rfl) rfl) <|
     rMv rfl <|
     rMv rfl <|
     rwp_det0 rfl rfl (det_store rfl sz38 rfl rfl rfl (st_row 1 rfl rfl)) <|
     rMv rfl <|
     rwp_det rfl rfl (det_assignN 2 rfl rfl) <|
     rMv rfl <|
     rwp_nil <|
     awp_ret ?_
    repeat (first | refine thenQ_ret ?_ | refine blockQ_ret ?_)
    refine fin4 (rs_cell_agg agg38 rfl (ptr_row 1 rfl) rfl) (rs_c rfl) (rs_c rfl) (rs_c rfl) ?_
    rw [actm5 c1 c3 c4]
    rfl

end Go.W
