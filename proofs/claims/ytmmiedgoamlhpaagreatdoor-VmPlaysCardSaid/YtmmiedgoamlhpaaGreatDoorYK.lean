/-
  Walks: what functions of the program compute. Printed by wip/gen/mk2.py.
  Conditions: none.
-/
import Derived.Test.YtmmiedgoamlhpaaGreatDoorYJ
import Derived.Test.YtmmiedgoamlhpaaGreatDoorPlainM
set_option linter.unusedSimpArgs false
set_option linter.unusedVariables false
set_option maxRecDepth 10000
namespace Go.W
open Go Go.Eng Go.Proofs Go.L41 Go.Br
attribute [local irreducible] AWP RWP TD finQ
theorem agg26 : aggT Tryz.prog 26 = some 4 := by kernel_rfl
theorem agg45 : aggT Tryz.prog 45 = some 4 := by kernel_rfl
theorem ok5 : callOk Tryz.prog 5 = true := by kernel_rfl
theorem ok6 : callOk Tryz.prog 6 = true := by kernel_rfl
theorem ok7 : callOk Tryz.prog 7 = true := by kernel_rfl
theorem ok8 : callOk Tryz.prog 8 = true := by kernel_rfl
theorem ok9 : callOk Tryz.prog 9 = true := by kernel_rfl
theorem ok10 : callOk Tryz.prog 10 = true := by kernel_rfl
theorem ok11 : callOk Tryz.prog 11 = true := by kernel_rfl
theorem ok12 : callOk Tryz.prog 12 = true := by kernel_rfl
theorem pl26 : placesT Tryz.prog 26 = some [(0, 1), (1, 1), (2, 1), (3, 1)] := by kernel_rfl
theorem zr26 : zeroT Tryz.prog 26 = some [(Value.slice none 0 0), (Value.slice none 0 0), (Value.slice none 0 0), (Value.int IntKind.i64 0)] := by kernel_rfl
theorem law49_live  :
    Pur cfg 7 [] (vB true) := by
 refine con_intro Tryz.func7 rfl Tryz.ntmps7 Tryz.results7 rfl ?_
 intro z hz
 have h1 : (runX m1 10).1.Ok 0 := runX_ok (newM_ok v1) 10
 have h1X := h1.hX
 refine sReg rfl <|
  rMv rfl <|
  rwp_nil <|
  sReg rfl <|
  rwp_det rfl rfl (det_build rfl zr67 pl67 rfl) <|
  rwp_det rfl rfl (det_build rfl zr67 pl67 rfl) <|
  rwp_det rfl rfl (det_bslice rfl el22 zr67 rfl rfl rfl rfl) <|
  rwp_det rfl rfl (det_buildN [none, some 5, some 3, none] rfl zr26 pl26 rfl rfl) <|
  rwp_op rfl rfl (ope_call rfl ok8 (Con.frame (vm_New_ok u1 (by decide) v1) _) ⟨VLe.refl _, rfl, trivial⟩) ?_
 rintro _ _ ⟨_, ⟨b_1, sv_1, rfl, rfl⟩, rfl⟩
 refine rwp_det rfl rfl (det_move_tup rfl rfl) <|
  rwp_det rfl rfl (det_ex_c rfl rfl rfl) <|
  rwp_det rfl rfl (det_ex_c rfl rfl rfl) <|
  rMv rfl <|
  rMv rfl <|
  rwp_nil <|
  awp_seq <|
  sReg rfl <|
  rMv rfl <|
  rwp_det rfl rfl (det_neq rfl rfl rfl) <|
  rMv rfl <|
  rLz [] rfl gv1 trivial (fun g2_2 => det_move rfl rfl) rfl <|
  rLz [(25, _)] rfl gv1 ⟨rfl, rfl, trivial⟩ (fun g2_2 => det_ptr_eq rfl rfl rfl un31) rfl <|
  rwp_det rfl rfl (det_or rfl rfl rfl rfl (fun h => (lzf h))) <|
  rwp_nil <|
  awp_cond rfl (fun c1 => ?_) (fun c1 => ?_)
 ·try simp only [sx] at c1
  exact absurd c1 (by simp)
 ·try simp only [sx] at c1
  refine awp_skip <|
   sReg rfl <|
   rMv rfl <|
   rwp_det rfl rfl (det_call_mem [0, 0] rfl ok19 (vm_Run b_1 sv_1 m1 0 (newM_ok v1) 10) ⟨VLe.refl _, rfl, VLe.refl _, rfl, trivial⟩ rfl) <|
   rwp_det rfl rfl (det_move_tup rfl rfl) <|
   rwp_det rfl rfl (det_ex_c rfl rfl rfl) <|
   rwp_det rfl rfl (det_ex_c rfl rfl rfl) <|
   rMv rfl <|
   rMv rfl <|
   rwp_nil <|
   sReg rfl <|
   rMv rfl <|
   rwp_det rfl rfl (det_call_same [0, 0] rfl ok20 (vm_IntRegisters b_1 sv_1 (runX m1 10).1 0 h1) ⟨VLe.refl _, rfl, trivial⟩ rfl) <|
   rMv rfl <|
   rwp_nil <|
   sReg rfl <|
   rwp_det rfl rfl (det_build rfl zr67 pl67 rfl) <|
   rwp_det rfl rfl (det_build rfl zr63 pl63 rfl) <|
   rwp_det rfl rfl (det_build rfl zr67 pl67 rfl) <|
   rwp_det rfl rfl (det_bslice rfl el22 zr67 rfl rfl rfl rfl) <|
   rwp_det rfl rfl (det_buildN [none, some 5, some 3, none] rfl zr26 pl26 rfl rfl) <|
   rwp_op rfl rfl (ope_call rfl ok8 (Con.frame (vm_New_ok u2 (by decide) v2) _) ⟨VLe.refl _, rfl, trivial⟩) ?_
  rintro _ _ ⟨_, ⟨b_2, sv_2, rfl, rfl⟩, rfl⟩
  refine rwp_det rfl rfl (det_move_tup rfl rfl) <|
   rwp_det rfl rfl (det_ex_c rfl rfl rfl) <|
   rwp_det rfl rfl (det_ex_c rfl rfl rfl) <|
   rMv rfl <|
   rMv rfl <|
   rwp_nil <|
   sReg rfl <|
   rwp_det rfl rfl (det_build rfl zr67 pl67 rfl) <|
   rwp_det rfl rfl (det_bslice rfl el22 zr67 rfl rfl rfl rfl) <|
   rwp_det rfl rfl (det_buildN [none, some 5, some 3, none] rfl zr26 pl26 rfl rfl) <|
   rwp_op rfl rfl (ope_call rfl ok8 (Con.frame (vm_New_ok u3 (by decide) v3) _) ⟨VLe.refl _, rfl, trivial⟩) ?_
  rintro _ _ ⟨_, ⟨b_3, sv_3, rfl, rfl⟩, rfl⟩
  refine rwp_det rfl rfl (det_move_tup rfl rfl) <|
   rwp_det rfl rfl (det_ex_c rfl rfl rfl) <|
   rwp_det rfl rfl (det_ex_c rfl rfl rfl) <|
   rMv rfl <|
   rMv rfl <|
   rwp_nil <|
   awp_seq <|
   sReg rfl <|
   rMv rfl <|
   rwp_det rfl rfl (det_neq rfl rfl rfl) <|
   rMv rfl <|
   rLz [] rfl gv1 trivial (fun g8_2 => det_move rfl rfl) rfl <|
   rLz [(54, _)] rfl gv1 ⟨rfl, rfl, trivial⟩ (fun g8_2 => det_neq rfl rfl rfl) rfl <|
   rwp_det rfl rfl (det_or rfl rfl rfl rfl (fun h => (lzf h))) <|
   rMv rfl <|
   rLz [] rfl gv1 trivial (fun g8_6 => det_move rfl rfl) rfl <|
   rLz [(58, _)] rfl gv1 ⟨rfl, rfl, trivial⟩ (fun g8_6 => det_ptr_eq rfl rfl rfl un31) rfl <|
   rwp_det rfl rfl (det_or rfl rfl rfl rfl (fun h => (lzf h))) <|
   rMv rfl <|
   rLz [] rfl gv1 trivial (fun g8_10 => det_move rfl rfl) rfl <|
   rLz [(62, _)] rfl gv1 ⟨rfl, rfl, trivial⟩ (fun g8_10 => det_ptr_eq rfl rfl rfl un31) rfl <|
   rwp_det rfl rfl (det_or rfl rfl rfl rfl (fun h => (lzf h))) <|
   rwp_nil <|
   awp_cond rfl (fun c2 => ?_) (fun c2 => ?_)
  ·try simp only [sx] at c2
   exact absurd c2 (by simp)
  ·try simp only [sx] at c2
   refine awp_skip <|
    sReg rfl <|
    rMv rfl <|
    rwp_det rfl rfl (det_call_mem [2, 2] rfl ok19 (vm_Run b_2 sv_2 m2 2 (newM_ok v2) 10) ⟨VLe.refl _, rfl, VLe.refl _, rfl, trivial⟩ rfl) <|
    rwp_det rfl rfl (det_move_tup rfl rfl) <|
    rwp_det rfl rfl (det_ex_c rfl rfl rfl) <|
    rwp_det rfl rfl (det_ex_c rfl rfl rfl) <|
    rMv rfl <|
    rMv rfl <|
    rwp_nil <|
    sReg rfl <|
    rMv rfl <|
    rwp_det rfl rfl (det_call_mem [0, 0] rfl ok19 (vm_Run b_3 sv_3 m3 0 (newM_ok v3) 10) ⟨VLe.refl _, rfl, VLe.refl _, rfl, trivial⟩ rfl) <|
    rwp_det rfl rfl (det_move_tup rfl rfl) <|
    rwp_det rfl rfl (det_ex_c rfl rfl rfl) <|
    rwp_det rfl rfl (det_ex_c rfl rfl rfl) <|
    rMv rfl <|
    rMv rfl <|
    rwp_nil <|
    sReg rfl <|
    rMv rfl <|
    rwp_det rfl rfl (det_eql rfl rfl rfl) <|
    rMv rfl <|
    rLz [] rfl gv1 trivial (fun g12_2 => det_move rfl rfl) rfl <|
    rLz [(78, _)] rfl gv1 ⟨rfl, rfl, trivial⟩ (fun g12_2 => det_eql rfl rfl rfl) rfl <|
    rwp_det rfl rfl (det_and rfl rfl rfl (fun h => h) rfl) <|
    rMv rfl <|
    rLz [] rfl gv1 trivial (fun g12_6 => det_move rfl rfl) rfl <|
    rLz [(82, _)] rfl gv1 ⟨rfl, rfl, trivial⟩ (fun g12_6 => det_len_slm rfl el35 rfl) rfl <|
    rLz [(83, _)] rfl gv1 ⟨rfl, rfl, trivial⟩ (fun g12_6 => det_eql rfl rfl rfl) rfl <|
    rwp_det rfl rfl (det_and rfl rfl rfl (fun h => h) rfl) <|
    rMv rfl <|
    rLz [] rfl gv1 trivial (fun g12_11 => det_move rfl rfl) rfl <|
    rLz [(87, _)] rfl gv1 ⟨rfl, rfl, trivial⟩ (fun g12_11 => det_index_sl rfl el35 rfl rfl (by omega) (getm r1x)) rfl <|
    rLz [(88, _)] rfl gv1 ⟨rfl, rfl, trivial⟩ (fun g12_11 => det_load_one rfl one2 rfl ptr_imm rfl) rfl <|
    rLz [(89, _)] rfl gv1 ⟨rfl, rfl, trivial⟩ (fun g12_11 => det_eql rfl rfl rfl) rfl <|
    rwp_det rfl rfl (det_and rfl rfl rfl (fun h => h) rfl) <|
    rMv rfl <|
    rLz [] rfl gv1 trivial (fun g12_17 => det_move rfl rfl) rfl <|
    rLz [(93, _)] rfl gv1 ⟨rfl, rfl, trivial⟩ (fun g12_17 => det_call_same [4, 4] rfl ok21 (vm_PC b_1 sv_1 (runX m1 10).1 0 h1) ⟨VLe.refl _, rfl, trivial⟩ rfl) rfl <|
    rLz [(94, _)] rfl gv1 ⟨rfl, rfl, trivial⟩ (fun g12_17 => det_eql rfl rfl rfl) rfl <|
    rwp_det rfl rfl (det_and rfl rfl rfl (fun h => h) rfl) <|
    rMv rfl <|
    rLz [] rfl gv1 trivial (fun g12_22 => det_move rfl rfl) rfl <|
    rLz [(98, _)] rfl gv1 ⟨rfl, rfl, trivial⟩ (fun g12_22 => det_eql rfl rfl rfl) rfl <|
    rwp_det rfl rfl (det_and rfl rfl rfl (fun h => h) rfl) <|
    rMv rfl <|
    rLz [] rfl gv1 trivial (fun g12_26 => det_move rfl rfl) rfl <|
    rLz [(102, _)] rfl gv1 ⟨rfl, rfl, trivial⟩ (fun g12_26 => det_eql rfl rfl rfl) rfl <|
    rwp_det rfl rfl (det_and rfl rfl rfl (fun h => h) rfl) <|
    rMv rfl <|
    rwp_nil <|
    awp_ret <|
    fin1 (rs_c rfl) ?_
   exact congrArg vB (by simp [Lz, r1n, r1e, r1p, r2e, r3e, h1X])

theorem refNew_ok (u : Un0) (ht : u.tys.length ≤ 1000000) (hv : (vld u.code u.tys u.words).2 = 0) : Pur cfg 9 [vIns u.code, vTys u.tys, vI u.words] (.tup [vSt (newM u.code u.tys u.words), vI 0]) := by
  have h := ref49_New u.code u.tys u.words ht
  rw [newr1 hv] at h
  exact h
theorem law49_bad (u : Un0) (l : List Ac) (hf : u.Fit) (hl : l.length ≤ 140737488355328) (hv : ¬ (vld u.code u.tys u.words).2 = 0) :
    Pur cfg 3 [vU0 u, vAcs l] (vB true) := by
 refine con_intro Tryz.func3 rfl Tryz.ntmps3 Tryz.results3 rfl ?_
 intro z hz
 refine sReg rfl <|
  rwp_op rfl rfl (ope_box rfl rfl) ?_
 rintro _ _ ⟨b1, rfl, rfl⟩
 refine rMv rfl <|
  rwp_nil <|
  awp_seq <|
  sReg rfl <|
  rwp_det rfl rfl (det_load_agg rfl agg26 rfl (ptr_row 0 rfl) rfl) <|
  rwp_det rfl rfl (det_call rfl ok5 (law49_Few _ (by omega)) ⟨VLe.refl _, rfl, trivial⟩) <|
  rwp_det rfl rfl (det_not rfl rfl) <|
  rMv rfl <|
  rLz [] rfl gv1 trivial (fun g1_3 => det_move rfl rfl) rfl <|
  rLz [(21, _)] rfl gv1 ⟨rfl, rfl, trivial⟩ (fun g1_3 => det_call rfl ok6 (law49_fewActs l hl) ⟨VLe.refl _, rfl, trivial⟩) rfl <|
  rLz [(22, _)] rfl gv1 ⟨rfl, rfl, trivial⟩ (fun g1_3 => det_not rfl rfl) rfl <|
  rwp_det rfl rfl (det_or rfl rfl rfl rfl (fun h => (lzf h))) <|
  rwp_nil <|
  awp_cond rfl (fun c1 => ?_) (fun c1 => ?_)
 ·try simp only [sx] at c1
  refine sReg rfl <|
   rwp_det rfl rfl (det_call rfl ok7 (law49_live) trivial) <|
   rMv rfl <|
   rwp_nil <|
   awp_ret <|
   fin1 (rs_c rfl) ?_
  exact rfl
 ·try simp only [sx] at c1
  have hFA : u.few = true ∧ fewAs l = true := by simpa [Lz] using c1
  have hT := few_tys hFA.1
  have hN := newr2 hv
  refine awp_skip <|
   sReg rfl <|
   rwp_det rfl rfl (det_load_agg rfl agg26 rfl (ptr_row 0 rfl) rfl) <|
   rwp_det rfl rfl (det_call rfl ok8 (vm_New_bad u hT hv) ⟨VLe.refl _, rfl, trivial⟩) <|
   rwp_det rfl rfl (det_move_tup rfl rfl) <|
   rwp_det rfl rfl (det_ex_c rfl rfl rfl) <|
   rwp_det rfl rfl (det_ex_c rfl rfl rfl) <|
   rMv rfl <|
   rMv rfl <|
   rwp_nil <|
   sReg rfl <|
   rwp_det rfl rfl (det_field_lit rfl fd26_0 rfl) <|
   rwp_det rfl rfl (det_load_one rfl one22 rfl (ptr_row 0 rfl) rfl) <|
   rwp_det rfl rfl (det_field_lit rfl fd26_1 rfl) <|
   rwp_det rfl rfl (det_load_one rfl one23 rfl (ptr_row 0 rfl) rfl) <|
   rwp_det rfl rfl (det_field_lit rfl fd26_3 rfl) <|
   rwp_det rfl rfl (det_load_one rfl one3 rfl (ptr_row 0 rfl) rfl) <|
   rwp_det rfl rfl (det_call rfl ok9 (ref49_New u.code u.tys u.words hT) ⟨VLe.refl _, rfl, VLe.refl _, rfl, VLe.refl _, rfl, trivial⟩) <|
   rwp_det rfl rfl (det_move_tup rfl rfl) <|
   rwp_det rfl rfl (det_ex_agg rfl rfl rfl) <|
   rwp_det rfl rfl (det_ex_c rfl rfl rfl) <|
   rwp_op rfl rfl (ope_allocN [some 11, some 5, none, some 1, some 2, some 2, none] rfl zr38 rfl) ?_
  rintro _ _ ⟨b2, rfl, rfl⟩
  refine rwp_det0 rfl rfl (det_store rfl sz38 rfl rfl rfl (st_row 0 rfl rfl)) <|
   rMv rfl <|
   rwp_nil <|
   awp_seq <|
   sReg rfl <|
   rMv rfl <|
   rMv rfl <|
   rwp_det rfl rfl (det_neq rfl rfl rfl) <|
   rMv rfl <|
   rLz [] rfl gv1 trivial (fun g5_3 => det_move rfl rfl) rfl <|
   rLz [(45, _)] rfl gv1 ⟨rfl, rfl, trivial⟩ (fun g5_3 => det_neq rfl rfl rfl) rfl <|
   rwp_det rfl rfl (det_or rfl rfl rfl rfl (fun h => (lzf h))) <|
   rwp_nil <|
   awp_cond rfl (fun c2 => ?_) (fun c2 => ?_)
  ·refine sReg rfl <|
    rMv rfl <|
    rMv rfl <|
    rwp_det rfl rfl (det_eql rfl rfl rfl) <|
    rMv rfl <|
    rLz [] rfl gv1 trivial (fun g6_3 => det_move rfl rfl) rfl <|
    rLz [(52, _)] rfl gv1 ⟨rfl, rfl, trivial⟩ (fun g6_3 => det_ptr_eq rfl rfl rfl un31) rfl <|
    rwp_det rfl rfl (det_and rfl rfl rfl (fun h => h) rfl) <|
    rMv rfl <|
    rLz [] rfl gv1 trivial (fun g6_7 => det_call rfl ok7 (law49_live) trivial) rfl <|
    rwp_det rfl rfl (det_and rfl rfl rfl (fun h => h) rfl) <|
    rMv rfl <|
    rwp_nil <|
    awp_ret <|
    fin1 (rs_c rfl) ?_
   exact congrArg vB (by simp [Lz, hN])
  ·exact absurd c2 (by simp [Lz, hN, hv])

theorem law49_ok (u : Un0) (l : List Ac) (hf : u.Fit) (hl : l.length ≤ 140737488355328) (hv : (vld u.code u.tys u.words).2 = 0) :
    Pur cfg 3 [vU0 u, vAcs l] (vB true) := by
 refine con_intro Tryz.func3 rfl Tryz.ntmps3 Tryz.results3 rfl ?_
 intro z hz
 refine sReg rfl <|
  rwp_op rfl rfl (ope_box rfl rfl) ?_
 rintro _ _ ⟨b1, rfl, rfl⟩
 refine rMv rfl <|
  rwp_nil <|
  awp_seq <|
  sReg rfl <|
  rwp_det rfl rfl (det_load_agg rfl agg26 rfl (ptr_row 0 rfl) rfl) <|
  rwp_det rfl rfl (det_call rfl ok5 (law49_Few _ (by omega)) ⟨VLe.refl _, rfl, trivial⟩) <|
  rwp_det rfl rfl (det_not rfl rfl) <|
  rMv rfl <|
  rLz [] rfl gv1 trivial (fun g1_3 => det_move rfl rfl) rfl <|
  rLz [(21, _)] rfl gv1 ⟨rfl, rfl, trivial⟩ (fun g1_3 => det_call rfl ok6 (law49_fewActs l hl) ⟨VLe.refl _, rfl, trivial⟩) rfl <|
  rLz [(22, _)] rfl gv1 ⟨rfl, rfl, trivial⟩ (fun g1_3 => det_not rfl rfl) rfl <|
  rwp_det rfl rfl (det_or rfl rfl rfl rfl (fun h => (lzf h))) <|
  rwp_nil <|
  awp_cond rfl (fun c1 => ?_) (fun c1 => ?_)
 ·try simp only [sx] at c1
  refine sReg rfl <|
   rwp_det rfl rfl (det_call rfl ok7 (law49_live) trivial) <|
   rMv rfl <|
   rwp_nil <|
   awp_ret <|
   fin1 (rs_c rfl) ?_
  exact rfl
 ·try simp only [sx] at c1
  have hFA : u.few = true ∧ fewAs l = true := by simpa [Lz] using c1
  have hT := few_tys hFA.1
  have hA := fewAs_vals hFA.2
  refine awp_skip <|
   sReg rfl <|
   rwp_det rfl rfl (det_load_agg rfl agg26 rfl (ptr_row 0 rfl) rfl) <|
   rwp_op rfl rfl (ope_call rfl ok8 (Con.frame (vm_New_ok u hT hv) _) ⟨VLe.refl _, rfl, trivial⟩) ?_
  rintro _ _ ⟨_, ⟨b_1, sv_1, rfl, rfl⟩, rfl⟩
  refine rwp_det rfl rfl (det_move_tup rfl rfl) <|
   rwp_det rfl rfl (det_ex_c rfl rfl rfl) <|
   rwp_det rfl rfl (det_ex_c rfl rfl rfl) <|
   rMv rfl <|
   rMv rfl <|
   rwp_nil <|
   sReg rfl <|
   rwp_det rfl rfl (det_field_lit rfl fd26_0 rfl) <|
   rwp_det rfl rfl (det_load_one rfl one22 rfl (ptr_row 2 rfl) rfl) <|
   rwp_det rfl rfl (det_field_lit rfl fd26_1 rfl) <|
   rwp_det rfl rfl (det_load_one rfl one23 rfl (ptr_row 2 rfl) rfl) <|
   rwp_det rfl rfl (det_field_lit rfl fd26_3 rfl) <|
   rwp_det rfl rfl (det_load_one rfl one3 rfl (ptr_row 2 rfl) rfl) <|
   rwp_det rfl rfl (det_call rfl ok9 (refNew_ok u hT hv) ⟨VLe.refl _, rfl, VLe.refl _, rfl, VLe.refl _, rfl, trivial⟩) <|
   rwp_det rfl rfl (det_move_tup rfl rfl) <|
   rwp_det rfl rfl (det_ex_agg rfl rfl rfl) <|
   rwp_det rfl rfl (det_ex_c rfl rfl rfl) <|
   rwp_op rfl rfl (ope_allocN [some 11, some 5, none, some 1, some 2, some 2, none] rfl zr38 rfl) ?_
  rintro _ _ ⟨b2, rfl, rfl⟩
  refine rwp_det0 rfl rfl (det_store rfl sz38 rfl rfl rfl (st_row 0 rfl rfl)) <|
   rMv rfl <|
   rwp_nil <|
   awp_seq <|
   sReg rfl <|
   rMv rfl <|
   rMv rfl <|
   rwp_det rfl rfl (det_neq rfl rfl rfl) <|
   rMv rfl <|
   rLz [] rfl gv1 trivial (fun g5_3 => det_move rfl rfl) rfl <|
   rLz [(45, _)] rfl gv1 ⟨rfl, rfl, trivial⟩ (fun g5_3 => det_neq rfl rfl rfl) rfl <|
   rwp_det rfl rfl (det_or rfl rfl rfl rfl (fun h => (lzf h))) <|
   rwp_nil <|
   awp_cond rfl (fun c2 => ?_) (fun c2 => ?_)
  ·exact absurd c2 (by simp [Lz])
  ·refine awp_skip <|
    awp_seq <|
    sReg rfl <|
    rMv rfl <|
    rwp_det rfl rfl (det_ptr_eq rfl rfl rfl un31) <|
    rMv rfl <|
    rLz [] rfl gv1 trivial (fun g7_2 => det_move rfl rfl) rfl <|
    rLz [] rfl gv1 trivial (fun g7_2 => det_load_agg rfl agg38 rfl (ptr_row 0 rfl) rfl) rfl <|
    rLz [(61, _), (62, _)] rfl gv1 ⟨rfl, rfl, rfl, rfl, trivial⟩ (fun g7_2 => det_call_same [1, 1] rfl ok10 (law49_like b_1 sv_1 (newM u.code u.tys u.words) u.words (newM_ok hv)) ⟨VLe.refl _, rfl, VLe.refl _, rfl, trivial⟩ rfl) rfl <|
    rLz [(63, _)] rfl gv1 ⟨rfl, rfl, trivial⟩ (fun g7_2 => det_not rfl rfl) rfl <|
    rwp_det rfl rfl (det_or rfl rfl rfl rfl (fun h => (lzf h))) <|
    rwp_nil <|
    awp_cond rfl (fun c3 => ?_) (fun c3 => ?_)
   ·try simp only [sx] at c3
    exact absurd c3 (by simp [Lz])
   ·try simp only [sx] at c3
    refine awp_skip <|
     awp_seq <|
     sReg rfl <|
     rMv rfl <|
     rwp_nil <|
     awp_block <|
     awp_weak ⟨[(9, .c _), (1, .c _), (5, .c _), (7, .c _)], [_, _, _]⟩ (Weak.mk [true, true, true, false] ⟨VLe.of_eq rfl, VLe.of_eq rfl, VLe.of_eq rfl, VLe.of_eq rfl, trivial⟩ rfl) <|
     awp_loop_k 1 3 rfl rfl (Nat × Mc) (fun ⟨k, s⟩ => [(9, vI k)]) (fun ⟨k, s⟩ => [E.row b2 38 [.sl 11 (s.code.map In.cells), .sl 5 (s.tys.map Ty.cells), cI s.pc, .sl 1 (s.X.map fun n => [cI n]), .sl 2 (s.R.map Vl.cells), .sl 2 (s.M.map Vl.cells), .lit (.bool s.hl)], E.row b_1 80 (mcC sv_1 s), E.vec sv_1 63 2 (s.M.map Vl.cells)]) (fun ⟨k, s⟩ => k ≤ l.length ∧ (s.Ok u.words)) (fun ⟨k, s⟩ => l.length - k) ⟨⟨0, (newM u.code u.tys u.words)⟩, ⟨by omega, (newM_ok hv)⟩, Weak.mk [true, true, true] ⟨VLe.refl _, VLe.refl _, VLe.refl _, VLe.refl _, trivial⟩ rfl⟩ ?_
    rintro ⟨k, s⟩ ⟨hk, hp⟩
    show AWP _ _ _ _ _ ⟨[(9, vI k)] ++ _, [E.row b2 38 [.sl 11 (s.code.map In.cells), .sl 5 (s.tys.map Ty.cells), cI s.pc, .sl 1 (s.X.map fun n => [cI n]), .sl 2 (s.R.map Vl.cells), .sl 2 (s.M.map Vl.cells), .lit (.bool s.hl)], E.row b_1 80 (mcC sv_1 s), E.vec sv_1 63 2 (s.M.map Vl.cells)] ++ _⟩
    refine awp_seq <|
     sReg rfl <|
     rMv rfl <|
     rMv rfl <|
     rwp_det rfl rfl (det_len_slm rfl el27 rfl) <|
     rwp_det rfl rfl (det_lss rfl rfl rfl) <|
     rwp_nil <|
     awp_cond rfl (fun c4 => ?_) (fun c4 => ?_)
    ·try simp only [sx] at c4
     obtain ⟨x, hx⟩ := ex_get l k (by omega)
     refine awp_skip <|
      awp_seq <|
      awp_block <|
      sReg rfl <|
      rMv rfl <|
      rMv rfl <|
      rMv rfl <|
      rwp_det rfl rfl (det_index_sl rfl el27 rfl rfl (by omega) (getm hx)) <|
      rwp_det rfl rfl (det_load_agg rfl agg45 rfl ptr_imm rfl) <|
      rwp_det rfl rfl (det_call_mem [1, 1] rfl ok11 (law49_act b_1 sv_1 s u.words hp x (hA x (mem_of_get hx))) ⟨VLe.refl _, rfl, VLe.refl _, rfl, trivial⟩ rfl) <|
      rwp_det rfl rfl (det_move_tup rfl rfl) <|
      rwp_det rfl rfl (det_ex_c rfl rfl rfl) <|
      rwp_det rfl rfl (det_ex_c rfl rfl rfl) <|
      rwp_det rfl rfl (det_ex_c rfl rfl rfl) <|
      rMv rfl <|
      rMv rfl <|
      rMv rfl <|
      rwp_nil <|
      awp_seq <|
      awp_draw_c 15 1 [⟨0, .q [1]⟩, ⟨1, .q []⟩, ⟨2, .q []⟩, ⟨3, .q []⟩, ⟨4, .q []⟩, ⟨5, .q []⟩, ⟨6, .q []⟩, ⟨7, .q []⟩, ⟨8, .q []⟩, ⟨9, .q []⟩, ⟨10, .q []⟩, ⟨11, .e 0 []⟩, ⟨12, .e 0 []⟩, ⟨13, .q []⟩, ⟨14, .q []⟩] mixed (by kernel_rfl) (by kernel_rfl) rfl rfl rfl <|
      fx_skip rfl <|
      fx_skip rfl <|
      fx_skip rfl <|
      fx_skip rfl <|
      fx_skip rfl <|
      fx_skip rfl <|
      fx_skip rfl <|
      fx_skip rfl <|
      fx_skip rfl <|
      fx_skip rfl <|
      fx_skip rfl <|
      fx_skip rfl <|
      fx_skip rfl <|
      fx_skip rfl <|
      fx_skip rfl <|
      fx_nil <|
      sq_det rfl (by decide) rfl rfl (det_load_agg rfl agg38 rfl (ptr_row 0 rfl) rfl) <|
      sq_det rfl (by decide) rfl rfl (det_move rfl rfl) <|
      sq_det rfl (by decide) rfl rfl (det_move rfl rfl) <|
      sq_det rfl (by decide) rfl rfl (det_index_sl rfl el27 rfl rfl (by omega) (getm hx)) <|
      sq_det rfl (by decide) rfl rfl (det_load_agg rfl agg45 rfl ptr_imm rfl) <|
      sq_det rfl (by decide) rfl rfl (det_call rfl ok12 (law49_model s u.words hp x (hA x (mem_of_get hx))) ⟨VLe.refl _, rfl, VLe.refl _, rfl, trivial⟩) <|
      sq_det rfl (by decide) rfl rfl (det_move_tup rfl rfl) <|
      sq_det rfl (by decide) rfl rfl (det_ex_agg rfl rfl rfl) <|
      sq_det rfl (by decide) rfl rfl (det_ex_c rfl rfl rfl) <|
      sq_det rfl (by decide) rfl rfl (det_ex_c rfl rfl rfl) <|
      sq_det rfl (by decide) rfl rfl (det_ex_c rfl rfl rfl) <|
      sq_op rfl rfl (by decide) rfl rfl (ope_allocN [some 11, some 5, none, some 1, some 2, some 2, none] rfl zr38 rfl) ?_
     rintro _ _ ⟨b3, rfl, rfl⟩
     refine ⟨_, rfl, ?_⟩
     refine sq_op0 rfl rfl (by decide) rfl rfl (det_store rfl sz38 rfl rfl rfl (st_row 0 rfl rfl)) ?_
     rintro _ _ ⟨rfl, rfl⟩
     refine ⟨_, rfl, ?_⟩
     refine sq_det rfl (by decide) rfl rfl (det_assign rfl rfl) <|
      sq_det rfl (by decide) rfl rfl (det_assign rfl rfl) <|
      sq_nil rfl <|
      rMv rfl <|
      rwp_nil <|
      sReg rfl <|
      rwp_det rfl rfl (det_load_agg rfl agg38 rfl (ptr_row 0 rfl) rfl) <|
      rwp_det0 rfl rfl (det_store rfl sz38 rfl rfl rfl (st_row 1 rfl rfl)) <|
      rwp_nil <|
      sReg rfl <|
      rMv rfl <|
      rMv rfl <|
      rwp_det rfl rfl (det_neq rfl rfl rfl) <|
      rMv rfl <|
      rLz [] rfl gv1 trivial (fun g15_3 => det_move rfl rfl) rfl <|
      rLz [] rfl gv1 trivial (fun g15_3 => det_move rfl rfl) rfl <|
      rLz [(98, _), (99, _)] rfl gv1 ⟨rfl, rfl, rfl, rfl, trivial⟩ (fun g15_3 => det_neq rfl rfl rfl) rfl <|
      rwp_det rfl rfl (det_or rfl rfl rfl rfl (fun h => (lzf h))) <|
      rMv rfl <|
      rLz [] rfl gv1 trivial (fun g15_8 => det_move rfl rfl) rfl <|
      rLz [] rfl gv1 trivial (fun g15_8 => det_move rfl rfl) rfl <|
      rLz [(103, _), (104, _)] rfl gv1 ⟨rfl, rfl, rfl, rfl, trivial⟩ (fun g15_8 => det_call rfl ok13 (base_Vals (actM s x).2.2.1 (actM_len hp x)) ⟨VLe.refl _, rfl, VLe.refl _, rfl, trivial⟩) rfl <|
      rLz [(105, _)] rfl gv1 ⟨rfl, rfl, trivial⟩ (fun g15_8 => det_not rfl rfl) rfl <|
      rwp_det rfl rfl (det_or rfl rfl rfl rfl (fun h => (lzf h))) <|
      rMv rfl <|
      rLz [] rfl gv1 trivial (fun g15_14 => det_move rfl rfl) rfl <|
      rLz [] rfl gv1 trivial (fun g15_14 => det_load_agg rfl agg38 rfl (ptr_row 1 rfl) rfl) rfl <|
      rLz [(109, _), (110, _)] rfl gv1 ⟨rfl, rfl, rfl, rfl, trivial⟩ (fun g15_14 => det_call_same [2, 2] rfl ok10 (law49_like b_1 sv_1 (actM s x).1 u.words (actM_ok hp x)) ⟨VLe.refl _, rfl, VLe.refl _, rfl, trivial⟩ rfl) rfl <|
      rLz [(111, _)] rfl gv1 ⟨rfl, rfl, trivial⟩ (fun g15_14 => det_not rfl rfl) rfl <|
      rwp_det rfl rfl (det_or rfl rfl rfl rfl (fun h => (lzf h))) <|
      rwp_nil <|
      awp_cond rfl (fun c5 => ?_) (fun c5 => ?_)
     ·exact absurd c5 (by simp [Lz])
     ·refine awp_skip <|
       awp_region rfl <|
       rMv rfl <|
       rwp_det rfl rfl (det_add_nw rfl rfl rfl ⟨by omega, by omega⟩) <|
       rMv rfl <|
       rwp_nil ?_
      refine ⟨⟨k + 1, (actM s x).1⟩, ⟨by omega, (actM_ok hp x)⟩, (by show l.length - (k + 1) < l.length - k; omega), Weak.mk [false, true, true, true] ⟨VLe.refl _, VLe.refl _, VLe.refl _, VLe.refl _, trivial⟩ rfl⟩
    ·try simp only [sx] at c4
     refine awp_exit <|
      sReg rfl <|
      rwp_det rfl rfl (det_call rfl ok7 (law49_live) trivial) <|
      rMv rfl <|
      rwp_nil <|
      awp_ret <|
      fin1 (rs_c rfl) ?_
     exact rfl

theorem law49_VmPlays (u : Un0) (l : List Ac) (hf : u.Fit) (hl : l.length ≤ 140737488355328) : Pur cfg 3 [vU0 u, vAcs l] (vB true) := by
  by_cases hv : (vld u.code u.tys u.words).2 = 0
  · exact law49_ok u l hf hl hv
  · exact law49_bad u l hf hl hv
end Go.W
