/-
  Walks: what functions of the program compute. Printed by wip/gen/mk2.py.
  Conditions: none.
-/
import Derived.Test.YtmmiedgoamlhpaaDoorYJ
import Derived.Test.YtmmiedgoamlhpaaDoorPlainM
set_option linter.unusedSimpArgs false
set_option linter.unusedVariables false
set_option maxRecDepth 10000
namespace Go.W
open Go Go.Eng Go.Proofs Go.L41 Go.Br
attribute [local irreducible] AWP RWP TD finQ
theorem ok7 : callOk Tryd.prog 7 = true := by kernel_rfl
theorem ok8 : callOk Tryd.prog 8 = true := by kernel_rfl
theorem ok9 : callOk Tryd.prog 9 = true := by kernel_rfl
theorem pl53 : placesT Tryd.prog 53 = some [(0, 1), (1, 1), (2, 1), (3, 1)] := by kernel_rfl
theorem zr53 : zeroT Tryd.prog 53 = some [(Value.slice none 0 0), (Value.slice none 0 0), (Value.slice none 0 0), (Value.int IntKind.i64 0)] := by kernel_rfl
theorem law49_live  :
    Pur cfg 5 [] (vB true) := by
 refine con_intro Tryd.func5 rfl Tryd.ntmps5 Tryd.results5 rfl ?_
 intro z hz
 have h1 : (runX m1 10).1.Ok 0 := runX_ok (newM_ok v1) 10
 have h1X := h1.hX
 refine sReg rfl <|
  rMv rfl <|
  rwp_nil <|
  sReg rfl <|
  rwp_det rfl rfl (det_build rfl zr50 pl50 rfl) <|
  rwp_det rfl rfl (det_build rfl zr50 pl50 rfl) <|
  rwp_det rfl rfl (det_bslice rfl el29 zr50 rfl rfl rfl rfl) <|
  rwp_det rfl rfl (det_buildN [none, some 5, some 3, none] rfl zr53 pl53 rfl rfl) <|
  rwp_op rfl rfl (ope_call rfl ok9 (Con.frame (vm_New_ok u1 (by decide) v1) _) ⟨VLe.refl _, rfl, trivial⟩) ?_
 rintro _ _ ⟨_, ⟨b_1, sv_1, rfl, rfl⟩, rfl⟩
 refine rwp_det rfl rfl (det_move_tup rfl rfl) <|
  rwp_det rfl rfl (det_ex_c rfl rfl rfl) <|
  rwp_det rfl rfl (det_ex_c rfl rfl rfl) <|
  rMv rfl <|
  rMv rfl <|
  rwp_nil <|
  awp_seq <|
  sReg rfl <|
  rMv rfl <|
  rwp_det rfl rfl (det_neq rfl rfl rfl) <|
  rMv rfl <|
  rLz [] rfl gv1 trivial (fun g2_2 => det_move rfl rfl) rfl <|
  rLz [(25, _)] rfl gv1 ⟨rfl, rfl, trivial⟩ (fun g2_2 => det_ptr_eq rfl rfl rfl un28) rfl <|
  rwp_det rfl rfl (det_or rfl rfl rfl rfl (fun h => (lzf h))) <|
  rwp_nil <|
  awp_cond rfl (fun c1 => ?_) (fun c1 => ?_)
 ·try simp only [sx] at c1
  exact absurd c1 (by simp)
 ·try simp only [sx] at c1
  refine awp_skip <|
   sReg rfl <|
   rMv rfl <|
   rwp_det rfl rfl (det_call_mem [0, 0] rfl ok10 (vm_Run b_1 sv_1 m1 0 (newM_ok v1) 10) ⟨VLe.refl _, rfl, VLe.refl _, rfl, trivial⟩ rfl) <|
   rwp_det rfl rfl (det_move_tup rfl rfl) <|
   rwp_det rfl rfl (det_ex_c rfl rfl rfl) <|
   rwp_det rfl rfl (det_ex_c rfl rfl rfl) <|
   rMv rfl <|
   rMv rfl <|
   rwp_nil <|
   sReg rfl <|
   rMv rfl <|
   rwp_det rfl rfl (det_call_same [0, 0] rfl ok8 (vm_IntRegisters b_1 sv_1 (runX m1 10).1 0 h1) ⟨VLe.refl _, rfl, trivial⟩ rfl) <|
   rMv rfl <|
   rwp_nil <|
   sReg rfl <|
   rwp_det rfl rfl (det_build rfl zr50 pl50 rfl) <|
   rwp_det rfl rfl (det_build rfl zr33 pl33 rfl) <|
   rwp_det rfl rfl (det_build rfl zr50 pl50 rfl) <|
   rwp_det rfl rfl (det_bslice rfl el29 zr50 rfl rfl rfl rfl) <|
   rwp_det rfl rfl (det_buildN [none, some 5, some 3, none] rfl zr53 pl53 rfl rfl) <|
   rwp_op rfl rfl (ope_call rfl ok9 (Con.frame (vm_New_ok u2 (by decide) v2) _) ⟨VLe.refl _, rfl, trivial⟩) ?_
  rintro _ _ ⟨_, ⟨b_2, sv_2, rfl, rfl⟩, rfl⟩
  refine rwp_det rfl rfl (det_move_tup rfl rfl) <|
   rwp_det rfl rfl (det_ex_c rfl rfl rfl) <|
   rwp_det rfl rfl (det_ex_c rfl rfl rfl) <|
   rMv rfl <|
   rMv rfl <|
   rwp_nil <|
   sReg rfl <|
   rwp_det rfl rfl (det_build rfl zr50 pl50 rfl) <|
   rwp_det rfl rfl (det_bslice rfl el29 zr50 rfl rfl rfl rfl) <|
   rwp_det rfl rfl (det_buildN [none, some 5, some 3, none] rfl zr53 pl53 rfl rfl) <|
   rwp_op rfl rfl (ope_call rfl ok9 (Con.frame (vm_New_ok u3 (by decide) v3) _) ⟨VLe.refl _, rfl, trivial⟩) ?_
  rintro _ _ ⟨_, ⟨b_3, sv_3, rfl, rfl⟩, rfl⟩
  refine rwp_det rfl rfl (det_move_tup rfl rfl) <|
   rwp_det rfl rfl (det_ex_c rfl rfl rfl) <|
   rwp_det rfl rfl (det_ex_c rfl rfl rfl) <|
   rMv rfl <|
   rMv rfl <|
   rwp_nil <|
   awp_seq <|
   sReg rfl <|
   rMv rfl <|
   rwp_det rfl rfl (det_neq rfl rfl rfl) <|
   rMv rfl <|
   rLz [] rfl gv1 trivial (fun g8_2 => det_move rfl rfl) rfl <|
   rLz [(54, _)] rfl gv1 ⟨rfl, rfl, trivial⟩ (fun g8_2 => det_neq rfl rfl rfl) rfl <|
   rwp_det rfl rfl (det_or rfl rfl rfl rfl (fun h => (lzf h))) <|
   rMv rfl <|
   rLz [] rfl gv1 trivial (fun g8_6 => det_move rfl rfl) rfl <|
   rLz [(58, _)] rfl gv1 ⟨rfl, rfl, trivial⟩ (fun g8_6 => det_ptr_eq rfl rfl rfl un28) rfl <|
   rwp_det rfl rfl (det_or rfl rfl rfl rfl (fun h => (lzf h))) <|
   rMv rfl <|
   rLz [] rfl gv1 trivial (fun g8_10 => det_move rfl rfl) rfl <|
   rLz [(62, _)] rfl gv1 ⟨rfl, rfl, trivial⟩ (fun g8_10 => det_ptr_eq rfl rfl rfl un28) rfl <|
   rwp_det rfl rfl (det_or rfl rfl rfl rfl (fun h => (lzf h))) <|
   rwp_nil <|
   awp_cond rfl (fun c2 => ?_) (fun c2 => ?_)
  ·try simp only [sx] at c2
   exact absurd c2 (by simp)
  ·try simp only [sx] at c2
   refine awp_skip <|
    sReg rfl <|
    rMv rfl <|
    rwp_det rfl rfl (det_call_mem [2, 2] rfl ok10 (vm_Run b_2 sv_2 m2 2 (newM_ok v2) 10) ⟨VLe.refl _, rfl, VLe.refl _, rfl, trivial⟩ rfl) <|
    rwp_det rfl rfl (det_move_tup rfl rfl) <|
    rwp_det rfl rfl (det_ex_c rfl rfl rfl) <|
    rwp_det rfl rfl (det_ex_c rfl rfl rfl) <|
    rMv rfl <|
    rMv rfl <|
    rwp_nil <|
    sReg rfl <|
    rMv rfl <|
    rwp_det rfl rfl (det_call_mem [0, 0] rfl ok10 (vm_Run b_3 sv_3 m3 0 (newM_ok v3) 10) ⟨VLe.refl _, rfl, VLe.refl _, rfl, trivial⟩ rfl) <|
    rwp_det rfl rfl (det_move_tup rfl rfl) <|
    rwp_det rfl rfl (det_ex_c rfl rfl rfl) <|
    rwp_det rfl rfl (det_ex_c rfl rfl rfl) <|
    rMv rfl <|
    rMv rfl <|
    rwp_nil <|
    sReg rfl <|
    rMv rfl <|
    rwp_det rfl rfl (det_eql rfl rfl rfl) <|
    rMv rfl <|
    rLz [] rfl gv1 trivial (fun g12_2 => det_move rfl rfl) rfl <|
    rLz [(78, _)] rfl gv1 ⟨rfl, rfl, trivial⟩ (fun g12_2 => det_eql rfl rfl rfl) rfl <|
    rwp_det rfl rfl (det_and rfl rfl rfl (fun h => h) rfl) <|
    rMv rfl <|
    rLz [] rfl gv1 trivial (fun g12_6 => det_move rfl rfl) rfl <|
    rLz [(82, _)] rfl gv1 ⟨rfl, rfl, trivial⟩ (fun g12_6 => det_len_slm rfl el42 rfl) rfl <|
    rLz [(83, _)] rfl gv1 ⟨rfl, rfl, trivial⟩ (fun g12_6 => det_eql rfl rfl rfl) rfl <|
    rwp_det rfl rfl (det_and rfl rfl rfl (fun h => h) rfl) <|
    rMv rfl <|
    rLz [] rfl gv1 trivial (fun g12_11 => det_move rfl rfl) rfl <|
    rLz [(87, _)] rfl gv1 ⟨rfl, rfl, trivial⟩ (fun g12_11 => det_index_sl rfl el42 rfl rfl (by omega) (getm r1x)) rfl <|
    rLz [(88, _)] rfl gv1 ⟨rfl, rfl, trivial⟩ (fun g12_11 => det_load_one rfl one2 rfl ptr_imm rfl) rfl <|
    rLz [(89, _)] rfl gv1 ⟨rfl, rfl, trivial⟩ (fun g12_11 => det_eql rfl rfl rfl) rfl <|
    rwp_det rfl rfl (det_and rfl rfl rfl (fun h => h) rfl) <|
    rMv rfl <|
    rLz [] rfl gv1 trivial (fun g12_17 => det_move rfl rfl) rfl <|
    rLz [(93, _)] rfl gv1 ⟨rfl, rfl, trivial⟩ (fun g12_17 => det_call_same [4, 4] rfl ok7 (vm_PC b_1 sv_1 (runX m1 10).1 0 h1) ⟨VLe.refl _, rfl, trivial⟩ rfl) rfl <|
    rLz [(94, _)] rfl gv1 ⟨rfl, rfl, trivial⟩ (fun g12_17 => det_eql rfl rfl rfl) rfl <|
    rwp_det rfl rfl (det_and rfl rfl rfl (fun h => h) rfl) <|
    rMv rfl <|
    rLz [] rfl gv1 trivial (fun g12_22 => det_move rfl rfl) rfl <|
    rLz [(98, _)] rfl gv1 ⟨rfl, rfl, trivial⟩ (fun g12_22 => det_eql rfl rfl rfl) rfl <|
    rwp_det rfl rfl (det_and rfl rfl rfl (fun h => h) rfl) <|
    rMv rfl <|
    rLz [] rfl gv1 trivial (fun g12_26 => det_move rfl rfl) rfl <|
    rLz [(102, _)] rfl gv1 ⟨rfl, rfl, trivial⟩ (fun g12_26 => det_eql rfl rfl rfl) rfl <|
    rwp_det rfl rfl (det_and rfl rfl rfl (fun h => h) rfl) <|
    rMv rfl <|
    rwp_nil <|
    awp_ret <|
    fin1 (rs_c rfl) ?_
   exact congrArg vB (by simp [Lz, r1n, r1e, r1p, r2e, r3e, h1X])

end Go.W
