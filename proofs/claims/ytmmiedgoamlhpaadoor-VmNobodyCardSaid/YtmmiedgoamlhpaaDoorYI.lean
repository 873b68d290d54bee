/-
  Walks: what functions of the program compute. Printed by wip/gen/mk2.py.
  Conditions: none.
-/
import Derived.Test.YtmmiedgoamlhpaaDoorYH
import Derived.Test.YtmmiedgoamlhpaaDoorPlainM
set_option linter.unusedSimpArgs false
set_option linter.unusedVariables false
set_option maxRecDepth 10000
namespace Go.W
open Go Go.Eng Go.Proofs Go.L41 Go.Br
attribute [local irreducible] AWP RWP TD finQ
theorem el26 : elemT Tryd.prog 26 = some (24, 4, 48) := by kernel_rfl
theorem fd24_2 : fieldT Tryd.prog 24 2 = some (2, 3) := by kernel_rfl
theorem fd24_3 : fieldT Tryd.prog 24 3 = some (3, 22) := by kernel_rfl
theorem fd53_0 : fieldT Tryd.prog 53 0 = some (0, 29) := by kernel_rfl
theorem fd53_1 : fieldT Tryd.prog 53 1 = some (1, 30) := by kernel_rfl
theorem fd53_3 : fieldT Tryd.prog 53 3 = some (3, 3) := by kernel_rfl
theorem ok16 : callOk Tryd.prog 16 = true := by kernel_rfl
theorem ok17 : callOk Tryd.prog 17 = true := by kernel_rfl
theorem ok18 : callOk Tryd.prog 18 = true := by kernel_rfl
theorem ok19 : callOk Tryd.prog 19 = true := by kernel_rfl
theorem ok20 : callOk Tryd.prog 20 = true := by kernel_rfl
theorem pl36 : placesT Tryd.prog 36 = some [(0, 1), (1, 1), (2, 1), (3, 1), (4, 256), (260, 512), (772, 1), (773, 1)] := by kernel_rfl
theorem law49_fewActs (l : List Ac) (hl : l.length ≤ 140737488355328) :
    Pur cfg 4 [vAcs l] (vB (fewAs l)) := by
 refine con_intro Tryd.func4 rfl Tryd.ntmps4 Tryd.results4 rfl ?_
 intro z hz
 refine sReg rfl <|
  rMv rfl <|
  rwp_nil <|
  awp_seq <|
  sReg rfl <|
  rMv rfl <|
  rwp_nil <|
  awp_block <|
  awp_weak ⟨[(3, .c _), (0, .c _)], []⟩ (Weak.mk [] ⟨VLe.of_eq rfl, VLe.of_eq rfl, trivial⟩ rfl) <|
  awp_loop_k 1 0 rfl rfl (Nat) (fun k => [(3, vI k)]) (fun k => []) (fun k => k ≤ l.length ∧ ((l.take k).any Ac.bad = false)) (fun k => l.length - k) ⟨0, ⟨by omega, rfl⟩, Weak.mk [] ⟨VLe.refl _, VLe.refl _, trivial⟩ rfl⟩ ?_
 rintro k ⟨hk, hp⟩
 refine awp_seq <|
  sReg rfl <|
  rMv rfl <|
  rMv rfl <|
  rwp_det rfl rfl (det_len_slm rfl el26 rfl) <|
  rwp_det rfl rfl (det_lss rfl rfl rfl) <|
  rwp_nil <|
  awp_cond rfl (fun c1 => ?_) (fun c1 => ?_)
 ·try simp only [sx] at c1
  obtain ⟨x, hx⟩ := ex_get l k (by omega)
  refine awp_skip <|
   awp_seq <|
   awp_block <|
   sReg rfl <|
   rMv rfl <|
   rMv rfl <|
   rwp_det rfl rfl (det_index_sl rfl el26 rfl rfl (by omega) (getm (by assumption))) <|
   rwp_det rfl rfl (det_field_imm rfl fd24_3 rfl) <|
   rwp_det rfl rfl (det_load_one rfl one22 rfl ptr_imm rfl) <|
   rwp_det rfl rfl (det_len_slm rfl el22 rfl) <|
   rwp_det rfl rfl (det_gtr rfl rfl rfl) <|
   rMv rfl <|
   rLz [] rfl gv1 trivial (fun g4_7 => det_move rfl rfl) rfl <|
   rLz [] rfl gv1 trivial (fun g4_7 => det_move rfl rfl) rfl <|
   rLz [(18, _), (19, _)] rfl gv1 ⟨rfl, rfl, rfl, rfl, trivial⟩ (fun g4_7 => det_index_sl rfl el26 rfl rfl (by omega) (getm (by assumption))) rfl <|
   rLz [(20, _)] rfl gv1 ⟨rfl, rfl, trivial⟩ (fun g4_7 => det_field_imm rfl fd24_2 rfl) rfl <|
   rLz [(21, _)] rfl gv1 ⟨rfl, rfl, trivial⟩ (fun g4_7 => det_load_one rfl one3 rfl ptr_imm rfl) rfl <|
   rLz [(22, _)] rfl gv1 ⟨rfl, rfl, trivial⟩ (fun g4_7 => det_gtr rfl rfl rfl) rfl <|
   rLz [(23, _)] rfl gv1 ⟨rfl, rfl, trivial⟩ (fun g4_7 => det_move rfl rfl) rfl <|
   rLz [] rfl gv2 trivial (fun g4_14 => det_move rfl rfl) rfl <|
   rLz [] rfl gv2 trivial (fun g4_14 => det_move rfl rfl) rfl <|
   rLz [(25, _), (26, _)] rfl gv2 ⟨rfl, rfl, rfl, rfl, trivial⟩ (fun g4_14 => det_index_sl rfl el26 rfl rfl (by omega) (getm (by assumption))) rfl <|
   rLz [(27, _)] rfl gv2 ⟨rfl, rfl, trivial⟩ (fun g4_14 => det_field_imm rfl fd24_2 rfl) rfl <|
   rLz [(28, _)] rfl gv2 ⟨rfl, rfl, trivial⟩ (fun g4_14 => det_load_one rfl one3 rfl ptr_imm rfl) rfl <|
   rLz [(29, _)] rfl gv2 ⟨rfl, rfl, trivial⟩ (fun g4_14 => det_leq rfl rfl rfl) rfl <|
   rLz [(24, _)] rfl gv1 ⟨rfl, rfl, trivial⟩ (fun g4_7 => det_and rfl rfl rfl (fun h => and_mk (by assumption) h) rfl) rfl <|
   rwp_det rfl rfl (det_or rfl rfl rfl rfl (fun h => (lzf h))) <|
   rwp_nil <|
   awp_cond rfl (fun c2 => ?_) (fun c2 => ?_)
  ·have c2 : x.bad = true := by simpa [Ac.bad, Lz] using c2
   refine sReg rfl <|
    rMv rfl <|
    rwp_nil <|
    awp_ret <|
    fin1 (rs_c rfl) ?_
   rw [fewAs_no hx c2]
  ·have c2 : x.bad = false := by simpa [Ac.bad, Lz] using c2
   refine awp_skip <|
    awp_region rfl <|
    rMv rfl <|
    rwp_det rfl rfl (det_add_nw rfl rfl rfl ⟨by omega, by omega⟩) <|
    rMv rfl <|
    rwp_nil ?_
   refine ⟨k + 1, ⟨by omega, any_next hx hp c2⟩, (by omega), Weak.mk [] ⟨VLe.refl _, VLe.refl _, trivial⟩ rfl⟩
 ·try simp only [sx] at c1
  have hend : ¬ k < l.length := by omega
  refine awp_exit <|
   sReg rfl <|
   rMv rfl <|
   rwp_det rfl rfl (det_len_slm rfl el26 rfl) <|
   rwp_det rfl rfl (det_leq rfl rfl rfl) <|
   rMv rfl <|
   rwp_nil <|
   awp_ret <|
   fin1 (rs_c rfl) ?_
  rw [fewAs_yes hend hp]

theorem zrM : zeroT Tryd.prog 36 = some zM := by kernel_rfl
theorem fillM (sv : Value) (code : List In) (tys : List Ty) (M : List Vl) : afill (nth [(0, 1), (1, 1), (2, 1), (3, 1), (4, 256), (260, 512), (772, 1), (773, 1)]) (zM.map .lit) [(0, .c (.lit (.bool true))), (1, .c (.sl 11 (code.map In.cells))), (2, .c (.sl 5 (tys.map Ty.cells))), (3, .c (.lit sv))] = some (mcC sv ⟨code, tys, 0, List.replicate 256 0, List.replicate 256 ⟨0, 0⟩, M, false⟩) := by kernel_rfl
theorem repeatW (v : Vl) (w : Int) (h0 : 0 ≤ w) (h : w ≤ 1048576) : OwnR cfg 19 [vVals [v], vI w] 33 2 ((List.replicate w.toNat v).map Vl.cells) := by
  have e := slices_Repeat_val v w.toNat (by omega)
  rw [Int.toNat_of_nonneg h0] at e
  exact e
theorem vm_New_ok (u : Un0) (ht : u.tys.length ≤ 1000000) (hv : (vld u.code u.tys u.words).2 = 0) :
    Con cfg 9 [vU0 u] [] fun r μ' => ∃ b sv, r = .tup [vPt b, vI 0] ∧ μ' = mcE b sv (newM u.code u.tys u.words) := by
 refine con_intro Tryd.func9 rfl Tryd.ntmps9 Tryd.results9 rfl ?_
 intro z hz
 obtain ⟨v1, v2, v3, v4, v5⟩ := vld_ok hv
 refine sReg rfl <|
  rwp_op rfl rfl (ope_box rfl rfl) ?_
 rintro _ _ ⟨b1, rfl, rfl⟩
 refine rMv rfl <|
  rMv rfl <|
  rwp_nil <|
  awp_seq <|
  sReg rfl <|
  rwp_det rfl rfl (det_field_lit rfl fd53_0 rfl) <|
  rwp_det rfl rfl (det_load_one rfl one29 rfl (ptr_row 0 rfl) rfl) <|
  rwp_det rfl rfl (det_field_lit rfl fd53_1 rfl) <|
  rwp_det rfl rfl (det_load_one rfl one30 rfl (ptr_row 0 rfl) rfl) <|
  rwp_det rfl rfl (det_field_lit rfl fd53_3 rfl) <|
  rwp_det rfl rfl (det_load_one rfl one3 rfl (ptr_row 0 rfl) rfl) <|
  rwp_det rfl rfl (det_call rfl ok16 (isa_Validate u.code u.tys u.words ht) ⟨VLe.refl _, rfl, VLe.refl _, rfl, VLe.refl _, rfl, trivial⟩) <|
  rwp_det rfl rfl (det_move_tup rfl rfl) <|
  rwp_det rfl rfl (det_ex_c rfl rfl rfl) <|
  rwp_det rfl rfl (det_ex_c rfl rfl rfl) <|
  rMv rfl <|
  rMv rfl <|
  rwp_nil <|
  sReg rfl <|
  rMv rfl <|
  rwp_det rfl rfl (det_neq rfl rfl rfl) <|
  rwp_nil <|
  awp_cond rfl (fun c1 => ?_) (fun c1 => ?_)
 ·try simp only [sx] at c1
  exact absurd hv c1
 ·try simp only [sx] at c1
  refine awp_skip <|
   awp_seq <|
   awp_draw 10 mixed (by kernel_rfl) rfl rfl <|
   td_det rfl rfl (det_field_lit rfl fd53_0 rfl) <|
   td_det rfl rfl (det_load_one rfl one29 rfl (ptr_row 0 rfl) rfl) <|
   td_det rfl rfl (det_call rfl ok17 (OwnR.pur (slices_Clone_in u.code (by omega))) ⟨VLe.refl _, rfl, trivial⟩) <|
   td_det rfl rfl (det_field_lit rfl fd53_1 rfl) <|
   td_det rfl rfl (det_load_one rfl one30 rfl (ptr_row 0 rfl) rfl) <|
   td_det rfl rfl (det_call rfl ok18 (OwnR.pur (slices_Clone_ty u.tys (by omega))) ⟨VLe.refl _, rfl, trivial⟩) <|
   td_det rfl rfl (det_call rfl ok20 (vm_zero) trivial) <|
   td_det rfl rfl (det_bslice rfl el22 zr33 rfl rfl rfl rfl) <|
   td_det rfl rfl (det_field_lit rfl fd53_3 rfl) <|
   td_det rfl rfl (det_load_one rfl one3 rfl (ptr_row 0 rfl) rfl) <|
   td_nil <|
   rwp_op rfl rfl (ope_call_own rfl ok19 (repeatW ⟨0, 1⟩ u.words v2 v3) ⟨VLe.refl _, rfl, VLe.refl _, rfl, trivial⟩) ?_
  rintro _ _ ⟨sv2, rfl, rfl⟩
  refine rwp_det rfl rfl (det_build rfl zrM pl36 (fillM _ u.code u.tys (List.replicate u.words.toNat ⟨0, 1⟩))) <|
   rwp_op rfl rfl (ope_box rfl rfl) ?_
  rintro _ _ ⟨b3, rfl, rfl⟩
  refine rMv rfl <|
   rwp_nil <|
   awp_seq <|
   sReg rfl <|
   rMv rfl <|
   rwp_nil <|
   awp_block <|
   awp_weak ⟨[(34, .c _), (6, .c _)], [_, _]⟩ (Weak.mk [true, true, false] ⟨VLe.of_eq rfl, VLe.of_eq rfl, trivial⟩ rfl) <|
   awp_loop_k 1 1 rfl rfl (Nat) (fun k => [(34, vI k)]) (fun k => [E.row b3 36 (mcC sv2 (newK u.code u.tys u.words k))]) (fun k => k ≤ 256) (fun k => 256 - k) ⟨0, (Nat.zero_le _), Weak.mk [true, true] ⟨VLe.refl _, VLe.refl _, trivial⟩ rfl⟩ ?_
  rintro k hk
  refine sReg rfl <|
   rwp_det rfl rfl (det_lss rfl rfl rfl) <|
   rwp_nil <|
   awp_seq <|
   awp_cond rfl (fun c2 => ?_) (fun c2 => ?_)
  ·try simp only [sx] at c2
   refine awp_skip <|
    awp_seq <|
    awp_block <|
    sReg rfl <|
    rMv rfl <|
    rMv rfl <|
    rwp_nil <|
    awp_draw 6 mixed (by kernel_rfl) rfl rfl <|
    td_det rfl rfl (det_move rfl rfl) <|
    td_det rfl rfl (det_move rfl rfl) <|
    td_det rfl rfl (det_call rfl ok20 (vm_zero) trivial) <|
    td_det rfl rfl (det_nilcheck_ptr rfl rfl) <|
    td_det rfl rfl (det_field_lit rfl fd36_5 rfl) <|
    td_det rfl rfl (det_arr_lit rfl ar34 rfl rfl (by omega) (by omega)) <|
    td_nil <|
    rwp_det0 rfl rfl (det_store rfl sz33 rfl rfl rfl (st_rowE 0 rfl (by rw [mc_len (newK_ok hv hk)]; show 0 + 260 + (k : Int).toNat * 2 + 2 ≤ 774; omega) (mc_sR (newK_ok hv hk) ⟨0, 1⟩ (by omega) (by omega)))) <|
    rwp_nil <|
    awp_region rfl <|
    rwp_det rfl rfl (det_add_nw rfl rfl rfl ⟨by omega, by omega⟩) <|
    rMv rfl <|
    rwp_nil ?_
   refine ⟨(k + 1), (by omega), (by omega), Weak.mk [true, true] ⟨VLe.refl _, VLe.refl _, trivial⟩ (by rw [← newK_next (by omega)]; rfl)⟩
  ·try simp only [sx] at c2
   refine awp_exit <|
    sReg rfl <|
    rMv rfl <|
    rMv rfl <|
    rMv rfl <|
    rwp_nil <|
    awp_ret <|
    fin2 (rs_c rfl) (rs_c rfl) ?_
   exact ⟨_, _, rfl, by rw [← newK_all, show (256 : Nat) = k by omega]; rfl⟩

end Go.W
