/-
  Walks: what functions of the program compute. Printed by wip/gen/mk2.py.
  Conditions: none.
-/
import Derived.Test.YtmmiedgoamlhpaaDoorYA
import Derived.Test.YtmmiedgoamlhpaaDoorPlain
set_option linter.unusedSimpArgs false
set_option linter.unusedVariables false
set_option maxRecDepth 10000
namespace Go.W
open Go Go.Eng Go.Proofs Go.L41 Go.Br
attribute [local irreducible] AWP RWP TD finQ
theorem el22 : elemT Tryd.prog 22 = some (33, 2, 16) := by kernel_rfl
theorem fd120_0 : fieldT Tryd.prog 120 0 = some (0, 118) := by kernel_rfl
theorem ok71 : callOk Tryd.prog 71 = true := by kernel_rfl
theorem ok72 : callOk Tryd.prog 72 = true := by kernel_rfl
theorem ok74 : callOk Tryd.prog 74 = true := by kernel_rfl
theorem ok75 : callOk Tryd.prog 75 = true := by kernel_rfl
theorem ok76 : callOk Tryd.prog 76 = true := by kernel_rfl
theorem ok77 : callOk Tryd.prog 77 = true := by kernel_rfl
theorem ok78 : callOk Tryd.prog 78 = true := by kernel_rfl
theorem ok79 : callOk Tryd.prog 79 = true := by kernel_rfl
theorem ok80 : callOk Tryd.prog 80 = true := by kernel_rfl
theorem ok82 : callOk Tryd.prog 82 = true := by kernel_rfl
theorem ok84 : callOk Tryd.prog 84 = true := by kernel_rfl
theorem one118 : oneT Tryd.prog 118 = true := by kernel_rfl
theorem pl120 : placesT Tryd.prog 120 = some [(0, 1)] := by kernel_rfl
theorem zr120 : zeroT Tryd.prog 120 = some [Value.nilFunc] := by kernel_rfl
theorem round_Quantize (v : Vl) (b how : Int) (hv : frOk v = true) (hb1 : 0 ≤ b) (hb2 : b ≤ 30) (h1 : 1 ≤ how) (h4 : how ≤ 4) :
    Pur cfg 71 [vVal v, vI b, vI how] (.tup [vI (rnd (v.N * pow2 b) v.D how), vI 0]) := by
 refine con_intro Tryd.func71 rfl Tryd.ntmps71 Tryd.results71 rfl ?_
 intro z hz
 obtain ⟨a1, a2, a3, a4, _⟩ := frOk_in hv
 have hp := pow2_le hb1 hb2
 have hm := m60 (B := 2147483647) (show v.N.natAbs ≤ 2147483647 by omega) (show 0 ≤ pow2 b by omega) hp.2
 refine sReg rfl <|
  rwp_op rfl rfl (ope_box rfl rfl) ?_
 rintro _ _ ⟨b1, rfl, rfl⟩
 refine rMv rfl <|
  rMv rfl <|
  rwp_nil <|
  awp_seq <|
  sReg rfl <|
  rwp_det rfl rfl (det_load_agg rfl agg33 rfl (ptr_row 0 rfl) rfl) <|
  rwp_det rfl rfl (det_call rfl ok43 (frac_Valid v) ⟨VLe.refl _, rfl, trivial⟩) <|
  rwp_det rfl rfl (det_not rfl rfl) <|
  rMv rfl <|
  rLz [] rfl gv1 trivial (fun g1_3 => det_move rfl rfl) rfl <|
  rLz [(12, _)] rfl gv1 ⟨rfl, rfl, trivial⟩ (fun g1_3 => det_lss rfl rfl rfl) rfl <|
  rwp_det rfl rfl (det_or rfl rfl rfl rfl (fun h => (lzf h))) <|
  rMv rfl <|
  rLz [] rfl gv1 trivial (fun g1_7 => det_move rfl rfl) rfl <|
  rLz [(16, _)] rfl gv1 ⟨rfl, rfl, trivial⟩ (fun g1_7 => det_gtr rfl rfl rfl) rfl <|
  rwp_det rfl rfl (det_or rfl rfl rfl rfl (fun h => (lzf h))) <|
  rMv rfl <|
  rLz [] rfl gv1 trivial (fun g1_11 => det_move rfl rfl) rfl <|
  rLz [(20, _)] rfl gv1 ⟨rfl, rfl, trivial⟩ (fun g1_11 => det_call rfl ok83 (round_mode _) ⟨VLe.refl _, rfl, trivial⟩) rfl <|
  rLz [(21, _)] rfl gv1 ⟨rfl, rfl, trivial⟩ (fun g1_11 => det_not rfl rfl) rfl <|
  rwp_det rfl rfl (det_or rfl rfl rfl rfl (fun h => (lzf h))) <|
  rwp_nil <|
  awp_cond rfl (fun c1 => ?_) (fun c1 => ?_)
 ·have c1 : (((!frOk v || decide (b < 0)) || decide (30 < b)) || !(decide (1 ≤ how) && decide (how ≤ 4))) = true := c1
  exact absurd c1 (by rw [hv]; simp; omega)
 ·refine awp_skip <|
   sReg rfl <|
   rwp_det rfl rfl (det_field_lit rfl fd33_0 rfl) <|
   rwp_det rfl rfl (det_load_one rfl one2 rfl (ptr_row 0 rfl) rfl) <|
   rMv rfl <|
   rwp_det rfl rfl (det_convE rfl us3 ik75 rfl (wrap_u64 ⟨by omega, by omega⟩)) <|
   rwp_det rfl rfl (det_shlE rfl rfl rfl (by omega) (shl_eq (B := 2147483647) hb1 hb2 (by omega) (by decide))) <|
   rwp_det rfl rfl (det_field_lit rfl fd33_1 rfl) <|
   rwp_det rfl rfl (det_load_one rfl one2 rfl (ptr_row 0 rfl) rfl) <|
   rMv rfl <|
   rwp_det rfl rfl (det_call rfl ok79 (round_Divide (v.N * pow2 b) v.D how (by omega) ⟨by omega, by omega⟩ (by omega) (by omega)) ⟨VLe.refl _, rfl, VLe.refl _, rfl, VLe.refl _, rfl, trivial⟩) <|
   rwp_det rfl rfl (det_ex_c rfl rfl rfl) <|
   rwp_det rfl rfl (det_ex_c rfl rfl rfl) <|
   rMv rfl <|
   rMv rfl <|
   rwp_nil <|
   awp_ret <|
   fin2 (rs_c rfl) (rs_c rfl) ?_
  rw [divR_eq (by omega)]

theorem round_Narrow (n b o : Int) (hn : In64 n) (h1 : 2 ≤ b) (h2 : b ≤ 31) (ho : o = 1 ∨ o = 2) :
    Pur cfg 84 [vI n, vI b, vI o] (.tup [vI (narI b o n), vB (!(decide (-half b ≤ n) && decide (n ≤ half b - 1)))]) := by
 refine con_intro Tryd.func84 rfl Tryd.ntmps84 Tryd.results84 rfl ?_
 intro z hz
 have hh := half_le h1 h2
 refine sReg rfl <|
  rMv rfl <|
  rMv rfl <|
  rwp_nil <|
  awp_seq <|
  sReg rfl <|
  rMv rfl <|
  rwp_det rfl rfl (det_call rfl ok73 (round_valid b) ⟨VLe.refl _, rfl, trivial⟩) <|
  rwp_det rfl rfl (det_not rfl rfl) <|
  rMv rfl <|
  rLz [] rfl gv1 trivial (fun g1_3 => det_move rfl rfl) rfl <|
  rLz [(15, _)] rfl gv1 ⟨rfl, rfl, trivial⟩ (fun g1_3 => det_neq rfl rfl rfl) rfl <|
  rLz [(16, _)] rfl gv1 ⟨rfl, rfl, trivial⟩ (fun g1_3 => det_move rfl rfl) rfl <|
  rLz [] rfl gv2 trivial (fun g1_6 => det_move rfl rfl) rfl <|
  rLz [(18, _)] rfl gv2 ⟨rfl, rfl, trivial⟩ (fun g1_6 => det_neq rfl rfl rfl) rfl <|
  rLz [(17, _)] rfl gv1 ⟨rfl, rfl, trivial⟩ (fun g1_3 => det_and rfl rfl rfl (fun h => and_mk (by assumption) h) rfl) rfl <|
  rwp_det rfl rfl (det_or rfl rfl rfl rfl (fun h => (lzf h))) <|
  rwp_nil <|
  awp_cond rfl (fun c1 => ?_) (fun c1 => ?_)
 ·have c1 : (!(decide (2 ≤ b) && decide (b ≤ 31)) || (!decide (o = 1) && !decide (o = 2))) = true := c1
  exact absurd c1 (by simp; omega)
 ·refine awp_skip <|
   sReg rfl <|
   rMv rfl <|
   rwp_det rfl rfl (det_call rfl ok54 (round_MinInt b h1 h2) ⟨VLe.refl _, rfl, trivial⟩) <|
   rMv rfl <|
   rwp_det rfl rfl (det_call rfl ok55 (round_MaxInt b h1 h2) ⟨VLe.refl _, rfl, trivial⟩) <|
   rMv rfl <|
   rMv rfl <|
   rwp_nil <|
   awp_seq <|
   awp_block <|
   sReg rfl <|
   rMv rfl <|
   rMv rfl <|
   rwp_det rfl rfl (det_geq rfl rfl rfl) <|
   rMv rfl <|
   rLz [] rfl gv1 trivial (fun g4_3 => det_move rfl rfl) rfl <|
   rLz [] rfl gv1 trivial (fun g4_3 => det_move rfl rfl) rfl <|
   rLz [(31, _), (32, _)] rfl gv1 ⟨rfl, rfl, rfl, rfl, trivial⟩ (fun g4_3 => det_leq rfl rfl rfl) rfl <|
   rwp_det rfl rfl (det_and rfl rfl rfl (fun h => h) rfl) <|
   rMv rfl <|
   rwp_nil <|
   awp_cond rfl (fun c2 => ?_) (fun c2 => ?_)
  ·refine sReg rfl <|
    rMv rfl <|
    rMv rfl <|
    rMv rfl <|
    rwp_nil <|
    awp_ret <|
    fin2 (rs_c rfl) (rs_c rfl) ?_
   rw [narI_in h1 h2 c2, c2]; rfl
  ·refine sReg rfl <|
    rMv rfl <|
    rwp_det rfl rfl (det_eql rfl rfl rfl) <|
    rMv rfl <|
    rLz [] rfl gv1 trivial (fun g6_2 => det_move rfl rfl) rfl <|
    rLz [] rfl gv1 trivial (fun g6_2 => det_move rfl rfl) rfl <|
    rLz [(40, _), (41, _)] rfl gv1 ⟨rfl, rfl, rfl, rfl, trivial⟩ (fun g6_2 => det_lss rfl rfl rfl) rfl <|
    rwp_det rfl rfl (det_and rfl rfl rfl (fun h => h) rfl) <|
    rMv rfl <|
    rwp_nil <|
    awp_cond rfl (fun c3 => ?_) (fun c3 => ?_)
   ·try simp only [sx] at c3
    refine sReg rfl <|
     rMv rfl <|
     rMv rfl <|
     rMv rfl <|
     rwp_nil <|
     awp_ret <|
     fin2 (rs_c rfl) (rs_c rfl) ?_
    rw [narI_lo h1 h2 c3.1 c3.2, c2]; rfl
   ·try simp only [sx] at c3
    refine sReg rfl <|
     rMv rfl <|
     rwp_det rfl rfl (det_eql rfl rfl rfl) <|
     rMv rfl <|
     rwp_nil <|
     awp_cond rfl (fun c4 => ?_) (fun c4 => ?_)
    ·try simp only [sx] at c4
     refine sReg rfl <|
      rMv rfl <|
      rMv rfl <|
      rMv rfl <|
      rwp_nil <|
      awp_ret <|
      fin2 (rs_c rfl) (rs_c rfl) ?_
     rw [narI_hi h1 h2 c4 (by omega) c2, c2]; rfl
    ·try simp only [sx] at c4
     refine awp_skip <|
      sReg rfl <|
      rMv rfl <|
      rwp_det rfl rfl (det_sub_nw rfl rfl rfl ⟨by omega, by omega⟩) <|
      rwp_det rfl rfl (det_convE rfl us3 ik75 rfl (wrap_u64 ⟨by omega, by omega⟩)) <|
      rMv rfl <|
      rwp_nil <|
      sReg rfl <|
      rMv rfl <|
      rwp_det rfl rfl (det_conv rfl us2 ik89 rfl) <|
      rMv rfl <|
      rwp_det rfl rfl (det_shl rfl rfl rfl (by omega)) <|
      rwp_det rfl rfl (det_convE rfl us89 ik2 rfl rfl) <|
      rMv rfl <|
      rwp_det rfl rfl (det_shrE rfl rfl rfl (by omega) (show _ = wrapW b n from by rw [show min (64 - b).toNat IntKind.u64.bits = (64 - b).toNat from Nat.min_eq_left (by show (64 - b).toNat ≤ 64; omega), show min (64 - b).toNat IntKind.i64.bits = (64 - b).toNat from Nat.min_eq_left (by show (64 - b).toNat ≤ 64; omega)]; exact wrap_shift h1 h2 hn)) <|
      rMv rfl <|
      rMv rfl <|
      rwp_nil <|
      awp_ret <|
      fin2 (rs_c rfl) (rs_c rfl) ?_
     rw [narI_wrap h1 h2 (by omega), c2]; rfl

theorem fixed_narrow (t : Ty) (n : Int) (ht : fixOk t = true) (hn : In64 n) :
    Pur cfg 72 [vTy t, vI n] (vVal ⟨nar t n, 1⟩) := by
 refine con_intro Tryd.func72 rfl Tryd.ntmps72 Tryd.results72 rfl ?_
 intro z hz
 obtain ⟨hK, hB1, hB2, hF1, hF2, hR1, hR4, hO, hh1, hh2, hp1, hp2⟩ := fxT ht
 refine sReg rfl <|
  rwp_op rfl rfl (ope_box rfl rfl) ?_
 rintro _ _ ⟨b1, rfl, rfl⟩
 refine rwp_op rfl rfl (ope_alloc rfl zr33) ?_
 rintro _ _ ⟨b2, rfl, rfl⟩
 refine rwp_nil <|
  sReg rfl <|
  rMv rfl <|
  rwp_det rfl rfl (det_field_lit rfl fd48_1 rfl) <|
  rwp_det rfl rfl (det_load_one rfl one3 rfl (ptr_row 1 rfl) rfl) <|
  rwp_det rfl rfl (det_field_lit rfl fd48_4 rfl) <|
  rwp_det rfl rfl (det_load_one rfl one3 rfl (ptr_row 1 rfl) rfl) <|
  rwp_det rfl rfl (det_call rfl ok84 (round_Narrow n t.Bits t.Over hn hB1 hB2 hO) ⟨VLe.refl _, rfl, VLe.refl _, rfl, VLe.refl _, rfl, trivial⟩) <|
  rwp_det rfl rfl (det_move_tup rfl rfl) <|
  rwp_det rfl rfl (det_ex_c rfl rfl rfl) <|
  rwp_det rfl rfl (det_ex_c rfl rfl rfl) <|
  rMv rfl <|
  rMv rfl <|
  rwp_nil <|
  sReg rfl <|
  rMv rfl <|
  rwp_det rfl rfl (det_build rfl zr33 pl33 rfl) <|
  rwp_det0 rfl rfl (det_store rfl sz33 rfl rfl rfl (st_row 0 rfl rfl)) <|
  rwp_nil <|
  awp_ret <|
  fin1 (rs_cell_agg agg33 rfl (ptr_row 0 rfl) rfl) ?_
 exact rfl

theorem fixed_check (t : Ty) (l : List Vl) (ht : fixOk t = true) (hl : ∀ v, v ∈ l → valOk t v = true) (hlen : l.length ≤ 1000) :
    Pur cfg 82 [vTy t, vVals l] (vI 0) := by
 refine con_intro Tryd.func82 rfl Tryd.ntmps82 Tryd.results82 rfl ?_
 intro z hz
 obtain ⟨hK, hB1, hB2, hF1, hF2, hR1, hR4, hO, hh1, hh2, hp1, hp2⟩ := fxT ht
 refine sReg rfl <|
  rwp_op rfl rfl (ope_box rfl rfl) ?_
 rintro _ _ ⟨b1, rfl, rfl⟩
 refine rMv rfl <|
  rwp_nil <|
  awp_seq <|
  sReg rfl <|
  rwp_det rfl rfl (det_load_agg rfl agg48 rfl (ptr_row 0 rfl) rfl) <|
  rwp_det rfl rfl (det_call rfl ok36 (fixed_ValidateType t) ⟨VLe.refl _, rfl, trivial⟩) <|
  rMv rfl <|
  rwp_nil <|
  sReg rfl <|
  rMv rfl <|
  rwp_det rfl rfl (det_neq rfl rfl rfl) <|
  rwp_nil <|
  awp_cond rfl (fun c1 => ?_) (fun c1 => ?_)
 ·try simp only [sx] at c1
  rw [ht] at c1
  exact absurd rfl c1
 ·try simp only [sx] at c1
  refine awp_skip <|
   awp_seq <|
   sReg rfl <|
   rMv rfl <|
   rwp_det rfl rfl (det_len_slm rfl el22 rfl) <|
   rMv rfl <|
   rwp_nil <|
   awp_block <|
   awp_weak ⟨[(15, .c _), (2, .c _), (13, .c _), (14, .c _)], [_]⟩ (Weak.mk [true] ⟨VLe.of_eq rfl, VLe.of_eq rfl, VLe.of_eq rfl, VLe.of_eq rfl, trivial⟩ rfl) <|
   awp_loop_k 1 0 rfl rfl (Nat) (fun k => [(15, vI k)]) (fun k => []) (fun k => k ≤ l.length) (fun k => l.length - k) ⟨0, (by omega), Weak.mk [true] ⟨VLe.refl _, VLe.refl _, VLe.refl _, VLe.refl _, trivial⟩ rfl⟩ ?_
  rintro k hk
  refine sReg rfl <|
   rwp_det rfl rfl (det_lss rfl rfl rfl) <|
   rwp_nil <|
   awp_seq <|
   awp_cond rfl (fun c2 => ?_) (fun c2 => ?_)
  ·try simp only [sx] at c2
   obtain ⟨x, hx⟩ := ex_get l k (by omega)
   refine awp_skip <|
    awp_seq <|
    awp_block <|
    sReg rfl <|
    rwp_det rfl rfl (det_index_sl rfl el22 rfl rfl (by omega) (getm (by assumption))) <|
    rwp_det rfl rfl (det_load_agg rfl agg33 rfl ptr_imm rfl) <|
    rwp_op rfl rfl (ope_alloc rfl zr33) ?_
   rintro _ _ ⟨b2, rfl, rfl⟩
   refine rwp_det0 rfl rfl (det_store rfl sz33 rfl rfl rfl (st_row 0 rfl rfl)) <|
    rwp_nil <|
    sReg rfl <|
    rwp_det rfl rfl (det_load_agg rfl agg48 rfl (ptr_row 1 rfl) rfl) <|
    rwp_det rfl rfl (det_load_agg rfl agg33 rfl (ptr_row 0 rfl) rfl) <|
    rwp_det rfl rfl (det_call rfl ok41 (fixed_Valid t x) ⟨VLe.refl _, rfl, VLe.refl _, rfl, trivial⟩) <|
    rwp_det rfl rfl (det_not rfl rfl) <|
    rwp_nil <|
    awp_cond rfl (fun c3 => ?_) (fun c3 => ?_)
   ·have h3 := fxV ht (hl x (mem_of_get hx))
    exact absurd c3 (by rw [ht]; simp; omega)
   ·refine awp_skip <|
     awp_region rfl <|
     rwp_det rfl rfl (det_add_nw rfl rfl rfl ⟨by omega, by omega⟩) <|
     rMv rfl <|
     rwp_nil ?_
    refine ⟨k + 1, (by omega), (by omega), Weak.mk [false, true] ⟨VLe.refl _, VLe.refl _, VLe.refl _, VLe.refl _, trivial⟩ rfl⟩
  ·try simp only [sx] at c2
   refine awp_exit <|
    sReg rfl <|
    rMv rfl <|
    rwp_nil <|
    awp_ret <|
    fin1 (rs_c rfl) ?_
   exact rfl

theorem fixed_apply (y : C) (t : Ty) (a b : Vl) (n e : Int) (ht : fixOk t = true) (ha : valOk t a = true) (hb : valOk t b = true) (hn : In64 n) (hy : FnPur cfg y [vTy t, vI a.N, vI b.N] (.tup [vI n, vI e])) :
    Pur cfg 74 [.agg [y], vTy t, vVal a, vVal b] (.tup [vVal (bif decide (e = 0) then ⟨nar t n, 1⟩ else ⟨0, 0⟩), vI e]) := by
 refine con_intro Tryd.func74 rfl Tryd.ntmps74 Tryd.results74 rfl ?_
 intro z hz
 refine sReg rfl <|
  rwp_op rfl rfl (ope_box rfl rfl) ?_
 rintro _ _ ⟨b1, rfl, rfl⟩
 refine rwp_op rfl rfl (ope_box rfl rfl) ?_
 rintro _ _ ⟨b2, rfl, rfl⟩
 refine rwp_op rfl rfl (ope_box rfl rfl) ?_
 rintro _ _ ⟨b3, rfl, rfl⟩
 refine rwp_op rfl rfl (ope_box rfl rfl) ?_
 rintro _ _ ⟨b4, rfl, rfl⟩
 refine rwp_op rfl rfl (ope_alloc rfl zr33) ?_
 rintro _ _ ⟨b5, rfl, rfl⟩
 refine rMv rfl <|
  rwp_nil <|
  awp_seq <|
  sReg rfl <|
  rwp_det rfl rfl (det_load_agg rfl agg48 rfl (ptr_row 3 rfl) rfl) <|
  rwp_det rfl rfl (det_load_agg rfl agg33 rfl (ptr_row 2 rfl) rfl) <|
  rwp_det rfl rfl (det_load_agg rfl agg33 rfl (ptr_row 1 rfl) rfl) <|
  rwp_det rfl rfl (det_bslice rfl el22 zr33 rfl rfl rfl rfl) <|
  rwp_det rfl rfl (det_call rfl ok82 (fixed_check t [a, b] ht (by simp [ha, hb]) (by simp)) ⟨VLe.refl _, rfl, VLe.refl _, rfl, trivial⟩) <|
  rMv rfl <|
  rwp_nil <|
  sReg rfl <|
  rMv rfl <|
  rwp_det rfl rfl (det_neq rfl rfl rfl) <|
  rwp_nil <|
  awp_cond rfl (fun c1 => ?_) (fun c1 => ?_)
 ·try simp only [sx] at c1
  exact absurd trivial c1
 ·try simp only [sx] at c1
  refine awp_skip <|
   sReg rfl <|
   rwp_det rfl rfl (det_field_lit rfl fd120_0 rfl) <|
   rwp_det rfl rfl (det_load_one rfl one118 rfl (ptr_row 4 rfl) rfl) <|
   rwp_det rfl rfl (det_load_agg rfl agg48 rfl (ptr_row 3 rfl) rfl) <|
   rwp_det rfl rfl (det_field_lit rfl fd33_0 rfl) <|
   rwp_det rfl rfl (det_load_one rfl one2 rfl (ptr_row 2 rfl) rfl) <|
   rwp_det rfl rfl (det_field_lit rfl fd33_0 rfl) <|
   rwp_det rfl rfl (det_load_one rfl one2 rfl (ptr_row 1 rfl) rfl) <|
   rwp_det rfl rfl (det_call_val rfl rfl hy ⟨VLe.refl _, rfl, VLe.refl _, rfl, VLe.refl _, rfl, trivial⟩) <|
   rwp_det rfl rfl (det_move_tup rfl rfl) <|
   rwp_det rfl rfl (det_ex_c rfl rfl rfl) <|
   rwp_det rfl rfl (det_ex_c rfl rfl rfl) <|
   rMv rfl <|
   rMv rfl <|
   rwp_nil <|
   awp_seq <|
   sReg rfl <|
   rMv rfl <|
   rwp_det rfl rfl (det_neq rfl rfl rfl) <|
   rwp_nil <|
   awp_cond rfl (fun c2 => ?_) (fun c2 => ?_)
  ·try simp only [sx] at c2
   refine sReg rfl <|
    rwp_det rfl rfl (det_build rfl zr33 pl33 rfl) <|
    rMv rfl <|
    rwp_det0 rfl rfl (det_store rfl sz33 rfl rfl rfl (st_row 0 rfl rfl)) <|
    rMv rfl <|
    rwp_nil <|
    awp_ret <|
    fin2 (rs_cell_agg agg33 rfl (ptr_row 0 rfl) rfl) (rs_c rfl) ?_
   rw [dec_false c2]; rfl
  ·try simp only [sx] at c2
   refine awp_skip <|
    sReg rfl <|
    rwp_det rfl rfl (det_load_agg rfl agg48 rfl (ptr_row 3 rfl) rfl) <|
    rMv rfl <|
    rwp_det rfl rfl (det_call rfl ok72 (fixed_narrow t n ht hn) ⟨VLe.refl _, rfl, VLe.refl _, rfl, trivial⟩) <|
    rwp_det0 rfl rfl (det_store rfl sz33 rfl rfl rfl (st_row 0 rfl rfl)) <|
    rMv rfl <|
    rwp_nil <|
    awp_ret <|
    fin2 (rs_cell_agg agg33 rfl (ptr_row 0 rfl) rfl) (rs_c rfl) ?_
   rw [decide_eq_true c2, c2]; rfl

theorem fixed_Add_1 (t : Ty) (x y : Int) (hx : x.natAbs ≤ 1073741824) (hy : y.natAbs ≤ 1073741824) :
    Pur cfg 76 [vTy t, vI x, vI y] (.tup [vI (x + y), vI 0]) := by
 refine con_intro Tryd.func76 rfl Tryd.ntmps76 Tryd.results76 rfl ?_
 intro z hz
 refine sReg rfl <|
  rwp_op rfl rfl (ope_box rfl rfl) ?_
 rintro _ _ ⟨b1, rfl, rfl⟩
 refine rMv rfl <|
  rMv rfl <|
  rwp_nil <|
  sReg rfl <|
  rMv rfl <|
  rMv rfl <|
  rwp_det rfl rfl (det_add_nw rfl rfl rfl ⟨by omega, by omega⟩) <|
  rMv rfl <|
  rMv rfl <|
  rwp_nil <|
  awp_ret <|
  fin2 (rs_c rfl) (rs_c rfl) ?_
 exact rfl

theorem fixed_Sub_1 (t : Ty) (x y : Int) (hx : x.natAbs ≤ 1073741824) (hy : y.natAbs ≤ 1073741824) :
    Pur cfg 77 [vTy t, vI x, vI y] (.tup [vI (x - y), vI 0]) := by
 refine con_intro Tryd.func77 rfl Tryd.ntmps77 Tryd.results77 rfl ?_
 intro z hz
 refine sReg rfl <|
  rwp_op rfl rfl (ope_box rfl rfl) ?_
 rintro _ _ ⟨b1, rfl, rfl⟩
 refine rMv rfl <|
  rMv rfl <|
  rwp_nil <|
  sReg rfl <|
  rMv rfl <|
  rMv rfl <|
  rwp_det rfl rfl (det_sub_nw rfl rfl rfl ⟨by omega, by omega⟩) <|
  rMv rfl <|
  rMv rfl <|
  rwp_nil <|
  awp_ret <|
  fin2 (rs_c rfl) (rs_c rfl) ?_
 exact rfl

theorem fixed_Neg_1 (t : Ty) (x y : Int) (hx : x.natAbs ≤ 1073741824) (hy : y.natAbs ≤ 1073741824) :
    Pur cfg 75 [vTy t, vI x, vI y] (.tup [vI (-x), vI 0]) := by
 refine con_intro Tryd.func75 rfl Tryd.ntmps75 Tryd.results75 rfl ?_
 intro z hz
 refine sReg rfl <|
  rwp_op rfl rfl (ope_box rfl rfl) ?_
 rintro _ _ ⟨b1, rfl, rfl⟩
 refine rMv rfl <|
  rMv rfl <|
  rwp_nil <|
  sReg rfl <|
  rMv rfl <|
  rwp_det rfl rfl (det_neg_nw rfl rfl ⟨by omega, by omega⟩) <|
  rMv rfl <|
  rMv rfl <|
  rwp_nil <|
  awp_ret <|
  fin2 (rs_c rfl) (rs_c rfl) ?_
 exact rfl

theorem fixed_Mul_1 (t : Ty) (x y : Int) (ht : fixOk t = true) (hx : x.natAbs ≤ 1073741824) (hy : y.natAbs ≤ 1073741824) :
    Pur cfg 78 [vTy t, vI x, vI y] (.tup [vI (rnd (x * y) (pow2 t.Frac) t.Round), vI 0]) := by
 refine con_intro Tryd.func78 rfl Tryd.ntmps78 Tryd.results78 rfl ?_
 intro z hz
 obtain ⟨hK, hB1, hB2, hF1, hF2, hR1, hR4, hO, hh1, hh2, hp1, hp2⟩ := fxT ht
 have hm := m31 (x := x) (y := y) (by omega) (by omega) (by omega) (by omega)
 refine sReg rfl <|
  rwp_op rfl rfl (ope_box rfl rfl) ?_
 rintro _ _ ⟨b1, rfl, rfl⟩
 refine rMv rfl <|
  rMv rfl <|
  rwp_nil <|
  awp_seq <|
  awp_draw 13 mixed (by kernel_rfl) rfl rfl <|
  td_det rfl rfl (det_move rfl rfl) <|
  td_det rfl rfl (det_move rfl rfl) <|
  td_det rfl rfl (det_mul_nw rfl rfl rfl ⟨by omega, by omega⟩) <|
  td_det rfl rfl (det_field_lit rfl fd48_2 rfl) <|
  td_det rfl rfl (det_load_one rfl one3 rfl (ptr_row 0 rfl) rfl) <|
  td_det rfl rfl (det_shlE rfl rfl rfl (by omega) (one_shl hF1 hF2)) <|
  td_det rfl rfl (det_field_lit rfl fd48_3 rfl) <|
  td_det rfl rfl (det_load_one rfl one3 rfl (ptr_row 0 rfl) rfl) <|
  td_det rfl rfl (det_call rfl ok79 (round_Divide (x * y) (pow2 t.Frac) t.Round (by omega) ⟨by omega, by omega⟩ hR1 hR4) ⟨VLe.refl _, rfl, VLe.refl _, rfl, VLe.refl _, rfl, trivial⟩) <|
  td_det rfl rfl (det_ex_c rfl rfl rfl) <|
  td_det rfl rfl (det_ex_c rfl rfl rfl) <|
  td_det rfl rfl (det_assign rfl rfl) <|
  td_det rfl rfl (det_assign rfl rfl) <|
  td_nil <|
  rwp_nil <|
  awp_ret <|
  fin2 (rs_c rfl) (rs_c rfl) ?_
 rw [divR_eq (by omega)]

theorem fixed_Div_1 (t : Ty) (x y : Int) (ht : fixOk t = true) (hx : x.natAbs ≤ 1073741824) (hy : y.natAbs ≤ 1073741824) :
    Pur cfg 80 [vTy t, vI x, vI y] (.tup [vI (divR (x * pow2 t.Frac) y t.Round).1, vI (divR (x * pow2 t.Frac) y t.Round).2]) := by
 refine con_intro Tryd.func80 rfl Tryd.ntmps80 Tryd.results80 rfl ?_
 intro z hz
 obtain ⟨hK, hB1, hB2, hF1, hF2, hR1, hR4, hO, hh1, hh2, hp1, hp2⟩ := fxT ht
 have hm := m60 (B := 1073741824) (x := x) hx (show 0 ≤ pow2 t.Frac by omega) hp2
 refine sReg rfl <|
  rwp_op rfl rfl (ope_box rfl rfl) ?_
 rintro _ _ ⟨b1, rfl, rfl⟩
 refine rMv rfl <|
  rMv rfl <|
  rwp_nil <|
  awp_seq <|
  awp_draw 12 mixed (by kernel_rfl) rfl rfl <|
  td_det rfl rfl (det_move rfl rfl) <|
  td_det rfl rfl (det_field_lit rfl fd48_2 rfl) <|
  td_det rfl rfl (det_load_one rfl one3 rfl (ptr_row 0 rfl) rfl) <|
  td_det rfl rfl (det_shlE rfl rfl rfl (by omega) (shl_eq (B := 1073741824) hF1 hF2 hx (by decide))) <|
  td_det rfl rfl (det_move rfl rfl) <|
  td_det rfl rfl (det_field_lit rfl fd48_3 rfl) <|
  td_det rfl rfl (det_load_one rfl one3 rfl (ptr_row 0 rfl) rfl) <|
  td_det rfl rfl (det_call rfl ok79 (round_Divide (x * pow2 t.Frac) y t.Round (by omega) ⟨by omega, by omega⟩ hR1 hR4) ⟨VLe.refl _, rfl, VLe.refl _, rfl, VLe.refl _, rfl, trivial⟩) <|
  td_det rfl rfl (det_ex_c rfl rfl rfl) <|
  td_det rfl rfl (det_ex_c rfl rfl rfl) <|
  td_det rfl rfl (det_assign rfl rfl) <|
  td_det rfl rfl (det_assign rfl rfl) <|
  td_nil <|
  rwp_nil <|
  awp_ret <|
  fin2 (rs_c rfl) (rs_c rfl) ?_
 exact rfl

theorem fixed_Add (t : Ty) (a b : Vl) (ht : fixOk t = true) (ha : valOk t a = true) (hb : valOk t b = true) :
    Pur cfg 62 [vTy t, vVal a, vVal b] (.tup [vVal ⟨nar t (a.N + b.N), 1⟩, vI 0]) := by
 refine con_intro Tryd.func62 rfl Tryd.ntmps62 Tryd.results62 rfl ?_
 intro z hz
 obtain ⟨hK, hB1, hB2, hF1, hF2, hR1, hR4, hO, hh1, hh2, hp1, hp2⟩ := fxT ht
 have hA := fxN ht ha
 have hB := fxN ht hb
 refine sReg rfl <|
  rwp_op rfl rfl (ope_box rfl rfl) ?_
 rintro _ _ ⟨b1, rfl, rfl⟩
 refine rwp_op rfl rfl (ope_box rfl rfl) ?_
 rintro _ _ ⟨b2, rfl, rfl⟩
 refine rwp_op rfl rfl (ope_box rfl rfl) ?_
 rintro _ _ ⟨b3, rfl, rfl⟩
 refine rwp_op rfl rfl (ope_alloc rfl zr33) ?_
 rintro _ _ ⟨b4, rfl, rfl⟩
 refine rMv rfl <|
  rwp_nil <|
  sReg rfl <|
  rwp_det rfl rfl (det_build rfl zr120 pl120 rfl) <|
  rwp_det rfl rfl (det_load_agg rfl agg48 rfl (ptr_row 3 rfl) rfl) <|
  rwp_det rfl rfl (det_load_agg rfl agg33 rfl (ptr_row 2 rfl) rfl) <|
  rwp_det rfl rfl (det_load_agg rfl agg33 rfl (ptr_row 1 rfl) rfl) <|
  rwp_det rfl rfl (det_call rfl ok74 (fixed_apply _ t a b (a.N + b.N) 0 ht ha hb ⟨by omega, by omega⟩ (FnPur.of_pur (first := []) (cap := []) ok76 (fixed_Add_1 t a.N b.N hA hB))) ⟨VLe.refl _, rfl, VLe.refl _, rfl, VLe.refl _, rfl, VLe.refl _, rfl, trivial⟩) <|
  rwp_det rfl rfl (det_ex_agg rfl rfl rfl) <|
  rwp_det rfl rfl (det_ex_c rfl rfl rfl) <|
  rwp_det0 rfl rfl (det_store rfl sz33 rfl rfl rfl (st_row 0 rfl rfl)) <|
  rMv rfl <|
  rwp_nil <|
  awp_ret <|
  fin2 (rs_cell_agg agg33 rfl (ptr_row 0 rfl) rfl) (rs_c rfl) ?_
 exact rfl

theorem fixed_Sub (t : Ty) (a b : Vl) (ht : fixOk t = true) (ha : valOk t a = true) (hb : valOk t b = true) :
    Pur cfg 63 [vTy t, vVal a, vVal b] (.tup [vVal ⟨nar t (a.N - b.N), 1⟩, vI 0]) := by
 refine con_intro Tryd.func63 rfl Tryd.ntmps63 Tryd.results63 rfl ?_
 intro z hz
 obtain ⟨hK, hB1, hB2, hF1, hF2, hR1, hR4, hO, hh1, hh2, hp1, hp2⟩ := fxT ht
 have hA := fxN ht ha
 have hB := fxN ht hb
 refine sReg rfl <|
  rwp_op rfl rfl (ope_box rfl rfl) ?_
 rintro _ _ ⟨b1, rfl, rfl⟩
 refine rwp_op rfl rfl (ope_box rfl rfl) ?_
 rintro _ _ ⟨b2, rfl, rfl⟩
 refine rwp_op rfl rfl (ope_box rfl rfl) ?_
 rintro _ _ ⟨b3, rfl, rfl⟩
 refine rwp_op rfl rfl (ope_alloc rfl zr33) ?_
 rintro _ _ ⟨b4, rfl, rfl⟩
 refine rMv rfl <|
  rwp_nil <|
  sReg rfl <|
  rwp_det rfl rfl (det_build rfl zr120 pl120 rfl) <|
  rwp_det rfl rfl (det_load_agg rfl agg48 rfl (ptr_row 3 rfl) rfl) <|
  rwp_det rfl rfl (det_load_agg rfl agg33 rfl (ptr_row 2 rfl) rfl) <|
  rwp_det rfl rfl (det_load_agg rfl agg33 rfl (ptr_row 1 rfl) rfl) <|
  rwp_det rfl rfl (det_call rfl ok74 (fixed_apply _ t a b (a.N - b.N) 0 ht ha hb ⟨by omega, by omega⟩ (FnPur.of_pur (first := []) (cap := []) ok77 (fixed_Sub_1 t a.N b.N hA hB))) ⟨VLe.refl _, rfl, VLe.refl _, rfl, VLe.refl _, rfl, VLe.refl _, rfl, trivial⟩) <|
  rwp_det rfl rfl (det_ex_agg rfl rfl rfl) <|
  rwp_det rfl rfl (det_ex_c rfl rfl rfl) <|
  rwp_det0 rfl rfl (det_store rfl sz33 rfl rfl rfl (st_row 0 rfl rfl)) <|
  rMv rfl <|
  rwp_nil <|
  awp_ret <|
  fin2 (rs_cell_agg agg33 rfl (ptr_row 0 rfl) rfl) (rs_c rfl) ?_
 exact rfl

theorem fixed_Neg (t : Ty) (a : Vl) (ht : fixOk t = true) (ha : valOk t a = true) :
    Pur cfg 60 [vTy t, vVal a] (.tup [vVal ⟨nar t (-a.N), 1⟩, vI 0]) := by
 refine con_intro Tryd.func60 rfl Tryd.ntmps60 Tryd.results60 rfl ?_
 intro z hz
 obtain ⟨hK, hB1, hB2, hF1, hF2, hR1, hR4, hO, hh1, hh2, hp1, hp2⟩ := fxT ht
 have hA := fxN ht ha
 refine sReg rfl <|
  rwp_op rfl rfl (ope_box rfl rfl) ?_
 rintro _ _ ⟨b1, rfl, rfl⟩
 refine rwp_op rfl rfl (ope_box rfl rfl) ?_
 rintro _ _ ⟨b2, rfl, rfl⟩
 refine rwp_op rfl rfl (ope_alloc rfl zr33) ?_
 rintro _ _ ⟨b3, rfl, rfl⟩
 refine rMv rfl <|
  rwp_nil <|
  sReg rfl <|
  rwp_det rfl rfl (det_build rfl zr120 pl120 rfl) <|
  rwp_det rfl rfl (det_load_agg rfl agg48 rfl (ptr_row 2 rfl) rfl) <|
  rwp_det rfl rfl (det_load_agg rfl agg33 rfl (ptr_row 1 rfl) rfl) <|
  rwp_det rfl rfl (det_load_agg rfl agg33 rfl (ptr_row 1 rfl) rfl) <|
  rwp_det rfl rfl (det_call rfl ok74 (fixed_apply _ t a a (-a.N) 0 ht ha ha ⟨by omega, by omega⟩ (FnPur.of_pur (first := []) (cap := []) ok75 (fixed_Neg_1 t a.N a.N hA hA))) ⟨VLe.refl _, rfl, VLe.refl _, rfl, VLe.refl _, rfl, VLe.refl _, rfl, trivial⟩) <|
  rwp_det rfl rfl (det_ex_agg rfl rfl rfl) <|
  rwp_det rfl rfl (det_ex_c rfl rfl rfl) <|
  rwp_det0 rfl rfl (det_store rfl sz33 rfl rfl rfl (st_row 0 rfl rfl)) <|
  rMv rfl <|
  rwp_nil <|
  awp_ret <|
  fin2 (rs_cell_agg agg33 rfl (ptr_row 0 rfl) rfl) (rs_c rfl) ?_
 exact rfl

theorem fixed_Mul (t : Ty) (a b : Vl) (ht : fixOk t = true) (ha : valOk t a = true) (hb : valOk t b = true) :
    Pur cfg 64 [vTy t, vVal a, vVal b] (.tup [vVal ⟨nar t (rnd (a.N * b.N) (pow2 t.Frac) t.Round), 1⟩, vI 0]) := by
 refine con_intro Tryd.func64 rfl Tryd.ntmps64 Tryd.results64 rfl ?_
 intro z hz
 obtain ⟨hK, hB1, hB2, hF1, hF2, hR1, hR4, hO, hh1, hh2, hp1, hp2⟩ := fxT ht
 have hA := fxN ht ha
 have hB := fxN ht hb
 have hm := m31 (x := a.N) (y := b.N) (by omega) (by omega) (by omega) (by omega)
 have hr := rnd_b (n := a.N * b.N) (how := t.Round) (show 0 < pow2 t.Frac by omega)
 refine sReg rfl <|
  rwp_op rfl rfl (ope_box rfl rfl) ?_
 rintro _ _ ⟨b1, rfl, rfl⟩
 refine rwp_op rfl rfl (ope_box rfl rfl) ?_
 rintro _ _ ⟨b2, rfl, rfl⟩
 refine rwp_op rfl rfl (ope_box rfl rfl) ?_
 rintro _ _ ⟨b3, rfl, rfl⟩
 refine rwp_op rfl rfl (ope_alloc rfl zr33) ?_
 rintro _ _ ⟨b4, rfl, rfl⟩
 refine rMv rfl <|
  rwp_nil <|
  sReg rfl <|
  rwp_det rfl rfl (det_build rfl zr120 pl120 rfl) <|
  rwp_det rfl rfl (det_load_agg rfl agg48 rfl (ptr_row 3 rfl) rfl) <|
  rwp_det rfl rfl (det_load_agg rfl agg33 rfl (ptr_row 2 rfl) rfl) <|
  rwp_det rfl rfl (det_load_agg rfl agg33 rfl (ptr_row 1 rfl) rfl) <|
  rwp_det rfl rfl (det_call rfl ok74 (fixed_apply _ t a b (rnd (a.N * b.N) (pow2 t.Frac) t.Round) 0 ht ha hb ⟨by omega, by omega⟩ (FnPur.of_pur (first := []) (cap := []) ok78 (fixed_Mul_1 t a.N b.N ht hA hB))) ⟨VLe.refl _, rfl, VLe.refl _, rfl, VLe.refl _, rfl, VLe.refl _, rfl, trivial⟩) <|
  rwp_det rfl rfl (det_ex_agg rfl rfl rfl) <|
  rwp_det rfl rfl (det_ex_c rfl rfl rfl) <|
  rwp_det0 rfl rfl (det_store rfl sz33 rfl rfl rfl (st_row 0 rfl rfl)) <|
  rMv rfl <|
  rwp_nil <|
  awp_ret <|
  fin2 (rs_cell_agg agg33 rfl (ptr_row 0 rfl) rfl) (rs_c rfl) ?_
 exact rfl

theorem fixed_Div (t : Ty) (a b : Vl) (ht : fixOk t = true) (ha : valOk t a = true) (hb : valOk t b = true) :
    Pur cfg 65 [vTy t, vVal a, vVal b] (.tup [vVal (fixA 7 t a.N b.N).1, vI (fixA 7 t a.N b.N).2]) := by
 refine con_intro Tryd.func65 rfl Tryd.ntmps65 Tryd.results65 rfl ?_
 intro z hz
 obtain ⟨hK, hB1, hB2, hF1, hF2, hR1, hR4, hO, hh1, hh2, hp1, hp2⟩ := fxT ht
 have hA := fxN ht ha
 have hB := fxN ht hb
 have hd := fixA_div t a.N b.N
 have hdb := divR_b (y := b.N) (how := t.Round) (m60 (B := 1073741824) (x := a.N) hA (show 0 ≤ pow2 t.Frac by omega) hp2)
 refine sReg rfl <|
  rwp_op rfl rfl (ope_box rfl rfl) ?_
 rintro _ _ ⟨b1, rfl, rfl⟩
 refine rwp_op rfl rfl (ope_box rfl rfl) ?_
 rintro _ _ ⟨b2, rfl, rfl⟩
 refine rwp_op rfl rfl (ope_box rfl rfl) ?_
 rintro _ _ ⟨b3, rfl, rfl⟩
 refine rwp_op rfl rfl (ope_alloc rfl zr33) ?_
 rintro _ _ ⟨b4, rfl, rfl⟩
 refine rMv rfl <|
  rwp_nil <|
  sReg rfl <|
  rwp_det rfl rfl (det_build rfl zr120 pl120 rfl) <|
  rwp_det rfl rfl (det_load_agg rfl agg48 rfl (ptr_row 3 rfl) rfl) <|
  rwp_det rfl rfl (det_load_agg rfl agg33 rfl (ptr_row 2 rfl) rfl) <|
  rwp_det rfl rfl (det_load_agg rfl agg33 rfl (ptr_row 1 rfl) rfl) <|
  rwp_det rfl rfl (det_call rfl ok74 (fixed_apply _ t a b (divR (a.N * pow2 t.Frac) b.N t.Round).1 (divR (a.N * pow2 t.Frac) b.N t.Round).2 ht ha hb hdb (FnPur.of_pur (first := []) (cap := []) ok80 (fixed_Div_1 t a.N b.N ht hA hB))) ⟨VLe.refl _, rfl, VLe.refl _, rfl, VLe.refl _, rfl, VLe.refl _, rfl, trivial⟩) <|
  rwp_det rfl rfl (det_ex_agg rfl rfl rfl) <|
  rwp_det rfl rfl (det_ex_c rfl rfl rfl) <|
  rwp_det0 rfl rfl (det_store rfl sz33 rfl rfl rfl (st_row 0 rfl rfl)) <|
  rMv rfl <|
  rwp_nil <|
  awp_ret <|
  fin2 (rs_cell_agg agg33 rfl (ptr_row 0 rfl) rfl) (rs_c rfl) ?_
 rw [hd]; rfl

theorem fixed_ToFrac (t : Ty) (v : Vl) (ht : fixOk t = true) (hv : valOk t v = true) :
    Pur cfg 70 [vTy t, vVal v] (.tup [vVal (newF v.N (pow2 t.Frac)).1, vI (newF v.N (pow2 t.Frac)).2]) := by
 refine con_intro Tryd.func70 rfl Tryd.ntmps70 Tryd.results70 rfl ?_
 intro z hz
 obtain ⟨hK, hB1, hB2, hF1, hF2, hR1, hR4, hO, hh1, hh2, hp1, hp2⟩ := fxT ht
 have hA := fxN ht hv
 refine sReg rfl <|
  rwp_op rfl rfl (ope_box rfl rfl) ?_
 rintro _ _ ⟨b1, rfl, rfl⟩
 refine rwp_op rfl rfl (ope_box rfl rfl) ?_
 rintro _ _ ⟨b2, rfl, rfl⟩
 refine rwp_op rfl rfl (ope_alloc rfl zr33) ?_
 rintro _ _ ⟨b3, rfl, rfl⟩
 refine rMv rfl <|
  rwp_nil <|
  awp_seq <|
  sReg rfl <|
  rwp_det rfl rfl (det_load_agg rfl agg48 rfl (ptr_row 2 rfl) rfl) <|
  rwp_det rfl rfl (det_load_agg rfl agg33 rfl (ptr_row 1 rfl) rfl) <|
  rwp_det rfl rfl (det_bslice rfl el22 zr33 rfl rfl rfl rfl) <|
  rwp_det rfl rfl (det_call rfl ok82 (fixed_check t [v] ht (by simp [hv]) (by simp)) ⟨VLe.refl _, rfl, VLe.refl _, rfl, trivial⟩) <|
  rMv rfl <|
  rwp_nil <|
  sReg rfl <|
  rMv rfl <|
  rwp_det rfl rfl (det_neq rfl rfl rfl) <|
  rwp_nil <|
  awp_cond rfl (fun c1 => ?_) (fun c1 => ?_)
 ·try simp only [sx] at c1
  exact absurd trivial c1
 ·try simp only [sx] at c1
  refine awp_skip <|
   awp_seq <|
   awp_draw 8 mixed (by kernel_rfl) rfl rfl <|
   td_det rfl rfl (det_field_lit rfl fd33_0 rfl) <|
   td_det rfl rfl (det_load_one rfl one2 rfl (ptr_row 1 rfl) rfl) <|
   td_det rfl rfl (det_field_lit rfl fd48_2 rfl) <|
   td_det rfl rfl (det_load_one rfl one3 rfl (ptr_row 2 rfl) rfl) <|
   td_det rfl rfl (det_shlE rfl rfl rfl (by omega) (one_shl hF1 hF2)) <|
   td_det rfl rfl (det_call rfl ok81 (frac_New v.N (pow2 t.Frac) ⟨by omega, by omega⟩ ⟨by omega, by omega⟩) ⟨VLe.refl _, rfl, VLe.refl _, rfl, trivial⟩) <|
   td_det rfl rfl (det_ex_agg rfl rfl rfl) <|
   td_det rfl rfl (det_ex_c rfl rfl rfl) <|
   td_nil <|
   rwp_det0 rfl rfl (det_store rfl sz33 rfl rfl rfl (st_row 0 rfl rfl)) <|
   rMv rfl <|
   rwp_nil <|
   awp_ret <|
   fin2 (rs_cell_agg agg33 rfl (ptr_row 0 rfl) rfl) (rs_c rfl) ?_
  exact rfl

theorem fixed_FromFrac (t : Ty) (v : Vl) (ht : fixOk t = true) (hv : frOk v = true) :
    Pur cfg 49 [vTy t, vVal v] (.tup [vVal ⟨nar t (rnd (v.N * pow2 t.Frac) v.D t.Round), 1⟩, vI 0]) := by
 refine con_intro Tryd.func49 rfl Tryd.ntmps49 Tryd.results49 rfl ?_
 intro z hz
 obtain ⟨hK, hB1, hB2, hF1, hF2, hR1, hR4, hO, hh1, hh2, hp1, hp2⟩ := fxT ht
 obtain ⟨a1, a2, a3, a4, _⟩ := frOk_in hv
 have hm := m60 (B := 2147483647) (x := v.N) (by omega) (show 0 ≤ pow2 t.Frac by omega) hp2
 have hr := rnd_b (n := v.N * pow2 t.Frac) (how := t.Round) (show 0 < v.D by omega)
 refine sReg rfl <|
  rwp_op rfl rfl (ope_box rfl rfl) ?_
 rintro _ _ ⟨b1, rfl, rfl⟩
 refine rwp_op rfl rfl (ope_box rfl rfl) ?_
 rintro _ _ ⟨b2, rfl, rfl⟩
 refine rwp_op rfl rfl (ope_alloc rfl zr33) ?_
 rintro _ _ ⟨b3, rfl, rfl⟩
 refine rMv rfl <|
  rwp_nil <|
  awp_seq <|
  sReg rfl <|
  rwp_det rfl rfl (det_load_agg rfl agg48 rfl (ptr_row 2 rfl) rfl) <|
  rwp_det rfl rfl (det_call rfl ok36 (fixed_ValidateType t) ⟨VLe.refl _, rfl, trivial⟩) <|
  rMv rfl <|
  rwp_nil <|
  sReg rfl <|
  rMv rfl <|
  rwp_det rfl rfl (det_neq rfl rfl rfl) <|
  rwp_nil <|
  awp_cond rfl (fun c1 => ?_) (fun c1 => ?_)
 ·try simp only [sx] at c1
  rw [ht] at c1
  exact absurd rfl c1
 ·try simp only [sx] at c1
  refine awp_skip <|
   sReg rfl <|
   rwp_det rfl rfl (det_load_agg rfl agg33 rfl (ptr_row 1 rfl) rfl) <|
   rwp_det rfl rfl (det_field_lit rfl fd48_2 rfl) <|
   rwp_det rfl rfl (det_load_one rfl one3 rfl (ptr_row 2 rfl) rfl) <|
   rwp_det rfl rfl (det_field_lit rfl fd48_3 rfl) <|
   rwp_det rfl rfl (det_load_one rfl one3 rfl (ptr_row 2 rfl) rfl) <|
   rwp_det rfl rfl (det_call rfl ok71 (round_Quantize v t.Frac t.Round hv hF1 hF2 hR1 hR4) ⟨VLe.refl _, rfl, VLe.refl _, rfl, VLe.refl _, rfl, trivial⟩) <|
   rwp_det rfl rfl (det_move_tup rfl rfl) <|
   rwp_det rfl rfl (det_ex_c rfl rfl rfl) <|
   rwp_det rfl rfl (det_ex_c rfl rfl rfl) <|
   rMv rfl <|
   rMv rfl <|
   rwp_nil <|
   awp_seq <|
   sReg rfl <|
   rMv rfl <|
   rwp_det rfl rfl (det_neq rfl rfl rfl) <|
   rMv rfl <|
   rLz [] rfl gv1 trivial (fun g5_2 => det_load_agg rfl agg33 rfl (ptr_row 1 rfl) rfl) rfl <|
   rLz [(27, _)] rfl gv1 ⟨rfl, rfl, trivial⟩ (fun g5_2 => det_call rfl ok43 (frac_Valid v) ⟨VLe.refl _, rfl, trivial⟩) rfl <|
   rLz [(28, _)] rfl gv1 ⟨rfl, rfl, trivial⟩ (fun g5_2 => det_not rfl rfl) rfl <|
   rwp_det rfl rfl (det_or rfl rfl rfl rfl (fun h => (lzf h))) <|
   rwp_nil <|
   awp_cond rfl (fun c2 => ?_) (fun c2 => ?_)
  ·have c2 : (!decide ((0 : Int) = 0) || !frOk v) = true := c2
   exact absurd c2 (by rw [hv]; simp)
  ·refine awp_skip <|
    sReg rfl <|
    rwp_det rfl rfl (det_load_agg rfl agg48 rfl (ptr_row 2 rfl) rfl) <|
    rMv rfl <|
    rwp_det rfl rfl (det_call rfl ok72 (fixed_narrow t (rnd (v.N * pow2 t.Frac) v.D t.Round) ht ⟨by omega, by omega⟩) ⟨VLe.refl _, rfl, VLe.refl _, rfl, trivial⟩) <|
    rwp_det0 rfl rfl (det_store rfl sz33 rfl rfl rfl (st_row 0 rfl rfl)) <|
    rMv rfl <|
    rwp_nil <|
    awp_ret <|
    fin2 (rs_cell_agg agg33 rfl (ptr_row 0 rfl) rfl) (rs_c rfl) ?_
   exact rfl

theorem value_integer (op a b : Int) (ha : num31 a = true) (hb : num31 b = true) (h1 : 4 ≤ op) (h2 : op ≤ 7) :
    Pur cfg 61 [vI op, vI a, vI b] (.tup [vVal (intA op a b).1, vI (intA op a b).2]) := by
 refine con_intro Tryd.func61 rfl Tryd.ntmps61 Tryd.results61 rfl ?_
 intro z hz
 have hA := n31 ha
 have hB := n31 hb
 have hm := m31 hA.1 hA.2 hB.1 hB.2
 have q1 := tdiv_le' (n := a) (d := b)
 refine sReg rfl <|
  rwp_op rfl rfl (ope_alloc rfl zr33) ?_
 rintro _ _ ⟨b1, rfl, rfl⟩
 refine rMv rfl <|
  rwp_nil <|
  sReg rfl <|
  rMv rfl <|
  rwp_nil <|
  awp_seq <|
  sReg rfl <|
  rMv rfl <|
  rwp_nil <|
  awp_block <|
  sReg rfl <|
  rwp_det rfl rfl (det_eql rfl rfl rfl) <|
  rMv rfl <|
  rwp_nil <|
  awp_cond rfl (fun c1 => ?_) (fun c1 => ?_)
 ·try simp only [sx] at c1
  refine awp_region rfl <|
   rMv rfl <|
   rMv rfl <|
   rwp_det rfl rfl (det_add_nw rfl rfl rfl ⟨by omega, by omega⟩) <|
   rMv rfl <|
   rwp_nil <|
   awp_seq <|
   sReg rfl <|
   rMv rfl <|
   rwp_det rfl rfl (det_call rfl ok42 (value_whole (a + b)) ⟨VLe.refl _, rfl, trivial⟩) <|
   rwp_det rfl rfl (det_not rfl rfl) <|
   rwp_nil <|
   awp_cond rfl (fun c6 => ?_) (fun c6 => ?_)
  ·try simp only [sx] at c6
   have hi : intN op a b = a + b := intN1 c1
   have hz : ¬ (op = 7 ∧ b = 0) := by omega
   have hx : num31 (intN op a b) = false := by rw [hi]; simpa using c6
   refine sReg rfl <|
    rwp_det rfl rfl (det_build rfl zr33 pl33 rfl) <|
    rwp_det0 rfl rfl (det_store rfl sz33 rfl rfl rfl (st_row 0 rfl rfl)) <|
    rMv rfl <|
    rwp_nil <|
    awp_ret <|
    fin2 (rs_cell_agg agg33 rfl (ptr_row 0 rfl) rfl) (rs_c rfl) ?_
   first | (rw [intA1 (by omega) (by omega)]; rfl) | (rw [intA2 hz hx]; rfl) | (rw [intA3 hz hx, hi]; rfl)
  ·try simp only [sx] at c6
   have hi : intN op a b = a + b := intN1 c1
   have hz : ¬ (op = 7 ∧ b = 0) := by omega
   have hx : num31 (intN op a b) = true := by rw [hi]; simpa using c6
   refine awp_skip <|
    sReg rfl <|
    rMv rfl <|
    rwp_det rfl rfl (det_build rfl zr33 pl33 rfl) <|
    rwp_det0 rfl rfl (det_store rfl sz33 rfl rfl rfl (st_row 0 rfl rfl)) <|
    rMv rfl <|
    rwp_nil <|
    awp_ret <|
    fin2 (rs_cell_agg agg33 rfl (ptr_row 0 rfl) rfl) (rs_c rfl) ?_
   first | (rw [intA1 (by omega) (by omega)]; rfl) | (rw [intA2 hz hx]; rfl) | (rw [intA3 hz hx, hi]; rfl)
 ·try simp only [sx] at c1
  refine sReg rfl <|
   rwp_det rfl rfl (det_eql rfl rfl rfl) <|
   rMv rfl <|
   rwp_nil <|
   awp_cond rfl (fun c2 => ?_) (fun c2 => ?_)
  ·try simp only [sx] at c2
   refine awp_region rfl <|
    rMv rfl <|
    rMv rfl <|
    rwp_det rfl rfl (det_sub_nw rfl rfl rfl ⟨by omega, by omega⟩) <|
    rMv rfl <|
    rwp_nil <|
    awp_seq <|
    sReg rfl <|
    rMv rfl <|
    rwp_det rfl rfl (det_call rfl ok42 (value_whole (a - b)) ⟨VLe.refl _, rfl, trivial⟩) <|
    rwp_det rfl rfl (det_not rfl rfl) <|
    rwp_nil <|
    awp_cond rfl (fun c6 => ?_) (fun c6 => ?_)
   ·try simp only [sx] at c6
    have hi : intN op a b = a - b := intN2 c2
    have hz : ¬ (op = 7 ∧ b = 0) := by omega
    have hx : num31 (intN op a b) = false := by rw [hi]; simpa using c6
    refine sReg rfl <|
     rwp_det rfl rfl (det_build rfl zr33 pl33 rfl) <|
     rwp_det0 rfl rfl (det_store rfl sz33 rfl rfl rfl (st_row 0 rfl rfl)) <|
     rMv rfl <|
     rwp_nil <|
     awp_ret <|
     fin2 (rs_cell_agg agg33 rfl (ptr_row 0 rfl) rfl) (rs_c rfl) ?_
    first | (rw [intA1 (by omega) (by omega)]; rfl) | (rw [intA2 hz hx]; rfl) | (rw [intA3 hz hx, hi]; rfl)
   ·try simp only [sx] at c6
    have hi : intN op a b = a - b := intN2 c2
    have hz : ¬ (op = 7 ∧ b = 0) := by omega
    have hx : num31 (intN op a b) = true := by rw [hi]; simpa using c6
    refine awp_skip <|
     sReg rfl <|
     rMv rfl <|
     rwp_det rfl rfl (det_build rfl zr33 pl33 rfl) <|
     rwp_det0 rfl rfl (det_store rfl sz33 rfl rfl rfl (st_row 0 rfl rfl)) <|
     rMv rfl <|
     rwp_nil <|
     awp_ret <|
     fin2 (rs_cell_agg agg33 rfl (ptr_row 0 rfl) rfl) (rs_c rfl) ?_
    first | (rw [intA1 (by omega) (by omega)]; rfl) | (rw [intA2 hz hx]; rfl) | (rw [intA3 hz hx, hi]; rfl)
  ·try simp only [sx] at c2
   refine sReg rfl <|
    rwp_det rfl rfl (det_eql rfl rfl rfl) <|
    rMv rfl <|
    rwp_nil <|
    awp_cond rfl (fun c3 => ?_) (fun c3 => ?_)
   ·try simp only [sx] at c3
    refine awp_region rfl <|
     rMv rfl <|
     rMv rfl <|
     rwp_det rfl rfl (det_mul_nw rfl rfl rfl ⟨by omega, by omega⟩) <|
     rMv rfl <|
     rwp_nil <|
     awp_seq <|
     sReg rfl <|
     rMv rfl <|
     rwp_det rfl rfl (det_call rfl ok42 (value_whole (a * b)) ⟨VLe.refl _, rfl, trivial⟩) <|
     rwp_det rfl rfl (det_not rfl rfl) <|
     rwp_nil <|
     awp_cond rfl (fun c6 => ?_) (fun c6 => ?_)
    ·try simp only [sx] at c6
     have hi : intN op a b = a * b := intN3 c3
     have hz : ¬ (op = 7 ∧ b = 0) := by omega
     have hx : num31 (intN op a b) = false := by rw [hi]; simpa using c6
     refine sReg rfl <|
      rwp_det rfl rfl (det_build rfl zr33 pl33 rfl) <|
      rwp_det0 rfl rfl (det_store rfl sz33 rfl rfl rfl (st_row 0 rfl rfl)) <|
      rMv rfl <|
      rwp_nil <|
      awp_ret <|
      fin2 (rs_cell_agg agg33 rfl (ptr_row 0 rfl) rfl) (rs_c rfl) ?_
     first | (rw [intA1 (by omega) (by omega)]; rfl) | (rw [intA2 hz hx]; rfl) | (rw [intA3 hz hx, hi]; rfl)
    ·try simp only [sx] at c6
     have hi : intN op a b = a * b := intN3 c3
     have hz : ¬ (op = 7 ∧ b = 0) := by omega
     have hx : num31 (intN op a b) = true := by rw [hi]; simpa using c6
     refine awp_skip <|
      sReg rfl <|
      rMv rfl <|
      rwp_det rfl rfl (det_build rfl zr33 pl33 rfl) <|
      rwp_det0 rfl rfl (det_store rfl sz33 rfl rfl rfl (st_row 0 rfl rfl)) <|
      rMv rfl <|
      rwp_nil <|
      awp_ret <|
      fin2 (rs_cell_agg agg33 rfl (ptr_row 0 rfl) rfl) (rs_c rfl) ?_
     first | (rw [intA1 (by omega) (by omega)]; rfl) | (rw [intA2 hz hx]; rfl) | (rw [intA3 hz hx, hi]; rfl)
   ·try simp only [sx] at c3
    refine awp_seq <|
     sReg rfl <|
     rMv rfl <|
     rwp_det rfl rfl (det_eql rfl rfl rfl) <|
     rwp_nil <|
     awp_cond rfl (fun c4 => ?_) (fun c4 => ?_)
    ·try simp only [sx] at c4
     refine sReg rfl <|
      rwp_det rfl rfl (det_build rfl zr33 pl33 rfl) <|
      rwp_det0 rfl rfl (det_store rfl sz33 rfl rfl rfl (st_row 0 rfl rfl)) <|
      rMv rfl <|
      rwp_nil <|
      awp_ret <|
      fin2 (rs_cell_agg agg33 rfl (ptr_row 0 rfl) rfl) (rs_c rfl) ?_
     first | (rw [intA1 (by omega) (by omega)]; rfl) | (rw [intA2 hz hx]; rfl) | (rw [intA3 hz hx, hi]; rfl)
    ·try simp only [sx] at c4
     refine awp_skip <|
      sReg rfl <|
      rMv rfl <|
      rMv rfl <|
      rwp_det rfl rfl (det_quoE rfl rfl rfl (by omega) (wrap_in ⟨by omega, by omega⟩)) <|
      rMv rfl <|
      rwp_nil <|
      sReg rfl <|
      rMv rfl <|
      rMv rfl <|
      rwp_det rfl rfl (det_rem rfl rfl rfl (by omega)) <|
      rwp_det rfl rfl (det_neq rfl rfl rfl) <|
      rMv rfl <|
      rLz [] rfl gv1 trivial (fun g6_4 => det_move rfl rfl) rfl <|
      rLz [(21, _)] rfl gv1 ⟨rfl, rfl, trivial⟩ (fun g6_4 => det_lss rfl rfl rfl) rfl <|
      rLz [] rfl gv1 trivial (fun g6_4 => det_move rfl rfl) rfl <|
      rLz [(23, _)] rfl gv1 ⟨rfl, rfl, trivial⟩ (fun g6_4 => det_lss rfl rfl rfl) rfl <|
      rLz [(22, _), (24, _)] rfl gv1 ⟨rfl, rfl, rfl, rfl, trivial⟩ (fun g6_4 => det_bneq rfl un4 rfl rfl) rfl <|
      rwp_det rfl rfl (det_and rfl rfl rfl (fun h => h) rfl) <|
      rwp_nil <|
      awp_cond rfl (fun c5 => ?_) (fun c5 => ?_)
     ·refine awp_region rfl <|
       rMv rfl <|
       rwp_det rfl rfl (det_sub_nw rfl rfl rfl ⟨by omega, by omega⟩) <|
       rMv rfl <|
       rwp_nil <|
       awp_seq <|
       sReg rfl <|
       rMv rfl <|
       rwp_det rfl rfl (det_call rfl ok42 (value_whole (a.tdiv b - 1)) ⟨VLe.refl _, rfl, trivial⟩) <|
       rwp_det rfl rfl (det_not rfl rfl) <|
       rwp_nil <|
       awp_cond rfl (fun c6 => ?_) (fun c6 => ?_)
      ·try simp only [sx] at c6
       have c5 : (!decide (a.tmod b = 0) && sgnD a b) = true := c5
       have hi : intN op a b = a.tdiv b - 1 := by rw [intN4 (by omega), idiv c4 c5]
       have hz : ¬ (op = 7 ∧ b = 0) := by omega
       have hx : num31 (intN op a b) = false := by rw [hi]; simpa using c6
       refine sReg rfl <|
        rwp_det rfl rfl (det_build rfl zr33 pl33 rfl) <|
        rwp_det0 rfl rfl (det_store rfl sz33 rfl rfl rfl (st_row 0 rfl rfl)) <|
        rMv rfl <|
        rwp_nil <|
        awp_ret <|
        fin2 (rs_cell_agg agg33 rfl (ptr_row 0 rfl) rfl) (rs_c rfl) ?_
       first | (rw [intA1 (by omega) (by omega)]; rfl) | (rw [intA2 hz hx]; rfl) | (rw [intA3 hz hx, hi]; rfl)
      ·try simp only [sx] at c6
       have c5 : (!decide (a.tmod b = 0) && sgnD a b) = true := c5
       have hi : intN op a b = a.tdiv b - 1 := by rw [intN4 (by omega), idiv c4 c5]
       have hz : ¬ (op = 7 ∧ b = 0) := by omega
       have hx : num31 (intN op a b) = true := by rw [hi]; simpa using c6
       refine awp_skip <|
        sReg rfl <|
        rMv rfl <|
        rwp_det rfl rfl (det_build rfl zr33 pl33 rfl) <|
        rwp_det0 rfl rfl (det_store rfl sz33 rfl rfl rfl (st_row 0 rfl rfl)) <|
        rMv rfl <|
        rwp_nil <|
        awp_ret <|
        fin2 (rs_cell_agg agg33 rfl (ptr_row 0 rfl) rfl) (rs_c rfl) ?_
       first | (rw [intA1 (by omega) (by omega)]; rfl) | (rw [intA2 hz hx]; rfl) | (rw [intA3 hz hx, hi]; rfl)
     ·refine awp_skip <|
       awp_seq <|
       sReg rfl <|
       rMv rfl <|
       rwp_det rfl rfl (det_call rfl ok42 (value_whole (a.tdiv b)) ⟨VLe.refl _, rfl, trivial⟩) <|
       rwp_det rfl rfl (det_not rfl rfl) <|
       rwp_nil <|
       awp_cond rfl (fun c6 => ?_) (fun c6 => ?_)
      ·try simp only [sx] at c6
       have c5 : (!decide (a.tmod b = 0) && sgnD a b) = false := c5
       have hi : intN op a b = a.tdiv b := by rw [intN4 (by omega), idiv0 c4 c5]
       have hz : ¬ (op = 7 ∧ b = 0) := by omega
       have hx : num31 (intN op a b) = false := by rw [hi]; simpa using c6
       refine sReg rfl <|
        rwp_det rfl rfl (det_build rfl zr33 pl33 rfl) <|
        rwp_det0 rfl rfl (det_store rfl sz33 rfl rfl rfl (st_row 0 rfl rfl)) <|
        rMv rfl <|
        rwp_nil <|
        awp_ret <|
        fin2 (rs_cell_agg agg33 rfl (ptr_row 0 rfl) rfl) (rs_c rfl) ?_
       first | (rw [intA1 (by omega) (by omega)]; rfl) | (rw [intA2 hz hx]; rfl) | (rw [intA3 hz hx, hi]; rfl)
      ·try simp only [sx] at c6
       have c5 : (!decide (a.tmod b = 0) && sgnD a b) = false := c5
       have hi : intN op a b = a.tdiv b := by rw [intN4 (by omega), idiv0 c4 c5]
       have hz : ¬ (op = 7 ∧ b = 0) := by omega
       have hx : num31 (intN op a b) = true := by rw [hi]; simpa using c6
       refine awp_skip <|
        sReg rfl <|
        rMv rfl <|
        rwp_det rfl rfl (det_build rfl zr33 pl33 rfl) <|
        rwp_det0 rfl rfl (det_store rfl sz33 rfl rfl rfl (st_row 0 rfl rfl)) <|
        rMv rfl <|
        rwp_nil <|
        awp_ret <|
        fin2 (rs_cell_agg agg33 rfl (ptr_row 0 rfl) rfl) (rs_c rfl) ?_
       first | (rw [intA1 (by omega) (by omega)]; rfl) | (rw [intA2 hz hx]; rfl) | (rw [intA3 hz hx, hi]; rfl)

end Go.W
