/-
  Walks: what functions of the program compute. Printed by wip/gen/mk2.py.
  Conditions: none.
-/
import Derived.Test.YtmmiedgoamlhpaaGreatDoorYA
import Derived.Test.YtmmiedgoamlhpaaGreatDoorPlain
set_option linter.unusedSimpArgs false
set_option linter.unusedVariables false
set_option maxRecDepth 10000
namespace Go.W
open Go Go.Eng Go.Proofs Go.L41 Go.Br
attribute [local irreducible] AWP RWP TD finQ
theorem el36 : elemT Tryz.prog 36 = some (63, 2, 16) := by kernel_rfl
theorem fd310_0 : fieldT Tryz.prog 310 0 = some (0, 308) := by kernel_rfl
theorem ok181 : callOk Tryz.prog 181 = true := by kernel_rfl
theorem ok182 : callOk Tryz.prog 182 = true := by kernel_rfl
theorem ok183 : callOk Tryz.prog 183 = true := by kernel_rfl
theorem ok184 : callOk Tryz.prog 184 = true := by kernel_rfl
theorem ok245 : callOk Tryz.prog 245 = true := by kernel_rfl
theorem ok246 : callOk Tryz.prog 246 = true := by kernel_rfl
theorem ok297 : callOk Tryz.prog 297 = true := by kernel_rfl
theorem ok298 : callOk Tryz.prog 298 = true := by kernel_rfl
theorem ok299 : callOk Tryz.prog 299 = true := by kernel_rfl
theorem ok300 : callOk Tryz.prog 300 = true := by kernel_rfl
theorem ok301 : callOk Tryz.prog 301 = true := by kernel_rfl
theorem ok302 : callOk Tryz.prog 302 = true := by kernel_rfl
theorem ok303 : callOk Tryz.prog 303 = true := by kernel_rfl
theorem ok305 : callOk Tryz.prog 305 = true := by kernel_rfl
theorem ok307 : callOk Tryz.prog 307 = true := by kernel_rfl
theorem one308 : oneT Tryz.prog 308 = true := by kernel_rfl
theorem pl310 : placesT Tryz.prog 310 = some [(0, 1)] := by kernel_rfl
theorem zr310 : zeroT Tryz.prog 310 = some [Value.nilFunc] := by kernel_rfl
theorem round_Quantize (v : Vl) (b how : Int) (hv : frOk v = true) (hb1 : 0 ≤ b) (hb2 : b ≤ 30) (h1 : 1 ≤ how) (h4 : how ≤ 4) :
    Pur cfg 245 [vVal v, vI b, vI how] (.tup [vI (rnd (v.N * pow2 b) v.D how), vI 0]) := by
 refine con_intro Tryz.func245 rfl Tryz.ntmps245 Tryz.results245 rfl ?_
 intro z hz
 obtain ⟨a1, a2, a3, a4, _⟩ := frOk_in hv
 have hp := pow2_le hb1 hb2
 have hm := m60 (B := 2147483647) (show v.N.natAbs ≤ 2147483647 by omega) (show 0 ≤ pow2 b by omega) hp.2
 refine sReg rfl <|
  rwp_op rfl rfl (ope_box rfl rfl) ?_
 rintro _ _ ⟨b1, rfl, rfl⟩
 refine rMv rfl <|
  rMv rfl <|
  rwp_nil <|
  awp_seq <|
  sReg rfl <|
  rwp_det rfl rfl (det_load_agg rfl agg63 rfl (ptr_row 0 rfl) rfl) <|
  rwp_det rfl rfl (det_call rfl ok165 (frac_Valid v) ⟨VLe.refl _, rfl, trivial⟩) <|
  rwp_det rfl rfl (det_not rfl rfl) <|
  rMv rfl <|
  rLz [] rfl gv1 trivial (fun g1_3 => det_move rfl rfl) rfl <|
  rLz [(12, _)] rfl gv1 ⟨rfl, rfl, trivial⟩ (fun g1_3 => det_lss rfl rfl rfl) rfl <|
  rwp_det rfl rfl (det_or rfl rfl rfl rfl (fun h => (lzf h))) <|
  rMv rfl <|
  rLz [] rfl gv1 trivial (fun g1_7 => det_move rfl rfl) rfl <|
  rLz [(16, _)] rfl gv1 ⟨rfl, rfl, trivial⟩ (fun g1_7 => det_gtr rfl rfl rfl) rfl <|
  rwp_det rfl rfl (det_or rfl rfl rfl rfl (fun h => (lzf h))) <|
  rMv rfl <|
  rLz [] rfl gv1 trivial (fun g1_11 => det_move rfl rfl) rfl <|
  rLz [(20, _)] rfl gv1 ⟨rfl, rfl, trivial⟩ (fun g1_11 => det_call rfl ok306 (round_mode _) ⟨VLe.refl _, rfl, trivial⟩) rfl <|
  rLz [(21, _)] rfl gv1 ⟨rfl, rfl, trivial⟩ (fun g1_11 => det_not rfl rfl) rfl <|
  rwp_det rfl rfl (det_or rfl rfl rfl rfl (fun h => (lzf h))) <|
  rwp_nil <|
  awp_cond rfl (fun c1 => ?_) (fun c1 => ?_)
 ·have c1 : (((!frOk v || decide (b < 0)) || decide (30 < b)) || !(decide (1 ≤ how) && decide (how ≤ 4))) = true := c1
  exact absurd c1 (by rw [hv]; simp; omega)
 ·refine awp_skip <|
   sReg rfl <|
   rwp_det rfl rfl (det_field_lit rfl fd63_0 rfl) <|
   rwp_det rfl rfl (det_load_one rfl one2 rfl (ptr_row 0 rfl) rfl) <|
   rMv rfl <|
   rwp_det rfl rfl (det_convE rfl us3 ik145 rfl (wrap_u64 ⟨by omega, by omega⟩)) <|
   rwp_det rfl rfl (det_shlE rfl rfl rfl (by omega) (shl_eq (B := 2147483647) hb1 hb2 (by omega) (by decide))) <|
   rwp_det rfl rfl (det_field_lit rfl fd63_1 rfl) <|
   rwp_det rfl rfl (det_load_one rfl one2 rfl (ptr_row 0 rfl) rfl) <|
   rMv rfl <|
   rwp_det rfl rfl (det_call rfl ok302 (round_Divide (v.N * pow2 b) v.D how (by omega) ⟨by omega, by omega⟩ (by omega) (by omega)) ⟨VLe.refl _, rfl, VLe.refl _, rfl, VLe.refl _, rfl, trivial⟩) <|
   rwp_det rfl rfl (det_ex_c rfl rfl rfl) <|
   rwp_det rfl rfl (det_ex_c rfl rfl rfl) <|
   rMv rfl <|
   rMv rfl <|
   rwp_nil <|
   awp_ret <|
   fin2 (rs_c rfl) (rs_c rfl) ?_
  rw [divR_eq (by omega)]

theorem round_Narrow (n b o : Int) (hn : In64 n) (h1 : 2 ≤ b) (h2 : b ≤ 31) (ho : o = 1 ∨ o = 2) :
    Pur cfg 307 [vI n, vI b, vI o] (.tup [vI (narI b o n), vB (!(decide (-half b ≤ n) && decide (n ≤ half b - 1)))]) := by
 refine con_intro Tryz.func307 rfl Tryz.ntmps307 Tryz.results307 rfl ?_
 intro z hz
 have hh := half_le h1 h2
 refine sReg rfl <|
  rMv rfl <|
  rMv rfl <|
  rwp_nil <|
  awp_seq <|
  sReg rfl <|
  rMv rfl <|
  rwp_det rfl rfl (det_call rfl ok296 (round_valid b) ⟨VLe.refl _, rfl, trivial⟩) <|
  rwp_det rfl rfl (det_not rfl rfl) <|
  rMv rfl <|
  rLz [] rfl gv1 trivial (fun g1_3 => det_move rfl rfl) rfl <|
  rLz [(15, _)] rfl gv1 ⟨rfl, rfl, trivial⟩ (fun g1_3 => det_neq rfl rfl rfl) rfl <|
  rLz [(16, _)] rfl gv1 ⟨rfl, rfl, trivial⟩ (fun g1_3 => det_move rfl rfl) rfl <|
  rLz [] rfl gv2 trivial (fun g1_6 => det_move rfl rfl) rfl <|
  rLz [(18, _)] rfl gv2 ⟨rfl, rfl, trivial⟩ (fun g1_6 => det_neq rfl rfl rfl) rfl <|
  rLz [(17, _)] rfl gv1 ⟨rfl, rfl, trivial⟩ (fun g1_3 => det_and rfl rfl rfl (fun h => and_mk (by assumption) h) rfl) rfl <|
  rwp_det rfl rfl (det_or rfl rfl rfl rfl (fun h => (lzf h))) <|
  rwp_nil <|
  awp_cond rfl (fun c1 => ?_) (fun c1 => ?_)
 ·have c1 : (!(decide (2 ≤ b) && decide (b ≤ 31)) || (!decide (o = 1) && !decide (o = 2))) = true := c1
  exact absurd c1 (by simp; omega)
 ·refine awp_skip <|
   sReg rfl <|
   rMv rfl <|
   rwp_det rfl rfl (det_call rfl ok228 (round_MinInt b h1 h2) ⟨VLe.refl _, rfl, trivial⟩) <|
   rMv rfl <|
   rwp_det rfl rfl (det_call rfl ok229 (round_MaxInt b h1 h2) ⟨VLe.refl _, rfl, trivial⟩) <|
   rMv rfl <|
   rMv rfl <|
   rwp_nil <|
   awp_seq <|
   awp_block <|
   sReg rfl <|
   rMv rfl <|
   rMv rfl <|
   rwp_det rfl rfl (det_geq rfl rfl rfl) <|
   rMv rfl <|
   rLz [] rfl gv1 trivial (fun g4_3 => det_move rfl rfl) rfl <|
   rLz [] rfl gv1 trivial (fun g4_3 => det_move rfl rfl) rfl <|
   rLz [(31, _), (32, _)] rfl gv1 ⟨rfl, rfl, rfl, rfl, trivial⟩ (fun g4_3 => det_leq rfl rfl rfl) rfl <|
   rwp_det rfl rfl (det_and rfl rfl rfl (fun h => h) rfl) <|
   rMv rfl <|
   rwp_nil <|
   awp_cond rfl (fun c2 => ?_) (fun c2 => ?_)
  ·refine sReg rfl <|
    rMv rfl <|
    rMv rfl <|
    rMv rfl <|
    rwp_nil <|
    awp_ret <|
    fin2 (rs_c rfl) (rs_c rfl) ?_
   rw [narI_in h1 h2 c2, c2]; rfl
  ·refine sReg rfl <|
    rMv rfl <|
    rwp_det rfl rfl (det_eql rfl rfl rfl) <|
    rMv rfl <|
    rLz [] rfl gv1 trivial (fun g6_2 => det_move rfl rfl) rfl <|
    rLz [] rfl gv1 trivial (fun g6_2 => det_move rfl rfl) rfl <|
    rLz [(40, _), (41, _)] rfl gv1 ⟨rfl, rfl, rfl, rfl, trivial⟩ (fun g6_2 => det_lss rfl rfl rfl) rfl <|
    rwp_det rfl rfl (det_and rfl rfl rfl (fun h => h) rfl) <|
    rMv rfl <|
    rwp_nil <|
    awp_cond rfl (fun c3 => ?_) (fun c3 => ?_)
   ·try simp only [sx] at c3
    refine sReg rfl <|
     rMv rfl <|
     rMv rfl <|
     rMv rfl <|
     rwp_nil <|
     awp_ret <|
     fin2 (rs_c rfl) (rs_c rfl) ?_
    rw [narI_lo h1 h2 c3.1 c3.2, c2]; rfl
   ·try simp only [sx] at c3
    refine sReg rfl <|
     rMv rfl <|
     rwp_det rfl rfl (det_eql rfl rfl rfl) <|
     rMv rfl <|
     rwp_nil <|
     awp_cond rfl (fun c4 => ?_) (fun c4 => ?_)
    ·try simp only [sx] at c4
     refine sReg rfl <|
      rMv rfl <|
      rMv rfl <|
      rMv rfl <|
      rwp_nil <|
      awp_ret <|
      fin2 (rs_c rfl) (rs_c rfl) ?_
     rw [narI_hi h1 h2 c4 (by omega) c2, c2]; rfl
    ·try simp only [sx] at c4
     refine awp_skip <|
      sReg rfl <|
      rMv rfl <|
      rwp_det rfl rfl (det_sub_nw rfl rfl rfl ⟨by omega, by omega⟩) <|
      rwp_det rfl rfl (det_convE rfl us3 ik145 rfl (wrap_u64 ⟨by omega, by omega⟩)) <|
      rMv rfl <|
      rwp_nil <|
      sReg rfl <|
      rMv rfl <|
      rwp_det rfl rfl (det_conv rfl us2 ik188 rfl) <|
      rMv rfl <|
      rwp_det rfl rfl (det_shl rfl rfl rfl (by omega)) <|
      rwp_det rfl rfl (det_convE rfl us188 ik2 rfl rfl) <|
      rMv rfl <|
      rwp_det rfl rfl (det_shrE rfl rfl rfl (by omega) (show _ = wrapW b n from by rw [show min (64 - b).toNat IntKind.u64.bits = (64 - b).toNat from Nat.min_eq_left (by show (64 - b).toNat ≤ 64; omega), show min (64 - b).toNat IntKind.i64.bits = (64 - b).toNat from Nat.min_eq_left (by show (64 - b).toNat ≤ 64; omega)]; exact wrap_shift h1 h2 hn)) <|
      rMv rfl <|
      rMv rfl <|
      rwp_nil <|
      awp_ret <|
      fin2 (rs_c rfl) (rs_c rfl) ?_
     rw [narI_wrap h1 h2 (by omega), c2]; rfl

theorem fixed_narrow (t : Ty) (n : Int) (ht : fixOk t = true) (hn : In64 n) :
    Pur cfg 246 [vTy t, vI n] (vVal ⟨nar t n, 1⟩) := by
 refine con_intro Tryz.func246 rfl Tryz.ntmps246 Tryz.results246 rfl ?_
 intro z hz
 obtain ⟨hK, hB1, hB2, hF1, hF2, hR1, hR4, hO, hh1, hh2, hp1, hp2⟩ := fxT ht
 refine sReg rfl <|
  rwp_op rfl rfl (ope_box rfl rfl) ?_
 rintro _ _ ⟨b1, rfl, rfl⟩
 refine rwp_op rfl rfl (ope_alloc rfl zr63) ?_
 rintro _ _ ⟨b2, rfl, rfl⟩
 refine rwp_nil <|
  sReg rfl <|
  rMv rfl <|
  rwp_det rfl rfl (det_field_lit rfl fd65_1 rfl) <|
  rwp_det rfl rfl (det_load_one rfl one3 rfl (ptr_row 1 rfl) rfl) <|
  rwp_det rfl rfl (det_field_lit rfl fd65_4 rfl) <|
  rwp_det rfl rfl (det_load_one rfl one3 rfl (ptr_row 1 rfl) rfl) <|
  rwp_det rfl rfl (det_call rfl ok307 (round_Narrow n t.Bits t.Over hn hB1 hB2 hO) ⟨VLe.refl _, rfl, VLe.refl _, rfl, VLe.refl _, rfl, trivial⟩) <|
  rwp_det rfl rfl (det_move_tup rfl rfl) <|
  rwp_det rfl rfl (det_ex_c rfl rfl rfl) <|
  rwp_det rfl rfl (det_ex_c rfl rfl rfl) <|
  rMv rfl <|
  rMv rfl <|
  rwp_nil <|
  sReg rfl <|
  rMv rfl <|
  rwp_det rfl rfl (det_build rfl zr63 pl63 rfl) <|
  rwp_det0 rfl rfl (det_store rfl sz63 rfl rfl rfl (st_row 0 rfl rfl)) <|
  rwp_nil <|
  awp_ret <|
  fin1 (rs_cell_agg agg63 rfl (ptr_row 0 rfl) rfl) ?_
 exact rfl

theorem fixed_check (t : Ty) (l : List Vl) (ht : fixOk t = true) (hl : ∀ v, v ∈ l → valOk t v = true) (hlen : l.length ≤ 1000) :
    Pur cfg 305 [vTy t, vVals l] (vI 0) := by
 refine con_intro Tryz.func305 rfl Tryz.ntmps305 Tryz.results305 rfl ?_
 intro z hz
 obtain ⟨hK, hB1, hB2, hF1, hF2, hR1, hR4, hO, hh1, hh2, hp1, hp2⟩ := fxT ht
 refine sReg rfl <|
  rwp_op rfl rfl (ope_box rfl rfl) ?_
 rintro _ _ ⟨b1, rfl, rfl⟩
 refine rMv rfl <|
  rwp_nil <|
  awp_seq <|
  sReg rfl <|
  rwp_det rfl rfl (det_load_agg rfl agg65 rfl (ptr_row 0 rfl) rfl) <|
  rwp_det rfl rfl (det_call rfl ok107 (fixed_ValidateType t) ⟨VLe.refl _, rfl, trivial⟩) <|
  rMv rfl <|
  rwp_nil <|
  sReg rfl <|
  rMv rfl <|
  rwp_det rfl rfl (det_neq rfl rfl rfl) <|
  rwp_nil <|
  awp_cond rfl (fun c1 => ?_) (fun c1 => ?_)
 ·try simp only [sx] at c1
  rw [ht] at c1
  exact absurd rfl c1
 ·try simp only [sx] at c1
  refine awp_skip <|
   awp_seq <|
   sReg rfl <|
   rMv rfl <|
   rwp_det rfl rfl (det_len_slm rfl el36 rfl) <|
   rMv rfl <|
   rwp_nil <|
   awp_block <|
   awp_weak ⟨[(15, .c _), (2, .c _), (13, .c _), (14, .c _)], [_]⟩ (Weak.mk [true] ⟨VLe.of_eq rfl, VLe.of_eq rfl, VLe.of_eq rfl, VLe.of_eq rfl, trivial⟩ rfl) <|
   awp_loop_k 1 0 rfl rfl (Nat) (fun k => [(15, vI k)]) (fun k => []) (fun k => k ≤ l.length) (fun k => l.length - k) ⟨0, (by omega), Weak.mk [true] ⟨VLe.refl _, VLe.refl _, VLe.refl _, VLe.refl _, trivial⟩ rfl⟩ ?_
  rintro k hk
  refine sReg rfl <|
   rwp_det rfl rfl (det_lss rfl rfl rfl) <|
   rwp_nil <|
   awp_seq <|
   awp_cond rfl (fun c2 => ?_) (fun c2 => ?_)
  ·try simp only [sx] at c2
   obtain ⟨x, hx⟩ := ex_get l k (by omega)
   refine awp_skip <|
    awp_seq <|
    awp_block <|
    sReg rfl <|
    rwp_det rfl rfl (det_index_sl rfl el36 rfl rfl (by omega) (getm (by assumption))) <|
    rwp_det rfl rfl (det_load_agg rfl agg63 rfl ptr_imm rfl) <|
    rwp_op rfl rfl (ope_alloc rfl zr63) ?_
   rintro _ _ ⟨b2, rfl, rfl⟩
   refine rwp_det0 rfl rfl (det_store rfl sz63 rfl rfl rfl (st_row 0 rfl rfl)) <|
    rwp_nil <|
    sReg rfl <|
    rwp_det rfl rfl (det_load_agg rfl agg65 rfl (ptr_row 1 rfl) rfl) <|
    rwp_det rfl rfl (det_load_agg rfl agg63 rfl (ptr_row 0 rfl) rfl) <|
    rwp_det rfl rfl (det_call rfl ok163 (fixed_Valid t x) ⟨VLe.refl _, rfl, VLe.refl _, rfl, trivial⟩) <|
    rwp_det rfl rfl (det_not rfl rfl) <|
    rwp_nil <|
    awp_cond rfl (fun c3 => ?_) (fun c3 => ?_)
   ·have h3 := fxV ht (hl x (mem_of_get hx))
    exact absurd c3 (by rw [ht]; simp; omega)
   ·refine awp_skip <|
     awp_region rfl <|
     rwp_det rfl rfl (det_add_nw rfl rfl rfl ⟨by omega, by omega⟩) <|
     rMv rfl <|
     rwp_nil ?_
    refine ⟨k + 1, (by omega), (by omega), Weak.mk [false, true] ⟨VLe.refl _, VLe.refl _, VLe.refl _, VLe.refl _, trivial⟩ rfl⟩
  ·try simp only [sx] at c2
   refine awp_exit <|
    sReg rfl <|
    rMv rfl <|
    rwp_nil <|
    awp_ret <|
    fin1 (rs_c rfl) ?_
   exact rfl

theorem fixed_apply (y : C) (t : Ty) (a b : Vl) (n e : Int) (ht : fixOk t = true) (ha : valOk t a = true) (hb : valOk t b = true) (hn : In64 n) (hy : FnPur cfg y [vTy t, vI a.N, vI b.N] (.tup [vI n, vI e])) :
    Pur cfg 297 [.agg [y], vTy t, vVal a, vVal b] (.tup [vVal (bif decide (e = 0) then ⟨nar t n, 1⟩ else ⟨0, 0⟩), vI e]) := by
 refine con_intro Tryz.func297 rfl Tryz.ntmps297 Tryz.results297 rfl ?_
 intro z hz
 refine sReg rfl <|
  rwp_op rfl rfl (ope_box rfl rfl) ?_
 rintro _ _ ⟨b1, rfl, rfl⟩
 refine rwp_op rfl rfl (ope_box rfl rfl) ?_
 rintro _ _ ⟨b2, rfl, rfl⟩
 refine rwp_op rfl rfl (ope_box rfl rfl) ?_
 rintro _ _ ⟨b3, rfl, rfl⟩
 refine rwp_op rfl rfl (ope_box rfl rfl) ?_
 rintro _ _ ⟨b4, rfl, rfl⟩
 refine rwp_op rfl rfl (ope_alloc rfl zr63) ?_
 rintro _ _ ⟨b5, rfl, rfl⟩
 refine rMv rfl <|
  rwp_nil <|
  awp_seq <|
  sReg rfl <|
  rwp_det rfl rfl (det_load_agg rfl agg65 rfl (ptr_row 3 rfl) rfl) <|
  rwp_det rfl rfl (det_load_agg rfl agg63 rfl (ptr_row 2 rfl) rfl) <|
  rwp_det rfl rfl (det_load_agg rfl agg63 rfl (ptr_row 1 rfl) rfl) <|
  rwp_det rfl rfl (det_bslice rfl el36 zr63 rfl rfl rfl rfl) <|
  rwp_det rfl rfl (det_call rfl ok305 (fixed_check t [a, b] ht (by simp [ha, hb]) (by simp)) ⟨VLe.refl _, rfl, VLe.refl _, rfl, trivial⟩) <|
  rMv rfl <|
  rwp_nil <|
  sReg rfl <|
  rMv rfl <|
  rwp_det rfl rfl (det_neq rfl rfl rfl) <|
  rwp_nil <|
  awp_cond rfl (fun c1 => ?_) (fun c1 => ?_)
 ·try simp only [sx] at c1
  exact absurd trivial c1
 ·try simp only [sx] at c1
  refine awp_skip <|
   sReg rfl <|
   rwp_det rfl rfl (det_field_lit rfl fd310_0 rfl) <|
   rwp_det rfl rfl (det_load_one rfl one308 rfl (ptr_row 4 rfl) rfl) <|
   rwp_det rfl rfl (det_load_agg rfl agg65 rfl (ptr_row 3 rfl) rfl) <|
   rwp_det rfl rfl (det_field_lit rfl fd63_0 rfl) <|
   rwp_det rfl rfl (det_load_one rfl one2 rfl (ptr_row 2 rfl) rfl) <|
   rwp_det rfl rfl (det_field_lit rfl fd63_0 rfl) <|
   rwp_det rfl rfl (det_load_one rfl one2 rfl (ptr_row 1 rfl) rfl) <|
   rwp_det rfl rfl (det_call_val rfl rfl hy ⟨VLe.refl _, rfl, VLe.refl _, rfl, VLe.refl _, rfl, trivial⟩) <|
   rwp_det rfl rfl (det_move_tup rfl rfl) <|
   rwp_det rfl rfl (det_ex_c rfl rfl rfl) <|
   rwp_det rfl rfl (det_ex_c rfl rfl rfl) <|
   rMv rfl <|
   rMv rfl <|
   rwp_nil <|
   awp_seq <|
   sReg rfl <|
   rMv rfl <|
   rwp_det rfl rfl (det_neq rfl rfl rfl) <|
   rwp_nil <|
   awp_cond rfl (fun c2 => ?_) (fun c2 => ?_)
  ·try simp only [sx] at c2
   refine sReg rfl <|
    rwp_det rfl rfl (det_build rfl zr63 pl63 rfl) <|
    rMv rfl <|
    rwp_det0 rfl rfl (det_store rfl sz63 rfl rfl rfl (st_row 0 rfl rfl)) <|
    rMv rfl <|
    rwp_nil <|
    awp_ret <|
    fin2 (rs_cell_agg agg63 rfl (ptr_row 0 rfl) rfl) (rs_c rfl) ?_
   rw [dec_false c2]; rfl
  ·try simp only [sx] at c2
   refine awp_skip <|
    sReg rfl <|
    rwp_det rfl rfl (det_load_agg rfl agg65 rfl (ptr_row 3 rfl) rfl) <|
    rMv rfl <|
    rwp_det rfl rfl (det_call rfl ok246 (fixed_narrow t n ht hn) ⟨VLe.refl _, rfl, VLe.refl _, rfl, trivial⟩) <|
    rwp_det0 rfl rfl (det_store rfl sz63 rfl rfl rfl (st_row 0 rfl rfl)) <|
    rMv rfl <|
    rwp_nil <|
    awp_ret <|
    fin2 (rs_cell_agg agg63 rfl (ptr_row 0 rfl) rfl) (rs_c rfl) ?_
   rw [decide_eq_true c2, c2]; rfl

theorem fixed_Add_1 (t : Ty) (x y : Int) (hx : x.natAbs ≤ 1073741824) (hy : y.natAbs ≤ 1073741824) :
    Pur cfg 299 [vTy t, vI x, vI y] (.tup [vI (x + y), vI 0]) := by
 refine con_intro Tryz.func299 rfl Tryz.ntmps299 Tryz.results299 rfl ?_
 intro z hz
 refine sReg rfl <|
  rwp_op rfl rfl (ope_box rfl rfl) ?_
 rintro _ _ ⟨b1, rfl, rfl⟩
 refine rMv rfl <|
  rMv rfl <|
  rwp_nil <|
  sReg rfl <|
  rMv rfl <|
  rMv rfl <|
  rwp_det rfl rfl (det_add_nw rfl rfl rfl ⟨by omega, by omega⟩) <|
  rMv rfl <|
  rMv rfl <|
  rwp_nil <|
  awp_ret <|
  fin2 (rs_c rfl) (rs_c rfl) ?_
 exact rfl

theorem fixed_Sub_1 (t : Ty) (x y : Int) (hx : x.natAbs ≤ 1073741824) (hy : y.natAbs ≤ 1073741824) :
    Pur cfg 300 [vTy t, vI x, vI y] (.tup [vI (x - y), vI 0]) := by
 refine con_intro Tryz.func300 rfl Tryz.ntmps300 Tryz.results300 rfl ?_
 intro z hz
 refine sReg rfl <|
  rwp_op rfl rfl (ope_box rfl rfl) ?_
 rintro _ _ ⟨b1, rfl, rfl⟩
 refine rMv rfl <|
  rMv rfl <|
  rwp_nil <|
  sReg rfl <|
  rMv rfl <|
  rMv rfl <|
  rwp_det rfl rfl (det_sub_nw rfl rfl rfl ⟨by omega, by omega⟩) <|
  rMv rfl <|
  rMv rfl <|
  rwp_nil <|
  awp_ret <|
  fin2 (rs_c rfl) (rs_c rfl) ?_
 exact rfl

theorem fixed_Neg_1 (t : Ty) (x y : Int) (hx : x.natAbs ≤ 1073741824) (hy : y.natAbs ≤ 1073741824) :
    Pur cfg 298 [vTy t, vI x, vI y] (.tup [vI (-x), vI 0]) := by
 refine con_intro Tryz.func298 rfl Tryz.ntmps298 Tryz.results298 rfl ?_
 intro z hz
 refine sReg rfl <|
  rwp_op rfl rfl (ope_box rfl rfl) ?_
 rintro _ _ ⟨b1, rfl, rfl⟩
 refine rMv rfl <|
  rMv rfl <|
  rwp_nil <|
  sReg rfl <|
  rMv rfl <|
  rwp_det rfl rfl (det_neg_nw rfl rfl ⟨by omega, by omega⟩) <|
  rMv rfl <|
  rMv rfl <|
  rwp_nil <|
  awp_ret <|
  fin2 (rs_c rfl) (rs_c rfl) ?_
 exact rfl

theorem fixed_Mul_1 (t : Ty) (x y : Int) (ht : fixOk t = true) (hx : x.natAbs ≤ 1073741824) (hy : y.natAbs ≤ 1073741824) :
    Pur cfg 301 [vTy t, vI x, vI y] (.tup [vI (rnd (x * y) (pow2 t.Frac) t.Round), vI 0]) := by
 refine con_intro Tryz.func301 rfl Tryz.ntmps301 Tryz.results301 rfl ?_
 intro z hz
 obtain ⟨hK, hB1, hB2, hF1, hF2, hR1, hR4, hO, hh1, hh2, hp1, hp2⟩ := fxT ht
 have hm := m31 (x := x) (y := y) (by omega) (by omega) (by omega) (by omega)
 refine sReg rfl <|
  rwp_op rfl rfl (ope_box rfl rfl) ?_
 rintro _ _ ⟨b1, rfl, rfl⟩
 refine rMv rfl <|
  rMv rfl <|
  rwp_nil <|
  awp_seq <|
  awp_draw 13 mixed (by kernel_rfl) rfl rfl <|
  td_det rfl rfl (det_move rfl rfl) <|
  td_det rfl rfl (det_move rfl rfl) <|
  td_det rfl rfl (det_mul_nw rfl rfl rfl ⟨by omega, by omega⟩) <|
  td_det rfl rfl (det_field_lit rfl fd65_2 rfl) <|
  td_det rfl rfl (det_load_one rfl one3 rfl (ptr_row 0 rfl) rfl) <|
  td_det rfl rfl (det_shlE rfl rfl rfl (by omega) (one_shl hF1 hF2)) <|
  td_det rfl rfl (det_field_lit rfl fd65_3 rfl) <|
  td_det rfl rfl (det_load_one rfl one3 rfl (ptr_row 0 rfl) rfl) <|
  td_det rfl rfl (det_call rfl ok302 (round_Divide (x * y) (pow2 t.Frac) t.Round (by omega) ⟨by omega, by omega⟩ hR1 hR4) ⟨VLe.refl _, rfl, VLe.refl _, rfl, VLe.refl _, rfl, trivial⟩) <|
  td_det rfl rfl (det_ex_c rfl rfl rfl) <|
  td_det rfl rfl (det_ex_c rfl rfl rfl) <|
  td_det rfl rfl (det_assign rfl rfl) <|
  td_det rfl rfl (det_assign rfl rfl) <|
  td_nil <|
  rwp_nil <|
  awp_ret <|
  fin2 (rs_c rfl) (rs_c rfl) ?_
 rw [divR_eq (by omega)]

theorem fixed_Div_1 (t : Ty) (x y : Int) (ht : fixOk t = true) (hx : x.natAbs ≤ 1073741824) (hy : y.natAbs ≤ 1073741824) :
    Pur cfg 303 [vTy t, vI x, vI y] (.tup [vI (divR (x * pow2 t.Frac) y t.Round).1, vI (divR (x * pow2 t.Frac) y t.Round).2]) := by
 refine con_intro Tryz.func303 rfl Tryz.ntmps303 Tryz.results303 rfl ?_
 intro z hz
 obtain ⟨hK, hB1, hB2, hF1, hF2, hR1, hR4, hO, hh1, hh2, hp1, hp2⟩ := fxT ht
 have hm := m60 (B := 1073741824) (x := x) hx (show 0 ≤ pow2 t.Frac by omega) hp2
 refine sReg rfl <|
  rwp_op rfl rfl (ope_box rfl rfl) ?_
 rintro _ _ ⟨b1, rfl, rfl⟩
 refine rMv rfl <|
  rMv rfl <|
  rwp_nil <|
  awp_seq <|
  awp_draw 12 mixed (by kernel_rfl) rfl rfl <|
  td_det rfl rfl (det_move rfl rfl) <|
  td_det rfl rfl (det_field_lit rfl fd65_2 rfl) <|
  td_det rfl rfl (det_load_one rfl one3 rfl (ptr_row 0 rfl) rfl) <|
  td_det rfl rfl (det_shlE rfl rfl rfl (by omega) (shl_eq (B := 1073741824) hF1 hF2 hx (by decide))) <|
  td_det rfl rfl (det_move rfl rfl) <|
  td_det rfl rfl (det_field_lit rfl fd65_3 rfl) <|
  td_det rfl rfl (det_load_one rfl one3 rfl (ptr_row 0 rfl) rfl) <|
  td_det rfl rfl (det_call rfl ok302 (round_Divide (x * pow2 t.Frac) y t.Round (by omega) ⟨by omega, by omega⟩ hR1 hR4) ⟨VLe.refl _, rfl, VLe.refl _, rfl, VLe.refl _, rfl, trivial⟩) <|
  td_det rfl rfl (det_ex_c rfl rfl rfl) <|
  td_det rfl rfl (det_ex_c rfl rfl rfl) <|
  td_det rfl rfl (det_assign rfl rfl) <|
  td_det rfl rfl (det_assign rfl rfl) <|
  td_nil <|
  rwp_nil <|
  awp_ret <|
  fin2 (rs_c rfl) (rs_c rfl) ?_
 exact rfl

theorem fixed_Add (t : Ty) (a b : Vl) (ht : fixOk t = true) (ha : valOk t a = true) (hb : valOk t b = true) :
    Pur cfg 236 [vTy t, vVal a, vVal b] (.tup [vVal ⟨nar t (a.N + b.N), 1⟩, vI 0]) := by
 refine con_intro Tryz.func236 rfl Tryz.ntmps236 Tryz.results236 rfl ?_
 intro z hz
 obtain ⟨hK, hB1, hB2, hF1, hF2, hR1, hR4, hO, hh1, hh2, hp1, hp2⟩ := fxT ht
 have hA := fxN ht ha
 have hB := fxN ht hb
 refine sReg rfl <|
  rwp_op rfl rfl (ope_box rfl rfl) ?_
 rintro _ _ ⟨b1, rfl, rfl⟩
 refine rwp_op rfl rfl (ope_box rfl rfl) ?_
 rintro _ _ ⟨b2, rfl, rfl⟩
 refine rwp_op rfl rfl (ope_box rfl rfl) ?_
 rintro _ _ ⟨b3, rfl, rfl⟩
 refine rwp_op rfl rfl (ope_alloc rfl zr63) ?_
 rintro _ _ ⟨b4, rfl, rfl⟩
 refine rMv rfl <|
  rwp_nil <|
  sReg rfl <|
  rwp_det rfl rfl (det_build rfl zr310 pl310 rfl) <|
  rwp_det rfl rfl (det_load_agg rfl agg65 rfl (ptr_row 3 rfl) rfl) <|
  rwp_det rfl rfl (det_load_agg rfl agg63 rfl (ptr_row 2 rfl) rfl) <|
  rwp_det rfl rfl (det_load_agg rfl agg63 rfl (ptr_row 1 rfl) rfl) <|
  rwp_det rfl rfl (det_call rfl ok297 (fixed_apply _ t a b (a.N + b.N) 0 ht ha hb ⟨by omega, by omega⟩ (FnPur.of_pur (first := []) (cap := []) ok299 (fixed_Add_1 t a.N b.N hA hB))) ⟨VLe.refl _, rfl, VLe.refl _, rfl, VLe.refl _, rfl, VLe.refl _, rfl, trivial⟩) <|
  rwp_det rfl rfl (det_ex_agg rfl rfl rfl) <|
  rwp_det rfl rfl (det_ex_c rfl rfl rfl) <|
  rwp_det0 rfl rfl (det_store rfl sz63 rfl rfl rfl (st_row 0 rfl rfl)) <|
  rMv rfl <|
  rwp_nil <|
  awp_ret <|
  fin2 (rs_cell_agg agg63 rfl (ptr_row 0 rfl) rfl) (rs_c rfl) ?_
 exact rfl

theorem fixed_Sub (t : Ty) (a b : Vl) (ht : fixOk t = true) (ha : valOk t a = true) (hb : valOk t b = true) :
    Pur cfg 237 [vTy t, vVal a, vVal b] (.tup [vVal ⟨nar t (a.N - b.N), 1⟩, vI 0]) := by
 refine con_intro Tryz.func237 rfl Tryz.ntmps237 Tryz.results237 rfl ?_
 intro z hz
 obtain ⟨hK, hB1, hB2, hF1, hF2, hR1, hR4, hO, hh1, hh2, hp1, hp2⟩ := fxT ht
 have hA := fxN ht ha
 have hB := fxN ht hb
 refine sReg rfl <|
  rwp_op rfl rfl (ope_box rfl rfl) ?_
 rintro _ _ ⟨b1, rfl, rfl⟩
 refine rwp_op rfl rfl (ope_box rfl rfl) ?_
 rintro _ _ ⟨b2, rfl, rfl⟩
 refine rwp_op rfl rfl (ope_box rfl rfl) ?_
 rintro _ _ ⟨b3, rfl, rfl⟩
 refine rwp_op rfl rfl (ope_alloc rfl zr63) ?_
 rintro _ _ ⟨b4, rfl, rfl⟩
 refine rMv rfl <|
  rwp_nil <|
  sReg rfl <|
  rwp_det rfl rfl (det_build rfl zr310 pl310 rfl) <|
  rwp_det rfl rfl (det_load_agg rfl agg65 rfl (ptr_row 3 rfl) rfl) <|
  rwp_det rfl rfl (det_load_agg rfl agg63 rfl (ptr_row 2 rfl) rfl) <|
  rwp_det rfl rfl (det_load_agg rfl agg63 rfl (ptr_row 1 rfl) rfl) <|
  rwp_det rfl rfl (det_call rfl ok297 (fixed_apply _ t a b (a.N - b.N) 0 ht ha hb ⟨by omega, by omega⟩ (FnPur.of_pur (first := []) (cap := []) ok300 (fixed_Sub_1 t a.N b.N hA hB))) ⟨VLe.refl _, rfl, VLe.refl _, rfl, VLe.refl _, rfl, VLe.refl _, rfl, trivial⟩) <|
  rwp_det rfl rfl (det_ex_agg rfl rfl rfl) <|
  rwp_det rfl rfl (det_ex_c rfl rfl rfl) <|
  rwp_det0 rfl rfl (det_store rfl sz63 rfl rfl rfl (st_row 0 rfl rfl)) <|
  rMv rfl <|
  rwp_nil <|
  awp_ret <|
  fin2 (rs_cell_agg agg63 rfl (ptr_row 0 rfl) rfl) (rs_c rfl) ?_
 exact rfl

theorem fixed_Neg (t : Ty) (a : Vl) (ht : fixOk t = true) (ha : valOk t a = true) :
    Pur cfg 234 [vTy t, vVal a] (.tup [vVal ⟨nar t (-a.N), 1⟩, vI 0]) := by
 refine con_intro Tryz.func234 rfl Tryz.ntmps234 Tryz.results234 rfl ?_
 intro z hz
 obtain ⟨hK, hB1, hB2, hF1, hF2, hR1, hR4, hO, hh1, hh2, hp1, hp2⟩ := fxT ht
 have hA := fxN ht ha
 refine sReg rfl <|
  rwp_op rfl rfl (ope_box rfl rfl) ?_
 rintro _ _ ⟨b1, rfl, rfl⟩
 refine rwp_op rfl rfl (ope_box rfl rfl) ?_
 rintro _ _ ⟨b2, rfl, rfl⟩
 refine rwp_op rfl rfl (ope_alloc rfl zr63) ?_
 rintro _ _ ⟨b3, rfl, rfl⟩
 refine rMv rfl <|
  rwp_nil <|
  sReg rfl <|
  rwp_det rfl rfl (det_build rfl zr310 pl310 rfl) <|
  rwp_det rfl rfl (det_load_agg rfl agg65 rfl (ptr_row 2 rfl) rfl) <|
  rwp_det rfl rfl (det_load_agg rfl agg63 rfl (ptr_row 1 rfl) rfl) <|
  rwp_det rfl rfl (det_load_agg rfl agg63 rfl (ptr_row 1 rfl) rfl) <|
  rwp_det rfl rfl (det_call rfl ok297 (fixed_apply _ t a a (-a.N) 0 ht ha ha ⟨by omega, by omega⟩ (FnPur.of_pur (first := []) (cap := []) ok298 (fixed_Neg_1 t a.N a.N hA hA))) ⟨VLe.refl _, rfl, VLe.refl _, rfl, VLe.refl _, rfl, VLe.refl _, rfl, trivial⟩) <|
  rwp_det rfl rfl (det_ex_agg rfl rfl rfl) <|
  rwp_det rfl rfl (det_ex_c rfl rfl rfl) <|
  rwp_det0 rfl rfl (det_store rfl sz63 rfl rfl rfl (st_row 0 rfl rfl)) <|
  rMv rfl <|
  rwp_nil <|
  awp_ret <|
  fin2 (rs_cell_agg agg63 rfl (ptr_row 0 rfl) rfl) (rs_c rfl) ?_
 exact rfl

theorem fixed_Mul (t : Ty) (a b : Vl) (ht : fixOk t = true) (ha : valOk t a = true) (hb : valOk t b = true) :
    Pur cfg 238 [vTy t, vVal a, vVal b] (.tup [vVal ⟨nar t (rnd (a.N * b.N) (pow2 t.Frac) t.Round), 1⟩, vI 0]) := by
 refine con_intro Tryz.func238 rfl Tryz.ntmps238 Tryz.results238 rfl ?_
 intro z hz
 obtain ⟨hK, hB1, hB2, hF1, hF2, hR1, hR4, hO, hh1, hh2, hp1, hp2⟩ := fxT ht
 have hA := fxN ht ha
 have hB := fxN ht hb
 have hm := m31 (x := a.N) (y := b.N) (by omega) (by omega) (by omega) (by omega)
 have hr := rnd_b (n := a.N * b.N) (how := t.Round) (show 0 < pow2 t.Frac by omega)
 refine sReg rfl <|
  rwp_op rfl rfl (ope_box rfl rfl) ?_
 rintro _ _ ⟨b1, rfl, rfl⟩
 refine rwp_op rfl rfl (ope_box rfl rfl) ?_
 rintro _ _ ⟨b2, rfl, rfl⟩
 refine rwp_op rfl rfl (ope_box rfl rfl) ?_
 rintro _ _ ⟨b3, rfl, rfl⟩
 refine rwp_op rfl rfl (ope_alloc rfl zr63) ?_
 rintro _ _ ⟨b4, rfl, rfl⟩
 refine rMv rfl <|
  rwp_nil <|
  sReg rfl <|
  rwp_det rfl rfl (det_build rfl zr310 pl310 rfl) <|
  rwp_det rfl rfl (det_load_agg rfl agg65 rfl (ptr_row 3 rfl) rfl) <|
  rwp_det rfl rfl (det_load_agg rfl agg63 rfl (ptr_row 2 rfl) rfl) <|
  rwp_det rfl rfl (det_load_agg rfl agg63 rfl (ptr_row 1 rfl) rfl) <|
  rwp_det rfl rfl (det_call rfl ok297 (fixed_apply _ t a b (rnd (a.N * b.N) (pow2 t.Frac) t.Round) 0 ht ha hb ⟨by omega, by omega⟩ (FnPur.of_pur (first := []) (cap := []) ok301 (fixed_Mul_1 t a.N b.N ht hA hB))) ⟨VLe.refl _, rfl, VLe.refl _, rfl, VLe.refl _, rfl, VLe.refl _, rfl, trivial⟩) <|
  rwp_det rfl rfl (det_ex_agg rfl rfl rfl) <|
  rwp_det rfl rfl (det_ex_c rfl rfl rfl) <|
  rwp_det0 rfl rfl (det_store rfl sz63 rfl rfl rfl (st_row 0 rfl rfl)) <|
  rMv rfl <|
  rwp_nil <|
  awp_ret <|
  fin2 (rs_cell_agg agg63 rfl (ptr_row 0 rfl) rfl) (rs_c rfl) ?_
 exact rfl

theorem fixed_Div (t : Ty) (a b : Vl) (ht : fixOk t = true) (ha : valOk t a = true) (hb : valOk t b = true) :
    Pur cfg 239 [vTy t, vVal a, vVal b] (.tup [vVal (fixA 7 t a.N b.N).1, vI (fixA 7 t a.N b.N).2]) := by
 refine con_intro Tryz.func239 rfl Tryz.ntmps239 Tryz.results239 rfl ?_
 intro z hz
 obtain ⟨hK, hB1, hB2, hF1, hF2, hR1, hR4, hO, hh1, hh2, hp1, hp2⟩ := fxT ht
 have hA := fxN ht ha
 have hB := fxN ht hb
 have hd := fixA_div t a.N b.N
 have hdb := divR_b (y := b.N) (how := t.Round) (m60 (B := 1073741824) (x := a.N) hA (show 0 ≤ pow2 t.Frac by omega) hp2)
 refine sReg rfl <|
  rwp_op rfl rfl (ope_box rfl rfl) ?_
 rintro _ _ ⟨b1, rfl, rfl⟩
 refine rwp_op rfl rfl (ope_box rfl rfl) ?_
 rintro _ _ ⟨b2, rfl, rfl⟩
 refine rwp_op rfl rfl (ope_box rfl rfl) ?_
 rintro _ _ ⟨b3, rfl, rfl⟩
 refine rwp_op rfl rfl (ope_alloc rfl zr63) ?_
 rintro _ _ ⟨b4, rfl, rfl⟩
 refine rMv rfl <|
  rwp_nil <|
  sReg rfl <|
  rwp_det rfl rfl (det_build rfl zr310 pl310 rfl) <|
  rwp_det rfl rfl (det_load_agg rfl agg65 rfl (ptr_row 3 rfl) rfl) <|
  rwp_det rfl rfl (det_load_agg rfl agg63 rfl (ptr_row 2 rfl) rfl) <|
  rwp_det rfl rfl (det_load_agg rfl agg63 rfl (ptr_row 1 rfl) rfl) <|
  rwp_det rfl rfl (det_call rfl ok297 (fixed_apply _ t a b (divR (a.N * pow2 t.Frac) b.N t.Round).1 (divR (a.N * pow2 t.Frac) b.N t.Round).2 ht ha hb hdb (FnPur.of_pur (first := []) (cap := []) ok303 (fixed_Div_1 t a.N b.N ht hA hB))) ⟨VLe.refl _, rfl, VLe.refl _, rfl, VLe.refl _, rfl, VLe.refl _, rfl, trivial⟩) <|
  rwp_det rfl rfl (det_ex_agg rfl rfl rfl) <|
  rwp_det rfl rfl (det_ex_c rfl rfl rfl) <|
  rwp_det0 rfl rfl (det_store rfl sz63 rfl rfl rfl (st_row 0 rfl rfl)) <|
  rMv rfl <|
  rwp_nil <|
  awp_ret <|
  fin2 (rs_cell_agg agg63 rfl (ptr_row 0 rfl) rfl) (rs_c rfl) ?_
 rw [hd]; rfl

theorem fixed_ToFrac (t : Ty) (v : Vl) (ht : fixOk t = true) (hv : valOk t v = true) :
    Pur cfg 244 [vTy t, vVal v] (.tup [vVal (newF v.N (pow2 t.Frac)).1, vI (newF v.N (pow2 t.Frac)).2]) := by
 refine con_intro Tryz.func244 rfl Tryz.ntmps244 Tryz.results244 rfl ?_
 intro z hz
 obtain ⟨hK, hB1, hB2, hF1, hF2, hR1, hR4, hO, hh1, hh2, hp1, hp2⟩ := fxT ht
 have hA := fxN ht hv
 refine sReg rfl <|
  rwp_op rfl rfl (ope_box rfl rfl) ?_
 rintro _ _ ⟨b1, rfl, rfl⟩
 refine rwp_op rfl rfl (ope_box rfl rfl) ?_
 rintro _ _ ⟨b2, rfl, rfl⟩
 refine rwp_op rfl rfl (ope_alloc rfl zr63) ?_
 rintro _ _ ⟨b3, rfl, rfl⟩
 refine rMv rfl <|
  rwp_nil <|
  awp_seq <|
  sReg rfl <|
  rwp_det rfl rfl (det_load_agg rfl agg65 rfl (ptr_row 2 rfl) rfl) <|
  rwp_det rfl rfl (det_load_agg rfl agg63 rfl (ptr_row 1 rfl) rfl) <|
  rwp_det rfl rfl (det_bslice rfl el36 zr63 rfl rfl rfl rfl) <|
  rwp_det rfl rfl (det_call rfl ok305 (fixed_check t [v] ht (by simp [hv]) (by simp)) ⟨VLe.refl _, rfl, VLe.refl _, rfl, trivial⟩) <|
  rMv rfl <|
  rwp_nil <|
  sReg rfl <|
  rMv rfl <|
  rwp_det rfl rfl (det_neq rfl rfl rfl) <|
  rwp_nil <|
  awp_cond rfl (fun c1 => ?_) (fun c1 => ?_)
 ·try simp only [sx] at c1
  exact absurd trivial c1
 ·try simp only [sx] at c1
  refine awp_skip <|
   awp_seq <|
   awp_draw 8 mixed (by kernel_rfl) rfl rfl <|
   td_det rfl rfl (det_field_lit rfl fd63_0 rfl) <|
   td_det rfl rfl (det_load_one rfl one2 rfl (ptr_row 1 rfl) rfl) <|
   td_det rfl rfl (det_field_lit rfl fd65_2 rfl) <|
   td_det rfl rfl (det_load_one rfl one3 rfl (ptr_row 2 rfl) rfl) <|
   td_det rfl rfl (det_shlE rfl rfl rfl (by omega) (one_shl hF1 hF2)) <|
   td_det rfl rfl (det_call rfl ok304 (frac_New v.N (pow2 t.Frac) ⟨by omega, by omega⟩ ⟨by omega, by omega⟩) ⟨VLe.refl _, rfl, VLe.refl _, rfl, trivial⟩) <|
   td_det rfl rfl (det_ex_agg rfl rfl rfl) <|
   td_det rfl rfl (det_ex_c rfl rfl rfl) <|
   td_nil <|
   rwp_det0 rfl rfl (det_store rfl sz63 rfl rfl rfl (st_row 0 rfl rfl)) <|
   rMv rfl <|
   rwp_nil <|
   awp_ret <|
   fin2 (rs_cell_agg agg63 rfl (ptr_row 0 rfl) rfl) (rs_c rfl) ?_
  exact rfl

theorem fixed_FromFrac (t : Ty) (v : Vl) (ht : fixOk t = true) (hv : frOk v = true) :
    Pur cfg 171 [vTy t, vVal v] (.tup [vVal ⟨nar t (rnd (v.N * pow2 t.Frac) v.D t.Round), 1⟩, vI 0]) := by
 refine con_intro Tryz.func171 rfl Tryz.ntmps171 Tryz.results171 rfl ?_
 intro z hz
 obtain ⟨hK, hB1, hB2, hF1, hF2, hR1, hR4, hO, hh1, hh2, hp1, hp2⟩ := fxT ht
 obtain ⟨a1, a2, a3, a4, _⟩ := frOk_in hv
 have hm := m60 (B := 2147483647) (x := v.N) (by omega) (show 0 ≤ pow2 t.Frac by omega) hp2
 have hr := rnd_b (n := v.N * pow2 t.Frac) (how := t.Round) (show 0 < v.D by omega)
 refine sReg rfl <|
  rwp_op rfl rfl (ope_box rfl rfl) ?_
 rintro _ _ ⟨b1, rfl, rfl⟩
 refine rwp_op rfl rfl (ope_box rfl rfl) ?_
 rintro _ _ ⟨b2, rfl, rfl⟩
 refine rwp_op rfl rfl (ope_alloc rfl zr63) ?_
 rintro _ _ ⟨b3, rfl, rfl⟩
 refine rMv rfl <|
  rwp_nil <|
  awp_seq <|
  sReg rfl <|
  rwp_det rfl rfl (det_load_agg rfl agg65 rfl (ptr_row 2 rfl) rfl) <|
  rwp_det rfl rfl (det_call rfl ok107 (fixed_ValidateType t) ⟨VLe.refl _, rfl, trivial⟩) <|
  rMv rfl <|
  rwp_nil <|
  sReg rfl <|
  rMv rfl <|
  rwp_det rfl rfl (det_neq rfl rfl rfl) <|
  rwp_nil <|
  awp_cond rfl (fun c1 => ?_) (fun c1 => ?_)
 ·try simp only [sx] at c1
  rw [ht] at c1
  exact absurd rfl c1
 ·try simp only [sx] at c1
  refine awp_skip <|
   sReg rfl <|
   rwp_det rfl rfl (det_load_agg rfl agg63 rfl (ptr_row 1 rfl) rfl) <|
   rwp_det rfl rfl (det_field_lit rfl fd65_2 rfl) <|
   rwp_det rfl rfl (det_load_one rfl one3 rfl (ptr_row 2 rfl) rfl) <|
   rwp_det rfl rfl (det_field_lit rfl fd65_3 rfl) <|
   rwp_det rfl rfl (det_load_one rfl one3 rfl (ptr_row 2 rfl) rfl) <|
   rwp_det rfl rfl (det_call rfl ok245 (round_Quantize v t.Frac t.Round hv hF1 hF2 hR1 hR4) ⟨VLe.refl _, rfl, VLe.refl _, rfl, VLe.refl _, rfl, trivial⟩) <|
   rwp_det rfl rfl (det_move_tup rfl rfl) <|
   rwp_det rfl rfl (det_ex_c rfl rfl rfl) <|
   rwp_det rfl rfl (det_ex_c rfl rfl rfl) <|
   rMv rfl <|
   rMv rfl <|
   rwp_nil <|
   awp_seq <|
   sReg rfl <|
   rMv rfl <|
   rwp_det rfl rfl (det_neq rfl rfl rfl) <|
   rMv rfl <|
   rLz [] rfl gv1 trivial (fun g5_2 => det_load_agg rfl agg63 rfl (ptr_row 1 rfl) rfl) rfl <|
   rLz [(27, _)] rfl gv1 ⟨rfl, rfl, trivial⟩ (fun g5_2 => det_call rfl ok165 (frac_Valid v) ⟨VLe.refl _, rfl, trivial⟩) rfl <|
   rLz [(28, _)] rfl gv1 ⟨rfl, rfl, trivial⟩ (fun g5_2 => det_not rfl rfl) rfl <|
   rwp_det rfl rfl (det_or rfl rfl rfl rfl (fun h => (lzf h))) <|
   rwp_nil <|
   awp_cond rfl (fun c2 => ?_) (fun c2 => ?_)
  ·have c2 : (!decide ((0 : Int) = 0) || !frOk v) = true := c2
   exact absurd c2 (by rw [hv]; simp)
  ·refine awp_skip <|
    sReg rfl <|
    rwp_det rfl rfl (det_load_agg rfl agg65 rfl (ptr_row 2 rfl) rfl) <|
    rMv rfl <|
    rwp_det rfl rfl (det_call rfl ok246 (fixed_narrow t (rnd (v.N * pow2 t.Frac) v.D t.Round) ht ⟨by omega, by omega⟩) ⟨VLe.refl _, rfl, VLe.refl _, rfl, trivial⟩) <|
    rwp_det0 rfl rfl (det_store rfl sz63 rfl rfl rfl (st_row 0 rfl rfl)) <|
    rMv rfl <|
    rwp_nil <|
    awp_ret <|
    fin2 (rs_cell_agg agg63 rfl (ptr_row 0 rfl) rfl) (rs_c rfl) ?_
   exact rfl

theorem ref04_floor (n d : Int) (hn : n.natAbs ≤ 9223372036854775806) (hd : 0 < d) (hd2 : d ≤ 9223372036854775807) :
    Pur cfg 181 [vI n, vI d] (vI (n / d)) := by
 refine con_intro Tryz.func181 rfl Tryz.ntmps181 Tryz.results181 rfl ?_
 intro z hz
 have q1 := tdiv_le' (n := n) (d := d)
 have q2 := tdiv_mul_le (n := n) (d := d)
 refine sReg rfl <|
  rMv rfl <|
  rwp_nil <|
  sReg rfl <|
  rMv rfl <|
  rMv rfl <|
  rwp_det rfl rfl (det_quoE rfl rfl rfl (by omega) (wrap_in ⟨by omega, by omega⟩)) <|
  rMv rfl <|
  rwp_nil <|
  awp_seq <|
  sReg rfl <|
  rMv rfl <|
  rMv rfl <|
  rwp_det rfl rfl (det_mul_nw rfl rfl rfl ⟨by omega, by omega⟩) <|
  rMv rfl <|
  rwp_det rfl rfl (det_gtr rfl rfl rfl) <|
  rwp_nil <|
  awp_cond rfl (fun c1 => ?_) (fun c1 => ?_)
 ·try simp only [sx] at c1
  refine sReg rfl <|
   rMv rfl <|
   rwp_det rfl rfl (det_sub_nw rfl rfl rfl ⟨by omega, by omega⟩) <|
   rMv rfl <|
   rwp_nil <|
   awp_ret <|
   fin1 (rs_c rfl) ?_
  rw [flo_lt hd c1]
 ·try simp only [sx] at c1
  refine awp_skip <|
   sReg rfl <|
   rMv rfl <|
   rMv rfl <|
   rwp_nil <|
   awp_ret <|
   fin1 (rs_c rfl) ?_
  rw [flo_ge hd (by omega)]

theorem ref04_round (n d how : Int) (hn : n.natAbs ≤ 4611686018427387904) (hd : 0 < d) (hd2 : d ≤ 4611686018427387904) :
    Pur cfg 183 [vI n, vI d, vI how] (vI (rnd n d how)) := by
 refine con_intro Tryz.func183 rfl Tryz.ntmps183 Tryz.results183 rfl ?_
 intro z hz
 obtain ⟨q1, q2, q3, q4⟩ := ediv_b (n := n) hd
 refine sReg rfl <|
  rMv rfl <|
  rwp_nil <|
  sReg rfl <|
  rMv rfl <|
  rMv rfl <|
  rwp_det rfl rfl (det_call rfl ok181 (ref04_floor n d (by omega) hd (by omega)) ⟨VLe.refl _, rfl, VLe.refl _, rfl, trivial⟩) <|
  rMv rfl <|
  rwp_nil <|
  sReg rfl <|
  rMv rfl <|
  rMv rfl <|
  rMv rfl <|
  rwp_det rfl rfl (det_mul_nw rfl rfl rfl ⟨by omega, by omega⟩) <|
  rwp_det rfl rfl (det_sub_nw rfl rfl rfl ⟨by omega, by omega⟩) <|
  rMv rfl <|
  rwp_nil <|
  awp_seq <|
  sReg rfl <|
  rMv rfl <|
  rwp_det rfl rfl (det_eql rfl rfl rfl) <|
  rMv rfl <|
  rLz [] rfl gv1 trivial (fun g3_2 => det_move rfl rfl) rfl <|
  rLz [(20, _)] rfl gv1 ⟨rfl, rfl, trivial⟩ (fun g3_2 => det_eql rfl rfl rfl) rfl <|
  rwp_det rfl rfl (det_or rfl rfl rfl rfl (fun h => (lzf h))) <|
  rwp_nil <|
  awp_cond rfl (fun c1 => ?_) (fun c1 => ?_)
 ·refine sReg rfl <|
   rMv rfl <|
   rMv rfl <|
   rwp_nil <|
   awp_ret <|
   fin1 (rs_c rfl) ?_
  rw [rnd1 c1]
 ·refine awp_skip <|
   awp_seq <|
   sReg rfl <|
   rMv rfl <|
   rwp_det rfl rfl (det_eql rfl rfl rfl) <|
   rwp_nil <|
   awp_cond rfl (fun c2 => ?_) (fun c2 => ?_)
  ·try simp only [sx] at c2
   refine sReg rfl <|
    rMv rfl <|
    rwp_det rfl rfl (det_add_nw rfl rfl rfl ⟨by omega, by omega⟩) <|
    rMv rfl <|
    rwp_nil <|
    awp_ret <|
    fin1 (rs_c rfl) ?_
   rw [rnd2 c1 c2]
  ·try simp only [sx] at c2
   refine awp_skip <|
    awp_seq <|
    sReg rfl <|
    rMv rfl <|
    rwp_det rfl rfl (det_eql rfl rfl rfl) <|
    rwp_nil <|
    awp_cond rfl (fun c3 => ?_) (fun c3 => ?_)
   ·try simp only [sx] at c3
    refine awp_seq <|
     sReg rfl <|
     rMv rfl <|
     rwp_det rfl rfl (det_lss rfl rfl rfl) <|
     rwp_nil <|
     awp_cond rfl (fun c4 => ?_) (fun c4 => ?_)
    ·try simp only [sx] at c4
     refine sReg rfl <|
      rMv rfl <|
      rwp_det rfl rfl (det_add_nw rfl rfl rfl ⟨by omega, by omega⟩) <|
      rMv rfl <|
      rwp_nil <|
      awp_ret <|
      fin1 (rs_c rfl) ?_
     rw [rnd3 c1 c2 c3 c4]
    ·try simp only [sx] at c4
     refine awp_skip <|
      sReg rfl <|
      rMv rfl <|
      rMv rfl <|
      rwp_nil <|
      awp_ret <|
      fin1 (rs_c rfl) ?_
     rw [rnd4 c1 c2 c3 (by omega)]
   ·try simp only [sx] at c3
    refine awp_skip <|
     awp_seq <|
     sReg rfl <|
     rMv rfl <|
     rMv rfl <|
     rMv rfl <|
     rwp_det rfl rfl (det_sub_nw rfl rfl rfl ⟨by omega, by omega⟩) <|
     rwp_det rfl rfl (det_gtr rfl rfl rfl) <|
     rMv rfl <|
     rLz [] rfl gv1 trivial (fun g11_5 => det_move rfl rfl) rfl <|
     rLz [] rfl gv1 trivial (fun g11_5 => det_move rfl rfl) rfl <|
     rLz [] rfl gv1 trivial (fun g11_5 => det_move rfl rfl) rfl <|
     rLz [(42, _), (43, _)] rfl gv1 ⟨rfl, rfl, rfl, rfl, trivial⟩ (fun g11_5 => det_sub_nw rfl rfl rfl ⟨by omega, by omega⟩) rfl <|
     rLz [(41, _), (44, _)] rfl gv1 ⟨rfl, rfl, rfl, rfl, trivial⟩ (fun g11_5 => det_eql rfl rfl rfl) rfl <|
     rLz [(45, _)] rfl gv1 ⟨rfl, rfl, trivial⟩ (fun g11_5 => det_move rfl rfl) rfl <|
     rLz [] rfl gv2 trivial (fun g11_11 => det_move rfl rfl) rfl <|
     rLz [(47, _)] rfl gv2 ⟨rfl, rfl, trivial⟩ (fun g11_11 => det_rem rfl rfl rfl (by decide)) rfl <|
     rLz [(48, _)] rfl gv2 ⟨rfl, rfl, trivial⟩ (fun g11_11 => det_neq rfl rfl rfl) rfl <|
     rLz [(46, _)] rfl gv1 ⟨rfl, rfl, trivial⟩ (fun g11_5 => det_and rfl rfl rfl (fun h => and_mk (by assumption) h) rfl) rfl <|
     rwp_det rfl rfl (det_or rfl rfl rfl rfl (fun h => (lzf h))) <|
     rwp_nil <|
     awp_cond rfl (fun c5 => ?_) (fun c5 => ?_)
    ·refine sReg rfl <|
      rMv rfl <|
      rwp_det rfl rfl (det_add_nw rfl rfl rfl ⟨by omega, by omega⟩) <|
      rMv rfl <|
      rwp_nil <|
      awp_ret <|
      fin1 (rs_c rfl) ?_
     rw [rnd5 c1 c2 c3 c5]
    ·refine awp_skip <|
      sReg rfl <|
      rMv rfl <|
      rMv rfl <|
      rwp_nil <|
      awp_ret <|
      fin1 (rs_c rfl) ?_
     rw [rnd6 c1 c2 c3 c5]

theorem ref04_step (t : Ty) (ht : fixOk t = true) :
    Pur cfg 184 [vTy t] (vI (pow2 t.Frac)) := by
 refine con_intro Tryz.func184 rfl Tryz.ntmps184 Tryz.results184 rfl ?_
 intro z hz
 obtain ⟨hK, hB1, hB2, hF1, hF2, hR1, hR4, hO, hh1, hh2, hp1, hp2⟩ := fxT ht
 refine sReg rfl <|
  rwp_op rfl rfl (ope_box rfl rfl) ?_
 rintro _ _ ⟨b1, rfl, rfl⟩
 refine rMv rfl <|
  rwp_nil <|
  sReg rfl <|
  rwp_det rfl rfl (det_field_lit rfl fd65_2 rfl) <|
  rwp_det rfl rfl (det_load_one rfl one3 rfl (ptr_row 0 rfl) rfl) <|
  rwp_det rfl rfl (det_convE rfl us3 ik145 rfl (wrap_u64 ⟨by omega, by omega⟩)) <|
  rwp_det rfl rfl (det_shlE rfl rfl rfl (by omega) (one_shl hF1 hF2)) <|
  rMv rfl <|
  rwp_nil <|
  awp_ret <|
  fin1 (rs_c rfl) ?_
 exact rfl

theorem ref04_fit (t : Ty) (n : Int) (ht : fixOk t = true) (hn : n.natAbs ≤ 4611686018427387904) :
    Pur cfg 182 [vTy t, vI n] (vVal ⟨nar t n, 1⟩) := by
 refine con_intro Tryz.func182 rfl Tryz.ntmps182 Tryz.results182 rfl ?_
 intro z hz
 obtain ⟨hK, hB1, hB2, hF1, hF2, hR1, hR4, hO, hh1, hh2, hp1, hp2⟩ := fxT ht
 obtain ⟨q1, q2, q3, q4⟩ := ediv_b (n := n + half t.Bits) (show 0 < 2 * half t.Bits by omega)
 have q5 := Int.mul_assoc ((n + half t.Bits) / (2 * half t.Bits)) 2 (half t.Bits)
 have q6 : ((n + half t.Bits) / (2 * half t.Bits) * 2).natAbs ≤ ((n + half t.Bits) / (2 * half t.Bits) * 2 * half t.Bits).natAbs := by rw [Int.natAbs_mul (_ * 2)]; exact Nat.le_mul_of_pos_right _ (by omega)
 refine sReg rfl <|
  rwp_op rfl rfl (ope_box rfl rfl) ?_
 rintro _ _ ⟨b1, rfl, rfl⟩
 refine rwp_op rfl rfl (ope_alloc rfl zr63) ?_
 rintro _ _ ⟨b2, rfl, rfl⟩
 refine rwp_nil <|
  sReg rfl <|
  rwp_det rfl rfl (det_field_lit rfl fd65_1 rfl) <|
  rwp_det rfl rfl (det_load_one rfl one3 rfl (ptr_row 1 rfl) rfl) <|
  rwp_det rfl rfl (det_sub_nw rfl rfl rfl ⟨by omega, by omega⟩) <|
  rwp_det rfl rfl (det_convE rfl us3 ik145 rfl rfl) <|
  rwp_det rfl rfl (det_shlE rfl rfl rfl (by rw [wrap_u64 ⟨by omega, by omega⟩]; omega) (min_shift hB1 hB2)) <|
  rMv rfl <|
  rwp_nil <|
  awp_seq <|
  sReg rfl <|
  rwp_det rfl rfl (det_field_lit rfl fd65_4 rfl) <|
  rwp_det rfl rfl (det_load_one rfl one3 rfl (ptr_row 1 rfl) rfl) <|
  rwp_det rfl rfl (det_eql rfl rfl rfl) <|
  rwp_nil <|
  awp_cond rfl (fun c1 => ?_) (fun c1 => ?_)
 ·try simp only [sx] at c1
  refine awp_region rfl <|
   rMv rfl <|
   rMv rfl <|
   rMv rfl <|
   rwp_det rfl rfl (det_add_nw rfl rfl rfl ⟨by omega, by omega⟩) <|
   rMv rfl <|
   rwp_det rfl rfl (det_mul_nw rfl rfl rfl ⟨by omega, by omega⟩) <|
   rwp_det rfl rfl (det_call rfl ok181 (ref04_floor (n + half t.Bits) (2 * half t.Bits) (by omega) (by omega) (by omega)) ⟨VLe.refl _, rfl, VLe.refl _, rfl, trivial⟩) <|
   rwp_det rfl rfl (det_mul_nw rfl rfl rfl ⟨by omega, by omega⟩) <|
   rMv rfl <|
   rwp_det rfl rfl (det_mul_nw rfl rfl rfl ⟨by omega, by omega⟩) <|
   rwp_det rfl rfl (det_sub_nw rfl rfl rfl ⟨by omega, by omega⟩) <|
   rMv rfl <|
   rwp_nil <|
   sReg rfl <|
   rMv rfl <|
   rwp_det rfl rfl (det_neg_nw rfl rfl ⟨by omega, by omega⟩) <|
   rMv rfl <|
   rwp_det rfl rfl (det_sub_nw rfl rfl rfl ⟨by omega, by omega⟩) <|
   rMv rfl <|
   rwp_det rfl rfl (det_min rfl rfl rfl) <|
   rwp_det rfl rfl (det_max rfl rfl rfl) <|
   rwp_det rfl rfl (det_build rfl zr63 pl63 rfl) <|
   rwp_det0 rfl rfl (det_store rfl sz63 rfl rfl rfl (st_row 0 rfl rfl)) <|
   rwp_nil <|
   awp_ret <|
   fin1 (rs_cell_agg agg63 rfl (ptr_row 0 rfl) rfl) ?_
  exact congrArg (fun x => vVal ⟨x, 1⟩) (fit_w c1)
 ·try simp only [sx] at c1
  refine awp_skip <|
   sReg rfl <|
   rMv rfl <|
   rwp_det rfl rfl (det_neg_nw rfl rfl ⟨by omega, by omega⟩) <|
   rMv rfl <|
   rwp_det rfl rfl (det_sub_nw rfl rfl rfl ⟨by omega, by omega⟩) <|
   rMv rfl <|
   rwp_det rfl rfl (det_min rfl rfl rfl) <|
   rwp_det rfl rfl (det_max rfl rfl rfl) <|
   rwp_det rfl rfl (det_build rfl zr63 pl63 rfl) <|
   rwp_det0 rfl rfl (det_store rfl sz63 rfl rfl rfl (st_row 0 rfl rfl)) <|
   rwp_nil <|
   awp_ret <|
   fin1 (rs_cell_agg agg63 rfl (ptr_row 0 rfl) rfl) ?_
  exact congrArg (fun x => vVal ⟨x, 1⟩) (fit_n c1)

theorem ref04_fix (op : Int) (t : Ty) (a b : Int) (ht : fixOk t = true) (ha : a.natAbs ≤ 1073741824) (hb : ¬ op = 8 → b.natAbs ≤ 1073741824) (h1 : 4 ≤ op) (h2 : op ≤ 8) :
    Pur cfg 173 [vI op, vTy t, vI a, vI b] (.tup [vVal (fixA op t a b).1, vI (fixA op t a b).2]) := by
 refine con_intro Tryz.func173 rfl Tryz.ntmps173 Tryz.results173 rfl ?_
 intro z hz
 obtain ⟨hK, hB1, hB2, hF1, hF2, hR1, hR4, hO, hh1, hh2, hp1, hp2⟩ := fxT ht
 refine sReg rfl <|
  rwp_op rfl rfl (ope_box rfl rfl) ?_
 rintro _ _ ⟨b1, rfl, rfl⟩
 refine rwp_op rfl rfl (ope_alloc rfl zr63) ?_
 rintro _ _ ⟨b2, rfl, rfl⟩
 refine rMv rfl <|
  rwp_nil <|
  awp_seq <|
  sReg rfl <|
  rMv rfl <|
  rwp_nil <|
  awp_block <|
  sReg rfl <|
  rwp_det rfl rfl (det_eql rfl rfl rfl) <|
  rMv rfl <|
  rwp_nil <|
  awp_cond rfl (fun c1 => ?_) (fun c1 => ?_)
 ·try simp only [sx] at c1
  have hb := hb (by omega)
  refine sReg rfl <|
   rwp_det rfl rfl (det_load_agg rfl agg65 rfl (ptr_row 1 rfl) rfl) <|
   rMv rfl <|
   rMv rfl <|
   rwp_det rfl rfl (det_add_nw rfl rfl rfl ⟨by omega, by omega⟩) <|
   rwp_det rfl rfl (det_call rfl ok182 (ref04_fit _ _ (by assumption) (by omega)) ⟨VLe.refl _, rfl, VLe.refl _, rfl, trivial⟩) <|
   rwp_det0 rfl rfl (det_store rfl sz63 rfl rfl rfl (st_row 0 rfl rfl)) <|
   rMv rfl <|
   rwp_nil <|
   awp_ret <|
   fin2 (rs_cell_agg agg63 rfl (ptr_row 0 rfl) rfl) (rs_c rfl) ?_
  rw [fixA1 c1]; rfl
 ·try simp only [sx] at c1
  refine sReg rfl <|
   rwp_det rfl rfl (det_eql rfl rfl rfl) <|
   rMv rfl <|
   rwp_nil <|
   awp_cond rfl (fun c2 => ?_) (fun c2 => ?_)
  ·try simp only [sx] at c2
   have hb := hb (by omega)
   refine sReg rfl <|
    rwp_det rfl rfl (det_load_agg rfl agg65 rfl (ptr_row 1 rfl) rfl) <|
    rMv rfl <|
    rMv rfl <|
    rwp_det rfl rfl (det_sub_nw rfl rfl rfl ⟨by omega, by omega⟩) <|
    rwp_det rfl rfl (det_call rfl ok182 (ref04_fit _ _ (by assumption) (by omega)) ⟨VLe.refl _, rfl, VLe.refl _, rfl, trivial⟩) <|
    rwp_det0 rfl rfl (det_store rfl sz63 rfl rfl rfl (st_row 0 rfl rfl)) <|
    rMv rfl <|
    rwp_nil <|
    awp_ret <|
    fin2 (rs_cell_agg agg63 rfl (ptr_row 0 rfl) rfl) (rs_c rfl) ?_
   rw [fixA2 c2]; rfl
  ·try simp only [sx] at c2
   refine sReg rfl <|
    rwp_det rfl rfl (det_eql rfl rfl rfl) <|
    rMv rfl <|
    rwp_nil <|
    awp_cond rfl (fun c3 => ?_) (fun c3 => ?_)
   ·try simp only [sx] at c3
    have hb := hb (by omega)
    have hm := m31 (x := a) (y := b) (by omega) (by omega) (by omega) (by omega)
    have hr := rnd_b (n := a * b) (how := t.Round) (show 0 < pow2 t.Frac by omega)
    refine awp_seq <|
     awp_draw 10 mixed (by kernel_rfl) rfl rfl <|
     td_det rfl rfl (det_load_agg rfl agg65 rfl (ptr_row 1 rfl) rfl) <|
     td_det rfl rfl (det_move rfl rfl) <|
     td_det rfl rfl (det_move rfl rfl) <|
     td_det rfl rfl (det_mul_nw rfl rfl rfl ⟨by omega, by omega⟩) <|
     td_det rfl rfl (det_load_agg rfl agg65 rfl (ptr_row 1 rfl) rfl) <|
     td_det rfl rfl (det_call rfl ok184 (ref04_step _ (by assumption)) ⟨VLe.refl _, rfl, trivial⟩) <|
     td_det rfl rfl (det_field_lit rfl fd65_3 rfl) <|
     td_det rfl rfl (det_load_one rfl one3 rfl (ptr_row 1 rfl) rfl) <|
     td_det rfl rfl (det_call rfl ok183 (ref04_round (a * b) (pow2 t.Frac) t.Round (by omega) (by omega) (by omega)) ⟨VLe.refl _, rfl, VLe.refl _, rfl, VLe.refl _, rfl, trivial⟩) <|
     td_det rfl rfl (det_call rfl ok182 (ref04_fit t (rnd (a * b) (pow2 t.Frac) t.Round) ht (by omega)) ⟨VLe.refl _, rfl, VLe.refl _, rfl, trivial⟩) <|
     td_nil <|
     rwp_det0 rfl rfl (det_store rfl sz63 rfl rfl rfl (st_row 0 rfl rfl)) <|
     rMv rfl <|
     rwp_nil <|
     awp_ret <|
     fin2 (rs_cell_agg agg63 rfl (ptr_row 0 rfl) rfl) (rs_c rfl) ?_
    rw [fixA3 c3]; rfl
   ·try simp only [sx] at c3
    refine sReg rfl <|
     rwp_det rfl rfl (det_eql rfl rfl rfl) <|
     rMv rfl <|
     rwp_nil <|
     awp_cond rfl (fun c4 => ?_) (fun c4 => ?_)
    ·try simp only [sx] at c4
     refine sReg rfl <|
      rwp_det rfl rfl (det_load_agg rfl agg65 rfl (ptr_row 1 rfl) rfl) <|
      rMv rfl <|
      rwp_det rfl rfl (det_neg_nw rfl rfl ⟨by omega, by omega⟩) <|
      rwp_det rfl rfl (det_call rfl ok182 (ref04_fit _ _ (by assumption) (by omega)) ⟨VLe.refl _, rfl, VLe.refl _, rfl, trivial⟩) <|
      rwp_det0 rfl rfl (det_store rfl sz63 rfl rfl rfl (st_row 0 rfl rfl)) <|
      rMv rfl <|
      rwp_nil <|
      awp_ret <|
      fin2 (rs_cell_agg agg63 rfl (ptr_row 0 rfl) rfl) (rs_c rfl) ?_
     rw [fixA4 c4]; rfl
    ·try simp only [sx] at c4
     have hb := hb (by omega)
     have hm2 := m60 (B := 1073741824) (x := a) ha (show 0 ≤ pow2 t.Frac by omega) hp2
     have hm3 := m60 (B := 1073741824) (x := -a) (by omega) (show 0 ≤ pow2 t.Frac by omega) hp2
     refine awp_skip <|
      awp_seq <|
      sReg rfl <|
      rMv rfl <|
      rwp_det rfl rfl (det_eql rfl rfl rfl) <|
      rwp_nil <|
      awp_cond rfl (fun c5 => ?_) (fun c5 => ?_)
     ·try simp only [sx] at c5
      refine sReg rfl <|
       rwp_det rfl rfl (det_build rfl zr63 pl63 rfl) <|
       rwp_det0 rfl rfl (det_store rfl sz63 rfl rfl rfl (st_row 0 rfl rfl)) <|
       rMv rfl <|
       rwp_nil <|
       awp_ret <|
       fin2 (rs_cell_agg agg63 rfl (ptr_row 0 rfl) rfl) (rs_c rfl) ?_
      rw [fixA5 (by omega) c5]; rfl
     ·try simp only [sx] at c5
      refine awp_skip <|
       awp_seq <|
       sReg rfl <|
       rMv rfl <|
       rwp_det rfl rfl (det_lss rfl rfl rfl) <|
       rwp_nil <|
       awp_cond rfl (fun c6 => ?_) (fun c6 => ?_)
      ·try simp only [sx] at c6
       refine sReg rfl <|
        rMv rfl <|
        rwp_det rfl rfl (det_neg_nw rfl rfl ⟨by omega, by omega⟩) <|
        rMv rfl <|
        rwp_nil <|
        awp_region rfl <|
        rMv rfl <|
        rwp_det rfl rfl (det_neg_nw rfl rfl ⟨by omega, by omega⟩) <|
        rMv rfl <|
        rwp_nil <|
        awp_seq <|
        awp_draw 10 mixed (by kernel_rfl) rfl rfl <|
        td_det rfl rfl (det_load_agg rfl agg65 rfl (ptr_row 1 rfl) rfl) <|
        td_det rfl rfl (det_move rfl rfl) <|
        td_det rfl rfl (det_load_agg rfl agg65 rfl (ptr_row 1 rfl) rfl) <|
        td_det rfl rfl (det_call rfl ok184 (ref04_step _ (by assumption)) ⟨VLe.refl _, rfl, trivial⟩) <|
        td_det rfl rfl (det_mul_nw rfl rfl rfl ⟨by omega, by omega⟩) <|
        td_det rfl rfl (det_move rfl rfl) <|
        td_det rfl rfl (det_field_lit rfl fd65_3 rfl) <|
        td_det rfl rfl (det_load_one rfl one3 rfl (ptr_row 1 rfl) rfl) <|
        td_det rfl rfl (det_call rfl ok183 (ref04_round (-a * pow2 t.Frac) (-b) t.Round (by omega) (by omega) (by omega)) ⟨VLe.refl _, rfl, VLe.refl _, rfl, VLe.refl _, rfl, trivial⟩) <|
        td_det rfl rfl (det_call rfl ok182 (ref04_fit t (rnd (-a * pow2 t.Frac) (-b) t.Round) ht (by have h_ := rnd_b (n := -a * pow2 t.Frac) (d := -b) (how := t.Round) (by omega); omega)) ⟨VLe.refl _, rfl, VLe.refl _, rfl, trivial⟩) <|
        td_nil <|
        rwp_det0 rfl rfl (det_store rfl sz63 rfl rfl rfl (st_row 0 rfl rfl)) <|
        rMv rfl <|
        rwp_nil <|
        awp_ret <|
        fin2 (rs_cell_agg agg63 rfl (ptr_row 0 rfl) rfl) (rs_c rfl) ?_
       rw [fixA6 (by omega) c5, posN_neg c6, show (b.natAbs : Int) = -b by omega]; rfl
      ·try simp only [sx] at c6
       refine awp_skip <|
        awp_seq <|
        awp_draw 10 mixed (by kernel_rfl) rfl rfl <|
        td_det rfl rfl (det_load_agg rfl agg65 rfl (ptr_row 1 rfl) rfl) <|
        td_det rfl rfl (det_move rfl rfl) <|
        td_det rfl rfl (det_load_agg rfl agg65 rfl (ptr_row 1 rfl) rfl) <|
        td_det rfl rfl (det_call rfl ok184 (ref04_step _ (by assumption)) ⟨VLe.refl _, rfl, trivial⟩) <|
        td_det rfl rfl (det_mul_nw rfl rfl rfl ⟨by omega, by omega⟩) <|
        td_det rfl rfl (det_move rfl rfl) <|
        td_det rfl rfl (det_field_lit rfl fd65_3 rfl) <|
        td_det rfl rfl (det_load_one rfl one3 rfl (ptr_row 1 rfl) rfl) <|
        td_det rfl rfl (det_call rfl ok183 (ref04_round (a * pow2 t.Frac) (b) t.Round (by omega) (by omega) (by omega)) ⟨VLe.refl _, rfl, VLe.refl _, rfl, VLe.refl _, rfl, trivial⟩) <|
        td_det rfl rfl (det_call rfl ok182 (ref04_fit t (rnd (a * pow2 t.Frac) (b) t.Round) ht (by have h_ := rnd_b (n := a * pow2 t.Frac) (d := b) (how := t.Round) (by omega); omega)) ⟨VLe.refl _, rfl, VLe.refl _, rfl, trivial⟩) <|
        td_nil <|
        rwp_det0 rfl rfl (det_store rfl sz63 rfl rfl rfl (st_row 0 rfl rfl)) <|
        rMv rfl <|
        rwp_nil <|
        awp_ret <|
        fin2 (rs_cell_agg agg63 rfl (ptr_row 0 rfl) rfl) (rs_c rfl) ?_
       rw [fixA6 (by omega) c5, posN_pos (by omega), show (b.natAbs : Int) = b by omega]; rfl

theorem ref04_whole (op a b : Int) (ha : num31 a = true) (hb : ¬ op = 8 → num31 b = true) (h1 : 4 ≤ op) (h2 : op ≤ 8) :
    Pur cfg 174 [vI op, vI a, vI b] (.tup [vVal (intA op a b).1, vI (intA op a b).2]) := by
 refine con_intro Tryz.func174 rfl Tryz.ntmps174 Tryz.results174 rfl ?_
 intro z hz
 have hA := n31 ha
 refine sReg rfl <|
  rwp_op rfl rfl (ope_alloc rfl zr63) ?_
 rintro _ _ ⟨b1, rfl, rfl⟩
 refine rMv rfl <|
  rwp_nil <|
  sReg rfl <|
  rMv rfl <|
  rwp_det rfl rfl (det_neg_nw rfl rfl ⟨by omega, by omega⟩) <|
  rMv rfl <|
  rwp_nil <|
  awp_seq <|
  sReg rfl <|
  rMv rfl <|
  rwp_nil <|
  awp_block <|
  sReg rfl <|
  rwp_det rfl rfl (det_eql rfl rfl rfl) <|
  rMv rfl <|
  rwp_nil <|
  awp_cond rfl (fun c1 => ?_) (fun c1 => ?_)
 ·try simp only [sx] at c1
  have hB := n31 (hb (by omega))
  have hm := m31 hA.1 hA.2 hB.1 hB.2
  refine awp_region rfl <|
   rMv rfl <|
   rMv rfl <|
   rwp_det rfl rfl (det_add_nw rfl rfl rfl ⟨by omega, by omega⟩) <|
   rMv rfl <|
   rwp_nil <|
   awp_seq <|
   sReg rfl <|
   rMv rfl <|
   rwp_det rfl rfl (det_gtr rfl rfl rfl) <|
   rMv rfl <|
   rLz [] rfl gv1 trivial (fun g16_2 => det_move rfl rfl) rfl <|
   rLz [(44, _)] rfl gv1 ⟨rfl, rfl, trivial⟩ (fun g16_2 => det_lss rfl rfl rfl) rfl <|
   rwp_det rfl rfl (det_or rfl rfl rfl rfl (fun h => (lzf h))) <|
   rwp_nil <|
   awp_cond rfl (fun c7 => ?_) (fun c7 => ?_)
  ·have hi : intN op a b = a + b := intN1 c1
   have hz : ¬ (op = 7 ∧ b = 0) := by omega
   have hx : num31 (intN op a b) = false := by rw [hi]; exact n31_f c7
   refine sReg rfl <|
    rwp_det rfl rfl (det_build rfl zr63 pl63 rfl) <|
    rwp_det0 rfl rfl (det_store rfl sz63 rfl rfl rfl (st_row 0 rfl rfl)) <|
    rMv rfl <|
    rwp_nil <|
    awp_ret <|
    fin2 (rs_cell_agg agg63 rfl (ptr_row 0 rfl) rfl) (rs_c rfl) ?_
   first | (rw [intA1 (by omega) (by omega)]; rfl) | (rw [intA2 hz hx]; rfl) | (rw [intA3 hz hx, hi]; rfl)
  ·have hi : intN op a b = a + b := intN1 c1
   have hz : ¬ (op = 7 ∧ b = 0) := by omega
   have hx : num31 (intN op a b) = true := by rw [hi]; exact n31_t c7
   refine awp_skip <|
    sReg rfl <|
    rMv rfl <|
    rwp_det rfl rfl (det_build rfl zr63 pl63 rfl) <|
    rwp_det0 rfl rfl (det_store rfl sz63 rfl rfl rfl (st_row 0 rfl rfl)) <|
    rMv rfl <|
    rwp_nil <|
    awp_ret <|
    fin2 (rs_cell_agg agg63 rfl (ptr_row 0 rfl) rfl) (rs_c rfl) ?_
   first | (rw [intA1 (by omega) (by omega)]; rfl) | (rw [intA2 hz hx]; rfl) | (rw [intA3 hz hx, hi]; rfl)
 ·try simp only [sx] at c1
  refine sReg rfl <|
   rwp_det rfl rfl (det_eql rfl rfl rfl) <|
   rMv rfl <|
   rwp_nil <|
   awp_cond rfl (fun c2 => ?_) (fun c2 => ?_)
  ·try simp only [sx] at c2
   have hB := n31 (hb (by omega))
   have hm := m31 hA.1 hA.2 hB.1 hB.2
   refine awp_region rfl <|
    rMv rfl <|
    rMv rfl <|
    rwp_det rfl rfl (det_sub_nw rfl rfl rfl ⟨by omega, by omega⟩) <|
    rMv rfl <|
    rwp_nil <|
    awp_seq <|
    sReg rfl <|
    rMv rfl <|
    rwp_det rfl rfl (det_gtr rfl rfl rfl) <|
    rMv rfl <|
    rLz [] rfl gv1 trivial (fun g16_2 => det_move rfl rfl) rfl <|
    rLz [(44, _)] rfl gv1 ⟨rfl, rfl, trivial⟩ (fun g16_2 => det_lss rfl rfl rfl) rfl <|
    rwp_det rfl rfl (det_or rfl rfl rfl rfl (fun h => (lzf h))) <|
    rwp_nil <|
    awp_cond rfl (fun c7 => ?_) (fun c7 => ?_)
   ·have hi : intN op a b = a - b := intN2 c2
    have hz : ¬ (op = 7 ∧ b = 0) := by omega
    have hx : num31 (intN op a b) = false := by rw [hi]; exact n31_f c7
    refine sReg rfl <|
     rwp_det rfl rfl (det_build rfl zr63 pl63 rfl) <|
     rwp_det0 rfl rfl (det_store rfl sz63 rfl rfl rfl (st_row 0 rfl rfl)) <|
     rMv rfl <|
     rwp_nil <|
     awp_ret <|
     fin2 (rs_cell_agg agg63 rfl (ptr_row 0 rfl) rfl) (rs_c rfl) ?_
    first | (rw [intA1 (by omega) (by omega)]; rfl) | (rw [intA2 hz hx]; rfl) | (rw [intA3 hz hx, hi]; rfl)
   ·have hi : intN op a b = a - b := intN2 c2
    have hz : ¬ (op = 7 ∧ b = 0) := by omega
    have hx : num31 (intN op a b) = true := by rw [hi]; exact n31_t c7
    refine awp_skip <|
     sReg rfl <|
     rMv rfl <|
     rwp_det rfl rfl (det_build rfl zr63 pl63 rfl) <|
     rwp_det0 rfl rfl (det_store rfl sz63 rfl rfl rfl (st_row 0 rfl rfl)) <|
     rMv rfl <|
     rwp_nil <|
     awp_ret <|
     fin2 (rs_cell_agg agg63 rfl (ptr_row 0 rfl) rfl) (rs_c rfl) ?_
    first | (rw [intA1 (by omega) (by omega)]; rfl) | (rw [intA2 hz hx]; rfl) | (rw [intA3 hz hx, hi]; rfl)
  ·try simp only [sx] at c2
   refine sReg rfl <|
    rwp_det rfl rfl (det_eql rfl rfl rfl) <|
    rMv rfl <|
    rwp_nil <|
    awp_cond rfl (fun c3 => ?_) (fun c3 => ?_)
   ·try simp only [sx] at c3
    have hB := n31 (hb (by omega))
    have hm := m31 hA.1 hA.2 hB.1 hB.2
    refine awp_region rfl <|
     rMv rfl <|
     rMv rfl <|
     rwp_det rfl rfl (det_mul_nw rfl rfl rfl ⟨by omega, by omega⟩) <|
     rMv rfl <|
     rwp_nil <|
     awp_seq <|
     sReg rfl <|
     rMv rfl <|
     rwp_det rfl rfl (det_gtr rfl rfl rfl) <|
     rMv rfl <|
     rLz [] rfl gv1 trivial (fun g16_2 => det_move rfl rfl) rfl <|
     rLz [(44, _)] rfl gv1 ⟨rfl, rfl, trivial⟩ (fun g16_2 => det_lss rfl rfl rfl) rfl <|
     rwp_det rfl rfl (det_or rfl rfl rfl rfl (fun h => (lzf h))) <|
     rwp_nil <|
     awp_cond rfl (fun c7 => ?_) (fun c7 => ?_)
    ·have hi : intN op a b = a * b := intN3 c3
     have hz : ¬ (op = 7 ∧ b = 0) := by omega
     have hx : num31 (intN op a b) = false := by rw [hi]; exact n31_f c7
     refine sReg rfl <|
      rwp_det rfl rfl (det_build rfl zr63 pl63 rfl) <|
      rwp_det0 rfl rfl (det_store rfl sz63 rfl rfl rfl (st_row 0 rfl rfl)) <|
      rMv rfl <|
      rwp_nil <|
      awp_ret <|
      fin2 (rs_cell_agg agg63 rfl (ptr_row 0 rfl) rfl) (rs_c rfl) ?_
     first | (rw [intA1 (by omega) (by omega)]; rfl) | (rw [intA2 hz hx]; rfl) | (rw [intA3 hz hx, hi]; rfl)
    ·have hi : intN op a b = a * b := intN3 c3
     have hz : ¬ (op = 7 ∧ b = 0) := by omega
     have hx : num31 (intN op a b) = true := by rw [hi]; exact n31_t c7
     refine awp_skip <|
      sReg rfl <|
      rMv rfl <|
      rwp_det rfl rfl (det_build rfl zr63 pl63 rfl) <|
      rwp_det0 rfl rfl (det_store rfl sz63 rfl rfl rfl (st_row 0 rfl rfl)) <|
      rMv rfl <|
      rwp_nil <|
      awp_ret <|
      fin2 (rs_cell_agg agg63 rfl (ptr_row 0 rfl) rfl) (rs_c rfl) ?_
     first | (rw [intA1 (by omega) (by omega)]; rfl) | (rw [intA2 hz hx]; rfl) | (rw [intA3 hz hx, hi]; rfl)
   ·try simp only [sx] at c3
    refine sReg rfl <|
     rwp_det rfl rfl (det_eql rfl rfl rfl) <|
     rMv rfl <|
     rwp_nil <|
     awp_cond rfl (fun c4 => ?_) (fun c4 => ?_)
    ·try simp only [sx] at c4
     have hB := n31 (hb (by omega))
     have hm := m31 hA.1 hA.2 hB.1 hB.2
     refine awp_seq <|
      sReg rfl <|
      rMv rfl <|
      rwp_det rfl rfl (det_eql rfl rfl rfl) <|
      rwp_nil <|
      awp_cond rfl (fun c5 => ?_) (fun c5 => ?_)
     ·try simp only [sx] at c5
      refine sReg rfl <|
       rwp_det rfl rfl (det_build rfl zr63 pl63 rfl) <|
       rwp_det0 rfl rfl (det_store rfl sz63 rfl rfl rfl (st_row 0 rfl rfl)) <|
       rMv rfl <|
       rwp_nil <|
       awp_ret <|
       fin2 (rs_cell_agg agg63 rfl (ptr_row 0 rfl) rfl) (rs_c rfl) ?_
      first | (rw [intA1 (by omega) (by omega)]; rfl) | (rw [intA2 hz hx]; rfl) | (rw [intA3 hz hx, hi]; rfl)
     ·try simp only [sx] at c5
      refine awp_skip <|
       awp_seq <|
       sReg rfl <|
       rMv rfl <|
       rwp_det rfl rfl (det_lss rfl rfl rfl) <|
       rwp_nil <|
       awp_cond rfl (fun c6 => ?_) (fun c6 => ?_)
      ·try simp only [sx] at c6
       refine sReg rfl <|
        rMv rfl <|
        rwp_det rfl rfl (det_neg_nw rfl rfl ⟨by omega, by omega⟩) <|
        rMv rfl <|
        rwp_nil <|
        awp_region rfl <|
        rMv rfl <|
        rwp_det rfl rfl (det_neg_nw rfl rfl ⟨by omega, by omega⟩) <|
        rMv rfl <|
        rwp_nil <|
        awp_region rfl <|
        rMv rfl <|
        rMv rfl <|
        rwp_det rfl rfl (det_call rfl ok181 (ref04_floor (-a) (-b) (by omega) (by omega) (by omega)) ⟨VLe.refl _, rfl, VLe.refl _, rfl, trivial⟩) <|
        rMv rfl <|
        rwp_nil <|
        awp_seq <|
        sReg rfl <|
        rMv rfl <|
        rwp_det rfl rfl (det_gtr rfl rfl rfl) <|
        rMv rfl <|
        rLz [] rfl gv1 trivial (fun g16_2 => det_move rfl rfl) rfl <|
        rLz [(44, _)] rfl gv1 ⟨rfl, rfl, trivial⟩ (fun g16_2 => det_lss rfl rfl rfl) rfl <|
        rwp_det rfl rfl (det_or rfl rfl rfl rfl (fun h => (lzf h))) <|
        rwp_nil <|
        awp_cond rfl (fun c7 => ?_) (fun c7 => ?_)
       ·have hi : intN op a b = -a / -b := by rw [intN4 c4, posN_neg c6, show (b.natAbs : Int) = -b by omega]
        have hz : ¬ (op = 7 ∧ b = 0) := by omega
        have hx : num31 (intN op a b) = false := by rw [hi]; exact n31_f c7
        refine sReg rfl <|
         rwp_det rfl rfl (det_build rfl zr63 pl63 rfl) <|
         rwp_det0 rfl rfl (det_store rfl sz63 rfl rfl rfl (st_row 0 rfl rfl)) <|
         rMv rfl <|
         rwp_nil <|
         awp_ret <|
         fin2 (rs_cell_agg agg63 rfl (ptr_row 0 rfl) rfl) (rs_c rfl) ?_
        first | (rw [intA1 (by omega) (by omega)]; rfl) | (rw [intA2 hz hx]; rfl) | (rw [intA3 hz hx, hi]; rfl)
       ·have hi : intN op a b = -a / -b := by rw [intN4 c4, posN_neg c6, show (b.natAbs : Int) = -b by omega]
        have hz : ¬ (op = 7 ∧ b = 0) := by omega
        have hx : num31 (intN op a b) = true := by rw [hi]; exact n31_t c7
        refine awp_skip <|
         sReg rfl <|
         rMv rfl <|
         rwp_det rfl rfl (det_build rfl zr63 pl63 rfl) <|
         rwp_det0 rfl rfl (det_store rfl sz63 rfl rfl rfl (st_row 0 rfl rfl)) <|
         rMv rfl <|
         rwp_nil <|
         awp_ret <|
         fin2 (rs_cell_agg agg63 rfl (ptr_row 0 rfl) rfl) (rs_c rfl) ?_
        first | (rw [intA1 (by omega) (by omega)]; rfl) | (rw [intA2 hz hx]; rfl) | (rw [intA3 hz hx, hi]; rfl)
      ·try simp only [sx] at c6
       refine awp_skip <|
        awp_region rfl <|
        rMv rfl <|
        rMv rfl <|
        rwp_det rfl rfl (det_call rfl ok181 (ref04_floor (a) (b) (by omega) (by omega) (by omega)) ⟨VLe.refl _, rfl, VLe.refl _, rfl, trivial⟩) <|
        rMv rfl <|
        rwp_nil <|
        awp_seq <|
        sReg rfl <|
        rMv rfl <|
        rwp_det rfl rfl (det_gtr rfl rfl rfl) <|
        rMv rfl <|
        rLz [] rfl gv1 trivial (fun g16_2 => det_move rfl rfl) rfl <|
        rLz [(44, _)] rfl gv1 ⟨rfl, rfl, trivial⟩ (fun g16_2 => det_lss rfl rfl rfl) rfl <|
        rwp_det rfl rfl (det_or rfl rfl rfl rfl (fun h => (lzf h))) <|
        rwp_nil <|
        awp_cond rfl (fun c7 => ?_) (fun c7 => ?_)
       ·have hi : intN op a b = a / b := by rw [intN4 c4, posN_pos (by omega), show (b.natAbs : Int) = b by omega]
        have hz : ¬ (op = 7 ∧ b = 0) := by omega
        have hx : num31 (intN op a b) = false := by rw [hi]; exact n31_f c7
        refine sReg rfl <|
         rwp_det rfl rfl (det_build rfl zr63 pl63 rfl) <|
         rwp_det0 rfl rfl (det_store rfl sz63 rfl rfl rfl (st_row 0 rfl rfl)) <|
         rMv rfl <|
         rwp_nil <|
         awp_ret <|
         fin2 (rs_cell_agg agg63 rfl (ptr_row 0 rfl) rfl) (rs_c rfl) ?_
        first | (rw [intA1 (by omega) (by omega)]; rfl) | (rw [intA2 hz hx]; rfl) | (rw [intA3 hz hx, hi]; rfl)
       ·have hi : intN op a b = a / b := by rw [intN4 c4, posN_pos (by omega), show (b.natAbs : Int) = b by omega]
        have hz : ¬ (op = 7 ∧ b = 0) := by omega
        have hx : num31 (intN op a b) = true := by rw [hi]; exact n31_t c7
        refine awp_skip <|
         sReg rfl <|
         rMv rfl <|
         rwp_det rfl rfl (det_build rfl zr63 pl63 rfl) <|
         rwp_det0 rfl rfl (det_store rfl sz63 rfl rfl rfl (st_row 0 rfl rfl)) <|
         rMv rfl <|
         rwp_nil <|
         awp_ret <|
         fin2 (rs_cell_agg agg63 rfl (ptr_row 0 rfl) rfl) (rs_c rfl) ?_
        first | (rw [intA1 (by omega) (by omega)]; rfl) | (rw [intA2 hz hx]; rfl) | (rw [intA3 hz hx, hi]; rfl)
    ·try simp only [sx] at c4
     refine awp_skip <|
      awp_seq <|
      sReg rfl <|
      rMv rfl <|
      rwp_det rfl rfl (det_gtr rfl rfl rfl) <|
      rMv rfl <|
      rLz [] rfl gv1 trivial (fun g16_2 => det_move rfl rfl) rfl <|
      rLz [(44, _)] rfl gv1 ⟨rfl, rfl, trivial⟩ (fun g16_2 => det_lss rfl rfl rfl) rfl <|
      rwp_det rfl rfl (det_or rfl rfl rfl rfl (fun h => (lzf h))) <|
      rwp_nil <|
      awp_cond rfl (fun c7 => ?_) (fun c7 => ?_)
     ·have hi : intN op a b = -a := intN5 (by omega)
      have hz : ¬ (op = 7 ∧ b = 0) := by omega
      have hx : num31 (intN op a b) = false := by rw [hi]; exact n31_f c7
      refine sReg rfl <|
       rwp_det rfl rfl (det_build rfl zr63 pl63 rfl) <|
       rwp_det0 rfl rfl (det_store rfl sz63 rfl rfl rfl (st_row 0 rfl rfl)) <|
       rMv rfl <|
       rwp_nil <|
       awp_ret <|
       fin2 (rs_cell_agg agg63 rfl (ptr_row 0 rfl) rfl) (rs_c rfl) ?_
      first | (rw [intA1 (by omega) (by omega)]; rfl) | (rw [intA2 hz hx]; rfl) | (rw [intA3 hz hx, hi]; rfl)
     ·have hi : intN op a b = -a := intN5 (by omega)
      have hz : ¬ (op = 7 ∧ b = 0) := by omega
      have hx : num31 (intN op a b) = true := by rw [hi]; exact n31_t c7
      refine awp_skip <|
       sReg rfl <|
       rMv rfl <|
       rwp_det rfl rfl (det_build rfl zr63 pl63 rfl) <|
       rwp_det0 rfl rfl (det_store rfl sz63 rfl rfl rfl (st_row 0 rfl rfl)) <|
       rMv rfl <|
       rwp_nil <|
       awp_ret <|
       fin2 (rs_cell_agg agg63 rfl (ptr_row 0 rfl) rfl) (rs_c rfl) ?_
      first | (rw [intA1 (by omega) (by omega)]; rfl) | (rw [intA2 hz hx]; rfl) | (rw [intA3 hz hx, hi]; rfl)

theorem value_integer (op a b : Int) (ha : num31 a = true) (hb : num31 b = true) (h1 : 4 ≤ op) (h2 : op ≤ 7) :
    Pur cfg 235 [vI op, vI a, vI b] (.tup [vVal (intA op a b).1, vI (intA op a b).2]) := by
 refine con_intro Tryz.func235 rfl Tryz.ntmps235 Tryz.results235 rfl ?_
 intro z hz
 have hA := n31 ha
 have hB := n31 hb
 have hm := m31 hA.1 hA.2 hB.1 hB.2
 have q1 := tdiv_le' (n := a) (d := b)
 refine sReg rfl <|
  rwp_op rfl rfl (ope_alloc rfl zr63) ?_
 rintro _ _ ⟨b1, rfl, rfl⟩
 refine rMv rfl <|
  rwp_nil <|
  sReg rfl <|
  rMv rfl <|
  rwp_nil <|
  awp_seq <|
  sReg rfl <|
  rMv rfl <|
  rwp_nil <|
  awp_block <|
  sReg rfl <|
  rwp_det rfl rfl (det_eql rfl rfl rfl) <|
  rMv rfl <|
  rwp_nil <|
  awp_cond rfl (fun c1 => ?_) (fun c1 => ?_)
 ·try simp only [sx] at c1
  refine awp_region rfl <|
   rMv rfl <|
   rMv rfl <|
   rwp_det rfl rfl (det_add_nw rfl rfl rfl ⟨by omega, by omega⟩) <|
   rMv rfl <|
   rwp_nil <|
   awp_seq <|
   sReg rfl <|
   rMv rfl <|
   rwp_det rfl rfl (det_call rfl ok164 (value_whole (a + b)) ⟨VLe.refl _, rfl, trivial⟩) <|
   rwp_det rfl rfl (det_not rfl rfl) <|
   rwp_nil <|
   awp_cond rfl (fun c6 => ?_) (fun c6 => ?_)
  ·try simp only [sx] at c6
   have hi : intN op a b = a + b := intN1 c1
   have hz : ¬ (op = 7 ∧ b = 0) := by omega
   have hx : num31 (intN op a b) = false := by rw [hi]; simpa using c6
   refine sReg rfl <|
    rwp_det rfl rfl (det_build rfl zr63 pl63 rfl) <|
    rwp_det0 rfl rfl (det_store rfl sz63 rfl rfl rfl (st_row 0 rfl rfl)) <|
    rMv rfl <|
    rwp_nil <|
    awp_ret <|
    fin2 (rs_cell_agg agg63 rfl (ptr_row 0 rfl) rfl) (rs_c rfl) ?_
   first | (rw [intA1 (by omega) (by omega)]; rfl) | (rw [intA2 hz hx]; rfl) | (rw [intA3 hz hx, hi]; rfl)
  ·try simp only [sx] at c6
   have hi : intN op a b = a + b := intN1 c1
   have hz : ¬ (op = 7 ∧ b = 0) := by omega
   have hx : num31 (intN op a b) = true := by rw [hi]; simpa using c6
   refine awp_skip <|
    sReg rfl <|
    rMv rfl <|
    rwp_det rfl rfl (det_build rfl zr63 pl63 rfl) <|
    rwp_det0 rfl rfl (det_store rfl sz63 rfl rfl rfl (st_row 0 rfl rfl)) <|
    rMv rfl <|
    rwp_nil <|
    awp_ret <|
    fin2 (rs_cell_agg agg63 rfl (ptr_row 0 rfl) rfl) (rs_c rfl) ?_
   first | (rw [intA1 (by omega) (by omega)]; rfl) | (rw [intA2 hz hx]; rfl) | (rw [intA3 hz hx, hi]; rfl)
 ·try simp only [sx] at c1
  refine sReg rfl <|
   rwp_det rfl rfl (det_eql rfl rfl rfl) <|
   rMv rfl <|
   rwp_nil <|
   awp_cond rfl (fun c2 => ?_) (fun c2 => ?_)
  ·try simp only [sx] at c2
   refine awp_region rfl <|
    rMv rfl <|
    rMv rfl <|
    rwp_det rfl rfl (det_sub_nw rfl rfl rfl ⟨by omega, by omega⟩) <|
    rMv rfl <|
    rwp_nil <|
    awp_seq <|
    sReg rfl <|
    rMv rfl <|
    rwp_det rfl rfl (det_call rfl ok164 (value_whole (a - b)) ⟨VLe.refl _, rfl, trivial⟩) <|
    rwp_det rfl rfl (det_not rfl rfl) <|
    rwp_nil <|
    awp_cond rfl (fun c6 => ?_) (fun c6 => ?_)
   ·try simp only [sx] at c6
    have hi : intN op a b = a - b := intN2 c2
    have hz : ¬ (op = 7 ∧ b = 0) := by omega
    have hx : num31 (intN op a b) = false := by rw [hi]; simpa using c6
    refine sReg rfl <|
     rwp_det rfl rfl (det_build rfl zr63 pl63 rfl) <|
     rwp_det0 rfl rfl (det_store rfl sz63 rfl rfl rfl (st_row 0 rfl rfl)) <|
     rMv rfl <|
     rwp_nil <|
     awp_ret <|
     fin2 (rs_cell_agg agg63 rfl (ptr_row 0 rfl) rfl) (rs_c rfl) ?_
    first | (rw [intA1 (by omega) (by omega)]; rfl) | (rw [intA2 hz hx]; rfl) | (rw [intA3 hz hx, hi]; rfl)
   ·try simp only [sx] at c6
    have hi : intN op a b = a - b := intN2 c2
    have hz : ¬ (op = 7 ∧ b = 0) := by omega
    have hx : num31 (intN op a b) = true := by rw [hi]; simpa using c6
    refine awp_skip <|
     sReg rfl <|
     rMv rfl <|
     rwp_det rfl rfl (det_build rfl zr63 pl63 rfl) <|
     rwp_det0 rfl rfl (det_store rfl sz63 rfl rfl rfl (st_row 0 rfl rfl)) <|
     rMv rfl <|
     rwp_nil <|
     awp_ret <|
     fin2 (rs_cell_agg agg63 rfl (ptr_row 0 rfl) rfl) (rs_c rfl) ?_
    first | (rw [intA1 (by omega) (by omega)]; rfl) | (rw [intA2 hz hx]; rfl) | (rw [intA3 hz hx, hi]; rfl)
  ·try simp only [sx] at c2
   refine sReg rfl <|
    rwp_det rfl rfl (det_eql rfl rfl rfl) <|
    rMv rfl <|
    rwp_nil <|
    awp_cond rfl (fun c3 => ?_) (fun c3 => ?_)
   ·try simp only [sx] at c3
    refine awp_region rfl <|
     rMv rfl <|
     rMv rfl <|
     rwp_det rfl rfl (det_mul_nw rfl rfl rfl ⟨by omega, by omega⟩) <|
     rMv rfl <|
     rwp_nil <|
     awp_seq <|
     sReg rfl <|
     rMv rfl <|
     rwp_det rfl rfl (det_call rfl ok164 (value_whole (a * b)) ⟨VLe.refl _, rfl, trivial⟩) <|
     rwp_det rfl rfl (det_not rfl rfl) <|
     rwp_nil <|
     awp_cond rfl (fun c6 => ?_) (fun c6 => ?_)
    ·try simp only [sx] at c6
     have hi : intN op a b = a * b := intN3 c3
     have hz : ¬ (op = 7 ∧ b = 0) := by omega
     have hx : num31 (intN op a b) = false := by rw [hi]; simpa using c6
     refine sReg rfl <|
      rwp_det rfl rfl (det_build rfl zr63 pl63 rfl) <|
      rwp_det0 rfl rfl (det_store rfl sz63 rfl rfl rfl (st_row 0 rfl rfl)) <|
      rMv rfl <|
      rwp_nil <|
      awp_ret <|
      fin2 (rs_cell_agg agg63 rfl (ptr_row 0 rfl) rfl) (rs_c rfl) ?_
     first | (rw [intA1 (by omega) (by omega)]; rfl) | (rw [intA2 hz hx]; rfl) | (rw [intA3 hz hx, hi]; rfl)
    ·try simp only [sx] at c6
     have hi : intN op a b = a * b := intN3 c3
     have hz : ¬ (op = 7 ∧ b = 0) := by omega
     have hx : num31 (intN op a b) = true := by rw [hi]; simpa using c6
     refine awp_skip <|
      sReg rfl <|
      rMv rfl <|
      rwp_det rfl rfl (det_build rfl zr63 pl63 rfl) <|
      rwp_det0 rfl rfl (det_store rfl sz63 rfl rfl rfl (st_row 0 rfl rfl)) <|
      rMv rfl <|
      rwp_nil <|
      awp_ret <|
      fin2 (rs_cell_agg agg63 rfl (ptr_row 0 rfl) rfl) (rs_c rfl) ?_
     first | (rw [intA1 (by omega) (by omega)]; rfl) | (rw [intA2 hz hx]; rfl) | (rw [intA3 hz hx, hi]; rfl)
   ·try simp only [sx] at c3
    refine awp_seq <|
     sReg rfl <|
     rMv rfl <|
     rwp_det rfl rfl (det_eql rfl rfl rfl) <|
     rwp_nil <|
     awp_cond rfl (fun c4 => ?_) (fun c4 => ?_)
    ·try simp only [sx] at c4
     refine sReg rfl <|
      rwp_det rfl rfl (det_build rfl zr63 pl63 rfl) <|
      rwp_det0 rfl rfl (det_store rfl sz63 rfl rfl rfl (st_row 0 rfl rfl)) <|
      rMv rfl <|
      rwp_nil <|
      awp_ret <|
      fin2 (rs_cell_agg agg63 rfl (ptr_row 0 rfl) rfl) (rs_c rfl) ?_
     first | (rw [intA1 (by omega) (by omega)]; rfl) | (rw [intA2 hz hx]; rfl) | (rw [intA3 hz hx, hi]; rfl)
    ·try simp only [sx] at c4
     refine awp_skip <|
      sReg rfl <|
      rMv rfl <|
      rMv rfl <|
      rwp_det rfl rfl (det_quoE rfl rfl rfl (by omega) (wrap_in ⟨by omega, by omega⟩)) <|
      rMv rfl <|
      rwp_nil <|
      sReg rfl <|
      rMv rfl <|
      rMv rfl <|
      rwp_det rfl rfl (det_rem rfl rfl rfl (by omega)) <|
      rwp_det rfl rfl (det_neq rfl rfl rfl) <|
      rMv rfl <|
      rLz [] rfl gv1 trivial (fun g6_4 => det_move rfl rfl) rfl <|
      rLz [(21, _)] rfl gv1 ⟨rfl, rfl, trivial⟩ (fun g6_4 => det_lss rfl rfl rfl) rfl <|
      rLz [] rfl gv1 trivial (fun g6_4 => det_move rfl rfl) rfl <|
      rLz [(23, _)] rfl gv1 ⟨rfl, rfl, trivial⟩ (fun g6_4 => det_lss rfl rfl rfl) rfl <|
      rLz [(22, _), (24, _)] rfl gv1 ⟨rfl, rfl, rfl, rfl, trivial⟩ (fun g6_4 => det_bneq rfl un4 rfl rfl) rfl <|
      rwp_det rfl rfl (det_and rfl rfl rfl (fun h => h) rfl) <|
      rwp_nil <|
      awp_cond rfl (fun c5 => ?_) (fun c5 => ?_)
     ·refine awp_region rfl <|
       rMv rfl <|
       rwp_det rfl rfl (det_sub_nw rfl rfl rfl ⟨by omega, by omega⟩) <|
       rMv rfl <|
       rwp_nil <|
       awp_seq <|
       sReg rfl <|
       rMv rfl <|
       rwp_det rfl rfl (det_call rfl ok164 (value_whole (a.tdiv b - 1)) ⟨VLe.refl _, rfl, trivial⟩) <|
       rwp_det rfl rfl (det_not rfl rfl) <|
       rwp_nil <|
       awp_cond rfl (fun c6 => ?_) (fun c6 => ?_)
      ·try simp only [sx] at c6
       have c5 : (!decide (a.tmod b = 0) && sgnD a b) = true := c5
       have hi : intN op a b = a.tdiv b - 1 := by rw [intN4 (by omega), idiv c4 c5]
       have hz : ¬ (op = 7 ∧ b = 0) := by omega
       have hx : num31 (intN op a b) = false := by rw [hi]; simpa using c6
       refine sReg rfl <|
        rwp_det rfl rfl (det_build rfl zr63 pl63 rfl) <|
        rwp_det0 rfl rfl (det_store rfl sz63 rfl rfl rfl (st_row 0 rfl rfl)) <|
        rMv rfl <|
        rwp_nil <|
        awp_ret <|
        fin2 (rs_cell_agg agg63 rfl (ptr_row 0 rfl) rfl) (rs_c rfl) ?_
       first | (rw [intA1 (by omega) (by omega)]; rfl) | (rw [intA2 hz hx]; rfl) | (rw [intA3 hz hx, hi]; rfl)
      ·try simp only [sx] at c6
       have c5 : (!decide (a.tmod b = 0) && sgnD a b) = true := c5
       have hi : intN op a b = a.tdiv b - 1 := by rw [intN4 (by omega), idiv c4 c5]
       have hz : ¬ (op = 7 ∧ b = 0) := by omega
       have hx : num31 (intN op a b) = true := by rw [hi]; simpa using c6
       refine awp_skip <|
        sReg rfl <|
        rMv rfl <|
        rwp_det rfl rfl (det_build rfl zr63 pl63 rfl) <|
        rwp_det0 rfl rfl (det_store rfl sz63 rfl rfl rfl (st_row 0 rfl rfl)) <|
        rMv rfl <|
        rwp_nil <|
        awp_ret <|
        fin2 (rs_cell_agg agg63 rfl (ptr_row 0 rfl) rfl) (rs_c rfl) ?_
       first | (rw [intA1 (by omega) (by omega)]; rfl) | (rw [intA2 hz hx]; rfl) | (rw [intA3 hz hx, hi]; rfl)
     ·refine awp_skip <|
       awp_seq <|
       sReg rfl <|
       rMv rfl <|
       rwp_det rfl rfl (det_call rfl ok164 (value_whole (a.tdiv b)) ⟨VLe.refl _, rfl, trivial⟩) <|
       rwp_det rfl rfl (det_not rfl rfl) <|
       rwp_nil <|
       awp_cond rfl (fun c6 => ?_) (fun c6 => ?_)
      ·try simp only [sx] at c6
       have c5 : (!decide (a.tmod b = 0) && sgnD a b) = false := c5
       have hi : intN op a b = a.tdiv b := by rw [intN4 (by omega), idiv0 c4 c5]
       have hz : ¬ (op = 7 ∧ b = 0) := by omega
       have hx : num31 (intN op a b) = false := by rw [hi]; simpa using c6
       refine sReg rfl <|
        rwp_det rfl rfl (det_build rfl zr63 pl63 rfl) <|
        rwp_det0 rfl rfl (det_store rfl sz63 rfl rfl rfl (st_row 0 rfl rfl)) <|
        rMv rfl <|
        rwp_nil <|
        awp_ret <|
        fin2 (rs_cell_agg agg63 rfl (ptr_row 0 rfl) rfl) (rs_c rfl) ?_
       first | (rw [intA1 (by omega) (by omega)]; rfl) | (rw [intA2 hz hx]; rfl) | (rw [intA3 hz hx, hi]; rfl)
      ·try simp only [sx] at c6
       have c5 : (!decide (a.tmod b = 0) && sgnD a b) = false := c5
       have hi : intN op a b = a.tdiv b := by rw [intN4 (by omega), idiv0 c4 c5]
       have hz : ¬ (op = 7 ∧ b = 0) := by omega
       have hx : num31 (intN op a b) = true := by rw [hi]; simpa using c6
       refine awp_skip <|
        sReg rfl <|
        rMv rfl <|
        rwp_det rfl rfl (det_build rfl zr63 pl63 rfl) <|
        rwp_det0 rfl rfl (det_store rfl sz63 rfl rfl rfl (st_row 0 rfl rfl)) <|
        rMv rfl <|
        rwp_nil <|
        awp_ret <|
        fin2 (rs_cell_agg agg63 rfl (ptr_row 0 rfl) rfl) (rs_c rfl) ?_
       first | (rw [intA1 (by omega) (by omega)]; rfl) | (rw [intA2 hz hx]; rfl) | (rw [intA3 hz hx, hi]; rfl)

end Go.W
