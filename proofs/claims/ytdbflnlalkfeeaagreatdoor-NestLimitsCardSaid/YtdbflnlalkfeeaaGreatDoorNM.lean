/-
  Walks: what functions of the program compute. Printed by wip/gen/mk2.py.
  Conditions: none.
-/
import Derived.Test.YtdbflnlalkfeeaaGreatDoorNK
import Derived.Test.YtdbflnlalkfeeaaGreatDoorPlain2
import Derived.Test.YtdbflnlalkfeeaaGreatDoorEngZ
set_option linter.unusedSimpArgs false
set_option linter.unusedVariables false
set_option maxRecDepth 10000
namespace Go.W
open Go Go.Eng Go.Proofs Go.L41 Go.Br
attribute [local irreducible] AWP RWP TD finQ
theorem us57 : (Tryz.prog.underlying 57).isSome = true := by kernel_rfl
theorem law_NestLimits (x y : Int) (h0 : 0 ≤ x) (h1 : x ≤ 65535) (g0 : 0 ≤ y) (g1 : y ≤ 65535) :
    Pur cfgI 6 [.c (.lit (.int .u16 x)), .c (.lit (.int .u16 y))] (vB true) := by
 refine con_intro Tryz.func6 rfl Tryz.ntmps6 Tryz.results6 rfl ?_
 intro z hz
 have hxw := dLm_w h0 h1
 have hyw := wLm_w g0 g1
 have hdl := dLm_lt h0
 have hwl := wLm_lt g0
 have hok := lim_ok hdl hwl
 have hvl := lim_valid hdl hwl
 have hlw := lim_wt (dLm x) (wLm y)
 have hln := lim_n (dLm x) (wLm y)
 refine sReg rfl <|
  rMv rfl <|
  rwp_nil <|
  sReg rfl <|
  rMv rfl <|
  rwp_det rfl rfl (det_rem rfl rfl rfl (by decide)) <|
  rwp_det rfl rfl (det_conv rfl us57 ik3 rfl) <|
  rwp_det rfl rfl (det_add_nw rfl rfl rfl ⟨by omega, by omega⟩) <|
  rMv rfl <|
  rwp_det rfl rfl (det_rem rfl rfl rfl (by decide)) <|
  rwp_det rfl rfl (det_conv rfl us57 ik3 rfl) <|
  rMv rfl <|
  rMv rfl <|
  rwp_nil <|
  sReg rfl <|
  rwp_det rfl rfl (det_build rfl zr40 pl40 rfl) <|
  rwp_op rfl rfl (ope_alloc rfl zr40) ?_
 rintro _ _ ⟨b1, rfl, rfl⟩
 refine rwp_det0 rfl rfl (det_store rfl sz40 rfl rfl rfl (st_row 0 rfl rfl)) <|
  rwp_nil <|
  sReg rfl <|
  rwp_det rfl rfl (det_buildN [none, none, none, none, none, none, none, none, none, none, some 2, some 4, some 13] rfl zr52 pl52 rfl rfl) <|
  rwp_det rfl rfl (det_buildN [none, none, none, none, none, some 4, none, none, none, none, none, none, none, none, none, none, none, none, none, some 20] rfl zr54 pl54 rfl rfl) <|
  rwp_op rfl rfl (ope_allocN [none, none, none, none, none, some 4, none, none, none, none, none, none, none, none, none, none, some 2, some 4, some 13, some 20] rfl zr54 rfl) ?_
 rintro _ _ ⟨b2, rfl, rfl⟩
 refine rwp_det0 rfl rfl (det_store rfl sz54 rfl rfl rfl (st_row 0 rfl rfl)) <|
  rwp_nil <|
  sReg rfl <|
  rwp_det rfl rfl (det_load_agg rfl agg54 rfl (ptr_row 0 rfl) rfl) <|
  rwp_op rfl rfl (ope_allocN [none, none, none, none, none, some 4, none, none, none, none, none, none, none, none, none, none, some 2, some 4, some 13, some 20] rfl zr54 rfl) ?_
 rintro _ _ ⟨b3, rfl, rfl⟩
 refine rwp_det0 rfl rfl (det_store rfl sz54 rfl rfl rfl (st_row 0 rfl rfl)) <|
  rwp_nil <|
  awp_seq <|
  sReg rfl <|
  rMv rfl <|
  rwp_nil <|
  awp_block <|
  awp_weak ⟨[(10, .c _), (5, .c _), (6, .c _), (7, .c _), (8, .c _), (9, .c _)], [_, _, _]⟩ (Weak.mk [true, true, true] ⟨VLe.of_eq rfl, VLe.of_eq rfl, VLe.of_eq rfl, VLe.of_eq rfl, VLe.of_eq rfl, VLe.of_eq rfl, trivial⟩ rfl) <|
  awp_loop_k 3 1 rfl rfl (Nat) (fun k => [(10, vI ((k + 1 : Nat) : Int)), (5, vI ((dLm x + 1 : Nat) : Int)), (6, vI (wLm y))]) (fun k => [E.row b3 54 (chS k).cs]) (fun k => k ≤ dLm x) (fun k => dLm x - k) ⟨0, (by omega), Weak.mk [true, true, true] ⟨VLe.refl _, VLe.of_eq (congrArg vI (by omega)), VLe.of_eq (congrArg vI (by omega)), VLe.refl _, VLe.refl _, VLe.refl _, trivial⟩ rfl⟩ ?_
 rintro k hk
 refine awp_seq <|
  sReg rfl <|
  rMv rfl <|
  rMv rfl <|
  rwp_det rfl rfl (det_lss rfl rfl rfl) <|
  rwp_nil <|
  awp_cond rfl (fun c1 => ?_) (fun c1 => ?_)
 ·try simp only [sx] at c1
  have hdq := dig_quo (k + 1) (by omega)
  have hdr := dig_rem (k + 1)
  refine awp_skip <|
   awp_seq <|
   awp_block <|
   awp_region rfl <|
   rMv rfl <|
   rwp_det rfl rfl (det_quo rfl rfl rfl (by decide)) <|
   rwp_det rfl rfl (det_add_nw rfl rfl rfl ⟨by omega, by omega⟩) <|
   rwp_det rfl rfl (det_conv rfl us3 ik5 rfl) <|
   rMv rfl <|
   rwp_det rfl rfl (det_rem rfl rfl rfl (by decide)) <|
   rwp_det rfl rfl (det_add_nw rfl rfl rfl ⟨by omega, by omega⟩) <|
   rwp_det rfl rfl (det_conv rfl us3 ik5 rfl) <|
   rwp_det rfl rfl (det_bslice rfl el58 zr5 rfl rfl rfl rfl) <|
   rwp_det rfl rfl (det_conv_bytes [_, _] rfl un58 un5 un9 rfl (by simp) (two_conv (k := k + 1) (by omega))) <|
   rwp_det rfl rfl (det_sadd rfl rfl rfl (by have e1 : (⟨#[105]⟩ : ByteArray).size = 1 := rfl; have e2 : (bs [UInt8.ofNat (97 + (k + 1) / 10), UInt8.ofNat (48 + (k + 1) % 10)]).size = 2 := rfl; omega)) <|
   rwp_det rfl rfl (det_load_agg rfl agg54 rfl (ptr_row 0 rfl) rfl) <|
   rwp_det rfl rfl (det_bslice rfl el23 zr54 rfl rfl rfl rfl) <|
   rwp_det rfl rfl (det_buildN [none, none, none, none, none, some 4, none, none, none, none, none, none, none, none, none, none, some 2, some 4, some 13, none] rfl zr54 pl54 rfl rfl) <|
   rwp_det0 rfl rfl (det_store rfl sz54 rfl rfl rfl (st_row 0 rfl rfl)) <|
   rwp_nil <|
   awp_region rfl <|
   rMv rfl <|
   rwp_det rfl rfl (det_add_nw rfl rfl rfl ⟨by omega, by omega⟩) <|
   rMv rfl <|
   rwp_nil ?_
  refine ⟨k + 1, (by omega), (by omega), Weak.mk [true, true, true] ⟨VLe.of_eq (congrArg vI (by omega)), VLe.refl _, VLe.refl _, VLe.refl _, VLe.refl _, VLe.refl _, trivial⟩ (by exact memR (by show _ = (lpS (k + 1) (chS k)).cs; rw [lp_cs]; rfl))⟩
 ·try simp only [sx] at c1
  have hk2 : k = dLm x := by omega
  subst hk2
  refine awp_exit <|
   sReg rfl <|
   rwp_det rfl rfl (det_load_agg rfl agg40 rfl (ptr_row 2 rfl) rfl) <|
   rwp_det rfl rfl (det_buildN [none, none, none, none, none, none, some 1, none] rfl zr42 pl42 rfl rfl) <|
   rwp_det rfl rfl (det_bslice rfl el22 zr42 rfl rfl rfl rfl) <|
   rwp_det rfl rfl (det_load_agg rfl agg54 rfl (ptr_row 0 rfl) rfl) <|
   rwp_op rfl rfl (ope_bslice rfl el23 zr54 rfl rfl rfl rfl) ?_
  rintro _ _ ⟨sv4, rfl, rfl⟩
  refine rwp_det rfl rfl (det_build rfl zr25 pl25 rfl) <|
   rwp_op rfl rfl (ope_allocN [some 8, some 20] rfl zr25 rfl) ?_
  rintro _ _ ⟨b5, rfl, rfl⟩
  refine rwp_det0 rfl rfl (det_store rfl sz25 rfl rfl rfl (st_row 0 rfl rfl)) <|
   rwp_nil <|
   awp_seq <|
   sReg rfl <|
   rMv rfl <|
   rwp_nil <|
   awp_block <|
   awp_weak ⟨[(12, .c _), (5, .c _), (6, .c _), (8, .c _), (11, .c _)], [_, _, _]⟩ (Weak.mk [true, true, false, true, false] ⟨VLe.of_eq rfl, VLe.of_eq rfl, VLe.of_eq rfl, VLe.of_eq rfl, VLe.of_eq rfl, trivial⟩ rfl) <|
   awp_loop_k 1 2 rfl rfl (Nat × Value) (fun ⟨j, sv⟩ => [(12, vI j)]) (fun ⟨j, sv⟩ => [E.row b5 25 [.sl 8 [cBf1.cells], .lit sv], E.vec sv 54 20 ((chS (dLm x) :: List.replicate j lfS).map St.cells)]) (fun ⟨j, sv⟩ => j ≤ wLm y) (fun ⟨j, sv⟩ => wLm y - j) ⟨⟨0, sv4⟩, (by omega), Weak.mk [true, true, true] ⟨VLe.refl _, VLe.refl _, VLe.refl _, VLe.refl _, VLe.refl _, trivial⟩ (by exact memRV (ch_one (dLm x)))⟩ ?_
  rintro ⟨j, sv⟩ hj
  show AWP _ _ _ _ _ ⟨[(12, vI j)] ++ _, [E.row b5 25 [.sl 8 [cBf1.cells], .lit sv], E.vec sv 54 20 ((chS (dLm x) :: List.replicate j lfS).map St.cells)] ++ _⟩
  refine awp_seq <|
   sReg rfl <|
   rMv rfl <|
   rMv rfl <|
   rwp_det rfl rfl (det_lss rfl rfl rfl) <|
   rwp_nil <|
   awp_cond rfl (fun c2 => ?_) (fun c2 => ?_)
  ·try simp only [sx] at c2
   refine awp_skip <|
    awp_seq <|
    awp_block <|
    awp_region rfl <|
    rwp_det rfl rfl (det_field_lit rfl fd25_1 rfl) <|
    rwp_det rfl rfl (det_load_one rfl one23 rfl (ptr_row 0 rfl) rfl) <|
    rwp_det rfl rfl (det_load_agg rfl agg54 rfl (ptr_row 2 rfl) rfl) <|
    rwp_det rfl rfl (det_bslice rfl el23 zr54 rfl rfl rfl rfl) <|
    rwp_op rfl rfl (ope_append 1 rfl el23 rfl rfl rfl (by simp only [List.length_map, List.length_append, List.length_cons, List.length_nil, List.length_replicate, List.length_drop]; omega) (by simp only [List.length_map, List.length_append, List.length_cons, List.length_nil, List.length_replicate, List.length_drop]; omega)) ?_
   rintro _ _ ⟨sv6, rfl, rfl⟩
   refine rwp_det rfl rfl (det_field_lit rfl fd25_1 rfl) <|
    rwp_det0 rfl rfl (det_store rfl sz23 rfl rfl rfl (st_row 0 rfl rfl)) <|
    rwp_nil <|
    awp_region rfl <|
    rMv rfl <|
    rwp_det rfl rfl (det_add_nw rfl rfl rfl ⟨by omega, by omega⟩) <|
    rMv rfl <|
    rwp_nil ?_
   refine ⟨⟨j + 1, sv6⟩, (by omega), (by show wLm y - (j + 1) < wLm y - j; omega), Weak.mk [true, true, true] ⟨VLe.refl _, VLe.refl _, VLe.refl _, VLe.refl _, VLe.refl _, trivial⟩ (by exact memRV (by rw [rep_next, List.map_append]; rfl))⟩
  ·try simp only [sx] at c2
   have hj2 : j = wLm y := by omega
   subst hj2
   refine awp_weak _ (weak_freezeM 1 rfl (regs' := []) (μ' := [_, _]) trivial ⟨EFle.row (ds := [_, _]) ⟨.inl rfl, .inr ⟨rfl, rfl⟩, trivial⟩, EFle.refl _, trivial⟩) <|
    awp_exit <|
    sReg rfl <|
    rwp_det rfl rfl (det_load_agg rfl agg25 rfl (ptr_row 0 rfl) rfl) <|
    rwp_det rfl rfl (det_call rfl ok22 (show Pur cfgI 22 [vNs (limN (dLm x) (wLm y))] (.tup [vIs [], vI (wantL (dLm x) (wLm y))]) by have h := loopnest_Validate _ hok; rw [hvl] at h; exact upI h) ⟨VLe.refl _, rfl, trivial⟩) <|
    rwp_det rfl rfl (det_move_tup rfl rfl) <|
    rwp_det rfl rfl (det_ex_c rfl rfl rfl) <|
    rwp_det rfl rfl (det_ex_c rfl rfl rfl) <|
    rMv rfl <|
    rMv rfl <|
    rwp_nil <|
    sReg rfl <|
    rMv rfl <|
    rwp_nil <|
    awp_seq <|
    sReg rfl <|
    rMv rfl <|
    rwp_det rfl rfl (det_gtr rfl rfl rfl) <|
    rwp_nil <|
    awp_cond rfl (fun c3 => ?_) (fun c3 => ?_)
   ·try simp only [sx] at c3
    refine awp_region rfl <|
     rMv rfl <|
     rwp_nil <|
     sReg rfl <|
     rMv rfl <|
     rMv rfl <|
     rwp_det rfl rfl (det_eql rfl rfl rfl) <|
     rMv rfl <|
     rLz [] rfl gv1 trivial (fun g20_3 => det_move rfl rfl) rfl <|
     rLz [(78, _)] rfl gv1 ⟨rfl, rfl, trivial⟩ (fun g20_3 => det_len_slm rfl el33 rfl) rfl <|
     rLz [(79, _)] rfl gv1 ⟨rfl, rfl, trivial⟩ (fun g20_3 => det_eql rfl rfl rfl) rfl <|
     rwp_det rfl rfl (det_and rfl rfl rfl (fun h => h) rfl) <|
     rMv rfl <|
     rLz [] rfl gv1 trivial (fun g20_8 => det_load_agg rfl agg25 rfl (ptr_row 0 rfl) rfl) rfl <|
     rLz [(83, _)] rfl gv1 ⟨rfl, rfl, trivial⟩ (fun g20_8 => det_call rfl ok24 (show Pur cfgI 24 [vNs (limN (dLm x) (wLm y))] (vI ((dLm x + 1 + wLm y : Nat) : Int)) by have h := loopnest_Size (limN (dLm x) (wLm y)) (by omega); rw [hln] at h; exact upI h) ⟨VLe.refl _, rfl, trivial⟩) rfl <|
     rLz [] rfl gv1 trivial (fun g20_8 => det_move rfl rfl) rfl <|
     rLz [] rfl gv1 trivial (fun g20_8 => det_move rfl rfl) rfl <|
     rLz [(85, _), (86, _)] rfl gv1 ⟨rfl, rfl, rfl, rfl, trivial⟩ (fun g20_8 => det_add_nw rfl rfl rfl ⟨by omega, by omega⟩) rfl <|
     rLz [(84, _), (87, _)] rfl gv1 ⟨rfl, rfl, rfl, rfl, trivial⟩ (fun g20_8 => det_eql rfl rfl rfl) rfl <|
     rwp_det rfl rfl (det_and rfl rfl rfl (fun h => h) rfl) <|
     rMv rfl <|
     rLz [] rfl gv1 trivial (fun g20_16 => det_call rfl ok21 law30_live trivial) rfl <|
     rwp_det rfl rfl (det_and rfl rfl rfl (fun h => h) rfl) <|
     rMv rfl <|
     rwp_nil <|
     awp_ret <|
     fin1 (rs_c rfl) ?_
    rw [show wantL (dLm x) (wLm y) = 13 from if_pos (by omega)]
    exact congrArg vB (by simp)
   ·try simp only [sx] at c3
    refine sReg rfl <|
     rMv rfl <|
     rMv rfl <|
     rwp_det rfl rfl (det_add_nw rfl rfl rfl ⟨by omega, by omega⟩) <|
     rwp_det rfl rfl (det_gtr rfl rfl rfl) <|
     rwp_nil <|
     awp_cond rfl (fun c4 => ?_) (fun c4 => ?_)
    ·try simp only [sx] at c4
     refine awp_region rfl <|
      rMv rfl <|
      rwp_nil <|
      sReg rfl <|
      rMv rfl <|
      rMv rfl <|
      rwp_det rfl rfl (det_eql rfl rfl rfl) <|
      rMv rfl <|
      rLz [] rfl gv1 trivial (fun g20_3 => det_move rfl rfl) rfl <|
      rLz [(78, _)] rfl gv1 ⟨rfl, rfl, trivial⟩ (fun g20_3 => det_len_slm rfl el33 rfl) rfl <|
      rLz [(79, _)] rfl gv1 ⟨rfl, rfl, trivial⟩ (fun g20_3 => det_eql rfl rfl rfl) rfl <|
      rwp_det rfl rfl (det_and rfl rfl rfl (fun h => h) rfl) <|
      rMv rfl <|
      rLz [] rfl gv1 trivial (fun g20_8 => det_load_agg rfl agg25 rfl (ptr_row 0 rfl) rfl) rfl <|
      rLz [(83, _)] rfl gv1 ⟨rfl, rfl, trivial⟩ (fun g20_8 => det_call rfl ok24 (show Pur cfgI 24 [vNs (limN (dLm x) (wLm y))] (vI ((dLm x + 1 + wLm y : Nat) : Int)) by have h := loopnest_Size (limN (dLm x) (wLm y)) (by omega); rw [hln] at h; exact upI h) ⟨VLe.refl _, rfl, trivial⟩) rfl <|
      rLz [] rfl gv1 trivial (fun g20_8 => det_move rfl rfl) rfl <|
      rLz [] rfl gv1 trivial (fun g20_8 => det_move rfl rfl) rfl <|
      rLz [(85, _), (86, _)] rfl gv1 ⟨rfl, rfl, rfl, rfl, trivial⟩ (fun g20_8 => det_add_nw rfl rfl rfl ⟨by omega, by omega⟩) rfl <|
      rLz [(84, _), (87, _)] rfl gv1 ⟨rfl, rfl, rfl, rfl, trivial⟩ (fun g20_8 => det_eql rfl rfl rfl) rfl <|
      rwp_det rfl rfl (det_and rfl rfl rfl (fun h => h) rfl) <|
      rMv rfl <|
      rLz [] rfl gv1 trivial (fun g20_16 => det_call rfl ok21 law30_live trivial) rfl <|
      rwp_det rfl rfl (det_and rfl rfl rfl (fun h => h) rfl) <|
      rMv rfl <|
      rwp_nil <|
      awp_ret <|
      fin1 (rs_c rfl) ?_
     rw [show wantL (dLm x) (wLm y) = 2 from by unfold wantL; rw [if_neg (by omega), if_pos (by omega)]]
     exact congrArg vB (by simp)
    ·try simp only [sx] at c4
     refine awp_skip <|
      sReg rfl <|
      rMv rfl <|
      rMv rfl <|
      rwp_det rfl rfl (det_eql rfl rfl rfl) <|
      rMv rfl <|
      rLz [] rfl gv1 trivial (fun g20_3 => det_move rfl rfl) rfl <|
      rLz [(78, _)] rfl gv1 ⟨rfl, rfl, trivial⟩ (fun g20_3 => det_len_slm rfl el33 rfl) rfl <|
      rLz [(79, _)] rfl gv1 ⟨rfl, rfl, trivial⟩ (fun g20_3 => det_eql rfl rfl rfl) rfl <|
      rwp_det rfl rfl (det_and rfl rfl rfl (fun h => h) rfl) <|
      rMv rfl <|
      rLz [] rfl gv1 trivial (fun g20_8 => det_load_agg rfl agg25 rfl (ptr_row 0 rfl) rfl) rfl <|
      rLz [(83, _)] rfl gv1 ⟨rfl, rfl, trivial⟩ (fun g20_8 => det_call rfl ok24 (show Pur cfgI 24 [vNs (limN (dLm x) (wLm y))] (vI ((dLm x + 1 + wLm y : Nat) : Int)) by have h := loopnest_Size (limN (dLm x) (wLm y)) (by omega); rw [hln] at h; exact upI h) ⟨VLe.refl _, rfl, trivial⟩) rfl <|
      rLz [] rfl gv1 trivial (fun g20_8 => det_move rfl rfl) rfl <|
      rLz [] rfl gv1 trivial (fun g20_8 => det_move rfl rfl) rfl <|
      rLz [(85, _), (86, _)] rfl gv1 ⟨rfl, rfl, rfl, rfl, trivial⟩ (fun g20_8 => det_add_nw rfl rfl rfl ⟨by omega, by omega⟩) rfl <|
      rLz [(84, _), (87, _)] rfl gv1 ⟨rfl, rfl, rfl, rfl, trivial⟩ (fun g20_8 => det_eql rfl rfl rfl) rfl <|
      rwp_det rfl rfl (det_and rfl rfl rfl (fun h => h) rfl) <|
      rMv rfl <|
      rLz [] rfl gv1 trivial (fun g20_16 => det_call rfl ok21 law30_live trivial) rfl <|
      rwp_det rfl rfl (det_and rfl rfl rfl (fun h => h) rfl) <|
      rMv rfl <|
      rwp_nil <|
      awp_ret <|
      fin1 (rs_c rfl) ?_
     rw [show wantL (dLm x) (wLm y) = 0 from by unfold wantL; rw [if_neg (by omega), if_neg (by omega)]]
     exact congrArg vB (by simp)

end Go.W
