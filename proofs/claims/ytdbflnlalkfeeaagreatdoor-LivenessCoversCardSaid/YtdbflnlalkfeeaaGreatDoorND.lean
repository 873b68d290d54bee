/-
  Walks: what functions of the program compute. Printed by wip/gen/mk2.py.
  Conditions: none.
-/
import Derived.Test.YtdbflnlalkfeeaaGreatDoorNC
import Derived.Test.YtdbflnlalkfeeaaGreatDoorPlain2
set_option linter.unusedSimpArgs false
set_option linter.unusedVariables false
set_option maxRecDepth 10000
namespace Go.W
open Go Go.Eng Go.Proofs Go.L41 Go.Br
attribute [local irreducible] AWP RWP TD finQ

abbrev vLs' (l : List Lifetime) : V := .c (.sl 4 (l.map Lifetime.cells))
theorem cells_one (s : St) : vSts [s] = .c (.sl 20 [s.cs]) := by simp [St.cells_eq]
theorem agg38 : aggT Tryz.prog 38 = some 4 := by kernel_rfl
theorem el28 : elemT Tryz.prog 28 = some (38, 4, 40) := by kernel_rfl
theorem fd38_0 : fieldT Tryz.prog 38 0 = some (0, 9) := by kernel_rfl
theorem fd38_1 : fieldT Tryz.prog 38 1 = some (1, 3) := by kernel_rfl
theorem fd38_2 : fieldT Tryz.prog 38 2 = some (2, 3) := by kernel_rfl
theorem fd38_3 : fieldT Tryz.prog 38 3 = some (3, 3) := by kernel_rfl
theorem ok18 : callOk Tryz.prog 18 = true := by kernel_rfl
theorem ok19 : callOk Tryz.prog 19 = true := by kernel_rfl
theorem ok55 : callOk Tryz.prog 55 = true := by kernel_rfl
theorem ok56 : callOk Tryz.prog 56 = true := by kernel_rfl
theorem ok57 : callOk Tryz.prog 57 = true := by kernel_rfl
theorem ok67 : callOk Tryz.prog 67 = true := by kernel_rfl
theorem ok120 : callOk Tryz.prog 120 = true := by kernel_rfl
theorem pl38 : placesT Tryz.prog 38 = some [(0, 1), (1, 1), (2, 1), (3, 1)] := by kernel_rfl
theorem sm108 : smapT Tryz.prog 108 = some (Value.bool false) := by kernel_rfl
theorem sz38 : (Tryz.prog.info? 38).map (·.size) = some 4 := by kernel_rfl
theorem zr38 : zeroT Tryz.prog 38 = some [(Value.string (ByteArray.mk #[])), (Value.int IntKind.i64 0), (Value.int IntKind.i64 0), (Value.int IntKind.i64 0)] := by kernel_rfl
theorem liveness_Overlap (a b : Lifetime) :
    Pur cfg 56 [vL a, vL b] (vB (Overlap a b)) := by
 refine con_intro Tryz.func56 rfl Tryz.ntmps56 Tryz.results56 rfl ?_
 intro z hz
 refine sReg rfl <|
  rwp_op rfl rfl (ope_box rfl rfl) ?_
 rintro _ _ ⟨b1, rfl, rfl⟩
 refine rwp_op rfl rfl (ope_box rfl rfl) ?_
 rintro _ _ ⟨b2, rfl, rfl⟩
 refine rMv rfl <|
  rwp_nil <|
  sReg rfl <|
  rwp_det rfl rfl (det_field_lit rfl fd38_1 rfl) <|
  rwp_det rfl rfl (det_load_one rfl one3 rfl (ptr_row 1 rfl) rfl) <|
  rwp_det rfl rfl (det_field_lit rfl fd38_2 rfl) <|
  rwp_det rfl rfl (det_load_one rfl one3 rfl (ptr_row 0 rfl) rfl) <|
  rwp_det rfl rfl (det_leq rfl rfl rfl) <|
  rMv rfl <|
  rLz [] rfl gv1 trivial (fun g1_5 => det_field_lit rfl fd38_1 rfl) rfl <|
  rLz [(11, _)] rfl gv1 ⟨rfl, rfl, trivial⟩ (fun g1_5 => det_load_one rfl one3 rfl (ptr_row 0 rfl) rfl) rfl <|
  rLz [] rfl gv1 trivial (fun g1_5 => det_field_lit rfl fd38_2 rfl) rfl <|
  rLz [(13, _)] rfl gv1 ⟨rfl, rfl, trivial⟩ (fun g1_5 => det_load_one rfl one3 rfl (ptr_row 1 rfl) rfl) rfl <|
  rLz [(12, _), (14, _)] rfl gv1 ⟨rfl, rfl, rfl, rfl, trivial⟩ (fun g1_5 => det_leq rfl rfl rfl) rfl <|
  rwp_det rfl rfl (det_and rfl rfl rfl (fun h => h) rfl) <|
  rMv rfl <|
  rwp_nil <|
  awp_ret <|
  fin1 (rs_c rfl) ?_
 exact rfl

theorem liveness_MaxLive (l : List Lifetime) (hl : l.length ≤ 1000000) :
    Pur cfg 57 [vLs l] (vI (mostP l l)) := by
 refine con_intro Tryz.func57 rfl Tryz.ntmps57 Tryz.results57 rfl ?_
 intro z hz
 refine sReg rfl <|
  rMv rfl <|
  rwp_nil <|
  sReg rfl <|
  rMv rfl <|
  rwp_nil <|
  awp_seq <|
  sReg rfl <|
  rMv rfl <|
  rwp_det rfl rfl (det_len_slm rfl el28 rfl) <|
  rMv rfl <|
  rwp_nil <|
  awp_block <|
  awp_weak ⟨[(11, .c _), (3, .c _), (0, .c _), (9, .c _), (10, .c _)], []⟩ (Weak.mk [] ⟨VLe.of_eq rfl, VLe.of_eq rfl, VLe.of_eq rfl, VLe.of_eq rfl, VLe.of_eq rfl, trivial⟩ rfl) <|
  awp_loop_k 2 0 rfl rfl (Nat) (fun k => [(11, vI k), (3, vI (mostP l (l.take k)))]) (fun k => []) (fun k => k ≤ l.length) (fun k => l.length - k) ⟨0, (by omega), Weak.mk [] ⟨VLe.refl _, VLe.of_eq (rfl), VLe.refl _, VLe.refl _, VLe.refl _, trivial⟩ rfl⟩ ?_
 rintro k hk
 refine sReg rfl <|
  rwp_det rfl rfl (det_lss rfl rfl rfl) <|
  rwp_nil <|
  awp_seq <|
  awp_cond rfl (fun c1 => ?_) (fun c1 => ?_)
 ·try simp only [sx] at c1
  obtain ⟨x, hx⟩ := ex_get l k (by omega)
  refine awp_skip <|
   awp_seq <|
   awp_block <|
   sReg rfl <|
   rwp_det rfl rfl (det_index_sl rfl el28 rfl rfl (by omega) (getm (by assumption))) <|
   rwp_det rfl rfl (det_load_agg rfl agg38 rfl ptr_imm rfl) <|
   rwp_op rfl rfl (ope_alloc rfl zr38) ?_
  rintro _ _ ⟨b1, rfl, rfl⟩
  refine rwp_det0 rfl rfl (det_store rfl sz38 rfl rfl rfl (st_row 0 rfl rfl)) <|
   rwp_nil <|
   awp_seq <|
   sReg rfl <|
   rwp_det rfl rfl (det_field_lit rfl fd38_1 rfl) <|
   rwp_det rfl rfl (det_load_one rfl one3 rfl (ptr_row 0 rfl) rfl) <|
   rwp_det rfl rfl (det_field_lit rfl fd38_2 rfl) <|
   rwp_det rfl rfl (det_load_one rfl one3 rfl (ptr_row 0 rfl) rfl) <|
   rwp_det rfl rfl (det_gtr rfl rfl rfl) <|
   rwp_nil <|
   awp_cond rfl (fun c2 => ?_) (fun c2 => ?_)
  ·try simp only [sx] at c2
   refine awp_exit <|
    awp_region rfl <|
    rwp_det rfl rfl (det_add_nw rfl rfl rfl ⟨by omega, by omega⟩) <|
    rMv rfl <|
    rwp_nil ?_
   refine ⟨k + 1, (by omega), (by omega), Weak.mk [false] ⟨VLe.refl _, VLe.of_eq (by first | (rw [mostP_no hx (by omega)]; rfl) | (rw [mostP_yes hx (by omega)]; rfl)), VLe.refl _, VLe.refl _, VLe.refl _, trivial⟩ rfl⟩
  ·try simp only [sx] at c2
   refine awp_skip <|
    sReg rfl <|
    rMv rfl <|
    rwp_nil <|
    awp_seq <|
    sReg rfl <|
    rMv rfl <|
    rwp_det rfl rfl (det_len_slm rfl el28 rfl) <|
    rMv rfl <|
    rwp_nil <|
    awp_block <|
    awp_weak ⟨[(22, .c _), (6, .c _), (0, .c _), (3, .c _), (5, .c _), (9, .c _), (10, .c _), (11, .c _), (20, .c _), (21, .c _)], [_]⟩ (Weak.mk [true] ⟨VLe.of_eq rfl, VLe.of_eq rfl, VLe.of_eq rfl, VLe.of_eq rfl, VLe.of_eq rfl, VLe.of_eq rfl, VLe.of_eq rfl, VLe.of_eq rfl, VLe.of_eq rfl, VLe.of_eq rfl, trivial⟩ rfl) <|
    awp_loop_k 2 0 rfl rfl (Nat) (fun j => [(22, vI j), (6, vI (cnt (l.take j) x.From))]) (fun j => []) (fun j => j ≤ l.length) (fun j => l.length - j) ⟨0, (by omega), Weak.mk [true] ⟨VLe.refl _, VLe.of_eq (rfl), VLe.refl _, VLe.refl _, VLe.refl _, VLe.refl _, VLe.refl _, VLe.refl _, VLe.refl _, VLe.refl _, trivial⟩ rfl⟩ ?_
   rintro j hj
   have hcj := cnt_le (l.take j) x.From
   have hcl : (l.take j).length ≤ j := List.length_take_le _ _
   refine sReg rfl <|
    rwp_det rfl rfl (det_lss rfl rfl rfl) <|
    rwp_nil <|
    awp_seq <|
    awp_cond rfl (fun c3 => ?_) (fun c3 => ?_)
   ·try simp only [sx] at c3
    obtain ⟨y, hy⟩ := ex_get l j (by omega)
    refine awp_skip <|
     awp_seq <|
     awp_block <|
     sReg rfl <|
     rwp_det rfl rfl (det_index_sl rfl el28 rfl rfl (by omega) (getm (by assumption))) <|
     rwp_det rfl rfl (det_load_agg rfl agg38 rfl ptr_imm rfl) <|
     rwp_op rfl rfl (ope_alloc rfl zr38) ?_
    rintro _ _ ⟨b2, rfl, rfl⟩
    refine rwp_det0 rfl rfl (det_store rfl sz38 rfl rfl rfl (st_row 0 rfl rfl)) <|
     rwp_nil <|
     sReg rfl <|
     rwp_det rfl rfl (det_field_lit rfl fd38_1 rfl) <|
     rwp_det rfl rfl (det_load_one rfl one3 rfl (ptr_row 0 rfl) rfl) <|
     rwp_det rfl rfl (det_field_lit rfl fd38_1 rfl) <|
     rwp_det rfl rfl (det_load_one rfl one3 rfl (ptr_row 1 rfl) rfl) <|
     rwp_det rfl rfl (det_leq rfl rfl rfl) <|
     rMv rfl <|
     rLz [] rfl gv1 trivial (fun g10_5 => det_field_lit rfl fd38_1 rfl) rfl <|
     rLz [(32, _)] rfl gv1 ⟨rfl, rfl, trivial⟩ (fun g10_5 => det_load_one rfl one3 rfl (ptr_row 1 rfl) rfl) rfl <|
     rLz [] rfl gv1 trivial (fun g10_5 => det_field_lit rfl fd38_2 rfl) rfl <|
     rLz [(34, _)] rfl gv1 ⟨rfl, rfl, trivial⟩ (fun g10_5 => det_load_one rfl one3 rfl (ptr_row 0 rfl) rfl) rfl <|
     rLz [(33, _), (35, _)] rfl gv1 ⟨rfl, rfl, rfl, rfl, trivial⟩ (fun g10_5 => det_leq rfl rfl rfl) rfl <|
     rwp_det rfl rfl (det_and rfl rfl rfl (fun h => h) rfl) <|
     rwp_nil <|
     awp_cond rfl (fun c4 => ?_) (fun c4 => ?_)
    ·try simp only [sx] at c4
     have hcv : covers x.From y = true := by unfold covers; simp [c4]
     refine awp_region rfl <|
      rMv rfl <|
      rwp_det rfl rfl (det_add_nw rfl rfl rfl ⟨by omega, by omega⟩) <|
      rMv rfl <|
      rwp_nil <|
      awp_region rfl <|
      rwp_det rfl rfl (det_add_nw rfl rfl rfl ⟨by omega, by omega⟩) <|
      rMv rfl <|
      rwp_nil ?_
     refine ⟨j + 1, (by omega), (by omega), Weak.mk [false, true] ⟨VLe.refl _, VLe.of_eq (by first | (rw [cnt_yes hy hcv]; rfl) | (rw [cnt_no hy hcv]; rfl)), VLe.refl _, VLe.refl _, VLe.refl _, VLe.refl _, VLe.refl _, VLe.refl _, VLe.refl _, VLe.refl _, trivial⟩ rfl⟩
    ·try simp only [sx] at c4
     have hcv : covers x.From y = false := by unfold covers; simp only [Bool.and_eq_false_iff, decide_eq_false_iff_not]; omega
     refine awp_skip <|
      awp_region rfl <|
      rwp_det rfl rfl (det_add_nw rfl rfl rfl ⟨by omega, by omega⟩) <|
      rMv rfl <|
      rwp_nil ?_
     refine ⟨j + 1, (by omega), (by omega), Weak.mk [false, true] ⟨VLe.refl _, VLe.of_eq (by first | (rw [cnt_yes hy hcv]; rfl) | (rw [cnt_no hy hcv]; rfl)), VLe.refl _, VLe.refl _, VLe.refl _, VLe.refl _, VLe.refl _, VLe.refl _, VLe.refl _, VLe.refl _, trivial⟩ rfl⟩
   ·try simp only [sx] at c3
    rw [show l.take j = l from take_all (by omega)]
    refine awp_exit <|
     awp_region rfl <|
     rMv rfl <|
     rMv rfl <|
     rwp_det rfl rfl (det_max rfl rfl rfl) <|
     rMv rfl <|
     rwp_nil <|
     awp_region rfl <|
     rwp_det rfl rfl (det_add_nw rfl rfl rfl ⟨by omega, by omega⟩) <|
     rMv rfl <|
     rwp_nil ?_
    refine ⟨k + 1, (by omega), (by omega), Weak.mk [false] ⟨VLe.refl _, VLe.of_eq (by first | (rw [mostP_no hx (by omega)]; rfl) | (rw [mostP_yes hx (by omega)]; rfl)), VLe.refl _, VLe.refl _, VLe.refl _, trivial⟩ rfl⟩
 ·try simp only [sx] at c1
  rw [take_all (by omega)]
  refine awp_exit <|
   sReg rfl <|
   rMv rfl <|
   rMv rfl <|
   rwp_nil <|
   awp_ret <|
   fin1 (rs_c rfl) ?_
  exact rfl

theorem liveness_Validate (l : List Lifetime) (hl : l.length ≤ 1000000) :
    Pur cfg 18 [vLs l] (vI (validateL l)) := by
 refine con_intro Tryz.func18 rfl Tryz.ntmps18 Tryz.results18 rfl ?_
 intro z hz
 refine sReg rfl <|
  rMv rfl <|
  rwp_nil <|
  sReg rfl <|
  rwp_op rfl rfl (ope_mkmap vB rfl rfl) ?_
 rintro _ _ ⟨b1, rfl, rfl⟩
 refine rMv rfl <|
  rwp_nil <|
  awp_seq <|
  sReg rfl <|
  rMv rfl <|
  rwp_det rfl rfl (det_len_slm rfl el28 rfl) <|
  rMv rfl <|
  rwp_nil <|
  awp_block <|
  awp_weak ⟨[(9, .c _), (3, .c _), (7, .c _), (8, .c _)], [_]⟩ (Weak.mk [true] ⟨VLe.of_eq rfl, VLe.of_eq rfl, VLe.of_eq rfl, VLe.of_eq rfl, trivial⟩ rfl) <|
  awp_loop_k 1 1 rfl rfl (Nat) (fun k => [(9, vI k)]) (fun k => [E.blk b1 (MapR vB (seenM (l.take k)))]) (fun k => k ≤ l.length ∧ (validateL l = validFrom (l.take k) (l.drop k))) (fun k => l.length - k) ⟨0, ⟨by omega, rfl⟩, Weak.mk [true] ⟨VLe.refl _, VLe.refl _, VLe.refl _, VLe.refl _, trivial⟩ rfl⟩ ?_
 rintro k ⟨hk, hv⟩
 refine sReg rfl <|
  rwp_det rfl rfl (det_lss rfl rfl rfl) <|
  rwp_nil <|
  awp_seq <|
  awp_cond rfl (fun c1 => ?_) (fun c1 => ?_)
 ·try simp only [sx] at c1
  obtain ⟨x, hx⟩ := ex_get l k (by omega)
  refine awp_skip <|
   awp_seq <|
   awp_block <|
   sReg rfl <|
   rwp_det rfl rfl (det_index_sl rfl el28 rfl rfl (by omega) (getm (by assumption))) <|
   rwp_det rfl rfl (det_load_agg rfl agg38 rfl ptr_imm rfl) <|
   rwp_op rfl rfl (ope_alloc rfl zr38) ?_
  rintro _ _ ⟨b2, rfl, rfl⟩
  refine rwp_det0 rfl rfl (det_store rfl sz38 rfl rfl rfl (st_row 0 rfl rfl)) <|
   rwp_nil <|
   awp_seq <|
   awp_block <|
   sReg rfl <|
   rwp_det rfl rfl (det_field_lit rfl fd38_0 rfl) <|
   rwp_det rfl rfl (det_load_one rfl one9 rfl (ptr_row 0 rfl) rfl) <|
   rwp_det rfl rfl (det_call rfl ok66 (lexer_IsName _) ⟨VLe.refl _, rfl, trivial⟩) <|
   rwp_det rfl rfl (det_not rfl rfl) <|
   rMv rfl <|
   rwp_nil <|
   awp_cond rfl (fun c2 => ?_) (fun c2 => ?_)
  ·try simp only [sx] at c2
   refine sReg rfl <|
    rMv rfl <|
    rwp_nil <|
    awp_ret <|
    fin1 (rs_c rfl) ?_
   rw [valid_err hv hx (check_name c2) (by decide)]
  ·try simp only [sx] at c2
   refine sReg rfl <|
    rMv rfl <|
    rwp_det rfl rfl (det_field_lit rfl fd38_0 rfl) <|
    rwp_det rfl rfl (det_load_one rfl one9 rfl (ptr_row 0 rfl) rfl) <|
    rwp_det rfl rfl (det_lookup 1 false rfl sm108 rfl rfl rfl (fun _ _ => CRep.lit _ rfl)) <|
    rMv rfl <|
    rwp_nil <|
    awp_cond rfl (fun c3 => ?_) (fun c3 => ?_)
   ·try simp only [sx] at c3
    rw [seen_get] at c3
    refine sReg rfl <|
     rMv rfl <|
     rwp_nil <|
     awp_ret <|
     fin1 (rs_c rfl) ?_
    rw [valid_err hv hx (check_dup c2 c3) (by decide)]
   ·try simp only [sx] at c3
    rw [seen_get] at c3
    refine sReg rfl <|
     rwp_det rfl rfl (det_field_lit rfl fd38_1 rfl) <|
     rwp_det rfl rfl (det_load_one rfl one3 rfl (ptr_row 0 rfl) rfl) <|
     rwp_det rfl rfl (det_lss rfl rfl rfl) <|
     rMv rfl <|
     rLz [] rfl gv1 trivial (fun g9_3 => det_field_lit rfl fd38_2 rfl) rfl <|
     rLz [(28, _)] rfl gv1 ⟨rfl, rfl, trivial⟩ (fun g9_3 => det_load_one rfl one3 rfl (ptr_row 0 rfl) rfl) rfl <|
     rLz [] rfl gv1 trivial (fun g9_3 => det_field_lit rfl fd38_1 rfl) rfl <|
     rLz [(30, _)] rfl gv1 ⟨rfl, rfl, trivial⟩ (fun g9_3 => det_load_one rfl one3 rfl (ptr_row 0 rfl) rfl) rfl <|
     rLz [(29, _), (31, _)] rfl gv1 ⟨rfl, rfl, rfl, rfl, trivial⟩ (fun g9_3 => det_lss rfl rfl rfl) rfl <|
     rwp_det rfl rfl (det_or rfl rfl rfl rfl (fun h => (lzf h))) <|
     rMv rfl <|
     rLz [] rfl gv1 trivial (fun g9_10 => det_field_lit rfl fd38_3 rfl) rfl <|
     rLz [(35, _)] rfl gv1 ⟨rfl, rfl, trivial⟩ (fun g9_10 => det_load_one rfl one3 rfl (ptr_row 0 rfl) rfl) rfl <|
     rLz [(36, _)] rfl gv1 ⟨rfl, rfl, trivial⟩ (fun g9_10 => det_lss rfl rfl rfl) rfl <|
     rwp_det rfl rfl (det_or rfl rfl rfl rfl (fun h => (lzf h))) <|
     rMv rfl <|
     rLz [] rfl gv1 trivial (fun g9_15 => det_field_lit rfl fd38_3 rfl) rfl <|
     rLz [(40, _)] rfl gv1 ⟨rfl, rfl, trivial⟩ (fun g9_15 => det_load_one rfl one3 rfl (ptr_row 0 rfl) rfl) rfl <|
     rLz [(41, _)] rfl gv1 ⟨rfl, rfl, trivial⟩ (fun g9_15 => det_gtr rfl rfl rfl) rfl <|
     rwp_det rfl rfl (det_or rfl rfl rfl rfl (fun h => (lzf h))) <|
     rMv rfl <|
     rwp_nil <|
     awp_cond rfl (fun c4 => ?_) (fun c4 => ?_)
    ·try simp only [sx] at c4
     refine sReg rfl <|
      rMv rfl <|
      rwp_nil <|
      awp_ret <|
      fin1 (rs_c rfl) ?_
     rw [valid_err hv hx (check_arg c2 c3 (by omega)) (by decide)]
    ·try simp only [sx] at c4
     refine awp_skip <|
      awp_region rfl <|
      rMv rfl <|
      rwp_det rfl rfl (det_field_lit rfl fd38_0 rfl) <|
      rwp_det rfl rfl (det_load_one rfl one9 rfl (ptr_row 0 rfl) rfl) <|
      rwp_det0 rfl rfl (det_mapput 1 true rfl sm108 rfl rfl rfl (VLe.refl _) rfl) <|
      rwp_nil <|
      awp_region rfl <|
      rwp_det rfl rfl (det_add_nw rfl rfl rfl ⟨by omega, by omega⟩) <|
      rMv rfl <|
      rwp_nil ?_
     refine ⟨k + 1, ⟨by omega, valid_ok hv hx (check_ok c2 c3 (by omega))⟩, (by omega), Weak.mk [false, true] ⟨VLe.refl _, VLe.refl _, VLe.refl _, VLe.refl _, trivial⟩ (by rw [seen_next hx]; rfl)⟩
 ·try simp only [sx] at c1
  refine awp_exit <|
   sReg rfl <|
   rMv rfl <|
   rwp_nil <|
   awp_ret <|
   fin1 (rs_c rfl) ?_
  rw [valid_end hv (by omega)]

theorem law41_alive  :
    Pur cfg 13 [] (vB true) := by
 refine con_intro Tryz.func13 rfl Tryz.ntmps13 Tryz.results13 rfl ?_
 intro z hz
 refine sReg rfl <|
  rMv rfl <|
  rwp_nil <|
  sReg rfl <|
  rwp_det rfl rfl (det_build rfl zr38 pl38 rfl) <|
  rwp_det rfl rfl (det_build rfl zr38 pl38 rfl) <|
  rwp_op rfl rfl (ope_alloc rfl zr38) ?_
 rintro _ _ ⟨b1, rfl, rfl⟩
 refine rwp_op rfl rfl (ope_alloc rfl zr38) ?_
 rintro _ _ ⟨b2, rfl, rfl⟩
 refine rwp_det0 rfl rfl (det_store rfl sz38 rfl rfl rfl (st_row 1 rfl rfl)) <|
  rwp_det0 rfl rfl (det_store rfl sz38 rfl rfl rfl (st_row 0 rfl rfl)) <|
  rwp_nil <|
  sReg rfl <|
  rwp_det rfl rfl (det_load_agg rfl agg38 rfl (ptr_row 1 rfl) rfl) <|
  rwp_det rfl rfl (det_load_agg rfl agg38 rfl (ptr_row 0 rfl) rfl) <|
  rwp_det rfl rfl (det_call rfl ok56 (liveness_Overlap (⟨bs [97], 0, 2, 1⟩ : Lifetime) (⟨bs [98], 2, 3, 1⟩ : Lifetime)) ⟨VLe.refl _, rfl, VLe.refl _, rfl, trivial⟩) <|
  rMv rfl <|
  rLz [] rfl gv1 trivial (fun g2_3 => det_load_agg rfl agg38 rfl (ptr_row 1 rfl) rfl) rfl <|
  rLz [] rfl gv1 trivial (fun g2_3 => det_load_agg rfl agg38 rfl (ptr_row 0 rfl) rfl) rfl <|
  rLz [(9, _), (10, _)] rfl gv1 ⟨rfl, rfl, rfl, rfl, trivial⟩ (fun g2_3 => det_bslice rfl el28 zr38 rfl rfl rfl rfl) rfl <|
  rLz [(11, _)] rfl gv1 ⟨rfl, rfl, trivial⟩ (fun g2_3 => det_call rfl ok57 (liveness_MaxLive [(⟨bs [97], 0, 2, 1⟩ : Lifetime), (⟨bs [98], 2, 3, 1⟩ : Lifetime)] (by decide)) ⟨VLe.refl _, rfl, trivial⟩) rfl <|
  rLz [(12, _)] rfl gv1 ⟨rfl, rfl, trivial⟩ (fun g2_3 => det_eql rfl rfl rfl) rfl <|
  rwp_det rfl rfl (det_and rfl rfl rfl (fun h => h) rfl) <|
  rMv rfl <|
  rLz [] rfl gv1 trivial (fun g2_10 => det_load_agg rfl agg38 rfl (ptr_row 1 rfl) rfl) rfl <|
  rLz [] rfl gv1 trivial (fun g2_10 => det_load_agg rfl agg38 rfl (ptr_row 1 rfl) rfl) rfl <|
  rLz [(16, _), (17, _)] rfl gv1 ⟨rfl, rfl, rfl, rfl, trivial⟩ (fun g2_10 => det_bslice rfl el28 zr38 rfl rfl rfl rfl) rfl <|
  rLz [(18, _)] rfl gv1 ⟨rfl, rfl, trivial⟩ (fun g2_10 => det_call rfl ok18 (liveness_Validate [(⟨bs [97], 0, 2, 1⟩ : Lifetime), (⟨bs [97], 0, 2, 1⟩ : Lifetime)] (by decide)) ⟨VLe.refl _, rfl, trivial⟩) rfl <|
  rLz [(19, _)] rfl gv1 ⟨rfl, rfl, trivial⟩ (fun g2_10 => det_eql rfl rfl rfl) rfl <|
  rwp_det rfl rfl (det_and rfl rfl rfl (fun h => h) rfl) <|
  rMv rfl <|
  rwp_nil <|
  awp_ret <|
  fin1 (rs_c rfl) ?_
 exact congrArg vB (by decide +kernel)

theorem base_WeighStmts_step (l : List St) (ih : ∀ s, s ∈ l → ∀ (m : Nat) (x : Int), m ≤ 5000 → x = m → Pur cfg 55 [vSts s.Body, vI x] (vI (weighB s.Body m))) (m : Nat) (x : Int) (hf : fitS l) (hl : l.length ≤ 140737488355328) (hm : m ≤ 5000) (hx : x = m) :
    Pur cfg 55 [vSts l, vI x] (vI (weighB l m)) := by
 refine con_intro Tryz.func55 rfl Tryz.ntmps55 Tryz.results55 rfl ?_
 intro z hz
 have hwB : wB m ≤ 5700000000000000000 := by unfold wB; omega
 refine sReg rfl <|
  rMv rfl <|
  rwp_nil <|
  sReg rfl <|
  rMv rfl <|
  rwp_det rfl rfl (det_len_slm rfl el23 rfl) <|
  rMv rfl <|
  rwp_nil <|
  awp_seq <|
  sReg rfl <|
  rMv rfl <|
  rwp_nil <|
  awp_block <|
  awp_weak ⟨[(6, .c _), (5, .c _), (0, .c _), (1, .c _)], []⟩ (Weak.mk [] ⟨VLe.of_eq rfl, VLe.of_eq rfl, VLe.of_eq rfl, VLe.of_eq rfl, trivial⟩ rfl) <|
  awp_loop_k 2 0 rfl rfl (Nat × Nat) (fun ⟨k, n⟩ => [(6, vI k), (5, vI n)]) (fun ⟨k, n⟩ => []) (fun ⟨k, n⟩ => k ≤ l.length ∧ (n ≤ wB m) ∧ (l.length ≤ n) ∧ (weighB l m = weighSs (l.drop k) m n)) (fun ⟨k, n⟩ => l.length - k) ⟨⟨0, l.length⟩, ⟨by omega, by unfold wB; omega, by omega, rfl⟩, Weak.mk [] ⟨VLe.refl _, VLe.of_eq (congrArg vI (by simp)), VLe.refl _, VLe.refl _, trivial⟩ rfl⟩ ?_
 rintro ⟨k, n⟩ ⟨hk, hn1, hn2, hp⟩
 show AWP _ _ _ _ _ ⟨[(6, vI k), (5, vI n)] ++ _, [] ++ _⟩
 refine awp_seq <|
  sReg rfl <|
  rMv rfl <|
  rMv rfl <|
  rwp_det rfl rfl (det_len_slm rfl el23 rfl) <|
  rwp_det rfl rfl (det_lss rfl rfl rfl) <|
  rMv rfl <|
  rLz [] rfl gv1 trivial (fun g3_4 => det_move rfl rfl) rfl <|
  rLz [] rfl gv1 trivial (fun g3_4 => det_move rfl rfl) rfl <|
  rLz [(14, _), (15, _)] rfl gv1 ⟨rfl, rfl, rfl, rfl, trivial⟩ (fun g3_4 => det_leq rfl rfl rfl) rfl <|
  rwp_det rfl rfl (det_and rfl rfl rfl (fun h => h) rfl) <|
  rwp_nil <|
  awp_cond rfl (fun c1 => ?_) (fun c1 => ?_)
 ·try simp only [sx] at c1
  obtain ⟨s, hs⟩ := ex_get l k (by omega)
  have hsf := fitS_mem hf s (mem_of_get hs)
  obtain ⟨f1, f2, f3, f4, f5⟩ := St.fit_eq hsf
  have hwl := weigh_lt (n := n) hs hf hm (by omega) (by omega)
  refine awp_skip <|
   awp_seq <|
   awp_block <|
   awp_draw 30 mixed (by kernel_rfl) rfl rfl <|
   td_det rfl rfl (det_move rfl rfl) <|
   td_det rfl rfl (det_move rfl rfl) <|
   td_det rfl rfl (det_move rfl rfl) <|
   td_det rfl rfl (det_index_sl rfl el23 rfl rfl (by omega) (getmS hs)) <|
   td_det rfl rfl (det_field_imm rfl fd54_6 rfl) <|
   td_det rfl rfl (det_load_agg rfl agg52 rfl ptr_imm rfl) <|
   td_det rfl rfl (det_move rfl rfl) <|
   td_det rfl rfl (det_call rfl ok109 (base_Weigh s.E m x f3 (by omega) hx) ⟨VLe.refl _, rfl, VLe.refl _, rfl, trivial⟩) <|
   td_det rfl rfl (det_add_nw rfl rfl rfl ⟨by omega, by omega⟩) <|
   td_det rfl rfl (det_move rfl rfl) <|
   td_det rfl rfl (det_move rfl rfl) <|
   td_det rfl rfl (det_index_sl rfl el23 rfl rfl (by omega) (getmS hs)) <|
   td_det rfl rfl (det_field_imm rfl fd54_5 rfl) <|
   td_det rfl rfl (det_load_one rfl one44 rfl ptr_imm rfl) <|
   td_det rfl rfl (det_buildN [none, none, none, none, none, none, none, none, none, none, some 2, none, some 13] rfl zr52 pl52 rfl rfl) <|
   td_det rfl rfl (det_move rfl rfl) <|
   td_det rfl rfl (det_call rfl ok109 (base_Weigh (idxE s.Idx) m x (idxE_fit f1 f2) (by omega) hx) ⟨VLe.refl _, rfl, VLe.refl _, rfl, trivial⟩) <|
   td_det rfl rfl (det_add_nw rfl rfl rfl ⟨by omega, by omega⟩) <|
   td_det rfl rfl (det_move rfl rfl) <|
   td_det rfl rfl (det_move rfl rfl) <|
   td_det rfl rfl (det_index_sl rfl el23 rfl rfl (by omega) (getmS hs)) <|
   td_det rfl rfl (det_field_imm rfl fd54_7 rfl) <|
   td_det rfl rfl (det_load_one rfl one23 rfl ptr_imm rfl) <|
   td_det rfl rfl (det_move rfl rfl) <|
   td_det rfl rfl (det_move rfl rfl) <|
   td_det rfl rfl (det_sub_nw rfl rfl rfl ⟨by omega, by omega⟩) <|
   td_det rfl rfl (det_max rfl rfl rfl) <|
   td_det rfl rfl (det_call rfl ok55 (ih s (mem_of_get hs) (m - n) _ (by omega) (by omega)) ⟨VLe.refl _, rfl, VLe.refl _, rfl, trivial⟩) <|
   td_det rfl rfl (det_add_nw rfl rfl rfl ⟨by omega, by omega⟩) <|
   td_det rfl rfl (det_assign rfl rfl) <|
   td_nil <|
   rwp_nil <|
   awp_region rfl <|
   rMv rfl <|
   rwp_det rfl rfl (det_add_nw rfl rfl rfl ⟨by omega, by omega⟩) <|
   rMv rfl <|
   rwp_nil ?_
  refine ⟨⟨k + 1, n + weighE s.E m + weighE (idxE s.Idx) m + weighB s.Body (m - n)⟩, ⟨by omega, hwl, by omega, weighSs_next hs hp (by omega)⟩, (by show l.length - (k + 1) < l.length - k; omega), Weak.mk [] ⟨VLe.refl _, VLe.of_eq (congrArg vI (by omega)), VLe.refl _, VLe.refl _, trivial⟩ rfl⟩
 ·try simp only [sx] at c1
  refine awp_exit <|
   sReg rfl <|
   rMv rfl <|
   rMv rfl <|
   rwp_nil <|
   awp_ret <|
   fin1 (rs_c rfl) ?_
  exact congrArg vI (by rw [← weighSs_end hp hx (by omega)])

theorem base_WeighStmts_body (s : St) : ∀ (m : Nat) (x : Int), s.fit → m ≤ 5000 → x = m → Pur cfg 55 [vSts s.Body, vI x] (vI (weighB s.Body m)) := by
  induction s using St.ind with
  | _ s ih =>
    intro m x hf hm hx
    obtain ⟨_, _, _, f4, f5⟩ := St.fit_eq hf
    exact base_WeighStmts_step s.Body (fun a ha m x h1 h2 => ih a ha m x (fitS_mem f5 a ha) h1 h2) m x f5 f4 hm hx
theorem base_WeighStmts (l : List St) (m : Nat) (x : Int) (hf : fitS l) (hl : l.length ≤ 140737488355328) (hm : m ≤ 5000) (hx : x = m) : Pur cfg 55 [vSts l, vI x] (vI (weighB l m)) :=
  base_WeighStmts_step l (fun a ha m x h1 h2 => base_WeighStmts_body a m x (fitS_mem hf a ha) h1 h2) m x hf hl hm hx

theorem ref41_Small (n : Ns) (hf : n.Fit) :
    Pur cfg 12 [vNs n] (vB (decide ((n.Bufs.length : Int) ≤ 40) && decide ((weighB n.Body 400 : Int) ≤ 400))) := by
 refine con_intro Tryz.func12 rfl Tryz.ntmps12 Tryz.results12 rfl ?_
 intro z hz
 refine sReg rfl <|
  rwp_op rfl rfl (ope_box rfl rfl) ?_
 rintro _ _ ⟨b1, rfl, rfl⟩
 refine rMv rfl <|
  rwp_nil <|
  sReg rfl <|
  rwp_det rfl rfl (det_field_lit rfl fd25_0 rfl) <|
  rwp_det rfl rfl (det_load_one rfl one22 rfl (ptr_row 0 rfl) rfl) <|
  rwp_det rfl rfl (det_len_slm rfl el22 rfl) <|
  rwp_det rfl rfl (det_leq rfl rfl rfl) <|
  rMv rfl <|
  rLz [] rfl gv1 trivial (fun g1_4 => det_field_lit rfl fd25_1 rfl) rfl <|
  rLz [(8, _)] rfl gv1 ⟨rfl, rfl, trivial⟩ (fun g1_4 => det_load_one rfl one23 rfl (ptr_row 0 rfl) rfl) rfl <|
  rLz [(9, _)] rfl gv1 ⟨rfl, rfl, trivial⟩ (fun g1_4 => det_call rfl ok55 (base_WeighStmts n.Body 400 400 hf.body hf.len (by omega) rfl) ⟨VLe.refl _, rfl, VLe.refl _, rfl, trivial⟩) rfl <|
  rLz [(10, _)] rfl gv1 ⟨rfl, rfl, trivial⟩ (fun g1_4 => det_leq rfl rfl rfl) rfl <|
  rwp_det rfl rfl (det_and rfl rfl rfl (fun h => h) rfl) <|
  rMv rfl <|
  rwp_nil <|
  awp_ret <|
  fin1 (rs_c rfl) ?_
 exact rfl

theorem ref14_With (l : List ByteArray) (s : ByteArray) (hl : l.length ≤ 4294967296) :
    Pur cfg 120 [vSs l, vS s] (vSs (insW l s)) := by
 refine con_intro Tryz.func120 rfl Tryz.ntmps120 Tryz.results120 rfl ?_
 intro z hz
 refine sReg rfl <|
  rwp_det rfl rfl (det_assignN 1 rfl rfl) <|
  rwp_nil <|
  sReg rfl <|
  rMv rfl <|
  rwp_nil <|
  awp_seq <|
  awp_block <|
  awp_weak ⟨[(5, .c _), (0, .c _), (1, .c _)], []⟩ (Weak.mk [] ⟨VLe.of_eq rfl, VLe.of_eq rfl, VLe.of_eq rfl, trivial⟩ rfl) <|
  awp_loop_k 1 0 rfl rfl (Nat) (fun k => [(5, vI k)]) (fun k => []) (fun k => k ≤ l.length ∧ (l.take k).all (below s) = true) (fun k => l.length - k) ⟨0, ⟨by omega, rfl⟩, Weak.mk [] ⟨VLe.refl _, VLe.refl _, VLe.refl _, trivial⟩ rfl⟩ ?_
 rintro k ⟨hk, hp⟩
 refine awp_seq <|
  sReg rfl <|
  rMv rfl <|
  rMv rfl <|
  rwp_det rfl rfl (det_len_slm rfl el72 rfl) <|
  rwp_det rfl rfl (det_lss rfl rfl rfl) <|
  rMv rfl <|
  rLz [] rfl gv1 trivial (fun g2_4 => det_move rfl rfl) rfl <|
  rLz [] rfl gv1 trivial (fun g2_4 => det_move rfl rfl) rfl <|
  rLz [(12, _), (13, _)] rfl gv1 ⟨rfl, rfl, rfl, rfl, trivial⟩ (fun g2_4 => det_index_sl rfl el72 rfl rfl (by simp only [Lz, cond_true, cond_false, Bool.and_eq_true, Bool.or_eq_true, Bool.not_eq_true', Bool.not_eq_false', Bool.or_eq_false_iff, Bool.and_eq_false_iff, decide_eq_true_eq, decide_eq_false_iff_not, Bool.not_eq_true, Bool.not_eq_false] at g2_4; omega) (getm (atB_get (by simp only [Lz, cond_true, cond_false, Bool.and_eq_true, Bool.or_eq_true, Bool.not_eq_true', Bool.not_eq_false', Bool.or_eq_false_iff, Bool.and_eq_false_iff, decide_eq_true_eq, decide_eq_false_iff_not, Bool.not_eq_true, Bool.not_eq_false] at g2_4; omega)))) rfl <|
  rLz [(14, _)] rfl gv1 ⟨rfl, rfl, trivial⟩ (fun g2_4 => det_load_one rfl one9 rfl ptr_imm rfl) rfl <|
  rLz [] rfl gv1 trivial (fun g2_4 => det_move rfl rfl) rfl <|
  rLz [(15, _), (16, _)] rfl gv1 ⟨rfl, rfl, rfl, rfl, trivial⟩ (fun g2_4 => det_slss rfl rfl rfl) rfl <|
  rwp_det rfl rfl (det_and rfl rfl rfl (fun h => h) rfl) <|
  rwp_nil <|
  awp_cond rfl (fun c1 => ?_) (fun c1 => ?_)
 ·obtain ⟨hlt, hlt2⟩ := with_1t c1
  refine awp_skip <|
   awp_block <|
   awp_region rfl <|
   rMv rfl <|
   rwp_det rfl rfl (det_add_nw rfl rfl rfl ⟨by omega, by omega⟩) <|
   rMv rfl <|
   rwp_nil ?_
  refine ⟨k + 1, ⟨by omega, below_next (atB_get hlt) hp hlt2⟩, (by omega), Weak.mk [] ⟨VLe.refl _, VLe.refl _, VLe.refl _, trivial⟩ rfl⟩
 ·have h1f := with_1f c1
  refine awp_exit <|
   awp_seq <|
   sReg rfl <|
   rMv rfl <|
   rMv rfl <|
   rwp_det rfl rfl (det_len_slm rfl el72 rfl) <|
   rwp_det rfl rfl (det_lss rfl rfl rfl) <|
   rMv rfl <|
   rLz [] rfl gv1 trivial (fun g4_4 => det_move rfl rfl) rfl <|
   rLz [] rfl gv1 trivial (fun g4_4 => det_move rfl rfl) rfl <|
   rLz [(26, _), (27, _)] rfl gv1 ⟨rfl, rfl, rfl, rfl, trivial⟩ (fun g4_4 => det_index_sl rfl el72 rfl rfl (by simp only [Lz, cond_true, cond_false, Bool.and_eq_true, Bool.or_eq_true, Bool.not_eq_true', Bool.not_eq_false', Bool.or_eq_false_iff, Bool.and_eq_false_iff, decide_eq_true_eq, decide_eq_false_iff_not, Bool.not_eq_true, Bool.not_eq_false] at g4_4; omega) (getm (atB_get (by simp only [Lz, cond_true, cond_false, Bool.and_eq_true, Bool.or_eq_true, Bool.not_eq_true', Bool.not_eq_false', Bool.or_eq_false_iff, Bool.and_eq_false_iff, decide_eq_true_eq, decide_eq_false_iff_not, Bool.not_eq_true, Bool.not_eq_false] at g4_4; omega)))) rfl <|
   rLz [(28, _)] rfl gv1 ⟨rfl, rfl, trivial⟩ (fun g4_4 => det_load_one rfl one9 rfl ptr_imm rfl) rfl <|
   rLz [] rfl gv1 trivial (fun g4_4 => det_move rfl rfl) rfl <|
   rLz [(29, _), (30, _)] rfl gv1 ⟨rfl, rfl, rfl, rfl, trivial⟩ (fun g4_4 => det_seql rfl rfl rfl) rfl <|
   rwp_det rfl rfl (det_and rfl rfl rfl (fun h => h) rfl) <|
   rwp_nil <|
   awp_cond rfl (fun c2 => ?_) (fun c2 => ?_)
  ·have h2t := with_2t c2
   refine sReg rfl <|
    rMv rfl <|
    rMv rfl <|
    rwp_nil <|
    awp_ret <|
    fin1 (rs_c rfl) ?_
   rw [with_is hp h1f h2t]
  ·have h2f := with_2f c2
   have hnew := with_new hk hp h1f h2f
   refine awp_skip <|
    sReg rfl <|
    rMv rfl <|
    rwp_weak _ (weak_own 9 1) <|
    rwp_nil <|
    sReg rfl <|
    rMv rfl <|
    rMv rfl <|
    rMv rfl <|
    rwp_det rfl rfl (det_cut_take rfl el72 rfl rfl (by omega)) <|
    rwp_op rfl rfl (ope_append 0 rfl el72 rfl rfl rfl (by simp only [List.length_map, List.length_append, List.length_cons, List.length_nil, List.length_take, List.length_drop]; omega) (by simp only [List.length_map, List.length_append, List.length_cons, List.length_nil, List.length_take, List.length_drop]; omega)) ?_
   rintro _ _ ⟨sv2, rfl, rfl⟩
   refine rMv rfl <|
    rwp_nil <|
    sReg rfl <|
    rMv rfl <|
    rMv rfl <|
    rwp_det rfl rfl (det_bslice rfl el72 zr9 rfl rfl rfl rfl) <|
    rwp_op rfl rfl (ope_append 0 rfl el72 rfl rfl rfl (by simp only [List.length_map, List.length_append, List.length_cons, List.length_nil, List.length_take, List.length_drop]; omega) (by simp only [List.length_map, List.length_append, List.length_cons, List.length_nil, List.length_take, List.length_drop]; omega)) ?_
   rintro _ _ ⟨sv3, rfl, rfl⟩
   refine rMv rfl <|
    rwp_nil <|
    sReg rfl <|
    rMv rfl <|
    rMv rfl <|
    rMv rfl <|
    rwp_det rfl rfl (det_cut_drop rfl el72 rfl rfl (by omega)) <|
    rwp_op rfl rfl (ope_append 0 rfl el72 rfl rfl rfl (by simp only [List.length_map, List.length_append, List.length_cons, List.length_nil, List.length_take, List.length_drop]; omega) (by simp only [List.length_map, List.length_append, List.length_cons, List.length_nil, List.length_take, List.length_drop]; omega)) ?_
   rintro _ _ ⟨sv4, rfl, rfl⟩
   refine rMv rfl <|
    rwp_nil <|
    awp_weak _ (Weak.vecEq 0 rfl (rows' := (insW l s).map fun s => [cS s]) (by rw [hnew]; simp)) <|
    awp_weak _ (weak_freezeM 0 rfl (regs' := [(47, _), (4, _)]) (μ' := []) ⟨FLe.sl, FLe.sl, trivial⟩ trivial) <|
    awp_ret <|
    fin1 (rs_c rfl) ?_
   rfl

theorem ref14_Reads (e : Ex) (he : e.wt ≤ 1000000) :
    Pur cfg 67 [vE e] (vSs (readsW e)) := by
 refine con_intro Tryz.func67 rfl Tryz.ntmps67 Tryz.results67 rfl ?_
 intro z hz
 have hnl := nodes_wt e
 refine sReg rfl <|
  rwp_op rfl rfl (ope_box rfl rfl) ?_
 rintro _ _ ⟨b1, rfl, rfl⟩
 refine rwp_det rfl rfl (det_assignN 1 rfl rfl) <|
  rwp_nil <|
  sReg rfl <|
  rwp_det rfl rfl (det_assignN 1 rfl rfl) <|
  rwp_nil <|
  sReg rfl <|
  rwp_det rfl rfl (det_load_agg rfl agg52 rfl (ptr_row 0 rfl) rfl) <|
  rwp_det rfl rfl (det_call rfl ok119 (OwnR.pur (ref14_All e (by omega))) ⟨VLe.refl _, rfl, trivial⟩) <|
  rMv rfl <|
  rwp_nil <|
  awp_seq <|
  sReg rfl <|
  rMv rfl <|
  rwp_nil <|
  awp_block <|
  awp_weak ⟨[(5, .c _), (3, .c _), (4, .c _)], []⟩ (Weak.mk [false] ⟨VLe.of_eq rfl, VLe.of_eq rfl, VLe.of_eq rfl, trivial⟩ rfl) <|
  awp_loop_k 2 0 rfl rfl (Nat) (fun k => [(5, vI k), (3, vSs (insWs [] (readsA ((nodes e).take k))))]) (fun k => []) (fun k => k ≤ (nodes e).length) (fun k => (nodes e).length - k) ⟨0, (by omega), Weak.mk [] ⟨VLe.refl _, VLe.of_eq (rfl), VLe.refl _, trivial⟩ rfl⟩ ?_
 rintro k hk
 refine awp_seq <|
  sReg rfl <|
  rMv rfl <|
  rMv rfl <|
  rwp_det rfl rfl (det_len_slm rfl el50 rfl) <|
  rwp_det rfl rfl (det_lss rfl rfl rfl) <|
  rwp_nil <|
  awp_cond rfl (fun c1 => ?_) (fun c1 => ?_)
 ·try simp only [sx] at c1
  obtain ⟨x, hx⟩ := ex_get (nodes e) k (by omega)
  have hlen := readsP_len (e := e) (pre := (nodes e).take k) (suf := (nodes e).drop k) (by rw [List.take_append_drop])
  have hxw := node_mem_wt e x (mem_of_get hx)
  obtain ⟨_, hXI, _⟩ := x.parts hxw
  refine awp_skip <|
   awp_seq <|
   awp_block <|
   awp_seq <|
   sReg rfl <|
   rMv rfl <|
   rMv rfl <|
   rwp_det rfl rfl (det_index_sl rfl el50 rfl rfl (by omega) (getmE (by assumption))) <|
   rwp_det rfl rfl (det_field_imm rfl fd52_0 rfl) <|
   rwp_det rfl rfl (det_load_one rfl one3 rfl ptr_imm rfl) <|
   rwp_det rfl rfl (det_eql rfl rfl rfl) <|
   rwp_nil <|
   awp_cond rfl (fun c2 => ?_) (fun c2 => ?_)
  ·try simp only [sx] at c2
   refine awp_region rfl <|
    rMv rfl <|
    rMv rfl <|
    rMv rfl <|
    rwp_det rfl rfl (det_index_sl rfl el50 rfl rfl (by omega) (getmE (by assumption))) <|
    rwp_det rfl rfl (det_field_imm rfl fd52_1 rfl) <|
    rwp_det rfl rfl (det_load_one rfl one9 rfl ptr_imm rfl) <|
    rwp_det rfl rfl (det_call rfl ok120 (ref14_With (insWs [] (readsA ((nodes e).take k))) x.Name (by have := insWs0_len (readsA ((nodes e).take k)); omega)) ⟨VLe.refl _, rfl, VLe.refl _, rfl, trivial⟩) <|
    rMv rfl <|
    rwp_nil <|
    sReg rfl <|
    rMv rfl <|
    rwp_nil <|
    awp_block <|
    awp_weak ⟨[(6, .c _), (3, .c _), (4, .c _), (5, .c _)], []⟩ (Weak.mk [] ⟨VLe.of_eq rfl, VLe.of_eq rfl, VLe.of_eq rfl, VLe.of_eq rfl, trivial⟩ rfl) <|
    awp_loop_k 2 0 rfl rfl (Nat) (fun j => [(6, vI j), (3, vSs (insWs [] (readsA ((nodes e).take k) ++ opRead x ++ readsI (x.Idx.take j))))]) (fun j => []) (fun j => j ≤ x.Idx.length) (fun j => x.Idx.length - j) ⟨0, (by omega), Weak.mk [] ⟨VLe.refl _, VLe.of_eq (congrArg vSs (by first | exact reads_0t c2 | exact reads_0f c2)), VLe.refl _, VLe.refl _, trivial⟩ rfl⟩ ?_
   rintro j hj
   refine awp_seq <|
    sReg rfl <|
    rMv rfl <|
    rMv rfl <|
    rMv rfl <|
    rwp_det rfl rfl (det_index_sl rfl el50 rfl rfl (by omega) (getmE hx)) <|
    rwp_det rfl rfl (det_field_imm rfl fd52_5 rfl) <|
    rwp_det rfl rfl (det_load_one rfl one44 rfl ptr_imm rfl) <|
    rwp_det rfl rfl (det_len_slm rfl el44 rfl) <|
    rwp_det rfl rfl (det_lss rfl rfl rfl) <|
    rwp_nil <|
    awp_cond rfl (fun c3 => ?_) (fun c3 => ?_)
   ·try simp only [sx] at c3
    obtain ⟨i, hi⟩ := ex_get x.Idx j (by omega)
    refine awp_skip <|
     awp_seq <|
     awp_block <|
     sReg rfl <|
     rMv rfl <|
     rMv rfl <|
     rwp_det rfl rfl (det_index_sl rfl el50 rfl rfl (by omega) (getmE hx)) <|
     rwp_det rfl rfl (det_field_imm rfl fd52_5 rfl) <|
     rwp_det rfl rfl (det_load_one rfl one44 rfl ptr_imm rfl) <|
     rMv rfl <|
     rwp_det rfl rfl (det_index_sl rfl el44 rfl rfl (by omega) (getm hi)) <|
     rwp_det rfl rfl (det_field_imm rfl fd114_1 rfl) <|
     rwp_det rfl rfl (det_load_one rfl one9 rfl ptr_imm rfl) <|
     rwp_det rfl rfl (det_sneq rfl rfl rfl) <|
     rwp_nil <|
     awp_cond rfl (fun c4 => ?_) (fun c4 => ?_)
    ·try simp only [sx] at c4
     refine awp_region rfl <|
      rMv rfl <|
      rMv rfl <|
      rMv rfl <|
      rwp_det rfl rfl (det_index_sl rfl el50 rfl rfl (by omega) (getmE hx)) <|
      rwp_det rfl rfl (det_field_imm rfl fd52_5 rfl) <|
      rwp_det rfl rfl (det_load_one rfl one44 rfl ptr_imm rfl) <|
      rMv rfl <|
      rwp_det rfl rfl (det_index_sl rfl el44 rfl rfl (by omega) (getm hi)) <|
      rwp_det rfl rfl (det_field_imm rfl fd114_1 rfl) <|
      rwp_det rfl rfl (det_load_one rfl one9 rfl ptr_imm rfl) <|
      rwp_det rfl rfl (det_call rfl ok120 (ref14_With (insWs [] (readsA ((nodes e).take k) ++ opRead x ++ readsI (x.Idx.take j))) i.From (by have := insWs0_len (readsA ((nodes e).take k) ++ opRead x ++ readsI (x.Idx.take j)); rw [List.length_append, List.length_append] at this; have := readsI_take x.Idx j; have := opRead_len x; omega)) ⟨VLe.refl _, rfl, VLe.refl _, rfl, trivial⟩) <|
      rMv rfl <|
      rwp_nil <|
      awp_region rfl <|
      rMv rfl <|
      rwp_det rfl rfl (det_add_nw rfl rfl rfl ⟨by omega, by omega⟩) <|
      rMv rfl <|
      rwp_nil ?_
     refine ⟨j + 1, (by omega), (by omega), Weak.mk [] ⟨VLe.refl _, VLe.of_eq (congrArg vSs (by first | exact reads_st hi c4 | exact reads_sf hi c4)), VLe.refl _, VLe.refl _, trivial⟩ rfl⟩
    ·try simp only [sx] at c4
     refine awp_skip <|
      awp_region rfl <|
      rMv rfl <|
      rwp_det rfl rfl (det_add_nw rfl rfl rfl ⟨by omega, by omega⟩) <|
      rMv rfl <|
      rwp_nil ?_
     refine ⟨j + 1, (by omega), (by omega), Weak.mk [] ⟨VLe.refl _, VLe.of_eq (congrArg vSs (by first | exact reads_st hi c4 | exact reads_sf hi c4)), VLe.refl _, VLe.refl _, trivial⟩ rfl⟩
   ·try simp only [sx] at c3
    rw [take_all (l := x.Idx) (k := j) (by omega)]
    refine awp_exit <|
     awp_region rfl <|
     rMv rfl <|
     rwp_det rfl rfl (det_add_nw rfl rfl rfl ⟨by omega, by omega⟩) <|
     rMv rfl <|
     rwp_nil ?_
    refine ⟨k + 1, (by omega), (by omega), Weak.mk [] ⟨VLe.refl _, VLe.of_eq (congrArg vSs (by rw [take_next hx, readsA_one])), VLe.refl _, trivial⟩ rfl⟩
  ·try simp only [sx] at c2
   refine awp_skip <|
    sReg rfl <|
    rMv rfl <|
    rwp_nil <|
    awp_block <|
    awp_weak ⟨[(6, .c _), (3, .c _), (4, .c _), (5, .c _)], []⟩ (Weak.mk [] ⟨VLe.of_eq rfl, VLe.of_eq rfl, VLe.of_eq rfl, VLe.of_eq rfl, trivial⟩ rfl) <|
    awp_loop_k 2 0 rfl rfl (Nat) (fun j => [(6, vI j), (3, vSs (insWs [] (readsA ((nodes e).take k) ++ opRead x ++ readsI (x.Idx.take j))))]) (fun j => []) (fun j => j ≤ x.Idx.length) (fun j => x.Idx.length - j) ⟨0, (by omega), Weak.mk [] ⟨VLe.refl _, VLe.of_eq (congrArg vSs (by first | exact reads_0t c2 | exact reads_0f c2)), VLe.refl _, VLe.refl _, trivial⟩ rfl⟩ ?_
   rintro j hj
   refine awp_seq <|
    sReg rfl <|
    rMv rfl <|
    rMv rfl <|
    rMv rfl <|
    rwp_det rfl rfl (det_index_sl rfl el50 rfl rfl (by omega) (getmE hx)) <|
    rwp_det rfl rfl (det_field_imm rfl fd52_5 rfl) <|
    rwp_det rfl rfl (det_load_one rfl one44 rfl ptr_imm rfl) <|
    rwp_det rfl rfl (det_len_slm rfl el44 rfl) <|
    rwp_det rfl rfl (det_lss rfl rfl rfl) <|
    rwp_nil <|
    awp_cond rfl (fun c3 => ?_) (fun c3 => ?_)
   ·try simp only [sx] at c3
    obtain ⟨i, hi⟩ := ex_get x.Idx j (by omega)
    refine awp_skip <|
     awp_seq <|
     awp_block <|
     sReg rfl <|
     rMv rfl <|
     rMv rfl <|
     rwp_det rfl rfl (det_index_sl rfl el50 rfl rfl (by omega) (getmE hx)) <|
     rwp_det rfl rfl (det_field_imm rfl fd52_5 rfl) <|
     rwp_det rfl rfl (det_load_one rfl one44 rfl ptr_imm rfl) <|
     rMv rfl <|
     rwp_det rfl rfl (det_index_sl rfl el44 rfl rfl (by omega) (getm hi)) <|
     rwp_det rfl rfl (det_field_imm rfl fd114_1 rfl) <|
     rwp_det rfl rfl (det_load_one rfl one9 rfl ptr_imm rfl) <|
     rwp_det rfl rfl (det_sneq rfl rfl rfl) <|
     rwp_nil <|
     awp_cond rfl (fun c4 => ?_) (fun c4 => ?_)
    ·try simp only [sx] at c4
     refine awp_region rfl <|
      rMv rfl <|
      rMv rfl <|
      rMv rfl <|
      rwp_det rfl rfl (det_index_sl rfl el50 rfl rfl (by omega) (getmE hx)) <|
      rwp_det rfl rfl (det_field_imm rfl fd52_5 rfl) <|
      rwp_det rfl rfl (det_load_one rfl one44 rfl ptr_imm rfl) <|
      rMv rfl <|
      rwp_det rfl rfl (det_index_sl rfl el44 rfl rfl (by omega) (getm hi)) <|
      rwp_det rfl rfl (det_field_imm rfl fd114_1 rfl) <|
      rwp_det rfl rfl (det_load_one rfl one9 rfl ptr_imm rfl) <|
      rwp_det rfl rfl (det_call rfl ok120 (ref14_With (insWs [] (readsA ((nodes e).take k) ++ opRead x ++ readsI (x.Idx.take j))) i.From (by have := insWs0_len (readsA ((nodes e).take k) ++ opRead x ++ readsI (x.Idx.take j)); rw [List.length_append, List.length_append] at this; have := readsI_take x.Idx j; have := opRead_len x; omega)) ⟨VLe.refl _, rfl, VLe.refl _, rfl, trivial⟩) <|
      rMv rfl <|
      rwp_nil <|
      awp_region rfl <|
      rMv rfl <|
      rwp_det rfl rfl (det_add_nw rfl rfl rfl ⟨by omega, by omega⟩) <|
      rMv rfl <|
      rwp_nil ?_
     refine ⟨j + 1, (by omega), (by omega), Weak.mk [] ⟨VLe.refl _, VLe.of_eq (congrArg vSs (by first | exact reads_st hi c4 | exact reads_sf hi c4)), VLe.refl _, VLe.refl _, trivial⟩ rfl⟩
    ·try simp only [sx] at c4
     refine awp_skip <|
      awp_region rfl <|
      rMv rfl <|
      rwp_det rfl rfl (det_add_nw rfl rfl rfl ⟨by omega, by omega⟩) <|
      rMv rfl <|
      rwp_nil ?_
     refine ⟨j + 1, (by omega), (by omega), Weak.mk [] ⟨VLe.refl _, VLe.of_eq (congrArg vSs (by first | exact reads_st hi c4 | exact reads_sf hi c4)), VLe.refl _, VLe.refl _, trivial⟩ rfl⟩
   ·try simp only [sx] at c3
    rw [take_all (l := x.Idx) (k := j) (by omega)]
    refine awp_exit <|
     awp_region rfl <|
     rMv rfl <|
     rwp_det rfl rfl (det_add_nw rfl rfl rfl ⟨by omega, by omega⟩) <|
     rMv rfl <|
     rwp_nil ?_
    refine ⟨k + 1, (by omega), (by omega), Weak.mk [] ⟨VLe.refl _, VLe.of_eq (congrArg vSs (by rw [take_next hx, readsA_one])), VLe.refl _, trivial⟩ rfl⟩
 ·try simp only [sx] at c1
  rw [take_all (l := nodes e) (k := k) (by omega)]
  refine awp_exit <|
   sReg rfl <|
   rMv rfl <|
   rMv rfl <|
   rwp_nil <|
   awp_ret <|
   fin1 (rs_c rfl) ?_
  rfl

theorem ref41_Accesses_step (s : St) (t : ByteArray) (ih : ∀ a, a ∈ s.Body → a.wt ≤ 900000 → Pur cfg 19 [vSt a, vS t] (vB (accS t a))) (hs : s.wt ≤ 900000) :
    Pur cfg 19 [vSt s, vS t] (vB (accS t s)) := by
 refine con_intro Tryz.func19 rfl Tryz.ntmps19 Tryz.results19 rfl ?_
 intro z hz
 obtain ⟨hE, hI, hIw, hB, hBw⟩ := St.parts hs
 have hsw := St.wt_eq s
 have hix := idxE_wt s.Idx
 have hrl := insWs0_len (readsA (nodes s.E))
 have hrl2 := insWs0_len (readsA (nodes (idxE s.Idx)))
 have hra := readsA_len s.E
 have hra2 := readsA_len (idxE s.Idx)
 refine sReg rfl <|
  rwp_op rfl rfl (ope_box rfl rfl) ?_
 rintro _ _ ⟨b1, rfl, rfl⟩
 refine rMv rfl <|
  rwp_nil <|
  awp_seq <|
  sReg rfl <|
  rwp_det rfl rfl (det_field_lit rfl fd54_0 rfl) <|
  rwp_det rfl rfl (det_load_one rfl one3 rfl (ptr_row 0 rfl) rfl) <|
  rwp_det rfl rfl (det_eql rfl rfl rfl) <|
  rMv rfl <|
  rLz [] rfl gv1 trivial (fun g1_3 => det_field_lit rfl fd54_0 rfl) rfl <|
  rLz [(10, _)] rfl gv1 ⟨rfl, rfl, trivial⟩ (fun g1_3 => det_load_one rfl one3 rfl (ptr_row 0 rfl) rfl) rfl <|
  rLz [(11, _)] rfl gv1 ⟨rfl, rfl, trivial⟩ (fun g1_3 => det_eql rfl rfl rfl) rfl <|
  rwp_det rfl rfl (det_or rfl rfl rfl rfl (fun h => (lzf h))) <|
  rMv rfl <|
  rLz [] rfl gv1 trivial (fun g1_8 => det_field_lit rfl fd54_1 rfl) rfl <|
  rLz [(15, _)] rfl gv1 ⟨rfl, rfl, trivial⟩ (fun g1_8 => det_load_one rfl one9 rfl (ptr_row 0 rfl) rfl) rfl <|
  rLz [] rfl gv1 trivial (fun g1_8 => det_move rfl rfl) rfl <|
  rLz [(16, _), (17, _)] rfl gv1 ⟨rfl, rfl, rfl, rfl, trivial⟩ (fun g1_8 => det_seql rfl rfl rfl) rfl <|
  rwp_det rfl rfl (det_and rfl rfl rfl (fun h => h) rfl) <|
  rwp_nil <|
  awp_cond rfl (fun c1 => ?_) (fun c1 => ?_)
 ·refine sReg rfl <|
   rMv rfl <|
   rwp_nil <|
   awp_ret <|
   fin1 (rs_c rfl) ?_
  rw [acc_1 c1]
 ·refine awp_skip <|
   awp_seq <|
   sReg rfl <|
   rwp_det rfl rfl (det_field_lit rfl fd54_5 rfl) <|
   rwp_det rfl rfl (det_load_one rfl one44 rfl (ptr_row 0 rfl) rfl) <|
   rwp_det rfl rfl (det_buildN [none, none, none, none, none, none, none, none, none, none, some 2, none, some 13] rfl zr52 pl52 rfl rfl) <|
   rwp_det rfl rfl (det_call rfl ok67 (ref14_Reads (idxE s.Idx) (by omega)) ⟨VLe.refl _, rfl, trivial⟩) <|
   rMv rfl <|
   rwp_det rfl rfl (det_call rfl ok49 (base_Has (readsW (idxE s.Idx)) t (by unfold readsW; omega)) ⟨VLe.refl _, rfl, VLe.refl _, rfl, trivial⟩) <|
   rMv rfl <|
   rLz [] rfl gv1 trivial (fun g3_6 => det_field_lit rfl fd54_6 rfl) rfl <|
   rLz [(27, _)] rfl gv1 ⟨rfl, rfl, trivial⟩ (fun g3_6 => det_load_agg rfl agg52 rfl (ptr_row 0 rfl) rfl) rfl <|
   rLz [(28, _)] rfl gv1 ⟨rfl, rfl, trivial⟩ (fun g3_6 => det_call rfl ok67 (ref14_Reads s.E (by omega)) ⟨VLe.refl _, rfl, trivial⟩) rfl <|
   rLz [] rfl gv1 trivial (fun g3_6 => det_move rfl rfl) rfl <|
   rLz [(29, _), (30, _)] rfl gv1 ⟨rfl, rfl, rfl, rfl, trivial⟩ (fun g3_6 => det_call rfl ok49 (base_Has (readsW s.E) t (by unfold readsW; omega)) ⟨VLe.refl _, rfl, VLe.refl _, rfl, trivial⟩) rfl <|
   rwp_det rfl rfl (det_or rfl rfl rfl rfl (fun h => (lzf h))) <|
   rwp_nil <|
   awp_cond rfl (fun c2 => ?_) (fun c2 => ?_)
  ·refine sReg rfl <|
    rMv rfl <|
    rwp_nil <|
    awp_ret <|
    fin1 (rs_c rfl) ?_
   rw [acc_2 c2]
  ·have h0 := acc_0 c1 c2
   refine awp_skip <|
    awp_seq <|
    sReg rfl <|
    rMv rfl <|
    rwp_nil <|
    awp_block <|
    awp_weak ⟨[(5, .c _), (1, .c _), (2, .c _)], [_]⟩ (Weak.mk [true] ⟨VLe.of_eq rfl, VLe.of_eq rfl, VLe.of_eq rfl, trivial⟩ rfl) <|
    awp_loop_k 1 0 rfl rfl (Nat) (fun k => [(5, vI k)]) (fun k => []) (fun k => k ≤ s.Body.length ∧ (accL t s.Body = accL t (s.Body.drop k))) (fun k => s.Body.length - k) ⟨0, ⟨by omega, rfl⟩, Weak.mk [true] ⟨VLe.refl _, VLe.refl _, VLe.refl _, trivial⟩ rfl⟩ ?_
   rintro k ⟨hk, hp⟩
   refine awp_seq <|
    sReg rfl <|
    rMv rfl <|
    rwp_det rfl rfl (det_field_lit rfl fd54_7 rfl) <|
    rwp_det rfl rfl (det_load_one rfl one23 rfl (ptr_row 0 rfl) rfl) <|
    rwp_det rfl rfl (det_len_slm rfl el23 rfl) <|
    rwp_det rfl rfl (det_lss rfl rfl rfl) <|
    rwp_nil <|
    awp_cond rfl (fun c3 => ?_) (fun c3 => ?_)
   ·try simp only [sx] at c3
    obtain ⟨a, ha⟩ := ex_get s.Body k (by omega)
    refine awp_skip <|
     awp_seq <|
     awp_block <|
     sReg rfl <|
     rwp_det rfl rfl (det_field_lit rfl fd54_7 rfl) <|
     rwp_det rfl rfl (det_load_one rfl one23 rfl (ptr_row 0 rfl) rfl) <|
     rMv rfl <|
     rwp_det rfl rfl (det_index_sl rfl el23 rfl rfl (by omega) (getmS ha)) <|
     rwp_det rfl rfl (det_load_agg rfl agg54 rfl ptr_imm rfl) <|
     rMv rfl <|
     rwp_det rfl rfl (det_call rfl ok19 (ih a (mem_of_get ha) (by have := stsWt_mem (mem_of_get ha); omega)) ⟨VLe.refl _, rfl, VLe.refl _, rfl, trivial⟩) <|
     rwp_nil <|
     awp_cond rfl (fun c4 => ?_) (fun c4 => ?_)
    ·try simp only [sx] at c4
     refine sReg rfl <|
      rMv rfl <|
      rwp_nil <|
      awp_ret <|
      fin1 (rs_c rfl) ?_
     rw [h0, hp, drop_cons ha, accL, c4]; rfl
    ·try simp only [sx] at c4
     refine awp_skip <|
      awp_region rfl <|
      rMv rfl <|
      rwp_det rfl rfl (det_add_nw rfl rfl rfl ⟨by omega, by omega⟩) <|
      rMv rfl <|
      rwp_nil ?_
     refine ⟨k + 1, ⟨by omega, by rw [hp, drop_cons ha, accL, c4]; rfl⟩, (by omega), Weak.mk [true] ⟨VLe.refl _, VLe.refl _, VLe.refl _, trivial⟩ rfl⟩
   ·try simp only [sx] at c3
    refine awp_exit <|
     sReg rfl <|
     rMv rfl <|
     rwp_nil <|
     awp_ret <|
     fin1 (rs_c rfl) ?_
    rw [h0, hp, drop_end (by omega), accL]

theorem ref41_Accesses (s : St) (t : ByteArray) (hs : s.wt ≤ 900000) : Pur cfg 19 [vSt s, vS t] (vB (accS t s)) := by
  induction s using St.ind with
  | _ s ih => exact ref41_Accesses_step s t ih hs

end Go.W
