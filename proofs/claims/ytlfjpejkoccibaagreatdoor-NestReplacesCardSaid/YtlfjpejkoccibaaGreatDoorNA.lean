/-
  Walks: what functions of the program compute. Printed by wip/gen/mk2.py.
  Conditions: none.
-/
import Derived.Test.YtlfjpejkoccibaaGreatDoorVC
import Derived.Test.YtlfjpejkoccibaaGreatDoorEngZ
import Derived.Test.YtlfjpejkoccibaaGreatDoorPlain2
set_option linter.unusedSimpArgs false
set_option linter.unusedVariables false
set_option maxRecDepth 10000
namespace Go.W
open Go Go.Eng Go.Proofs Go.L41 Go.Br
attribute [local irreducible] AWP RWP TD finQ
theorem agg65 : aggT Tryz.prog 65 = some 8 := by kernel_rfl
theorem el22 : elemT Tryz.prog 22 = some (65, 8, 88) := by kernel_rfl
theorem el23 : elemT Tryz.prog 23 = some (46, 20, 256) := by kernel_rfl
theorem fd25_0 : fieldT Tryz.prog 25 0 = some (0, 22) := by kernel_rfl
theorem fd46_7 : fieldT Tryz.prog 46 7 = some (19, 23) := by kernel_rfl
theorem fd65_0 : fieldT Tryz.prog 65 0 = some (0, 9) := by kernel_rfl
theorem fd65_1 : fieldT Tryz.prog 65 1 = some (1, 38) := by kernel_rfl
theorem fd65_2 : fieldT Tryz.prog 65 2 = some (6, 26) := by kernel_rfl
theorem fd65_3 : fieldT Tryz.prog 65 3 = some (7, 3) := by kernel_rfl
theorem ok46 : callOk Tryz.prog 46 = true := by kernel_rfl
theorem ok79 : callOk Tryz.prog 79 = true := by kernel_rfl
theorem ok80 : callOk Tryz.prog 80 = true := by kernel_rfl
theorem ok89 : callOk Tryz.prog 89 = true := by kernel_rfl
theorem ok96 : callOk Tryz.prog 96 = true := by kernel_rfl
theorem ok125 : callOk Tryz.prog 125 = true := by kernel_rfl
theorem ok126 : callOk Tryz.prog 126 = true := by kernel_rfl
theorem ok128 : callOk Tryz.prog 128 = true := by kernel_rfl
theorem ok160 : callOk Tryz.prog 160 = true := by kernel_rfl
theorem one22 : oneT Tryz.prog 22 = true := by kernel_rfl
theorem one23 : oneT Tryz.prog 23 = true := by kernel_rfl
theorem one26 : oneT Tryz.prog 26 = true := by kernel_rfl
theorem pl65 : placesT Tryz.prog 65 = some [(0, 1), (1, 5), (6, 1), (7, 1)] := by kernel_rfl
theorem sz26 : (Tryz.prog.info? 26).map (·.size) = some 1 := by kernel_rfl
theorem sz65 : (Tryz.prog.info? 65).map (·.size) = some 8 := by kernel_rfl
theorem zr65 : zeroT Tryz.prog 65 = some [(Value.string (ByteArray.mk #[])), (Value.int IntKind.i64 0), (Value.int IntKind.i64 0), (Value.int IntKind.i64 0), (Value.int IntKind.i64 0), (Value.int IntKind.i64 0), (Value.slice none 0 0), (Value.int IntKind.i64 0)] := by kernel_rfl
theorem shape_Validate (d : List Int) (hl : d.length ≤ 17592186044416) :
    Pur cfg 128 [vIs d] (vI (dimsErr d)) := by
 refine con_intro Tryz.func128 rfl Tryz.ntmps128 Tryz.results128 rfl ?_
 intro z hz
 refine sReg rfl <|
  rMv rfl <|
  rwp_nil <|
  awp_seq <|
  sReg rfl <|
  rMv rfl <|
  rwp_det rfl rfl (det_len_slm rfl el26 rfl) <|
  rwp_det rfl rfl (det_gtr rfl rfl rfl) <|
  rwp_nil <|
  awp_cond rfl (fun c1 => ?_) (fun c1 => ?_)
 ·try simp only [sx] at c1
  have hlong := dims_long (d := d) (by omega)
  refine sReg rfl <|
   rMv rfl <|
   rwp_nil <|
   awp_ret <|
   fin1 (rs_c rfl) ?_
  rw [hlong]
 ·try simp only [sx] at c1
  refine awp_skip <|
   awp_seq <|
   sReg rfl <|
   rMv rfl <|
   rwp_det rfl rfl (det_len_slm rfl el26 rfl) <|
   rMv rfl <|
   rwp_nil <|
   awp_block <|
   awp_weak ⟨[(13, .c _), (0, .c _), (11, .c _), (12, .c _)], []⟩ (Weak.mk [] ⟨VLe.of_eq rfl, VLe.of_eq rfl, VLe.of_eq rfl, VLe.of_eq rfl, trivial⟩ rfl) <|
   awp_loop_k 1 0 rfl rfl (Nat) (fun k => [(13, vI k)]) (fun k => []) (fun k => k ≤ d.length ∧ ((d.take k).all posI = true)) (fun k => d.length - k) ⟨0, ⟨by omega, rfl⟩, Weak.mk [] ⟨VLe.refl _, VLe.refl _, VLe.refl _, VLe.refl _, trivial⟩ rfl⟩ ?_
  rintro k ⟨hk, hp⟩
  refine sReg rfl <|
   rwp_det rfl rfl (det_lss rfl rfl rfl) <|
   rwp_nil <|
   awp_seq <|
   awp_cond rfl (fun c2 => ?_) (fun c2 => ?_)
  ·try simp only [sx] at c2
   obtain ⟨n, hn⟩ := ex_get d k (by omega)
   refine awp_skip <|
    awp_seq <|
    awp_block <|
    sReg rfl <|
    rwp_det rfl rfl (det_index_sl rfl el26 rfl rfl (by omega) (getm (by assumption))) <|
    rwp_det rfl rfl (det_load_one rfl one3 rfl ptr_imm rfl) <|
    rMv rfl <|
    rwp_nil <|
    sReg rfl <|
    rMv rfl <|
    rwp_det rfl rfl (det_lss rfl rfl rfl) <|
    rwp_nil <|
    awp_cond rfl (fun c3 => ?_) (fun c3 => ?_)
   ·try simp only [sx] at c3
    have hneg := dims_neg (d := d) (by omega) hn c3
    refine sReg rfl <|
     rMv rfl <|
     rwp_nil <|
     awp_ret <|
     fin1 (rs_c rfl) ?_
    rw [hneg]
   ·try simp only [sx] at c3
    refine awp_skip <|
     awp_region rfl <|
     rwp_det rfl rfl (det_add_nw rfl rfl rfl ⟨by omega, by omega⟩) <|
     rMv rfl <|
     rwp_nil ?_
    refine ⟨k + 1, ⟨by omega, allP_next hn hp (by unfold posI; exact decide_eq_true (by omega))⟩, (by omega), Weak.mk [] ⟨VLe.refl _, VLe.refl _, VLe.refl _, VLe.refl _, trivial⟩ rfl⟩
  ·try simp only [sx] at c2
   have hpos : d.all posI = true := by rw [take_all (by omega)] at hp; exact hp
   refine awp_exit <|
    sReg rfl <|
    rMv rfl <|
    rwp_nil <|
    awp_seq <|
    sReg rfl <|
    rMv rfl <|
    rwp_det rfl rfl (det_len_slm rfl el26 rfl) <|
    rMv rfl <|
    rwp_nil <|
    awp_block <|
    awp_weak ⟨[(22, .c _), (5, .c _), (20, .c _), (21, .c _)], []⟩ (Weak.mk [] ⟨VLe.of_eq rfl, VLe.of_eq rfl, VLe.of_eq rfl, VLe.of_eq rfl, trivial⟩ rfl) <|
    awp_loop_k 2 0 rfl rfl (Nat × Int) (fun ⟨j, s⟩ => [(22, vI j), (5, vI s)]) (fun ⟨j, s⟩ => []) (fun ⟨j, s⟩ => j ≤ d.length ∧ (1 ≤ s) ∧ (s ≤ 4096) ∧ (sizeFrom 1 d = sizeFrom s (d.drop j))) (fun ⟨j, s⟩ => d.length - j) ⟨⟨0, 1⟩, ⟨by omega, by omega, by omega, rfl⟩, Weak.mk [] ⟨VLe.refl _, VLe.of_eq (rfl), VLe.refl _, VLe.refl _, trivial⟩ rfl⟩ ?_
   rintro ⟨j, s⟩ ⟨hj, hs1, hs2, hs3⟩
   show AWP _ _ _ _ _ ⟨[(22, vI j), (5, vI s)] ++ _, [] ++ _⟩
   refine sReg rfl <|
    rwp_det rfl rfl (det_lss rfl rfl rfl) <|
    rwp_nil <|
    awp_seq <|
    awp_cond rfl (fun c4 => ?_) (fun c4 => ?_)
   ·try simp only [sx] at c4
    obtain ⟨m, hm⟩ := ex_get d j (by omega)
    refine awp_skip <|
     awp_seq <|
     awp_block <|
     sReg rfl <|
     rwp_det rfl rfl (det_index_sl rfl el26 rfl rfl (by omega) (getm (by assumption))) <|
     rwp_det rfl rfl (det_load_one rfl one3 rfl ptr_imm rfl) <|
     rMv rfl <|
     rwp_nil <|
     awp_seq <|
     sReg rfl <|
     rMv rfl <|
     rMv rfl <|
     rwp_det rfl rfl (det_quo rfl rfl rfl (by omega)) <|
     rwp_det rfl rfl (det_gtr rfl rfl rfl) <|
     rwp_nil <|
     awp_cond rfl (fun c5 => ?_) (fun c5 => ?_)
    ·try simp only [sx] at c5
     have hov := quo_t hs1 c5
     refine sReg rfl <|
      rMv rfl <|
      rwp_nil <|
      awp_ret <|
      fin1 (rs_c rfl) ?_
     rw [dims_over (by omega) hpos (size_over hm hs3 hov)]
    ·try simp only [sx] at c5
     have hov := quo_f hs1 (Int.not_lt.2 c5)
     have hm1 := mul_pos1 hs1 (posI_get hpos hm)
     refine awp_skip <|
      awp_region rfl <|
      rMv rfl <|
      rMv rfl <|
      rwp_det rfl rfl (det_mul_nw rfl rfl rfl (by have := mul_pos1 hs1 (posI_get hpos hm); exact ⟨by omega, by omega⟩)) <|
      rMv rfl <|
      rwp_nil <|
      awp_region rfl <|
      rwp_det rfl rfl (det_add_nw rfl rfl rfl ⟨by omega, by omega⟩) <|
      rMv rfl <|
      rwp_nil ?_
     refine ⟨⟨j + 1, s * m⟩, ⟨by omega, by omega, by omega, size_next hm hs3 hov⟩, (by show d.length - (j + 1) < d.length - j; omega), Weak.mk [] ⟨VLe.refl _, VLe.refl _, VLe.refl _, VLe.refl _, trivial⟩ rfl⟩
   ·try simp only [sx] at c4
    refine awp_exit <|
     sReg rfl <|
     rMv rfl <|
     rwp_nil <|
     awp_ret <|
     fin1 (rs_c rfl) ?_
    rw [dims_ok (by omega) hpos (size_done hs3 (by omega))]

theorem slices_Clone_int (l : List Int) (hl : l.length ≤ 17592186044416) :
    OwnR cfg 96 [vIs l] 3 1 (l.map fun n => [cI n]) := by
 refine con_intro Tryz.func96 rfl Tryz.ntmps96 Tryz.results96 rfl ?_
 intro z hz
 refine sReg rfl <|
  rwp_det rfl rfl (det_assignN 1 rfl rfl) <|
  rwp_nil <|
  awp_seq <|
  sReg rfl <|
  rMv rfl <|
  rwp_op rfl rfl (ope_nileq rfl el26 rfl rfl) ?_
 rintro _ _ ⟨nb1, rfl, hnil1, rfl⟩
 refine rwp_nil <|
  awp_cond rfl (fun c1 => ?_) (fun c1 => ?_)
 ·try simp only [sx] at c1
  refine sReg rfl <|
   rMv rfl <|
   rwp_weak _ (weak_own 3 1) <|
   rwp_nil <|
   awp_ret <|
   fin1 (rs_c rfl) ?_
  exact ⟨_, rfl, by rw [hnil1 c1]⟩
 ·try simp only [sx] at c1
  refine awp_skip <|
   sReg rfl <|
   rwp_op rfl rfl (ope_bslice rfl el26 zr3 rfl rfl rfl rfl) ?_
  rintro _ _ ⟨sv3, rfl, rfl⟩
  refine rMv rfl <|
   rwp_op rfl rfl (ope_append 0 rfl el26 rfl rfl rfl (by simp only [List.length_map, List.length_nil, Nat.zero_add]; omega) (by simp only [List.length_map, List.length_nil, Nat.zero_add]; omega)) ?_
  rintro _ _ ⟨sv4, rfl, rfl⟩
  refine rMv rfl <|
   rwp_nil <|
   awp_ret <|
   fin1 (rs_c rfl) ?_
  exact ⟨_, rfl, rfl⟩

theorem loopnest_copyBuffer (b : Bf) (hl : b.Dims.length ≤ 17592186044416) :
    Pur cfg 89 [vBf b] (vBf b) := by
 refine con_intro Tryz.func89 rfl Tryz.ntmps89 Tryz.results89 rfl ?_
 intro z hz
 refine sReg rfl <|
  rwp_op rfl rfl (ope_box rfl rfl) ?_
 rintro _ _ ⟨b1, rfl, rfl⟩
 refine rwp_op rfl rfl (ope_allocN [none, none, none, none, none, none, some 1, none] rfl zr65 rfl) ?_
 rintro _ _ ⟨b2, rfl, rfl⟩
 refine rwp_nil <|
  sReg rfl <|
  rwp_det rfl rfl (det_field_lit rfl fd65_2 rfl) <|
  rwp_det rfl rfl (det_load_one rfl one26 rfl (ptr_row 1 rfl) rfl) <|
  rwp_det rfl rfl (det_call rfl ok96 (OwnR.pur (slices_Clone_int b.Dims hl)) ⟨VLe.refl _, rfl, trivial⟩) <|
  rwp_det rfl rfl (det_field_lit rfl fd65_2 rfl) <|
  rwp_det0 rfl rfl (det_store rfl sz26 rfl rfl rfl (st_row 1 rfl rfl)) <|
  rwp_nil <|
  sReg rfl <|
  rwp_det rfl rfl (det_load_agg rfl agg65 rfl (ptr_row 1 rfl) rfl) <|
  rwp_det0 rfl rfl (det_store rfl sz65 rfl rfl rfl (st_row 0 rfl rfl)) <|
  rwp_nil <|
  awp_ret <|
  fin1 (rs_cell_agg agg65 rfl (ptr_row 0 rfl) rfl) ?_
 exact rfl

theorem loopnest_Buffer (n : Ns) (s : ByteArray) (hn : n.Ok) :
    Pur cfg 101 [vNs n, vS s] (.tup [vBf (bufD n.Bufs s), vB (hasBf n.Bufs s)]) := by
 refine con_intro Tryz.func101 rfl Tryz.ntmps101 Tryz.results101 rfl ?_
 intro z hz
 have hnb := hn.bufs
 refine sReg rfl <|
  rwp_op rfl rfl (ope_box rfl rfl) ?_
 rintro _ _ ⟨b1, rfl, rfl⟩
 refine rwp_op rfl rfl (ope_allocN [none, none, none, none, none, none, some 1, none] rfl zr65 rfl) ?_
 rintro _ _ ⟨b2, rfl, rfl⟩
 refine rMv rfl <|
  rwp_nil <|
  awp_seq <|
  sReg rfl <|
  rwp_det rfl rfl (det_field_lit rfl fd25_0 rfl) <|
  rwp_det rfl rfl (det_load_one rfl one22 rfl (ptr_row 1 rfl) rfl) <|
  rwp_det rfl rfl (det_len_slm rfl el22 rfl) <|
  rMv rfl <|
  rwp_nil <|
  awp_block <|
  awp_weak ⟨[(10, .c _), (1, .c _), (2, .c _), (4, .c _), (9, .c _)], [_, _]⟩ (Weak.mk [true, true] ⟨VLe.of_eq rfl, VLe.of_eq rfl, VLe.of_eq rfl, VLe.of_eq rfl, VLe.of_eq rfl, trivial⟩ rfl) <|
  awp_loop_k 1 0 rfl rfl (Nat) (fun k => [(10, vI k)]) (fun k => []) (fun k => k ≤ n.Bufs.length ∧ (hasBf (n.Bufs.take k) s = false) ∧ (bufD n.Bufs s = bufD (n.Bufs.drop k) s)) (fun k => n.Bufs.length - k) ⟨0, ⟨by omega, rfl, rfl⟩, Weak.mk [true, true] ⟨VLe.refl _, VLe.refl _, VLe.refl _, VLe.refl _, VLe.refl _, trivial⟩ rfl⟩ ?_
 rintro k ⟨hk, hp, hq⟩
 refine sReg rfl <|
  rwp_det rfl rfl (det_lss rfl rfl rfl) <|
  rwp_nil <|
  awp_seq <|
  awp_cond rfl (fun c1 => ?_) (fun c1 => ?_)
 ·try simp only [sx] at c1
  obtain ⟨b, hb⟩ := ex_get n.Bufs k (by omega)
  refine awp_skip <|
   awp_seq <|
   awp_block <|
   sReg rfl <|
   rMv rfl <|
   rMv rfl <|
   rwp_nil <|
   sReg rfl <|
   rwp_det rfl rfl (det_field_lit rfl fd25_0 rfl) <|
   rwp_det rfl rfl (det_load_one rfl one22 rfl (ptr_row 1 rfl) rfl) <|
   rMv rfl <|
   rwp_det rfl rfl (det_index_sl rfl el22 rfl rfl (by omega) (getm (by assumption))) <|
   rwp_det rfl rfl (det_field_imm rfl fd65_0 rfl) <|
   rwp_det rfl rfl (det_load_one rfl one9 rfl ptr_imm rfl) <|
   rMv rfl <|
   rwp_det rfl rfl (det_seql rfl rfl rfl) <|
   rwp_nil <|
   awp_cond rfl (fun c2 => ?_) (fun c2 => ?_)
  ·try simp only [sx] at c2
   refine sReg rfl <|
    rwp_det rfl rfl (det_field_lit rfl fd25_0 rfl) <|
    rwp_det rfl rfl (det_load_one rfl one22 rfl (ptr_row 1 rfl) rfl) <|
    rMv rfl <|
    rwp_det rfl rfl (det_index_sl rfl el22 rfl rfl (by omega) (getm (by assumption))) <|
    rwp_det rfl rfl (det_load_agg rfl agg65 rfl ptr_imm rfl) <|
    rwp_det rfl rfl (det_call rfl ok89 (loopnest_copyBuffer b (hn.dims b (mem_of_get hb))) ⟨VLe.refl _, rfl, trivial⟩) <|
    rwp_det0 rfl rfl (det_store rfl sz65 rfl rfl rfl (st_row 0 rfl rfl)) <|
    rMv rfl <|
    rwp_nil <|
    awp_ret <|
    fin2 (rs_cell_agg agg65 rfl (ptr_row 0 rfl) rfl) (rs_c rfl) ?_
   rw [hasBf_at hb c2, hq, bufD_at hb c2]; rfl
  ·try simp only [sx] at c2
   refine awp_skip <|
    awp_region rfl <|
    rwp_det rfl rfl (det_add_nw rfl rfl rfl ⟨by omega, by omega⟩) <|
    rMv rfl <|
    rwp_nil ?_
   refine ⟨k + 1, ⟨by omega, hasBf_next hb hp c2, hq.trans (bufD_next hb c2)⟩, (by omega), Weak.mk [true, true] ⟨VLe.refl _, VLe.refl _, VLe.refl _, VLe.refl _, VLe.refl _, trivial⟩ rfl⟩
 ·try simp only [sx] at c1
  refine awp_exit <|
   sReg rfl <|
   rwp_det rfl rfl (det_buildN [none, none, none, none, none, none, some 1, none] rfl zr65 pl65 rfl rfl) <|
   rwp_det0 rfl rfl (det_store rfl sz65 rfl rfl rfl (st_row 0 rfl rfl)) <|
   rMv rfl <|
   rwp_nil <|
   awp_ret <|
   fin2 (rs_cell_agg agg65 rfl (ptr_row 0 rfl) rfl) (rs_c rfl) ?_
  rw [take_all (by omega)] at hp; rw [hp, bufD_no hp]; rfl

theorem within_step (n : Nat) (ih : n ≠ 0 → ∀ (l : List St) (x : Int), stsWt l ≤ 1073741824 → x = ((n - 1 : Nat) : Int) → Pur cfg 79 [vSts l, vI x] (vB (withinT (n - 1) l))) (l : List St) (x : Int) (hn : n ≤ 100) (hl : stsWt l ≤ 1073741824) (hx : x = n) :
    Pur cfg 79 [vSts l, vI x] (vB (withinT n l)) := by
 refine con_intro Tryz.func79 rfl Tryz.ntmps79 Tryz.results79 rfl ?_
 intro z hz
 have hll := stsWt_len l
 refine sReg rfl <|
  rMv rfl <|
  rwp_nil <|
  awp_seq <|
  sReg rfl <|
  rMv rfl <|
  rwp_det rfl rfl (det_len_slm rfl el23 rfl) <|
  rMv rfl <|
  rwp_nil <|
  awp_block <|
  awp_weak ⟨[(8, .c _), (0, .c _), (1, .c _), (7, .c _)], []⟩ (Weak.mk [] ⟨VLe.of_eq rfl, VLe.of_eq rfl, VLe.of_eq rfl, VLe.of_eq rfl, trivial⟩ rfl) <|
  awp_loop_k 1 0 rfl rfl (Nat) (fun k => [(8, vI k)]) (fun k => []) (fun k => k ≤ l.length ∧ (withinG n (l.take k) = true)) (fun k => l.length - k) ⟨0, ⟨by omega, by cases n <;> rfl⟩, Weak.mk [] ⟨VLe.refl _, VLe.refl _, VLe.refl _, VLe.refl _, trivial⟩ rfl⟩ ?_
 rintro k ⟨hk, hp⟩
 refine sReg rfl <|
  rwp_det rfl rfl (det_lss rfl rfl rfl) <|
  rwp_nil <|
  awp_seq <|
  awp_cond rfl (fun c1 => ?_) (fun c1 => ?_)
 ·try simp only [sx] at c1
  obtain ⟨s, hs⟩ := ex_get l k (by omega)
  refine awp_skip <|
   awp_seq <|
   awp_block <|
   sReg rfl <|
   rMv rfl <|
   rMv rfl <|
   rwp_nil <|
   sReg rfl <|
   rMv rfl <|
   rwp_det rfl rfl (det_lss rfl rfl rfl) <|
   rMv rfl <|
   rLz [] rfl gv1 trivial (fun g4_2 => det_move rfl rfl) rfl <|
   rLz [] rfl gv1 trivial (fun g4_2 => det_move rfl rfl) rfl <|
   rLz [(14, _), (15, _)] rfl gv1 ⟨rfl, rfl, rfl, rfl, trivial⟩ (fun g4_2 => det_index_sl rfl el23 rfl rfl (by omega) (getmS hs)) rfl <|
   rLz [(16, _)] rfl gv1 ⟨rfl, rfl, trivial⟩ (fun g4_2 => det_field_imm rfl fd46_7 rfl) rfl <|
   rLz [(17, _)] rfl gv1 ⟨rfl, rfl, trivial⟩ (fun g4_2 => det_load_one rfl one23 rfl ptr_imm rfl) rfl <|
   rLz [] rfl gv1 trivial (fun g4_2 => det_move rfl rfl) rfl <|
   rLz [(19, _)] rfl gv1 ⟨rfl, rfl, trivial⟩ (fun g4_2 => det_sub_nw rfl rfl rfl ⟨by omega, by omega⟩) rfl <|
   rLz [(18, _), (20, _)] rfl gv1 ⟨rfl, rfl, rfl, rfl, trivial⟩ (fun g4_2 => det_call rfl ok79 (ih (by simp only [Lz, cond_true, cond_false, Bool.and_eq_true, Bool.or_eq_true, Bool.not_eq_true', Bool.not_eq_false', Bool.or_eq_false_iff, Bool.and_eq_false_iff, decide_eq_true_eq, decide_eq_false_iff_not, Bool.not_eq_true, Bool.not_eq_false] at g4_2; omega) s.Body _ (by have := St.body_wt s; have := stsWt_mem (mem_of_get hs); omega) (by simp only [Lz, cond_true, cond_false, Bool.and_eq_true, Bool.or_eq_true, Bool.not_eq_true', Bool.not_eq_false', Bool.or_eq_false_iff, Bool.and_eq_false_iff, decide_eq_true_eq, decide_eq_false_iff_not, Bool.not_eq_true, Bool.not_eq_false] at g4_2; omega)) ⟨VLe.refl _, rfl, VLe.refl _, rfl, trivial⟩) rfl <|
   rLz [(21, _)] rfl gv1 ⟨rfl, rfl, trivial⟩ (fun g4_2 => det_not rfl rfl) rfl <|
   rwp_det rfl rfl (det_or rfl rfl rfl rfl (fun h => (lzf h))) <|
   rwp_nil <|
   awp_cond rfl (fun c2 => ?_) (fun c2 => ?_)
  ·have hno := within_no hs hx c2
   refine sReg rfl <|
    rMv rfl <|
    rwp_nil <|
    awp_ret <|
    fin1 (rs_c rfl) ?_
   rw [hno]
  ·have hyes := within_yes hx c2
   refine awp_skip <|
    awp_region rfl <|
    rwp_det rfl rfl (det_add_nw rfl rfl rfl ⟨by omega, by omega⟩) <|
    rMv rfl <|
    rwp_nil ?_
   refine ⟨k + 1, ⟨by omega, withinG_next hs hp hyes.1 hyes.2⟩, (by omega), Weak.mk [] ⟨VLe.refl _, VLe.refl _, VLe.refl _, VLe.refl _, trivial⟩ rfl⟩
 ·try simp only [sx] at c1
  refine awp_exit <|
   sReg rfl <|
   rMv rfl <|
   rwp_nil <|
   awp_ret <|
   fin1 (rs_c rfl) ?_
  rw [take_all (by omega), withinG_eq] at hp; rw [hp]

theorem loopnest_within (n : Nat) (l : List St) (x : Int) (hn : n ≤ 100) (hl : stsWt l ≤ 1073741824) (hx : x = n) : Pur cfg 79 [vSts l, vI x] (vB (withinT n l)) := by
  induction n generalizing l x with
  | zero => exact within_step 0 (fun h => absurd rfl h) l x hn hl hx
  | succ n ih => exact within_step (n + 1) (fun _ l x h1 h2 => ih l x (by omega) h1 (by omega)) l x hn hl hx

theorem loopnest_countUpTo_step (l : List St) (ih : ∀ s, s ∈ l → ∀ (m : Nat) (x : Int), m ≤ 2147483648 → x = m → Pur cfg 80 [vSts s.Body, vI x] (vI (numB s.Body m))) (m : Nat) (x : Int) (hl : stsWt l ≤ 1073741824) (hm : m ≤ 2147483648) (hx : x = m) :
    Pur cfg 80 [vSts l, vI x] (vI (numB l m)) := by
 refine con_intro Tryz.func80 rfl Tryz.ntmps80 Tryz.results80 rfl ?_
 intro z hz
 have hll := stsWt_len l
 have hNw := stsN_wt l
 refine sReg rfl <|
  rMv rfl <|
  rwp_nil <|
  sReg rfl <|
  rMv rfl <|
  rwp_det rfl rfl (det_len_slm rfl el23 rfl) <|
  rMv rfl <|
  rwp_nil <|
  awp_seq <|
  sReg rfl <|
  rMv rfl <|
  rwp_det rfl rfl (det_len_slm rfl el23 rfl) <|
  rMv rfl <|
  rwp_nil <|
  awp_block <|
  awp_weak ⟨[(11, .c _), (5, .c _), (0, .c _), (1, .c _), (10, .c _)], []⟩ (Weak.mk [] ⟨VLe.of_eq rfl, VLe.of_eq rfl, VLe.of_eq rfl, VLe.of_eq rfl, VLe.of_eq rfl, trivial⟩ rfl) <|
  awp_loop_k 2 0 rfl rfl (Nat × Nat) (fun ⟨k, n⟩ => [(11, vI k), (5, vI n)]) (fun ⟨k, n⟩ => []) (fun ⟨k, n⟩ => k ≤ l.length ∧ (n ≤ 4294967296) ∧ (numB l m = numL (l.drop k) m n)) (fun ⟨k, n⟩ => l.length - k) ⟨⟨0, l.length⟩, ⟨by omega, by omega, rfl⟩, Weak.mk [] ⟨VLe.refl _, VLe.of_eq (congrArg vI (by simp)), VLe.refl _, VLe.refl _, VLe.refl _, trivial⟩ rfl⟩ ?_
 rintro ⟨k, n⟩ ⟨hk, hn, hp⟩
 show AWP _ _ _ _ _ ⟨[(11, vI k), (5, vI n)] ++ _, [] ++ _⟩
 refine sReg rfl <|
  rwp_det rfl rfl (det_lss rfl rfl rfl) <|
  rwp_nil <|
  awp_seq <|
  awp_cond rfl (fun c1 => ?_) (fun c1 => ?_)
 ·try simp only [sx] at c1
  obtain ⟨s, hs⟩ := ex_get l k (by omega)
  refine awp_skip <|
   awp_seq <|
   awp_block <|
   sReg rfl <|
   rMv rfl <|
   rMv rfl <|
   rwp_nil <|
   awp_seq <|
   sReg rfl <|
   rMv rfl <|
   rMv rfl <|
   rwp_det rfl rfl (det_gtr rfl rfl rfl) <|
   rwp_nil <|
   awp_cond rfl (fun c2 => ?_) (fun c2 => ?_)
  ·try simp only [sx] at c2
   refine awp_exit <|
    sReg rfl <|
    rMv rfl <|
    rMv rfl <|
    rwp_nil <|
    awp_ret <|
    fin1 (rs_c rfl) ?_
   exact congrArg vI (by rw [← num_end hp (by omega)])
  ·try simp only [sx] at c2
   have hsum := num_sum hs hp (by omega)
   have hbl := numB_le s.Body (m - n)
   have hsn := stsN_mem (mem_of_get hs)
   have hse := stN_eq s
   refine awp_skip <|
    awp_region rfl <|
    rMv rfl <|
    rMv rfl <|
    rMv rfl <|
    rwp_det rfl rfl (det_index_sl rfl el23 rfl rfl (by omega) (getmS hs)) <|
    rwp_det rfl rfl (det_field_imm rfl fd46_7 rfl) <|
    rwp_det rfl rfl (det_load_one rfl one23 rfl ptr_imm rfl) <|
    rMv rfl <|
    rMv rfl <|
    rwp_det rfl rfl (det_sub_nw rfl rfl rfl ⟨by omega, by omega⟩) <|
    rwp_det rfl rfl (det_call rfl ok80 (ih s (mem_of_get hs) (m - n) _ (by omega) (by omega)) ⟨VLe.refl _, rfl, VLe.refl _, rfl, trivial⟩) <|
    rwp_det rfl rfl (det_add_nw rfl rfl rfl ⟨by omega, by omega⟩) <|
    rMv rfl <|
    rwp_nil <|
    awp_region rfl <|
    rwp_det rfl rfl (det_add_nw rfl rfl rfl ⟨by omega, by omega⟩) <|
    rMv rfl <|
    rwp_nil ?_
   refine ⟨⟨k + 1, n + numB s.Body (m - n)⟩, ⟨by omega, by omega, num_next hs hp (by omega)⟩, (by show l.length - (k + 1) < l.length - k; omega), Weak.mk [] ⟨VLe.refl _, VLe.of_eq (congrArg vI (by omega)), VLe.refl _, VLe.refl _, VLe.refl _, trivial⟩ rfl⟩
 ·try simp only [sx] at c1
  refine awp_exit <|
   sReg rfl <|
   rMv rfl <|
   rMv rfl <|
   rwp_nil <|
   awp_ret <|
   fin1 (rs_c rfl) ?_
  exact congrArg vI (by rw [← num_end hp (by omega)])

theorem loopnest_countUpTo_body (s : St) : ∀ (m : Nat) (x : Int), stsWt s.Body ≤ 1073741824 → m ≤ 2147483648 → x = m → Pur cfg 80 [vSts s.Body, vI x] (vI (numB s.Body m)) := by
  induction s using St.ind with
  | _ s ih => exact fun m x hl hm hx => loopnest_countUpTo_step s.Body (fun a ha m x h1 h2 => ih a ha m x (by have := St.body_wt a; have := stsWt_mem ha; omega) h1 h2) m x hl hm hx
theorem loopnest_countUpTo (l : List St) (m : Nat) (x : Int) (hl : stsWt l ≤ 1073741824) (hm : m ≤ 2147483648) (hx : x = m) : Pur cfg 80 [vSts l, vI x] (vI (numB l m)) :=
  loopnest_countUpTo_step l (fun a ha m x h1 h2 => loopnest_countUpTo_body a m x (by have := St.body_wt a; have := stsWt_mem ha; omega) h1 h2) m x hl hm hx

theorem ref30_size_step (l : List St) (ih : ∀ s, s ∈ l → ∀ (m : Nat) (x : Int), m ≤ 2147483648 → x = m → Pur cfg 46 [vSts s.Body, vI x] (vI (numB s.Body m))) (m : Nat) (x : Int) (hl : stsWt l ≤ 1073741824) (hm : m ≤ 2147483648) (hx : x = m) :
    Pur cfg 46 [vSts l, vI x] (vI (numB l m)) := by
 refine con_intro Tryz.func46 rfl Tryz.ntmps46 Tryz.results46 rfl ?_
 intro z hz
 have hll := stsWt_len l
 have hNw := stsN_wt l
 refine sReg rfl <|
  rMv rfl <|
  rwp_nil <|
  sReg rfl <|
  rMv rfl <|
  rwp_det rfl rfl (det_len_slm rfl el23 rfl) <|
  rMv rfl <|
  rwp_nil <|
  awp_seq <|
  sReg rfl <|
  rMv rfl <|
  rwp_nil <|
  awp_block <|
  awp_weak ⟨[(6, .c _), (5, .c _), (0, .c _), (1, .c _)], []⟩ (Weak.mk [] ⟨VLe.of_eq rfl, VLe.of_eq rfl, VLe.of_eq rfl, VLe.of_eq rfl, trivial⟩ rfl) <|
  awp_loop_k 2 0 rfl rfl (Nat × Nat) (fun ⟨k, n⟩ => [(6, vI k), (5, vI n)]) (fun ⟨k, n⟩ => []) (fun ⟨k, n⟩ => k ≤ l.length ∧ (n ≤ 4294967296) ∧ (numB l m = numL (l.drop k) m n)) (fun ⟨k, n⟩ => l.length - k) ⟨⟨0, l.length⟩, ⟨by omega, by omega, rfl⟩, Weak.mk [] ⟨VLe.refl _, VLe.of_eq (congrArg vI (by simp)), VLe.refl _, VLe.refl _, trivial⟩ rfl⟩ ?_
 rintro ⟨k, n⟩ ⟨hk, hn, hp⟩
 show AWP _ _ _ _ _ ⟨[(6, vI k), (5, vI n)] ++ _, [] ++ _⟩
 refine awp_seq <|
  sReg rfl <|
  rMv rfl <|
  rMv rfl <|
  rwp_det rfl rfl (det_len_slm rfl el23 rfl) <|
  rwp_det rfl rfl (det_lss rfl rfl rfl) <|
  rMv rfl <|
  rLz [] rfl gv1 trivial (fun g3_4 => det_move rfl rfl) rfl <|
  rLz [] rfl gv1 trivial (fun g3_4 => det_move rfl rfl) rfl <|
  rLz [(14, _), (15, _)] rfl gv1 ⟨rfl, rfl, rfl, rfl, trivial⟩ (fun g3_4 => det_leq rfl rfl rfl) rfl <|
  rwp_det rfl rfl (det_and rfl rfl rfl (fun h => h) rfl) <|
  rwp_nil <|
  awp_cond rfl (fun c1 => ?_) (fun c1 => ?_)
 ·try simp only [sx] at c1
  obtain ⟨s, hs⟩ := ex_get l k (by omega)
  have hsum := num_sum hs hp (by omega)
  have hbl := numB_le s.Body (m - n)
  have hsn := stsN_mem (mem_of_get hs)
  have hse := stN_eq s
  refine awp_skip <|
   awp_seq <|
   awp_block <|
   awp_region rfl <|
   rMv rfl <|
   rMv rfl <|
   rMv rfl <|
   rwp_det rfl rfl (det_index_sl rfl el23 rfl rfl (by omega) (getmS hs)) <|
   rwp_det rfl rfl (det_field_imm rfl fd46_7 rfl) <|
   rwp_det rfl rfl (det_load_one rfl one23 rfl ptr_imm rfl) <|
   rMv rfl <|
   rMv rfl <|
   rwp_det rfl rfl (det_sub_nw rfl rfl rfl ⟨by omega, by omega⟩) <|
   rwp_det rfl rfl (det_max rfl rfl rfl) <|
   rwp_det rfl rfl (det_call rfl ok46 (ih s (mem_of_get hs) (m - n) _ (by omega) (by omega)) ⟨VLe.refl _, rfl, VLe.refl _, rfl, trivial⟩) <|
   rwp_det rfl rfl (det_add_nw rfl rfl rfl ⟨by omega, by omega⟩) <|
   rMv rfl <|
   rwp_nil <|
   awp_region rfl <|
   rMv rfl <|
   rwp_det rfl rfl (det_add_nw rfl rfl rfl ⟨by omega, by omega⟩) <|
   rMv rfl <|
   rwp_nil ?_
  refine ⟨⟨k + 1, n + numB s.Body (m - n)⟩, ⟨by omega, by omega, num_next hs hp (by omega)⟩, (by show l.length - (k + 1) < l.length - k; omega), Weak.mk [] ⟨VLe.refl _, VLe.of_eq (congrArg vI (by omega)), VLe.refl _, VLe.refl _, trivial⟩ rfl⟩
 ·try simp only [sx] at c1
  refine awp_exit <|
   sReg rfl <|
   rMv rfl <|
   rMv rfl <|
   rwp_nil <|
   awp_ret <|
   fin1 (rs_c rfl) ?_
  exact congrArg vI (by rw [← num_end hp (by omega)])

theorem ref30_size_body (s : St) : ∀ (m : Nat) (x : Int), stsWt s.Body ≤ 1073741824 → m ≤ 2147483648 → x = m → Pur cfg 46 [vSts s.Body, vI x] (vI (numB s.Body m)) := by
  induction s using St.ind with
  | _ s ih => exact fun m x hl hm hx => ref30_size_step s.Body (fun a ha m x h1 h2 => ih a ha m x (by have := St.body_wt a; have := stsWt_mem ha; omega) h1 h2) m x hl hm hx
theorem ref30_size (l : List St) (m : Nat) (x : Int) (hl : stsWt l ≤ 1073741824) (hm : m ≤ 2147483648) (hx : x = m) : Pur cfg 46 [vSts l, vI x] (vI (numB l m)) :=
  ref30_size_step l (fun a ha m x h1 h2 => ref30_size_body a m x (by have := St.body_wt a; have := stsWt_mem ha; omega) h1 h2) m x hl hm hx

theorem slices_IndexFunc_bf (l : List Bf) (c : C) (p : Bf → Bool) (hl : l.length ≤ 4294967296) (hc : ∀ x, x ∈ l → FnPur cfg c [vBf x] (vB (p x))) :
    Pur cfg 160 [vBfs l, .c c] (vI (idxOf p l)) := by
 refine con_intro Tryz.func160 rfl Tryz.ntmps160 Tryz.results160 rfl ?_
 intro z hz
 refine sReg rfl <|
  rMv rfl <|
  rwp_nil <|
  awp_seq <|
  sReg rfl <|
  rMv rfl <|
  rwp_det rfl rfl (det_len_slm rfl el22 rfl) <|
  rMv rfl <|
  rwp_nil <|
  awp_block <|
  awp_weak ⟨[(8, .c _), (0, .c _), (1, .c _), (7, .c _)], []⟩ (Weak.mk [] ⟨VLe.of_eq rfl, VLe.of_eq rfl, VLe.of_eq rfl, VLe.of_eq rfl, trivial⟩ rfl) <|
  awp_loop_k 1 0 rfl rfl (Nat) (fun k => [(8, vI k)]) (fun k => []) (fun k => k ≤ l.length ∧ ((l.take k).any p = false)) (fun k => l.length - k) ⟨0, ⟨by omega, rfl⟩, Weak.mk [] ⟨VLe.refl _, VLe.refl _, VLe.refl _, VLe.refl _, trivial⟩ rfl⟩ ?_
 rintro k ⟨hk, hp⟩
 refine sReg rfl <|
  rwp_det rfl rfl (det_lss rfl rfl rfl) <|
  rwp_nil <|
  awp_seq <|
  awp_cond rfl (fun c1 => ?_) (fun c1 => ?_)
 ·try simp only [sx] at c1
  obtain ⟨x, hx⟩ := ex_get l k (by omega)
  refine awp_skip <|
   awp_seq <|
   awp_block <|
   sReg rfl <|
   rMv rfl <|
   rMv rfl <|
   rwp_nil <|
   sReg rfl <|
   rMv rfl <|
   rMv rfl <|
   rMv rfl <|
   rwp_det rfl rfl (det_index_sl rfl el22 rfl rfl (by omega) (getm (by assumption))) <|
   rwp_det rfl rfl (det_load_agg rfl agg65 rfl ptr_imm rfl) <|
   rwp_det rfl rfl (det_call_val rfl rfl (hc _ (mem_of_get hx)) ⟨VLe.refl _, rfl, trivial⟩) <|
   rwp_nil <|
   awp_cond rfl (fun c2 => ?_) (fun c2 => ?_)
  ·try simp only [sx] at c2
   refine sReg rfl <|
    rMv rfl <|
    rMv rfl <|
    rwp_nil <|
    awp_ret <|
    fin1 (rs_c rfl) ?_
   rw [idxOf_at hx c2 hp]
  ·try simp only [sx] at c2
   refine awp_skip <|
    awp_region rfl <|
    rwp_det rfl rfl (det_add_nw rfl rfl rfl ⟨by omega, by omega⟩) <|
    rMv rfl <|
    rwp_nil ?_
   refine ⟨k + 1, ⟨by omega, any_next hx hp c2⟩, (by omega), Weak.mk [] ⟨VLe.refl _, VLe.refl _, VLe.refl _, VLe.refl _, trivial⟩ rfl⟩
 ·try simp only [sx] at c1
  refine awp_exit <|
   sReg rfl <|
   rMv rfl <|
   rwp_nil <|
   awp_ret <|
   fin1 (rs_c rfl) ?_
  rw [idxOf_none (by rw [take_all (by omega)] at hp; exact hp)]

theorem slices_ContainsFunc_bf (l : List Bf) (c : C) (p : Bf → Bool) (hl : l.length ≤ 4294967296) (hc : ∀ x, x ∈ l → FnPur cfg c [vBf x] (vB (p x))) :
    Pur cfg 125 [vBfs l, .c c] (vB (l.any p)) := by
 refine con_intro Tryz.func125 rfl Tryz.ntmps125 Tryz.results125 rfl ?_
 intro z hz
 refine sReg rfl <|
  rMv rfl <|
  rwp_nil <|
  sReg rfl <|
  rMv rfl <|
  rMv rfl <|
  rwp_det rfl rfl (det_call rfl ok160 (slices_IndexFunc_bf l c p hl hc) ⟨VLe.refl _, rfl, VLe.refl _, rfl, trivial⟩) <|
  rwp_det rfl rfl (det_geq rfl rfl rfl) <|
  rMv rfl <|
  rwp_nil <|
  awp_ret <|
  fin1 (rs_c rfl) ?_
 rw [idxOf_any]

theorem checkBuffers_1 (x b : Bf) :
    Pur cfg 126 [vBf x, .c (.iptr b.cells)] (vB (decide (x.Name = b.Name))) := by
 refine con_intro Tryz.func126 rfl Tryz.ntmps126 Tryz.results126 rfl ?_
 intro z hz
 refine sReg rfl <|
  rwp_op rfl rfl (ope_box rfl rfl) ?_
 rintro _ _ ⟨b1, rfl, rfl⟩
 refine rMv rfl <|
  rwp_nil <|
  sReg rfl <|
  rwp_det rfl rfl (det_field_lit rfl fd65_0 rfl) <|
  rwp_det rfl rfl (det_load_one rfl one9 rfl (ptr_row 0 rfl) rfl) <|
  rwp_det rfl rfl (det_field_imm rfl fd65_0 rfl) <|
  rwp_det rfl rfl (det_load_one rfl one9 rfl ptr_imm rfl) <|
  rwp_det rfl rfl (det_seql rfl rfl rfl) <|
  rMv rfl <|
  rwp_nil <|
  awp_ret <|
  fin1 (rs_c rfl) ?_
 exact rfl

theorem loopnest_checkBuffers (l : List Bf) (hl : l.length ≤ 4294967296) (hd : ∀ b, b ∈ l → b.Dims.length ≤ 17592186044416) :
    Pur cfg 81 [vBfs l] (vI (bufsErr [] l)) := by
 refine con_intro Tryz.func81 rfl Tryz.ntmps81 Tryz.results81 rfl ?_
 intro z hz
 refine sReg rfl <|
  rMv rfl <|
  rwp_nil <|
  awp_seq <|
  sReg rfl <|
  rMv rfl <|
  rwp_det rfl rfl (det_len_slm rfl el22 rfl) <|
  rMv rfl <|
  rwp_nil <|
  awp_block <|
  awp_weak ⟨[(8, .c _), (0, .c _), (7, .c _)], []⟩ (Weak.mk [] ⟨VLe.of_eq rfl, VLe.of_eq rfl, VLe.of_eq rfl, trivial⟩ rfl) <|
  awp_loop_k 1 0 rfl rfl (Nat) (fun k => [(8, vI k)]) (fun k => []) (fun k => k ≤ l.length ∧ (bufsErr [] l = bufsErr (l.take k) (l.drop k))) (fun k => l.length - k) ⟨0, ⟨by omega, rfl⟩, Weak.mk [] ⟨VLe.refl _, VLe.refl _, VLe.refl _, trivial⟩ rfl⟩ ?_
 rintro k ⟨hk, hp⟩
 refine sReg rfl <|
  rwp_det rfl rfl (det_lss rfl rfl rfl) <|
  rwp_nil <|
  awp_seq <|
  awp_cond rfl (fun c1 => ?_) (fun c1 => ?_)
 ·try simp only [sx] at c1
  obtain ⟨b, hb⟩ := ex_get l k (by omega)
  refine awp_skip <|
   awp_seq <|
   awp_block <|
   sReg rfl <|
   rMv rfl <|
   rMv rfl <|
   rwp_nil <|
   sReg rfl <|
   rMv rfl <|
   rMv rfl <|
   rwp_det rfl rfl (det_index_sl rfl el22 rfl rfl (by omega) (getm (by assumption))) <|
   rwp_det rfl rfl (det_load_agg rfl agg65 rfl ptr_imm rfl) <|
   rwp_op rfl rfl (ope_allocN [none, none, none, none, none, none, some 1, none] rfl zr65 rfl) ?_
  rintro _ _ ⟨b1, rfl, rfl⟩
  refine rwp_det0 rfl rfl (det_store rfl sz65 rfl rfl rfl (st_row 0 rfl rfl)) <|
   rwp_weak _ (weak_freeze_row 0 rfl 4 _ PLe.ptr) <|
   rwp_nil <|
   awp_seq <|
   awp_block <|
   sReg rfl <|
   rwp_det rfl rfl (det_field_imm rfl fd65_0 rfl) <|
   rwp_det rfl rfl (det_load_one rfl one9 rfl ptr_imm rfl) <|
   rwp_det rfl rfl (det_call rfl ok49 (lexer_IsName _) ⟨VLe.refl _, rfl, trivial⟩) <|
   rwp_det rfl rfl (det_not rfl rfl) <|
   rMv rfl <|
   rwp_nil <|
   awp_cond rfl (fun c2 => ?_) (fun c2 => ?_)
  ·try simp only [sx] at c2
   refine sReg rfl <|
    rMv rfl <|
    rwp_nil <|
    awp_ret <|
    fin1 (rs_c rfl) ?_
   rw [bufsErr_no hb hp (by rw [bfErr_7 c2]; decide), bfErr_7 c2]
  ·try simp only [sx] at c2
   refine sReg rfl <|
    rMv rfl <|
    rMv rfl <|
    rwp_det rfl rfl (det_cut_take rfl el22 rfl rfl (by omega)) <|
    rwp_det rfl rfl (det_func rfl rfl rfl rfl rfl) <|
    rwp_det rfl rfl (det_call rfl ok125 (slices_ContainsFunc_bf (l.take k) _ (fun x => decide (x.Name = b.Name)) (by rw [List.length_take]; omega) (fun x _ => FnPur.of_pur (first := []) (cap := [.iptr b.cells]) ok126 (checkBuffers_1 x b))) ⟨VLe.refl _, rfl, VLe.refl _, rfl, trivial⟩) <|
    rMv rfl <|
    rwp_nil <|
    awp_cond rfl (fun c3 => ?_) (fun c3 => ?_)
   ·try simp only [sx] at c3
    refine sReg rfl <|
     rMv rfl <|
     rwp_nil <|
     awp_ret <|
     fin1 (rs_c rfl) ?_
    rw [bufsErr_no hb hp (by rw [bfErr_8 c2 c3]; decide), bfErr_8 c2 c3]
   ·try simp only [sx] at c3
    refine sReg rfl <|
     rwp_det rfl rfl (det_field_imm rfl fd65_1 rfl) <|
     rwp_det rfl rfl (det_load_agg rfl agg38 rfl ptr_imm rfl) <|
     rwp_det rfl rfl (det_call rfl ok127 (value_ValidateType b.T) ⟨VLe.refl _, rfl, trivial⟩) <|
     rwp_det rfl rfl (det_neq rfl rfl rfl) <|
     rMv rfl <|
     rwp_nil <|
     awp_cond rfl (fun c4 => ?_) (fun c4 => ?_)
    ·try simp only [sx] at c4
     refine sReg rfl <|
      rMv rfl <|
      rwp_nil <|
      awp_ret <|
      fin1 (rs_c rfl) ?_
     rw [bufsErr_no hb hp (by rw [bfErr_10 c2 c3 (tyErr_ne c4)]; decide), bfErr_10 c2 c3 (tyErr_ne c4)]
    ·try simp only [sx] at c4
     refine awp_skip <|
      awp_seq <|
      sReg rfl <|
      rwp_det rfl rfl (det_field_imm rfl fd65_2 rfl) <|
      rwp_det rfl rfl (det_load_one rfl one26 rfl ptr_imm rfl) <|
      rwp_det rfl rfl (det_call rfl ok128 (shape_Validate b.Dims (hd b (mem_of_get hb))) ⟨VLe.refl _, rfl, trivial⟩) <|
      rMv rfl <|
      rwp_nil <|
      sReg rfl <|
      rMv rfl <|
      rwp_det rfl rfl (det_neq rfl rfl rfl) <|
      rwp_nil <|
      awp_cond rfl (fun c5 => ?_) (fun c5 => ?_)
     ·try simp only [sx] at c5
      refine sReg rfl <|
       rMv rfl <|
       rMv rfl <|
       rwp_nil <|
       awp_ret <|
       fin1 (rs_c rfl) ?_
      rw [bufsErr_no hb hp (by rw [bfErr_d c2 c3 (tyErr_eq c4) c5]; exact c5), bfErr_d c2 c3 (tyErr_eq c4) c5]
     ·try simp only [sx] at c5
      refine awp_skip <|
       sReg rfl <|
       rwp_det rfl rfl (det_field_imm rfl fd65_3 rfl) <|
       rwp_det rfl rfl (det_load_one rfl one3 rfl ptr_imm rfl) <|
       rwp_det rfl rfl (det_lss rfl rfl rfl) <|
       rMv rfl <|
       rLz [] rfl gv1 trivial (fun g14_3 => det_field_imm rfl fd65_3 rfl) rfl <|
       rLz [(41, _)] rfl gv1 ⟨rfl, rfl, trivial⟩ (fun g14_3 => det_load_one rfl one3 rfl ptr_imm rfl) rfl <|
       rLz [(42, _)] rfl gv1 ⟨rfl, rfl, trivial⟩ (fun g14_3 => det_gtr rfl rfl rfl) rfl <|
       rwp_det rfl rfl (det_or rfl rfl rfl rfl (fun h => (lzf h))) <|
       rwp_nil <|
       awp_cond rfl (fun c6 => ?_) (fun c6 => ?_)
      ·try simp only [sx] at c6
       refine sReg rfl <|
        rMv rfl <|
        rwp_nil <|
        awp_ret <|
        fin1 (rs_c rfl) ?_
       rw [bufsErr_no hb hp (by rw [bfErr_u c2 c3 (tyErr_eq c4) c5 (by omega)]; decide), bfErr_u c2 c3 (tyErr_eq c4) c5 (by omega)]
      ·try simp only [sx] at c6
       refine awp_skip <|
        awp_region rfl <|
        rwp_det rfl rfl (det_add_nw rfl rfl rfl ⟨by omega, by omega⟩) <|
        rMv rfl <|
        rwp_nil ?_
       refine ⟨k + 1, ⟨by omega, bufsErr_next hb hp (bfErr_0 c2 c3 (tyErr_eq c4) c5 (by omega))⟩, (by omega), Weak.mk [] ⟨VLe.refl _, VLe.refl _, VLe.refl _, trivial⟩ rfl⟩
 ·try simp only [sx] at c1
  refine awp_exit <|
   sReg rfl <|
   rMv rfl <|
   rwp_nil <|
   awp_ret <|
   fin1 (rs_c rfl) ?_
  rw [bufsErr_end hp (by omega)]

end Go.W
