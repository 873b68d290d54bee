/-
  Walks: what functions of the program compute. Printed by wip/gen/mk2.py.
  Conditions: none.
-/
import Derived.Test.YtmmiedgoamlhpaaGreatDoorYG
import Derived.Test.YtmmiedgoamlhpaaGreatDoorPlainM
set_option linter.unusedSimpArgs false
set_option linter.unusedVariables false
set_option maxRecDepth 10000
namespace Go.W
open Go Go.Eng Go.Proofs Go.L41 Go.Br
attribute [local irreducible] AWP RWP TD finQ
theorem agg38 : aggT Tryz.prog 38 = some 7 := by kernel_rfl
theorem fd38_0 : fieldT Tryz.prog 38 0 = some (0, 22) := by kernel_rfl
theorem fd38_1 : fieldT Tryz.prog 38 1 = some (1, 23) := by kernel_rfl
theorem fd38_2 : fieldT Tryz.prog 38 2 = some (2, 3) := by kernel_rfl
theorem fd38_3 : fieldT Tryz.prog 38 3 = some (3, 35) := by kernel_rfl
theorem fd38_4 : fieldT Tryz.prog 38 4 = some (4, 36) := by kernel_rfl
theorem fd38_5 : fieldT Tryz.prog 38 5 = some (5, 36) := by kernel_rfl
theorem fd38_6 : fieldT Tryz.prog 38 6 = some (6, 4) := by kernel_rfl
theorem ok27 : callOk Tryz.prog 27 = true := by kernel_rfl
theorem ok28 : callOk Tryz.prog 28 = true := by kernel_rfl
theorem ok33 : callOk Tryz.prog 33 = true := by kernel_rfl
theorem ok34 : callOk Tryz.prog 34 = true := by kernel_rfl
theorem ok72 : callOk Tryz.prog 72 = true := by kernel_rfl
theorem ok73 : callOk Tryz.prog 73 = true := by kernel_rfl
theorem ok74 : callOk Tryz.prog 74 = true := by kernel_rfl
theorem ok75 : callOk Tryz.prog 75 = true := by kernel_rfl
theorem ok76 : callOk Tryz.prog 76 = true := by kernel_rfl
theorem ok123 : callOk Tryz.prog 123 = true := by kernel_rfl
theorem ok124 : callOk Tryz.prog 124 = true := by kernel_rfl
theorem ok125 : callOk Tryz.prog 125 = true := by kernel_rfl
theorem ok126 : callOk Tryz.prog 126 = true := by kernel_rfl
theorem one35 : oneT Tryz.prog 35 = true := by kernel_rfl
theorem pl38 : placesT Tryz.prog 38 = some [(0, 1), (1, 1), (2, 1), (3, 1), (4, 1), (5, 1), (6, 1)] := by kernel_rfl
theorem sz35 : (Tryz.prog.info? 35).map (·.size) = some 1 := by kernel_rfl
theorem sz36 : (Tryz.prog.info? 36).map (·.size) = some 1 := by kernel_rfl
theorem sz38 : (Tryz.prog.info? 38).map (·.size) = some 7 := by kernel_rfl
theorem zr38 : zeroT Tryz.prog 38 = some [(Value.slice none 0 0), (Value.slice none 0 0), (Value.int IntKind.i64 0), (Value.slice none 0 0), (Value.slice none 0 0), (Value.slice none 0 0), (Value.bool false)] := by kernel_rfl
theorem ref49_zeros (n : Nat) (hn : n ≤ 1048576) :
    OwnR cfg 28 [vI n] 63 2 ((List.replicate n (⟨0, 1⟩ : Vl)).map Vl.cells) := by
 refine con_intro Tryz.func28 rfl Tryz.ntmps28 Tryz.results28 rfl ?_
 intro z hz
 refine sReg rfl <|
  rwp_det rfl rfl (det_assignN 2 rfl rfl) <|
  rwp_nil <|
  sReg rfl <|
  rMv rfl <|
  rwp_weak _ (weak_own 63 2) <|
  rwp_nil <|
  awp_seq <|
  sReg rfl <|
  rMv rfl <|
  rwp_nil <|
  awp_block <|
  awp_weak ⟨[(4, .c _), (3, .c _), (0, .c _)], [_]⟩ (Weak.mk [true] ⟨VLe.of_eq rfl, VLe.of_eq rfl, VLe.of_eq rfl, trivial⟩ rfl) <|
  awp_loop_k 2 1 rfl rfl (Nat × Value) (fun ⟨k, sv⟩ => [(4, vI k), (3, .c (.lit sv))]) (fun ⟨k, sv⟩ => [E.vec sv 63 2 ((List.replicate k (⟨0, 1⟩ : Vl)).map Vl.cells)]) (fun ⟨k, sv⟩ => k ≤ n) (fun ⟨k, sv⟩ => n - k) ⟨⟨0, .slice none 0 0⟩, (Nat.zero_le _), Weak.mk [true] ⟨VLe.refl _, VLe.refl _, VLe.refl _, trivial⟩ rfl⟩ ?_
 rintro ⟨k, sv⟩ hk
 refine awp_seq <|
  sReg rfl <|
  rMv rfl <|
  rMv rfl <|
  rwp_det rfl rfl (det_lss rfl rfl rfl) <|
  rwp_nil <|
  awp_cond rfl (fun c1 => ?_) (fun c1 => ?_)
 ·try simp only [sx] at c1
  refine awp_skip <|
   awp_seq <|
   awp_block <|
   awp_region rfl <|
   rMv rfl <|
   rwp_det rfl rfl (det_build rfl zr63 pl63 rfl) <|
   rwp_det rfl rfl (det_bslice rfl el36 zr63 rfl rfl rfl rfl) <|
   rwp_op rfl rfl (ope_append 0 rfl el36 rfl rfl rfl (by simp only [List.length_map, List.length_replicate, List.length_cons, List.length_nil, Nat.zero_add, List.length_append, List.length_take, List.length_drop]; omega) (by simp only [List.length_map, List.length_replicate, List.length_cons, List.length_nil, Nat.zero_add, List.length_append, List.length_take, List.length_drop]; omega)) ?_
  rintro _ _ ⟨sv2, rfl, rfl⟩
  refine rMv rfl <|
   rwp_nil <|
   awp_region rfl <|
   rMv rfl <|
   rwp_det rfl rfl (det_add_nw rfl rfl rfl ⟨by omega, by omega⟩) <|
   rMv rfl <|
   rwp_nil ?_
  refine ⟨⟨k + 1, sv2⟩, (by omega), (by show n - (k + 1) < n - k; omega), Weak.mk [true] ⟨VLe.refl _, VLe.refl _, VLe.refl _, trivial⟩ (by exact mem1_eq rep_next)⟩
 ·try simp only [sx] at c1
  refine awp_exit <|
   sReg rfl <|
   rMv rfl <|
   rMv rfl <|
   rwp_nil <|
   awp_ret <|
   fin1 (rs_c rfl) ?_
  obtain rfl : k = n := by have hk : k ≤ n := hk; omega
  exact ⟨_, rfl, rfl⟩

theorem ref49_inside (s : Mc) (a m : Int) (hl : s.M.length ≤ 1048576) :
    Pur cfg 76 [vSt s, vI a, vI m] (vB (hold s a m)) := by
 refine con_intro Tryz.func76 rfl Tryz.ntmps76 Tryz.results76 rfl ?_
 intro z hz
 refine sReg rfl <|
  rwp_op rfl rfl (ope_box rfl rfl) ?_
 rintro _ _ ⟨b1, rfl, rfl⟩
 refine rMv rfl <|
  rwp_nil <|
  sReg rfl <|
  rMv rfl <|
  rwp_det rfl rfl (det_geq rfl rfl rfl) <|
  rMv rfl <|
  rLz [] rfl gv1 trivial (fun g1_2 => det_move rfl rfl) rfl <|
  rLz [(10, _)] rfl gv1 ⟨rfl, rfl, trivial⟩ (fun g1_2 => det_geq rfl rfl rfl) rfl <|
  rwp_det rfl rfl (det_and rfl rfl rfl (fun h => h) rfl) <|
  rMv rfl <|
  rLz [] rfl gv1 trivial (fun g1_6 => det_move rfl rfl) rfl <|
  rLz [] rfl gv1 trivial (fun g1_6 => det_field_lit rfl fd38_5 rfl) rfl <|
  rLz [(15, _)] rfl gv1 ⟨rfl, rfl, trivial⟩ (fun g1_6 => det_load_one rfl one36 rfl (ptr_row 0 rfl) rfl) rfl <|
  rLz [(16, _)] rfl gv1 ⟨rfl, rfl, trivial⟩ (fun g1_6 => det_len_slm rfl el36 rfl) rfl <|
  rLz [(14, _), (17, _)] rfl gv1 ⟨rfl, rfl, rfl, rfl, trivial⟩ (fun g1_6 => det_leq rfl rfl rfl) rfl <|
  rwp_det rfl rfl (det_and rfl rfl rfl (fun h => h) rfl) <|
  rMv rfl <|
  rLz [] rfl gv1 trivial (fun g1_13 => det_move rfl rfl) rfl <|
  rLz [] rfl gv1 trivial (fun g1_13 => det_field_lit rfl fd38_5 rfl) rfl <|
  rLz [(22, _)] rfl gv1 ⟨rfl, rfl, trivial⟩ (fun g1_13 => det_load_one rfl one36 rfl (ptr_row 0 rfl) rfl) rfl <|
  rLz [(23, _)] rfl gv1 ⟨rfl, rfl, trivial⟩ (fun g1_13 => det_len_slm rfl el36 rfl) rfl <|
  rLz [] rfl gv1 trivial (fun g1_13 => det_move rfl rfl) rfl <|
  rLz [(24, _), (25, _)] rfl gv1 ⟨rfl, rfl, rfl, rfl, trivial⟩ (fun g1_13 => det_sub_nw rfl rfl rfl ⟨by (try simp only [List.length_map] at *); have := (by simpa [Lz, and_assoc] using g1_13 : 0 ≤ a ∧ 0 ≤ m ∧ a ≤ s.M.length); omega, by (try simp only [List.length_map] at *); have := (by simpa [Lz, and_assoc] using g1_13 : 0 ≤ a ∧ 0 ≤ m ∧ a ≤ s.M.length); omega⟩) rfl <|
  rLz [(21, _), (26, _)] rfl gv1 ⟨rfl, rfl, rfl, rfl, trivial⟩ (fun g1_13 => det_leq rfl rfl rfl) rfl <|
  rwp_det rfl rfl (det_and rfl rfl rfl (fun h => h) rfl) <|
  rMv rfl <|
  rwp_nil <|
  awp_ret <|
  fin1 (rs_c rfl) ?_
 simp only [hold, List.length_map]

theorem ref49_setX (s : Mc) (i n : Int) (w : Int) (hs : s.Ok w) (h0 : 0 ≤ i) (h : i < 256) :
    Pur cfg 126 [vSt s, vI i, vI n] (vSt (s.sX i n)) := by
 refine con_intro Tryz.func126 rfl Tryz.ntmps126 Tryz.results126 rfl ?_
 intro z hz
 refine sReg rfl <|
  rwp_op rfl rfl (ope_box rfl rfl) ?_
 rintro _ _ ⟨b1, rfl, rfl⟩
 refine rwp_op rfl rfl (ope_allocN [some 11, some 5, none, some 1, some 2, some 2, none] rfl zr38 rfl) ?_
 rintro _ _ ⟨b2, rfl, rfl⟩
 refine rwp_nil <|
  sReg rfl <|
  rMv rfl <|
  rwp_weak _ (weak_own 2 1) <|
  rwp_nil <|
  sReg rfl <|
  rMv rfl <|
  rwp_det rfl rfl (det_field_lit rfl fd38_3 rfl) <|
  rwp_det rfl rfl (det_load_one rfl one35 rfl (ptr_row 2 rfl) rfl) <|
  rwp_op rfl rfl (ope_append 0 rfl el35 rfl rfl rfl (by simp [lenX hs]) (by simp [lenX hs])) ?_
 rintro _ _ ⟨sv4, rfl, rfl⟩
 refine rMv rfl <|
  rwp_nil <|
  sReg rfl <|
  rMv rfl <|
  rMv rfl <|
  rMv rfl <|
  rwp_det rfl rfl (det_index_vec 0 rfl el35 rfl rfl rfl (by omega) (by rw [List.nil_append, lenX hs]; omega)) <|
  rwp_det0 rfl rfl (det_store rfl sz2 rfl rfl rfl (st_vecE 0 rfl (getX hs h0 h) rfl set_X)) <|
  rwp_weak _ (weak_freezeM 0 rfl (regs' := [(7, _), (11, _), (12, _)]) (μ' := [_, _]) ⟨FLe.sl, FLe.sl, FLe.sl, trivial⟩ ⟨EFle.refl _, EFle.refl _, trivial⟩) <|
  rwp_nil <|
  sReg rfl <|
  rMv rfl <|
  rwp_det rfl rfl (det_field_lit rfl fd38_3 rfl) <|
  rwp_det0 rfl rfl (det_store rfl sz35 rfl rfl rfl (st_row 1 rfl rfl)) <|
  rwp_nil <|
  sReg rfl <|
  rwp_det rfl rfl (det_load_agg rfl agg38 rfl (ptr_row 1 rfl) rfl) <|
  rwp_det0 rfl rfl (det_store rfl sz38 rfl rfl rfl (st_row 0 rfl rfl)) <|
  rwp_nil <|
  awp_ret <|
  fin1 (rs_cell_agg agg38 rfl (ptr_row 0 rfl) rfl) ?_
 exact rfl

theorem ref49_setR (s : Mc) (i : Int) (v : Vl) (w : Int) (hs : s.Ok w) (h0 : 0 ≤ i) (h : i < 256) :
    Pur cfg 123 [vSt s, vI i, vVal v] (vSt (s.sR i v)) := by
 refine con_intro Tryz.func123 rfl Tryz.ntmps123 Tryz.results123 rfl ?_
 intro z hz
 refine sReg rfl <|
  rwp_op rfl rfl (ope_box rfl rfl) ?_
 rintro _ _ ⟨b1, rfl, rfl⟩
 refine rwp_op rfl rfl (ope_box rfl rfl) ?_
 rintro _ _ ⟨b2, rfl, rfl⟩
 refine rwp_op rfl rfl (ope_allocN [some 11, some 5, none, some 1, some 2, some 2, none] rfl zr38 rfl) ?_
 rintro _ _ ⟨b3, rfl, rfl⟩
 refine rwp_nil <|
  sReg rfl <|
  rMv rfl <|
  rwp_weak _ (weak_own 63 2) <|
  rwp_nil <|
  sReg rfl <|
  rMv rfl <|
  rwp_det rfl rfl (det_field_lit rfl fd38_4 rfl) <|
  rwp_det rfl rfl (det_load_one rfl one36 rfl (ptr_row 3 rfl) rfl) <|
  rwp_op rfl rfl (ope_append 0 rfl el36 rfl rfl rfl (by simp [lenR hs]) (by simp [lenR hs])) ?_
 rintro _ _ ⟨sv5, rfl, rfl⟩
 refine rMv rfl <|
  rwp_nil <|
  sReg rfl <|
  rMv rfl <|
  rMv rfl <|
  rwp_det rfl rfl (det_load_agg rfl agg63 rfl (ptr_row 2 rfl) rfl) <|
  rwp_det rfl rfl (det_index_vec 0 rfl el36 rfl rfl rfl (by omega) (by rw [List.nil_append, lenR hs]; omega)) <|
  rwp_det0 rfl rfl (det_store rfl sz63 rfl rfl rfl (st_vecE 0 rfl (getR hs h0 h) rfl set_row)) <|
  rwp_weak _ (weak_freezeM 0 rfl (regs' := [(7, _), (11, _), (12, _)]) (μ' := [_, _, _]) ⟨FLe.sl, FLe.sl, FLe.sl, trivial⟩ ⟨EFle.refl _, EFle.refl _, EFle.refl _, trivial⟩) <|
  rwp_nil <|
  sReg rfl <|
  rMv rfl <|
  rwp_det rfl rfl (det_field_lit rfl fd38_4 rfl) <|
  rwp_det0 rfl rfl (det_store rfl sz36 rfl rfl rfl (st_row 2 rfl rfl)) <|
  rwp_nil <|
  sReg rfl <|
  rwp_det rfl rfl (det_load_agg rfl agg38 rfl (ptr_row 2 rfl) rfl) <|
  rwp_det0 rfl rfl (det_store rfl sz38 rfl rfl rfl (st_row 0 rfl rfl)) <|
  rwp_nil <|
  awp_ret <|
  fin1 (rs_cell_agg agg38 rfl (ptr_row 0 rfl) rfl) ?_
 exact rfl

theorem ref49_Store (s : Mc) (a : Int) (v : List Vl) (hl : s.M.length ≤ 1048576) (hv : v.length ≤ 1048576) :
    Pur cfg 34 [vSt s, vI a, vVals v] (.tup [vSt (stoM s a v).1, vI (stoM s a v).2]) := by
 refine con_intro Tryz.func34 rfl Tryz.ntmps34 Tryz.results34 rfl ?_
 intro z hz
 refine sReg rfl <|
  rwp_op rfl rfl (ope_box rfl rfl) ?_
 rintro _ _ ⟨b1, rfl, rfl⟩
 refine rwp_op rfl rfl (ope_allocN [some 11, some 5, none, some 1, some 2, some 2, none] rfl zr38 rfl) ?_
 rintro _ _ ⟨b2, rfl, rfl⟩
 refine rMv rfl <|
  rwp_nil <|
  awp_seq <|
  sReg rfl <|
  rwp_det rfl rfl (det_load_agg rfl agg38 rfl (ptr_row 1 rfl) rfl) <|
  rMv rfl <|
  rMv rfl <|
  rwp_det rfl rfl (det_len_slm rfl el36 rfl) <|
  rwp_det rfl rfl (det_call rfl ok76 (ref49_inside s a v.length hl) ⟨VLe.refl _, rfl, VLe.refl _, rfl, VLe.refl _, rfl, trivial⟩) <|
  rwp_det rfl rfl (det_not rfl rfl) <|
  rwp_nil <|
  awp_cond rfl (fun c1 => ?_) (fun c1 => ?_)
 ·try simp only [sx] at c1
  have hh : hold s a v.length = false := by simpa using c1
  refine sReg rfl <|
   rwp_det rfl rfl (det_load_agg rfl agg38 rfl (ptr_row 1 rfl) rfl) <|
   rwp_det0 rfl rfl (det_store rfl sz38 rfl rfl rfl (st_row 0 rfl rfl)) <|
   rMv rfl <|
   rwp_nil <|
   awp_ret <|
   fin2 (rs_cell_agg agg38 rfl (ptr_row 0 rfl) rfl) (rs_c rfl) ?_
  rw [sto_no hh]
  rfl
 ·try simp only [sx] at c1
  have hh : hold s a v.length = true := by simpa using c1
  have hb := hold_in hh
  refine awp_skip <|
   sReg rfl <|
   rMv rfl <|
   rwp_weak _ (weak_own 63 2) <|
   rwp_nil <|
   sReg rfl <|
   rMv rfl <|
   rwp_det rfl rfl (det_field_lit rfl fd38_5 rfl) <|
   rwp_det rfl rfl (det_load_one rfl one36 rfl (ptr_row 2 rfl) rfl) <|
   rMv rfl <|
   rwp_det rfl rfl (det_cut_take (k := a.toNat) rfl el36 rfl (by show vI a = vI (a.toNat : Int); rw [Int.toNat_of_nonneg hb.1]) (by omega)) <|
   rwp_op rfl rfl (ope_append 0 rfl el36 rfl rfl rfl (by simp only [List.length_map, List.length_replicate, List.length_cons, List.length_nil, Nat.zero_add, List.length_append, List.length_take, List.length_drop]; omega) (by simp only [List.length_map, List.length_replicate, List.length_cons, List.length_nil, Nat.zero_add, List.length_append, List.length_take, List.length_drop]; omega)) ?_
  rintro _ _ ⟨sv4, rfl, rfl⟩
  refine rMv rfl <|
   rwp_nil <|
   sReg rfl <|
   rMv rfl <|
   rMv rfl <|
   rwp_op rfl rfl (ope_append 0 rfl el36 rfl rfl rfl (by simp only [List.length_map, List.length_replicate, List.length_cons, List.length_nil, Nat.zero_add, List.length_append, List.length_take, List.length_drop]; omega) (by simp only [List.length_map, List.length_replicate, List.length_cons, List.length_nil, Nat.zero_add, List.length_append, List.length_take, List.length_drop]; omega)) ?_
  rintro _ _ ⟨sv5, rfl, rfl⟩
  refine rMv rfl <|
   rwp_nil <|
   sReg rfl <|
   rMv rfl <|
   rwp_det rfl rfl (det_field_lit rfl fd38_5 rfl) <|
   rwp_det rfl rfl (det_load_one rfl one36 rfl (ptr_row 2 rfl) rfl) <|
   rMv rfl <|
   rMv rfl <|
   rwp_det rfl rfl (det_len_slm rfl el36 rfl) <|
   rwp_det rfl rfl (det_add_nw rfl rfl rfl ⟨by omega, by omega⟩) <|
   rwp_det rfl rfl (det_cut_drop (k := (a.toNat + v.length)) rfl el36 rfl (by show vI (a + v.length) = vI ((a.toNat + v.length : Nat) : Int); rw [Int.natCast_add, Int.toNat_of_nonneg hb.1]) (by omega)) <|
   rwp_op rfl rfl (ope_append 0 rfl el36 rfl rfl rfl (by simp only [List.length_map, List.length_replicate, List.length_cons, List.length_nil, Nat.zero_add, List.length_append, List.length_take, List.length_drop]; omega) (by simp only [List.length_map, List.length_replicate, List.length_cons, List.length_nil, Nat.zero_add, List.length_append, List.length_take, List.length_drop]; omega)) ?_
  rintro _ _ ⟨sv6, rfl, rfl⟩
  refine rwp_weak _ (weak_freezeM 0 rfl (regs' := [(33, _)]) (μ' := [_, _]) ⟨FLe.sl, trivial⟩ ⟨EFle.refl _, EFle.refl _, trivial⟩) <|
   rwp_det rfl rfl (det_field_lit rfl fd38_5 rfl) <|
   rwp_det0 rfl rfl (det_store rfl sz36 rfl rfl rfl (st_row 1 rfl rfl)) <|
   rwp_nil <|
   sReg rfl <|
   rwp_det rfl rfl (det_load_agg rfl agg38 rfl (ptr_row 1 rfl) rfl) <|
   rwp_det0 rfl rfl (det_store rfl sz38 rfl rfl rfl (st_row 0 rfl rfl)) <|
   rMv rfl <|
   rwp_nil <|
   awp_ret <|
   fin2 (rs_cell_agg agg38 rfl (ptr_row 0 rfl) rfl) (rs_c rfl) ?_
  rw [sto_yes hh]
  show _ = V.tup [vSt { s with M := s.M.take a.toNat ++ v ++ s.M.drop (a.toNat + v.length) }, vI 0]
  rw [vSt, List.map_append, List.map_append]
  rfl

theorem ref49_Load (s : Mc) (a m : Int) (hl : s.M.length ≤ 1048576) :
    Pur cfg 35 [vSt s, vI a, vI m] (.tup [vVals (loaM s a m).1, vI (loaM s a m).2]) := by
 refine con_intro Tryz.func35 rfl Tryz.ntmps35 Tryz.results35 rfl ?_
 intro z hz
 refine sReg rfl <|
  rwp_op rfl rfl (ope_box rfl rfl) ?_
 rintro _ _ ⟨b1, rfl, rfl⟩
 refine rwp_det rfl rfl (det_assignN 2 rfl rfl) <|
  rMv rfl <|
  rwp_nil <|
  awp_seq <|
  sReg rfl <|
  rwp_det rfl rfl (det_load_agg rfl agg38 rfl (ptr_row 0 rfl) rfl) <|
  rMv rfl <|
  rMv rfl <|
  rwp_det rfl rfl (det_call rfl ok76 (ref49_inside s a m hl) ⟨VLe.refl _, rfl, VLe.refl _, rfl, VLe.refl _, rfl, trivial⟩) <|
  rwp_det rfl rfl (det_not rfl rfl) <|
  rwp_nil <|
  awp_cond rfl (fun c1 => ?_) (fun c1 => ?_)
 ·try simp only [sx] at c1
  have hh : hold s a m = false := by simpa using c1
  refine sReg rfl <|
   rwp_det rfl rfl (det_assignN 2 rfl rfl) <|
   rMv rfl <|
   rwp_nil <|
   awp_ret <|
   fin2 (rs_c rfl) (rs_c rfl) ?_
  rw [loa_no hh]
  rfl
 ·try simp only [sx] at c1
  have hh : hold s a m = true := by simpa using c1
  have hb := hold_in hh
  refine awp_skip <|
   sReg rfl <|
   rwp_det rfl rfl (det_field_lit rfl fd38_5 rfl) <|
   rwp_det rfl rfl (det_load_one rfl one36 rfl (ptr_row 0 rfl) rfl) <|
   rMv rfl <|
   rMv rfl <|
   rMv rfl <|
   rwp_det rfl rfl (det_add_nw rfl rfl rfl ⟨by omega, by omega⟩) <|
   rwp_det rfl rfl (det_cut_sl a.toNat (a.toNat + m.toNat) rfl el36 rfl ⟨.i64, _, rfl, by omega⟩ ⟨.i64, _, rfl, by omega⟩ (by omega) (by rw [List.length_map]; omega)) <|
   rMv rfl <|
   rMv rfl <|
   rwp_nil <|
   awp_ret <|
   fin2 (rs_c rfl) (rs_c rfl) ?_
  rw [loa_yes hh]
  show _ = V.tup [vVals ((s.M.drop a.toNat).take m.toNat), vI 0]
  rw [vVals, List.map_take, List.map_drop, List.drop_take, Nat.add_sub_cancel_left]

theorem ref49_integer (s : Mc) (w : Int) (hs : s.Ok w) (x : In) (hx : fmd x = true) (ho : jmpB x.Op = false ∧ memB x.Op = false ∧ cptB x.Op = false ∧ x.Op ≠ 0) :
    Pur cfg 75 [vSt s, vIn x] (vSt (s.sX x.A (intV s x))) := by
 refine con_intro Tryz.func75 rfl Tryz.ntmps75 Tryz.results75 rfl ?_
 intro z hz
 obtain ⟨⟨a1, a2⟩, fB, fC, fD, fo⟩ := int_facts hx ho
 refine sReg rfl <|
  rwp_op rfl rfl (ope_box rfl rfl) ?_
 rintro _ _ ⟨b1, rfl, rfl⟩
 refine rwp_op rfl rfl (ope_box rfl rfl) ?_
 rintro _ _ ⟨b2, rfl, rfl⟩
 refine rwp_op rfl rfl (ope_allocN [some 11, some 5, none, some 1, some 2, some 2, none] rfl zr38 rfl) ?_
 rintro _ _ ⟨b3, rfl, rfl⟩
 refine rwp_nil <|
  awp_seq <|
  sReg rfl <|
  rwp_det rfl rfl (det_field_lit rfl fd67_0 rfl) <|
  rwp_det rfl rfl (det_load_one rfl one3 rfl (ptr_row 1 rfl) rfl) <|
  rwp_nil <|
  awp_block <|
  sReg rfl <|
  rwp_det rfl rfl (det_eql rfl rfl rfl) <|
  rMv rfl <|
  rwp_nil <|
  awp_cond rfl (fun c1 => ?_) (fun c1 => ?_)
 ·try simp only [sx] at c1
  refine sReg rfl <|
   rwp_det rfl rfl (det_load_agg rfl agg38 rfl (ptr_row 2 rfl) rfl) <|
   rwp_det rfl rfl (det_field_lit rfl fd67_1 rfl) <|
   rwp_det rfl rfl (det_load_one rfl one3 rfl (ptr_row 1 rfl) rfl) <|
   rwp_det rfl rfl (det_field_lit rfl fd67_2 rfl) <|
   rwp_det rfl rfl (det_load_one rfl one3 rfl (ptr_row 1 rfl) rfl) <|
   rwp_det rfl rfl (det_call rfl ok126 (ref49_setX s x.A (x.B) w hs a1 (by omega)) ⟨VLe.refl _, rfl, VLe.refl _, rfl, VLe.refl _, rfl, trivial⟩) <|
   rwp_det0 rfl rfl (det_store rfl sz38 rfl rfl rfl (st_row 0 rfl rfl)) <|
   rwp_nil <|
   awp_ret <|
   fin1 (rs_cell_agg agg38 rfl (ptr_row 0 rfl) rfl) ?_
  rw [intv1 c1]
  rfl
 ·try simp only [sx] at c1
  refine sReg rfl <|
   rwp_det rfl rfl (det_eql rfl rfl rfl) <|
   rMv rfl <|
   rwp_nil <|
   awp_cond rfl (fun c2 => ?_) (fun c2 => ?_)
  ·try simp only [sx] at c2
   refine awp_seq <|
    awp_draw 10 mixed (by kernel_rfl) rfl rfl <|
    td_det rfl rfl (det_load_agg rfl agg38 rfl (ptr_row 2 rfl) rfl) <|
    td_det rfl rfl (det_field_lit rfl fd67_1 rfl) <|
    td_det rfl rfl (det_load_one rfl one3 rfl (ptr_row 1 rfl) rfl) <|
    td_det rfl rfl (det_field_lit rfl fd38_3 rfl) <|
    td_det rfl rfl (det_load_one rfl one35 rfl (ptr_row 2 rfl) rfl) <|
    td_det rfl rfl (det_field_lit rfl fd67_2 rfl) <|
    td_det rfl rfl (det_load_one rfl one3 rfl (ptr_row 1 rfl) rfl) <|
    td_det rfl rfl (det_index_sl rfl el35 rfl rfl (by have := fB (by omega); omega) (getX hs (by have := fB (by omega); omega) (by have := fB (by omega); omega))) <|
    td_det rfl rfl (det_load_one rfl one2 rfl ptr_imm rfl) <|
    td_det rfl rfl (det_call rfl ok126 (ref49_setX s x.A (s.gX x.B) w hs a1 (by omega)) ⟨VLe.refl _, rfl, VLe.refl _, rfl, VLe.refl _, rfl, trivial⟩) <|
    td_nil <|
    rwp_det0 rfl rfl (det_store rfl sz38 rfl rfl rfl (st_row 0 rfl rfl)) <|
    rwp_nil <|
    awp_ret <|
    fin1 (rs_cell_agg agg38 rfl (ptr_row 0 rfl) rfl) ?_
   rw [intv2 c2 (low8_eq (fB (by omega)).1 (fB (by omega)).2), low8_eq (fB (by omega)).1 (fB (by omega)).2]
   rfl
  ·try simp only [sx] at c2
   refine sReg rfl <|
    rwp_det rfl rfl (det_eql rfl rfl rfl) <|
    rMv rfl <|
    rwp_nil <|
    awp_cond rfl (fun c3 => ?_) (fun c3 => ?_)
   ·try simp only [sx] at c3
    refine awp_seq <|
     awp_draw 17 mixed (by kernel_rfl) rfl rfl <|
     td_det rfl rfl (det_load_agg rfl agg38 rfl (ptr_row 2 rfl) rfl) <|
     td_det rfl rfl (det_field_lit rfl fd67_1 rfl) <|
     td_det rfl rfl (det_load_one rfl one3 rfl (ptr_row 1 rfl) rfl) <|
     td_det rfl rfl (det_field_lit rfl fd38_3 rfl) <|
     td_det rfl rfl (det_load_one rfl one35 rfl (ptr_row 2 rfl) rfl) <|
     td_det rfl rfl (det_field_lit rfl fd67_2 rfl) <|
     td_det rfl rfl (det_load_one rfl one3 rfl (ptr_row 1 rfl) rfl) <|
     td_det rfl rfl (det_index_sl rfl el35 rfl rfl (by have := fB (by omega); omega) (getX hs (by have := fB (by omega); omega) (by have := fB (by omega); omega))) <|
     td_det rfl rfl (det_load_one rfl one2 rfl ptr_imm rfl) <|
     td_det rfl rfl (det_field_lit rfl fd38_3 rfl) <|
     td_det rfl rfl (det_load_one rfl one35 rfl (ptr_row 2 rfl) rfl) <|
     td_det rfl rfl (det_field_lit rfl fd67_3 rfl) <|
     td_det rfl rfl (det_load_one rfl one3 rfl (ptr_row 1 rfl) rfl) <|
     td_det rfl rfl (det_index_sl rfl el35 rfl rfl (by have := fC (by omega); omega) (getX hs (by have := fC (by omega); omega) (by have := fC (by omega); omega))) <|
     td_det rfl rfl (det_load_one rfl one2 rfl ptr_imm rfl) <|
     td_det rfl rfl (det_add rfl rfl rfl) <|
     td_det rfl rfl (det_call rfl ok126 (ref49_setX s x.A (IntKind.i64.wrap (s.gX x.B + s.gX x.C)) w hs a1 (by omega)) ⟨VLe.refl _, rfl, VLe.refl _, rfl, VLe.refl _, rfl, trivial⟩) <|
     td_nil <|
     rwp_det0 rfl rfl (det_store rfl sz38 rfl rfl rfl (st_row 0 rfl rfl)) <|
     rwp_nil <|
     awp_ret <|
     fin1 (rs_cell_agg agg38 rfl (ptr_row 0 rfl) rfl) ?_
    rw [intv3 c3 (low8_eq (fB (by omega)).1 (fB (by omega)).2) (low8_eq (fC (by omega)).1 (fC (by omega)).2), low8_eq (fB (by omega)).1 (fB (by omega)).2, low8_eq (fC (by omega)).1 (fC (by omega)).2]
    rfl
   ·try simp only [sx] at c3
    refine sReg rfl <|
     rwp_det rfl rfl (det_eql rfl rfl rfl) <|
     rMv rfl <|
     rwp_nil <|
     awp_cond rfl (fun c4 => ?_) (fun c4 => ?_)
    ·try simp only [sx] at c4
     refine awp_seq <|
      awp_draw 13 mixed (by kernel_rfl) rfl rfl <|
      td_det rfl rfl (det_load_agg rfl agg38 rfl (ptr_row 2 rfl) rfl) <|
      td_det rfl rfl (det_field_lit rfl fd67_1 rfl) <|
      td_det rfl rfl (det_load_one rfl one3 rfl (ptr_row 1 rfl) rfl) <|
      td_det rfl rfl (det_field_lit rfl fd38_3 rfl) <|
      td_det rfl rfl (det_load_one rfl one35 rfl (ptr_row 2 rfl) rfl) <|
      td_det rfl rfl (det_field_lit rfl fd67_2 rfl) <|
      td_det rfl rfl (det_load_one rfl one3 rfl (ptr_row 1 rfl) rfl) <|
      td_det rfl rfl (det_index_sl rfl el35 rfl rfl (by have := fB (by omega); omega) (getX hs (by have := fB (by omega); omega) (by have := fB (by omega); omega))) <|
      td_det rfl rfl (det_load_one rfl one2 rfl ptr_imm rfl) <|
      td_det rfl rfl (det_field_lit rfl fd67_3 rfl) <|
      td_det rfl rfl (det_load_one rfl one3 rfl (ptr_row 1 rfl) rfl) <|
      td_det rfl rfl (det_mul rfl rfl rfl) <|
      td_det rfl rfl (det_call rfl ok126 (ref49_setX s x.A (IntKind.i64.wrap (s.gX x.B * x.C)) w hs a1 (by omega)) ⟨VLe.refl _, rfl, VLe.refl _, rfl, VLe.refl _, rfl, trivial⟩) <|
      td_nil <|
      rwp_det0 rfl rfl (det_store rfl sz38 rfl rfl rfl (st_row 0 rfl rfl)) <|
      rwp_nil <|
      awp_ret <|
      fin1 (rs_cell_agg agg38 rfl (ptr_row 0 rfl) rfl) ?_
     rw [intv4 c4 (low8_eq (fB (by omega)).1 (fB (by omega)).2), low8_eq (fB (by omega)).1 (fB (by omega)).2]
     rfl
    ·try simp only [sx] at c4
     refine sReg rfl <|
      rwp_det rfl rfl (det_eql rfl rfl rfl) <|
      rMv rfl <|
      rwp_nil <|
      awp_cond rfl (fun c5 => ?_) (fun c5 => ?_)
     ·try simp only [sx] at c5
      refine awp_seq <|
       awp_draw 17 mixed (by kernel_rfl) rfl rfl <|
       td_det rfl rfl (det_load_agg rfl agg38 rfl (ptr_row 2 rfl) rfl) <|
       td_det rfl rfl (det_field_lit rfl fd67_1 rfl) <|
       td_det rfl rfl (det_load_one rfl one3 rfl (ptr_row 1 rfl) rfl) <|
       td_det rfl rfl (det_field_lit rfl fd38_3 rfl) <|
       td_det rfl rfl (det_load_one rfl one35 rfl (ptr_row 2 rfl) rfl) <|
       td_det rfl rfl (det_field_lit rfl fd67_2 rfl) <|
       td_det rfl rfl (det_load_one rfl one3 rfl (ptr_row 1 rfl) rfl) <|
       td_det rfl rfl (det_index_sl rfl el35 rfl rfl (by have := fB (by omega); omega) (getX hs (by have := fB (by omega); omega) (by have := fB (by omega); omega))) <|
       td_det rfl rfl (det_load_one rfl one2 rfl ptr_imm rfl) <|
       td_det rfl rfl (det_field_lit rfl fd38_3 rfl) <|
       td_det rfl rfl (det_load_one rfl one35 rfl (ptr_row 2 rfl) rfl) <|
       td_det rfl rfl (det_field_lit rfl fd67_3 rfl) <|
       td_det rfl rfl (det_load_one rfl one3 rfl (ptr_row 1 rfl) rfl) <|
       td_det rfl rfl (det_index_sl rfl el35 rfl rfl (by have := fC (by omega); omega) (getX hs (by have := fC (by omega); omega) (by have := fC (by omega); omega))) <|
       td_det rfl rfl (det_load_one rfl one2 rfl ptr_imm rfl) <|
       td_det rfl rfl (det_min rfl rfl rfl) <|
       td_det rfl rfl (det_call rfl ok126 (ref49_setX s x.A (min (s.gX x.B) (s.gX x.C)) w hs a1 (by omega)) ⟨VLe.refl _, rfl, VLe.refl _, rfl, VLe.refl _, rfl, trivial⟩) <|
       td_nil <|
       rwp_det0 rfl rfl (det_store rfl sz38 rfl rfl rfl (st_row 0 rfl rfl)) <|
       rwp_nil <|
       awp_ret <|
       fin1 (rs_cell_agg agg38 rfl (ptr_row 0 rfl) rfl) ?_
      rw [intv5 c5 (low8_eq (fB (by omega)).1 (fB (by omega)).2) (low8_eq (fC (by omega)).1 (fC (by omega)).2), low8_eq (fB (by omega)).1 (fB (by omega)).2, low8_eq (fC (by omega)).1 (fC (by omega)).2]
      rfl
     ·try simp only [sx] at c5
      refine sReg rfl <|
       rwp_det rfl rfl (det_eql rfl rfl rfl) <|
       rMv rfl <|
       rwp_nil <|
       awp_cond rfl (fun c6 => ?_) (fun c6 => ?_)
      ·try simp only [sx] at c6
       refine awp_seq <|
        awp_draw 17 mixed (by kernel_rfl) rfl rfl <|
        td_det rfl rfl (det_load_agg rfl agg38 rfl (ptr_row 2 rfl) rfl) <|
        td_det rfl rfl (det_field_lit rfl fd67_1 rfl) <|
        td_det rfl rfl (det_load_one rfl one3 rfl (ptr_row 1 rfl) rfl) <|
        td_det rfl rfl (det_field_lit rfl fd38_3 rfl) <|
        td_det rfl rfl (det_load_one rfl one35 rfl (ptr_row 2 rfl) rfl) <|
        td_det rfl rfl (det_field_lit rfl fd67_2 rfl) <|
        td_det rfl rfl (det_load_one rfl one3 rfl (ptr_row 1 rfl) rfl) <|
        td_det rfl rfl (det_index_sl rfl el35 rfl rfl (by have := fB (by omega); omega) (getX hs (by have := fB (by omega); omega) (by have := fB (by omega); omega))) <|
        td_det rfl rfl (det_load_one rfl one2 rfl ptr_imm rfl) <|
        td_det rfl rfl (det_field_lit rfl fd38_3 rfl) <|
        td_det rfl rfl (det_load_one rfl one35 rfl (ptr_row 2 rfl) rfl) <|
        td_det rfl rfl (det_field_lit rfl fd67_3 rfl) <|
        td_det rfl rfl (det_load_one rfl one3 rfl (ptr_row 1 rfl) rfl) <|
        td_det rfl rfl (det_index_sl rfl el35 rfl rfl (by have := fC (by omega); omega) (getX hs (by have := fC (by omega); omega) (by have := fC (by omega); omega))) <|
        td_det rfl rfl (det_load_one rfl one2 rfl ptr_imm rfl) <|
        td_det rfl rfl (det_max rfl rfl rfl) <|
        td_det rfl rfl (det_call rfl ok126 (ref49_setX s x.A (max (s.gX x.B) (s.gX x.C)) w hs a1 (by omega)) ⟨VLe.refl _, rfl, VLe.refl _, rfl, VLe.refl _, rfl, trivial⟩) <|
        td_nil <|
        rwp_det0 rfl rfl (det_store rfl sz38 rfl rfl rfl (st_row 0 rfl rfl)) <|
        rwp_nil <|
        awp_ret <|
        fin1 (rs_cell_agg agg38 rfl (ptr_row 0 rfl) rfl) ?_
       rw [intv6 c6 (low8_eq (fB (by omega)).1 (fB (by omega)).2) (low8_eq (fC (by omega)).1 (fC (by omega)).2), low8_eq (fB (by omega)).1 (fB (by omega)).2, low8_eq (fC (by omega)).1 (fC (by omega)).2]
       rfl
      ·try simp only [sx] at c6
       refine awp_skip <|
        awp_seq <|
        awp_draw 16 mixed (by kernel_rfl) rfl rfl <|
        td_det rfl rfl (det_load_agg rfl agg38 rfl (ptr_row 2 rfl) rfl) <|
        td_det rfl rfl (det_field_lit rfl fd67_1 rfl) <|
        td_det rfl rfl (det_load_one rfl one3 rfl (ptr_row 1 rfl) rfl) <|
        td_det rfl rfl (det_field_lit rfl fd38_4 rfl) <|
        td_det rfl rfl (det_load_one rfl one36 rfl (ptr_row 2 rfl) rfl) <|
        td_det rfl rfl (det_field_lit rfl fd67_2 rfl) <|
        td_det rfl rfl (det_load_one rfl one3 rfl (ptr_row 1 rfl) rfl) <|
        td_det rfl rfl (det_index_sl rfl el36 rfl rfl (by have := fB (by omega); omega) (getR hs (by have := fB (by omega); omega) (by have := fB (by omega); omega))) <|
        td_det rfl rfl (det_field_imm rfl fd63_0 rfl) <|
        td_det rfl rfl (det_load_one rfl one2 rfl ptr_imm rfl) <|
        td_det rfl rfl (det_field_lit rfl fd67_3 rfl) <|
        td_det rfl rfl (det_load_one rfl one3 rfl (ptr_row 1 rfl) rfl) <|
        td_det rfl rfl (det_sub_nw rfl rfl rfl ⟨by have := fD (by omega); omega, by have := fD (by omega); omega⟩) <|
        td_det rfl rfl (det_min rfl rfl rfl) <|
        td_det rfl rfl (det_max rfl rfl rfl) <|
        td_det rfl rfl (det_call rfl ok126 (ref49_setX s x.A (max 0 (min (s.gR x.B).N (x.C - 1))) w hs a1 (by omega)) ⟨VLe.refl _, rfl, VLe.refl _, rfl, VLe.refl _, rfl, trivial⟩) <|
        td_nil <|
        rwp_det0 rfl rfl (det_store rfl sz38 rfl rfl rfl (st_row 0 rfl rfl)) <|
        rwp_nil <|
        awp_ret <|
        fin1 (rs_cell_agg agg38 rfl (ptr_row 0 rfl) rfl) ?_
       rw [intv7 (by omega)]
       rfl

theorem ref49_memory (s : Mc) (w : Int) (hs : s.Ok w) (x : In) (hx : fmd x = true) (ho : memB x.Op = true) (hC : x.C ≤ w) :
    Pur cfg 73 [vSt s, vIn x] (.tup [vSt (memV s x).1, vI (memV s x).2]) := by
 refine con_intro Tryz.func73 rfl Tryz.ntmps73 Tryz.results73 rfl ?_
 intro z hz
 obtain ⟨⟨a1, a2⟩, ⟨b1, b2⟩, ⟨d1, d2, d3, d4⟩, fo⟩ := mem_facts hx ho
 have hMl := hs.hM
 have hMw := hs.hw
 refine sReg rfl <|
  rwp_op rfl rfl (ope_box rfl rfl) ?_
 rintro _ _ ⟨b1, rfl, rfl⟩
 refine rwp_op rfl rfl (ope_box rfl rfl) ?_
 rintro _ _ ⟨b2, rfl, rfl⟩
 refine rwp_op rfl rfl (ope_allocN [some 11, some 5, none, some 1, some 2, some 2, none] rfl zr38 rfl) ?_
 rintro _ _ ⟨b3, rfl, rfl⟩
 refine rMv rfl <|
  rwp_nil <|
  sReg rfl <|
  rwp_det rfl rfl (det_field_lit rfl fd38_3 rfl) <|
  rwp_det rfl rfl (det_load_one rfl one35 rfl (ptr_row 2 rfl) rfl) <|
  rwp_det rfl rfl (det_field_lit rfl fd67_2 rfl) <|
  rwp_det rfl rfl (det_load_one rfl one3 rfl (ptr_row 1 rfl) rfl) <|
  rwp_det rfl rfl (det_index_sl rfl el35 rfl rfl (by omega) (getX hs (by omega) (by omega))) <|
  rwp_det rfl rfl (det_load_one rfl one2 rfl ptr_imm rfl) <|
  rMv rfl <|
  rwp_nil <|
  awp_seq <|
  sReg rfl <|
  rMv rfl <|
  rwp_det rfl rfl (det_field_lit rfl fd67_4 rfl) <|
  rwp_det rfl rfl (det_field_lit rfl fd63_0 rfl) <|
  rwp_det rfl rfl (det_load_one rfl one2 rfl (ptr_row 1 rfl) rfl) <|
  rwp_det rfl rfl (det_lss rfl rfl rfl) <|
  rMv rfl <|
  rLz [] rfl gv1 trivial (fun g2_5 => det_move rfl rfl) rfl <|
  rLz [] rfl gv1 trivial (fun g2_5 => det_field_lit rfl fd67_3 rfl) rfl <|
  rLz [(20, _)] rfl gv1 ⟨rfl, rfl, trivial⟩ (fun g2_5 => det_load_one rfl one3 rfl (ptr_row 1 rfl) rfl) rfl <|
  rLz [(19, _), (21, _)] rfl gv1 ⟨rfl, rfl, rfl, rfl, trivial⟩ (fun g2_5 => det_geq rfl rfl rfl) rfl <|
  rwp_det rfl rfl (det_or rfl rfl rfl rfl (fun h => (lzf h))) <|
  rwp_nil <|
  awp_cond rfl (fun c1 => ?_) (fun c1 => ?_)
 ·have c1 : (decide (s.gX x.B < x.Val.N) || decide (x.C ≤ s.gX x.B)) = true := c1
  refine sReg rfl <|
   rwp_det rfl rfl (det_load_agg rfl agg38 rfl (ptr_row 2 rfl) rfl) <|
   rwp_det0 rfl rfl (det_store rfl sz38 rfl rfl rfl (st_row 0 rfl rfl)) <|
   rMv rfl <|
   rwp_nil <|
   awp_ret <|
   fin2 (rs_cell_agg agg38 rfl (ptr_row 0 rfl) rfl) (rs_c rfl) ?_
  rw [memv1 c1]
  rfl
 ·have c1 : (decide (s.gX x.B < x.Val.N) || decide (x.C ≤ s.gX x.B)) = false := c1
  refine awp_skip <|
   awp_seq <|
   sReg rfl <|
   rwp_det rfl rfl (det_field_lit rfl fd67_0 rfl) <|
   rwp_det rfl rfl (det_load_one rfl one3 rfl (ptr_row 1 rfl) rfl) <|
   rwp_det rfl rfl (det_eql rfl rfl rfl) <|
   rwp_nil <|
   awp_cond rfl (fun c2 => ?_) (fun c2 => ?_)
  ·try simp only [sx] at c2
   refine awp_seq <|
    awp_draw 9 mixed (by kernel_rfl) rfl rfl <|
    td_det rfl rfl (det_load_agg rfl agg38 rfl (ptr_row 2 rfl) rfl) <|
    td_det rfl rfl (det_field_lit rfl fd67_1 rfl) <|
    td_det rfl rfl (det_load_one rfl one3 rfl (ptr_row 1 rfl) rfl) <|
    td_det rfl rfl (det_field_lit rfl fd38_5 rfl) <|
    td_det rfl rfl (det_load_one rfl one36 rfl (ptr_row 2 rfl) rfl) <|
    td_det rfl rfl (det_move rfl rfl) <|
    td_det rfl rfl (det_index_sl rfl el36 rfl rfl (by have h_ := mem_rng c1; omega) (getM (by have h_ := mem_rng c1; omega))) <|
    td_det rfl rfl (det_load_agg rfl agg63 rfl ptr_imm rfl) <|
    td_det rfl rfl (det_call rfl ok123 (ref49_setR s x.A (s.gM (s.gX x.B)) w hs a1 (by omega)) ⟨VLe.refl _, rfl, VLe.refl _, rfl, VLe.refl _, rfl, trivial⟩) <|
    td_nil <|
    rwp_det0 rfl rfl (det_store rfl sz38 rfl rfl rfl (st_row 0 rfl rfl)) <|
    rMv rfl <|
    rwp_nil <|
    awp_ret <|
    fin2 (rs_cell_agg agg38 rfl (ptr_row 0 rfl) rfl) (rs_c rfl) ?_
   rw [memv2 c1 c2]
   rfl
  ·try simp only [sx] at c2
   refine awp_skip <|
    awp_seq <|
    awp_draw 12 mixed (by kernel_rfl) rfl rfl <|
    td_det rfl rfl (det_load_agg rfl agg38 rfl (ptr_row 2 rfl) rfl) <|
    td_det rfl rfl (det_move rfl rfl) <|
    td_det rfl rfl (det_field_lit rfl fd38_4 rfl) <|
    td_det rfl rfl (det_load_one rfl one36 rfl (ptr_row 2 rfl) rfl) <|
    td_det rfl rfl (det_field_lit rfl fd67_1 rfl) <|
    td_det rfl rfl (det_load_one rfl one3 rfl (ptr_row 1 rfl) rfl) <|
    td_det rfl rfl (det_index_sl rfl el36 rfl rfl (by omega) (getR hs (by omega) (by omega))) <|
    td_det rfl rfl (det_load_agg rfl agg63 rfl ptr_imm rfl) <|
    td_det rfl rfl (det_bslice rfl el36 zr63 rfl rfl rfl rfl) <|
    td_det rfl rfl (det_call rfl ok34 (ref49_Store s (s.gX x.B) [s.gR x.A] (by omega) (by simp)) ⟨VLe.refl _, rfl, VLe.refl _, rfl, VLe.refl _, rfl, trivial⟩) <|
    td_det rfl rfl (det_ex_agg rfl rfl rfl) <|
    td_det rfl rfl (det_ex_c rfl rfl rfl) <|
    td_nil <|
    rwp_det0 rfl rfl (det_store rfl sz38 rfl rfl rfl (st_row 0 rfl rfl)) <|
    rMv rfl <|
    rwp_nil <|
    awp_ret <|
    fin2 (rs_cell_agg agg38 rfl (ptr_row 0 rfl) rfl) (rs_c rfl) ?_
   rw [memv3 c1 c2, sto_one (by have h_ := mem_rng c1; omega) (by have h_ := mem_rng c1; omega)]
   rfl

theorem ref49_compute (s : Mc) (w : Int) (hs : s.Ok w) (x : In) (hx : fmd x = true) (ho : cptB x.Op = true) (hT : x.Op = 13 → x.Val.N < s.tys.length) :
    Pur cfg 74 [vSt s, vIn x] (.tup [vSt (cptR s x).1, vI (cptR s x).2]) := by
 refine con_intro Tryz.func74 rfl Tryz.ntmps74 Tryz.results74 rfl ?_
 intro z hz
 obtain ⟨⟨a1, a2⟩, fB, fC, fD, fo⟩ := cpt_facts hx ho
 refine sReg rfl <|
  rwp_op rfl rfl (ope_box rfl rfl) ?_
 rintro _ _ ⟨b1, rfl, rfl⟩
 refine rwp_op rfl rfl (ope_box rfl rfl) ?_
 rintro _ _ ⟨b2, rfl, rfl⟩
 refine rwp_op rfl rfl (ope_allocN [some 11, some 5, none, some 1, some 2, some 2, none] rfl zr38 rfl) ?_
 rintro _ _ ⟨b3, rfl, rfl⟩
 refine rMv rfl <|
  rwp_nil <|
  awp_seq <|
  sReg rfl <|
  rwp_det rfl rfl (det_field_lit rfl fd67_0 rfl) <|
  rwp_det rfl rfl (det_load_one rfl one3 rfl (ptr_row 1 rfl) rfl) <|
  rwp_nil <|
  awp_block <|
  sReg rfl <|
  rwp_det rfl rfl (det_eql rfl rfl rfl) <|
  rMv rfl <|
  rwp_nil <|
  awp_cond rfl (fun c1 => ?_) (fun c1 => ?_)
 ·try simp only [sx] at c1
  refine sReg rfl <|
   rwp_det rfl rfl (det_load_agg rfl agg38 rfl (ptr_row 2 rfl) rfl) <|
   rwp_det rfl rfl (det_field_lit rfl fd67_1 rfl) <|
   rwp_det rfl rfl (det_load_one rfl one3 rfl (ptr_row 1 rfl) rfl) <|
   rwp_det rfl rfl (det_field_lit rfl fd67_4 rfl) <|
   rwp_det rfl rfl (det_load_agg rfl agg63 rfl (ptr_row 1 rfl) rfl) <|
   rwp_det rfl rfl (det_call rfl ok123 (ref49_setR s x.A (x.Val) w hs a1 (by omega)) ⟨VLe.refl _, rfl, VLe.refl _, rfl, VLe.refl _, rfl, trivial⟩) <|
   rwp_det0 rfl rfl (det_store rfl sz38 rfl rfl rfl (st_row 0 rfl rfl)) <|
   rMv rfl <|
   rwp_nil <|
   awp_ret <|
   fin2 (rs_cell_agg agg38 rfl (ptr_row 0 rfl) rfl) (rs_c rfl) ?_
  rw [cptr1 (by omega), cptv1 c1]
  rfl
 ·try simp only [sx] at c1
  refine sReg rfl <|
   rwp_det rfl rfl (det_eql rfl rfl rfl) <|
   rMv rfl <|
   rwp_nil <|
   awp_cond rfl (fun c2 => ?_) (fun c2 => ?_)
  ·try simp only [sx] at c2
   have hB := fB (by omega)
   have hC := fC c2
   refine awp_seq <|
    awp_draw_c 23 1 [⟨0, .q []⟩, ⟨1, .q []⟩, ⟨2, .q [2]⟩, ⟨3, .q []⟩, ⟨4, .q [2]⟩, ⟨5, .q []⟩, ⟨6, .q [3]⟩, ⟨7, .q []⟩, ⟨8, .q [2]⟩, ⟨9, .q []⟩, ⟨10, .q []⟩, ⟨11, .q []⟩, ⟨12, .q [3]⟩, ⟨13, .q []⟩, ⟨14, .q [2]⟩, ⟨15, .q []⟩, ⟨16, .q []⟩, ⟨17, .q []⟩, ⟨18, .q []⟩, ⟨19, .q []⟩, ⟨20, .q []⟩, ⟨21, .e 0 []⟩, ⟨22, .e 0 []⟩] mixed (by kernel_rfl) (by kernel_rfl) rfl rfl rfl <|
    fx_skip rfl <|
    fx_skip rfl <|
    fx_skip rfl <|
    fx_skip rfl <|
    fx_skip rfl <|
    fx_skip rfl <|
    fx_skip rfl <|
    fx_skip rfl <|
    fx_skip rfl <|
    fx_skip rfl <|
    fx_skip rfl <|
    fx_skip rfl <|
    fx_skip rfl <|
    fx_skip rfl <|
    fx_skip rfl <|
    fx_skip rfl <|
    fx_skip rfl <|
    fx_skip rfl <|
    fx_skip rfl <|
    fx_skip rfl <|
    fx_skip rfl <|
    fx_skip rfl <|
    fx_skip rfl <|
    fx_nil <|
    sq_det rfl (by decide) rfl rfl (det_field_lit rfl fd67_4 rfl) <|
    sq_det rfl (by decide) rfl rfl (det_field_lit rfl fd63_0 rfl) <|
    sq_det rfl (by decide) rfl rfl (det_load_one rfl one2 rfl (ptr_row 0 rfl) rfl) <|
    sq_det rfl (by decide) rfl rfl (det_field_lit rfl fd67_5 rfl) <|
    sq_det rfl (by decide) rfl rfl (det_load_agg rfl agg65 rfl (ptr_row 0 rfl) rfl) <|
    sq_det rfl (by decide) rfl rfl (det_field_lit rfl fd38_4 rfl) <|
    sq_det rfl (by decide) rfl rfl (det_load_one rfl one36 rfl (ptr_row 0 rfl) rfl) <|
    sq_det rfl (by decide) rfl rfl (det_field_lit rfl fd67_2 rfl) <|
    sq_det rfl (by decide) rfl rfl (det_load_one rfl one3 rfl (ptr_row 0 rfl) rfl) <|
    sq_det rfl (by decide) rfl rfl (det_index_sl rfl el36 rfl rfl (by omega) (getR hs (by omega) (by omega))) <|
    sq_det rfl (by decide) rfl rfl (det_load_agg rfl agg63 rfl ptr_imm rfl) <|
    sq_det rfl (by decide) rfl rfl (det_field_lit rfl fd38_4 rfl) <|
    sq_det rfl (by decide) rfl rfl (det_load_one rfl one36 rfl (ptr_row 0 rfl) rfl) <|
    sq_det rfl (by decide) rfl rfl (det_field_lit rfl fd67_3 rfl) <|
    sq_det rfl (by decide) rfl rfl (det_load_one rfl one3 rfl (ptr_row 0 rfl) rfl) <|
    sq_det rfl (by decide) rfl rfl (det_index_sl rfl el36 rfl rfl (by omega) (getR hs (by omega) (by omega))) <|
    sq_det rfl (by decide) rfl rfl (det_load_agg rfl agg63 rfl ptr_imm rfl) <|
    sq_det rfl (by decide) rfl rfl (det_call rfl ok124 (ref04_Apply x.Val.N x.Ty (s.gR x.B) (s.gR x.C)) ⟨VLe.refl _, rfl, VLe.refl _, rfl, VLe.refl _, rfl, VLe.refl _, rfl, trivial⟩) <|
    sq_det rfl (by decide) rfl rfl (det_move_tup rfl rfl) <|
    sq_det rfl (by decide) rfl rfl (det_ex_agg rfl rfl rfl) <|
    sq_det rfl (by decide) rfl rfl (det_ex_c rfl rfl rfl) <|
    sq_op rfl rfl (by decide) rfl rfl (ope_alloc rfl zr63) ?_
   rintro _ _ ⟨b4, rfl, rfl⟩
   refine ⟨_, rfl, ?_⟩
   refine sq_op0 rfl rfl (by decide) rfl rfl (det_store rfl sz63 rfl rfl rfl (st_row 0 rfl rfl)) ?_
   rintro _ _ ⟨rfl, rfl⟩
   refine ⟨_, rfl, ?_⟩
   refine sq_nil rfl <|
    rMv rfl <|
    rwp_nil <|
    sReg rfl <|
    rwp_det rfl rfl (det_load_agg rfl agg38 rfl (ptr_row 3 rfl) rfl) <|
    rwp_det rfl rfl (det_field_lit rfl fd67_1 rfl) <|
    rwp_det rfl rfl (det_load_one rfl one3 rfl (ptr_row 2 rfl) rfl) <|
    rwp_det rfl rfl (det_load_agg rfl agg63 rfl (ptr_row 0 rfl) rfl) <|
    rwp_det rfl rfl (det_call rfl ok123 (ref49_setR s x.A ((aplV x.Val.N x.Ty (s.gR x.B) (s.gR x.C)).1) w hs a1 (by omega)) ⟨VLe.refl _, rfl, VLe.refl _, rfl, VLe.refl _, rfl, trivial⟩) <|
    rMv rfl <|
    rwp_det0 rfl rfl (det_store rfl sz38 rfl rfl rfl (st_row 1 rfl rfl)) <|
    rMv rfl <|
    rwp_nil <|
    awp_ret <|
    fin2 (rs_cell_agg agg38 rfl (ptr_row 1 rfl) rfl) (rs_c rfl) ?_
   rw [cptr1 (by omega), cptv2 c2]
   rfl
  ·try simp only [sx] at c2
   refine sReg rfl <|
    rwp_det rfl rfl (det_eql rfl rfl rfl) <|
    rMv rfl <|
    rwp_nil <|
    awp_cond rfl (fun c3 => ?_) (fun c3 => ?_)
   ·try simp only [sx] at c3
    have hB := fB (by omega)
    have hD := fD c3
    have hT := hT c3
    refine awp_seq <|
     awp_draw_c 21 1 [⟨0, .q []⟩, ⟨1, .q [3]⟩, ⟨2, .q []⟩, ⟨3, .q []⟩, ⟨4, .q [2]⟩, ⟨5, .q []⟩, ⟨6, .q []⟩, ⟨7, .q []⟩, ⟨8, .q [2]⟩, ⟨9, .q []⟩, ⟨10, .q [3]⟩, ⟨11, .q []⟩, ⟨12, .q [2]⟩, ⟨13, .q []⟩, ⟨14, .q []⟩, ⟨15, .q []⟩, ⟨16, .q []⟩, ⟨17, .q []⟩, ⟨18, .q []⟩, ⟨19, .e 0 []⟩, ⟨20, .e 0 []⟩] mixed (by kernel_rfl) (by kernel_rfl) rfl rfl rfl <|
     fx_skip rfl <|
     fx_skip rfl <|
     fx_skip rfl <|
     fx_skip rfl <|
     fx_skip rfl <|
     fx_skip rfl <|
     fx_skip rfl <|
     fx_skip rfl <|
     fx_skip rfl <|
     fx_skip rfl <|
     fx_skip rfl <|
     fx_skip rfl <|
     fx_skip rfl <|
     fx_skip rfl <|
     fx_skip rfl <|
     fx_skip rfl <|
     fx_skip rfl <|
     fx_skip rfl <|
     fx_skip rfl <|
     fx_skip rfl <|
     fx_skip rfl <|
     fx_nil <|
     sq_det rfl (by decide) rfl rfl (det_field_lit rfl fd38_1 rfl) <|
     sq_det rfl (by decide) rfl rfl (det_load_one rfl one23 rfl (ptr_row 0 rfl) rfl) <|
     sq_det rfl (by decide) rfl rfl (det_field_lit rfl fd67_4 rfl) <|
     sq_det rfl (by decide) rfl rfl (det_field_lit rfl fd63_0 rfl) <|
     sq_det rfl (by decide) rfl rfl (det_load_one rfl one2 rfl (ptr_row 0 rfl) rfl) <|
     sq_det rfl (by decide) rfl rfl (det_index_sl rfl el23 rfl rfl (by omega) (getm (ty_at (by omega)))) <|
     sq_det rfl (by decide) rfl rfl (det_load_agg rfl agg65 rfl ptr_imm rfl) <|
     sq_det rfl (by decide) rfl rfl (det_field_lit rfl fd67_5 rfl) <|
     sq_det rfl (by decide) rfl rfl (det_load_agg rfl agg65 rfl (ptr_row 0 rfl) rfl) <|
     sq_det rfl (by decide) rfl rfl (det_field_lit rfl fd38_4 rfl) <|
     sq_det rfl (by decide) rfl rfl (det_load_one rfl one36 rfl (ptr_row 0 rfl) rfl) <|
     sq_det rfl (by decide) rfl rfl (det_field_lit rfl fd67_2 rfl) <|
     sq_det rfl (by decide) rfl rfl (det_load_one rfl one3 rfl (ptr_row 0 rfl) rfl) <|
     sq_det rfl (by decide) rfl rfl (det_index_sl rfl el36 rfl rfl (by omega) (getR hs (by omega) (by omega))) <|
     sq_det rfl (by decide) rfl rfl (det_load_agg rfl agg63 rfl ptr_imm rfl) <|
     sq_det rfl (by decide) rfl rfl (det_call rfl ok125 (ref04_Cast (s.tys.getD x.Val.N.toNat ⟨0, 0, 0, 0, 0⟩) x.Ty (s.gR x.B)) ⟨VLe.refl _, rfl, VLe.refl _, rfl, VLe.refl _, rfl, trivial⟩) <|
     sq_det rfl (by decide) rfl rfl (det_move_tup rfl rfl) <|
     sq_det rfl (by decide) rfl rfl (det_ex_agg rfl rfl rfl) <|
     sq_det rfl (by decide) rfl rfl (det_ex_c rfl rfl rfl) <|
     sq_op rfl rfl (by decide) rfl rfl (ope_alloc rfl zr63) ?_
    rintro _ _ ⟨b5, rfl, rfl⟩
    refine ⟨_, rfl, ?_⟩
    refine sq_op0 rfl rfl (by decide) rfl rfl (det_store rfl sz63 rfl rfl rfl (st_row 0 rfl rfl)) ?_
    rintro _ _ ⟨rfl, rfl⟩
    refine ⟨_, rfl, ?_⟩
    refine sq_nil rfl <|
     rMv rfl <|
     rwp_nil <|
     sReg rfl <|
     rwp_det rfl rfl (det_load_agg rfl agg38 rfl (ptr_row 3 rfl) rfl) <|
     rwp_det rfl rfl (det_field_lit rfl fd67_1 rfl) <|
     rwp_det rfl rfl (det_load_one rfl one3 rfl (ptr_row 2 rfl) rfl) <|
     rwp_det rfl rfl (det_load_agg rfl agg63 rfl (ptr_row 0 rfl) rfl) <|
     rwp_det rfl rfl (det_call rfl ok123 (ref49_setR s x.A ((cstV (s.tys.getD x.Val.N.toNat ⟨0, 0, 0, 0, 0⟩) x.Ty (s.gR x.B)).1) w hs a1 (by omega)) ⟨VLe.refl _, rfl, VLe.refl _, rfl, VLe.refl _, rfl, trivial⟩) <|
     rMv rfl <|
     rwp_det0 rfl rfl (det_store rfl sz38 rfl rfl rfl (st_row 1 rfl rfl)) <|
     rMv rfl <|
     rwp_nil <|
     awp_ret <|
     fin2 (rs_cell_agg agg38 rfl (ptr_row 1 rfl) rfl) (rs_c rfl) ?_
    rw [cptr1 (by omega), cptv3 c3]
    rfl
   ·try simp only [sx] at c3
    have hB := fB (by omega)
    have h16 : x.Op = 16 := by omega
    refine awp_skip <|
     sReg rfl <|
     rwp_det rfl rfl (det_field_lit rfl fd38_3 rfl) <|
     rwp_det rfl rfl (det_load_one rfl one35 rfl (ptr_row 2 rfl) rfl) <|
     rwp_det rfl rfl (det_field_lit rfl fd67_2 rfl) <|
     rwp_det rfl rfl (det_load_one rfl one3 rfl (ptr_row 1 rfl) rfl) <|
     rwp_det rfl rfl (det_index_sl rfl el35 rfl rfl (by omega) (getX hs (by omega) (by omega))) <|
     rwp_det rfl rfl (det_load_one rfl one2 rfl ptr_imm rfl) <|
     rMv rfl <|
     rwp_nil <|
     awp_seq <|
     sReg rfl <|
     rMv rfl <|
     rwp_det rfl rfl (det_gtr rfl rfl rfl) <|
     rMv rfl <|
     rLz [] rfl gv1 trivial (fun g11_2 => det_move rfl rfl) rfl <|
     rLz [(86, _)] rfl gv1 ⟨rfl, rfl, trivial⟩ (fun g11_2 => det_lss rfl rfl rfl) rfl <|
     rwp_det rfl rfl (det_or rfl rfl rfl rfl (fun h => (lzf h))) <|
     rwp_nil <|
     awp_cond rfl (fun c4 => ?_) (fun c4 => ?_)
    ·have c4 : (decide (2147483647 < s.gX x.B) || decide (s.gX x.B < -2147483647)) = true := c4
     refine sReg rfl <|
      rwp_det rfl rfl (det_load_agg rfl agg38 rfl (ptr_row 2 rfl) rfl) <|
      rwp_det0 rfl rfl (det_store rfl sz38 rfl rfl rfl (st_row 0 rfl rfl)) <|
      rMv rfl <|
      rwp_nil <|
      awp_ret <|
      fin2 (rs_cell_agg agg38 rfl (ptr_row 0 rfl) rfl) (rs_c rfl) ?_
     rw [cptr2 h16 c4]
     rfl
    ·have c4 : (decide (2147483647 < s.gX x.B) || decide (s.gX x.B < -2147483647)) = false := c4
     refine awp_skip <|
      sReg rfl <|
      rwp_det rfl rfl (det_load_agg rfl agg38 rfl (ptr_row 2 rfl) rfl) <|
      rwp_det rfl rfl (det_field_lit rfl fd67_1 rfl) <|
      rwp_det rfl rfl (det_load_one rfl one3 rfl (ptr_row 1 rfl) rfl) <|
      rMv rfl <|
      rwp_det rfl rfl (det_build rfl zr63 pl63 rfl) <|
      rwp_det rfl rfl (det_call rfl ok123 (ref49_setR s x.A (⟨s.gX x.B, 1⟩) w hs a1 (by omega)) ⟨VLe.refl _, rfl, VLe.refl _, rfl, VLe.refl _, rfl, trivial⟩) <|
      rwp_det0 rfl rfl (det_store rfl sz38 rfl rfl rfl (st_row 0 rfl rfl)) <|
      rMv rfl <|
      rwp_nil <|
      awp_ret <|
      fin2 (rs_cell_agg agg38 rfl (ptr_row 0 rfl) rfl) (rs_c rfl) ?_
     rw [cptr3 h16 c4]
     rfl

theorem ref49_test (s : Mc) (w : Int) (hs : s.Ok w) (x : In) (hx : fmd x = true) (h14 : x.Op = 14) :
    Pur cfg 72 [vSt s, vIn x] (.tup [vB (tstV s x).1, vI (tstV s x).2]) := by
 refine con_intro Tryz.func72 rfl Tryz.ntmps72 Tryz.results72 rfl ?_
 intro z hz
 obtain ⟨⟨a1, a2⟩, fB, fC, fo⟩ := jmp_facts hx (by simp [jmpB, h14])
 obtain ⟨⟨b1, b2⟩, d1, d2⟩ := fB (by omega)
 refine sReg rfl <|
  rwp_op rfl rfl (ope_box rfl rfl) ?_
 rintro _ _ ⟨b1, rfl, rfl⟩
 refine rwp_op rfl rfl (ope_box rfl rfl) ?_
 rintro _ _ ⟨b2, rfl, rfl⟩
 refine rMv rfl <|
  rMv rfl <|
  rwp_nil <|
  awp_seq <|
  awp_draw_c 15 2 [⟨0, .q []⟩, ⟨1, .q [3]⟩, ⟨2, .q []⟩, ⟨3, .q [2]⟩, ⟨4, .q []⟩, ⟨5, .q []⟩, ⟨6, .q []⟩, ⟨7, .q [3]⟩, ⟨8, .q []⟩, ⟨9, .q [2]⟩, ⟨10, .q []⟩, ⟨11, .q []⟩, ⟨12, .f 1⟩, ⟨13, .f 0⟩, ⟨14, .g 1 []⟩] mixed (by kernel_rfl) (by kernel_rfl) rfl rfl rfl <|
  fx_skip rfl <|
  fx_skip rfl <|
  fx_skip rfl <|
  fx_skip rfl <|
  fx_skip rfl <|
  fx_skip rfl <|
  fx_skip rfl <|
  fx_skip rfl <|
  fx_skip rfl <|
  fx_skip rfl <|
  fx_skip rfl <|
  fx_skip rfl <|
  fx_fresh rfl rfl (fresh_alloc' (ope_alloc rfl zr63)) ⟨_, _, 0, rfl, rfl⟩ <|
  fx_fresh rfl rfl (fresh_alloc' (ope_alloc rfl zr63)) ⟨_, _, 0, rfl, rfl⟩ <|
  fx_skip rfl <|
  fx_nil <|
  sq_det rfl (by decide) rfl rfl (det_field_lit rfl fd38_4 rfl) <|
  sq_det rfl (by decide) rfl rfl (det_load_one rfl one36 rfl (ptr_row 0 rfl) rfl) <|
  sq_det rfl (by decide) rfl rfl (det_field_lit rfl fd67_2 rfl) <|
  sq_det rfl (by decide) rfl rfl (det_load_one rfl one3 rfl (ptr_row 0 rfl) rfl) <|
  sq_det rfl (by decide) rfl rfl (det_index_sl rfl el36 rfl rfl (by omega) (getR hs (by omega) (by omega))) <|
  sq_det rfl (by decide) rfl rfl (det_load_agg rfl agg63 rfl ptr_imm rfl) <|
  sq_det rfl (by decide) rfl rfl (det_field_lit rfl fd38_4 rfl) <|
  sq_det rfl (by decide) rfl rfl (det_load_one rfl one36 rfl (ptr_row 0 rfl) rfl) <|
  sq_det rfl (by decide) rfl rfl (det_field_lit rfl fd67_3 rfl) <|
  sq_det rfl (by decide) rfl rfl (det_load_one rfl one3 rfl (ptr_row 0 rfl) rfl) <|
  sq_det rfl (by decide) rfl rfl (det_index_sl rfl el36 rfl rfl (by omega) (getR hs (by omega) (by omega))) <|
  sq_det rfl (by decide) rfl rfl (det_load_agg rfl agg63 rfl ptr_imm rfl) <|
  sq_fresh rfl rfl ?_
 rintro _ _ ⟨b3, rfl, rfl⟩
 refine sq_fresh rfl rfl ?_
 rintro _ _ ⟨b4, rfl, rfl⟩
 refine sq_v0 rfl rfl (by decide) rfl rfl rfl (det_store rfl sz63 rfl rfl rfl (st_row 0 rfl rfl)) rfl <|
  sq_nil rfl <|
  rwp_det0 rfl rfl (det_store rfl sz63 rfl rfl rfl (st_row 0 rfl rfl)) <|
  rwp_nil <|
  awp_seq <|
  sReg rfl <|
  rwp_det rfl rfl (det_field_lit rfl fd67_5 rfl) <|
  rwp_det rfl rfl (det_load_agg rfl agg65 rfl (ptr_row 2 rfl) rfl) <|
  rwp_det rfl rfl (det_load_agg rfl agg63 rfl (ptr_row 1 rfl) rfl) <|
  rwp_det rfl rfl (det_call rfl ok121 (ref04_Valid x.Ty (s.gR x.B)) ⟨VLe.refl _, rfl, VLe.refl _, rfl, trivial⟩) <|
  rwp_det rfl rfl (det_not rfl rfl) <|
  rMv rfl <|
  rLz [] rfl gv1 trivial (fun g2_5 => det_field_lit rfl fd67_5 rfl) rfl <|
  rLz [(27, _)] rfl gv1 ⟨rfl, rfl, trivial⟩ (fun g2_5 => det_load_agg rfl agg65 rfl (ptr_row 2 rfl) rfl) rfl <|
  rLz [] rfl gv1 trivial (fun g2_5 => det_load_agg rfl agg63 rfl (ptr_row 0 rfl) rfl) rfl <|
  rLz [(28, _), (29, _)] rfl gv1 ⟨rfl, rfl, rfl, rfl, trivial⟩ (fun g2_5 => det_call rfl ok121 (ref04_Valid x.Ty (s.gR x.C)) ⟨VLe.refl _, rfl, VLe.refl _, rfl, trivial⟩) rfl <|
  rLz [(30, _)] rfl gv1 ⟨rfl, rfl, trivial⟩ (fun g2_5 => det_not rfl rfl) rfl <|
  rwp_det rfl rfl (det_or rfl rfl rfl rfl (fun h => (lzf h))) <|
  rwp_nil <|
  awp_cond rfl (fun c1 => ?_) (fun c1 => ?_)
 ·have c1 : (!(tyOk x.Ty && valOk x.Ty (s.gR x.B)) || !(tyOk x.Ty && valOk x.Ty (s.gR x.C))) = true := c1
  refine sReg rfl <|
   rMv rfl <|
   rMv rfl <|
   rwp_nil <|
   awp_ret <|
   fin2 (rs_c rfl) (rs_c rfl) ?_
  rw [tst1 c1]
 ·have c1 : (!(tyOk x.Ty && valOk x.Ty (s.gR x.B)) || !(tyOk x.Ty && valOk x.Ty (s.gR x.C))) = false := c1
  refine awp_skip <|
   sReg rfl <|
   rwp_det rfl rfl (det_field_lit rfl fd67_5 rfl) <|
   rwp_det rfl rfl (det_load_agg rfl agg65 rfl (ptr_row 2 rfl) rfl) <|
   rwp_det rfl rfl (det_load_agg rfl agg63 rfl (ptr_row 1 rfl) rfl) <|
   rwp_det rfl rfl (det_load_agg rfl agg63 rfl (ptr_row 0 rfl) rfl) <|
   rwp_det rfl rfl (det_call rfl ok122 (ref04_Compare x.Ty (s.gR x.B) (s.gR x.C)) ⟨VLe.refl _, rfl, VLe.refl _, rfl, VLe.refl _, rfl, trivial⟩) <|
   rMv rfl <|
   rwp_nil <|
   sReg rfl <|
   rMv rfl <|
   rwp_det rfl rfl (det_lss rfl rfl rfl) <|
   rMv rfl <|
   rLz [] rfl gv1 trivial (fun g5_2 => det_field_lit rfl fd67_4 rfl) rfl <|
   rLz [(41, _)] rfl gv1 ⟨rfl, rfl, trivial⟩ (fun g5_2 => det_field_lit rfl fd63_0 rfl) rfl <|
   rLz [(42, _)] rfl gv1 ⟨rfl, rfl, trivial⟩ (fun g5_2 => det_load_one rfl one2 rfl (ptr_row 2 rfl) rfl) rfl <|
   rLz [(43, _)] rfl gv1 ⟨rfl, rfl, trivial⟩ (fun g5_2 => det_neq rfl rfl rfl) rfl <|
   rwp_det rfl rfl (det_and rfl rfl rfl (fun h => h) rfl) <|
   rMv rfl <|
   rLz [] rfl gv1 trivial (fun g5_8 => det_move rfl rfl) rfl <|
   rLz [(47, _)] rfl gv1 ⟨rfl, rfl, trivial⟩ (fun g5_8 => det_eql rfl rfl rfl) rfl <|
   rLz [(48, _)] rfl gv1 ⟨rfl, rfl, trivial⟩ (fun g5_8 => det_move rfl rfl) rfl <|
   rLz [] rfl gv2 trivial (fun g5_11 => det_field_lit rfl fd67_4 rfl) rfl <|
   rLz [(50, _)] rfl gv2 ⟨rfl, rfl, trivial⟩ (fun g5_11 => det_field_lit rfl fd63_0 rfl) rfl <|
   rLz [(51, _)] rfl gv2 ⟨rfl, rfl, trivial⟩ (fun g5_11 => det_load_one rfl one2 rfl (ptr_row 2 rfl) rfl) rfl <|
   rLz [(52, _)] rfl gv2 ⟨rfl, rfl, trivial⟩ (fun g5_11 => det_neq rfl rfl rfl) rfl <|
   rLz [(49, _)] rfl gv1 ⟨rfl, rfl, trivial⟩ (fun g5_8 => det_and rfl rfl rfl (fun h => and_mk (by assumption) h) rfl) rfl <|
   rwp_det rfl rfl (det_or rfl rfl rfl rfl (fun h => (lzf h))) <|
   rMv rfl <|
   rMv rfl <|
   rwp_nil <|
   awp_ret <|
   fin2 (rs_c rfl) (rs_c rfl) ?_
  rw [tst2 c1]
  rfl

theorem ref49_Step (s : Mc) (w : Int) (hs : s.Ok w) :
    Pur cfg 33 [vSt s] (.tup [vSt (stepM s).1, vB (stepM s).2.1, vI (stepM s).2.2]) := by
 refine con_intro Tryz.func33 rfl Tryz.ntmps33 Tryz.results33 rfl ?_
 intro z hz
 refine sReg rfl <|
  rwp_op rfl rfl (ope_box rfl rfl) ?_
 rintro _ _ ⟨b1, rfl, rfl⟩
 refine rwp_op rfl rfl (ope_allocN [some 11, some 5, none, some 1, some 2, some 2, none] rfl zr38 rfl) ?_
 rintro _ _ ⟨b2, rfl, rfl⟩
 refine rMv rfl <|
  rMv rfl <|
  rwp_nil <|
  awp_seq <|
  sReg rfl <|
  rwp_det rfl rfl (det_field_lit rfl fd38_6 rfl) <|
  rwp_det rfl rfl (det_load_one rfl one4 rfl (ptr_row 1 rfl) rfl) <|
  rwp_nil <|
  awp_cond rfl (fun c1 => ?_) (fun c1 => ?_)
 ·try simp only [sx] at c1
  refine sReg rfl <|
   rwp_det rfl rfl (det_load_agg rfl agg38 rfl (ptr_row 1 rfl) rfl) <|
   rwp_det0 rfl rfl (det_store rfl sz38 rfl rfl rfl (st_row 0 rfl rfl)) <|
   rMv rfl <|
   rMv rfl <|
   rwp_nil <|
   awp_ret <|
   fin3 (rs_cell_agg agg38 rfl (ptr_row 0 rfl) rfl) (rs_c rfl) (rs_c rfl) ?_
  rw [stepM1 c1]
  rfl
 ·try simp only [sx] at c1
  have hl0 : s.hl = false := by simpa using c1
  refine awp_skip <|
   awp_seq <|
   sReg rfl <|
   rwp_det rfl rfl (det_field_lit rfl fd38_2 rfl) <|
   rwp_det rfl rfl (det_load_one rfl one3 rfl (ptr_row 1 rfl) rfl) <|
   rwp_det rfl rfl (det_field_lit rfl fd38_0 rfl) <|
   rwp_det rfl rfl (det_load_one rfl one22 rfl (ptr_row 1 rfl) rfl) <|
   rwp_det rfl rfl (det_len_slm rfl el22 rfl) <|
   rwp_det rfl rfl (det_geq rfl rfl rfl) <|
   rwp_nil <|
   awp_cond rfl (fun c2 => ?_) (fun c2 => ?_)
  ·try simp only [sx] at c2
   have c2 : (s.code.length : Int) ≤ s.pc := by simpa only [List.length_map] using c2
   refine sReg rfl <|
    rwp_det rfl rfl (det_load_agg rfl agg38 rfl (ptr_row 1 rfl) rfl) <|
    rwp_det0 rfl rfl (det_store rfl sz38 rfl rfl rfl (st_row 0 rfl rfl)) <|
    rMv rfl <|
    rMv rfl <|
    rwp_nil <|
    awp_ret <|
    fin3 (rs_cell_agg agg38 rfl (ptr_row 0 rfl) rfl) (rs_c rfl) (rs_c rfl) ?_
   rw [stepM2 hl0 c2]
   rfl
  ·try simp only [sx] at c2
   have h3 : ¬ (s.code.length : Int) ≤ s.pc := by (try simp only [List.length_map] at c2); omega
   obtain ⟨hget, hok⟩ := hs.insOk (by omega)
   obtain ⟨hf, hJ, hMm, hT⟩ := inOk_fmd hok
   have hpc := hs.hp
   have hcl := hs.hn
   refine awp_skip <|
    sReg rfl <|
    rwp_det rfl rfl (det_field_lit rfl fd38_0 rfl) <|
    rwp_det rfl rfl (det_load_one rfl one22 rfl (ptr_row 1 rfl) rfl) <|
    rwp_det rfl rfl (det_field_lit rfl fd38_2 rfl) <|
    rwp_det rfl rfl (det_load_one rfl one3 rfl (ptr_row 1 rfl) rfl) <|
    rwp_det rfl rfl (det_index_sl rfl el22 rfl rfl (by omega) (getm hget)) <|
    rwp_det rfl rfl (det_load_agg rfl agg67 rfl ptr_imm rfl) <|
    rwp_op rfl rfl (ope_alloc rfl zr67) ?_
   rintro _ _ ⟨b3, rfl, rfl⟩
   refine rwp_det0 rfl rfl (det_store rfl sz67 rfl rfl rfl (st_row 0 rfl rfl)) <|
    rwp_nil <|
    sReg rfl <|
    rwp_det rfl rfl (det_load_agg rfl agg38 rfl (ptr_row 2 rfl) rfl) <|
    rwp_op rfl rfl (ope_allocN [some 11, some 5, none, some 1, some 2, some 2, none] rfl zr38 rfl) ?_
   rintro _ _ ⟨b4, rfl, rfl⟩
   refine rwp_det0 rfl rfl (det_store rfl sz38 rfl rfl rfl (st_row 0 rfl rfl)) <|
    rMv rfl <|
    rMv rfl <|
    rwp_nil <|
    awp_seq <|
    sReg rfl <|
    rwp_det rfl rfl (det_field_lit rfl fd67_0 rfl) <|
    rwp_det rfl rfl (det_load_one rfl one3 rfl (ptr_row 1 rfl) rfl) <|
    rwp_nil <|
    awp_block <|
    sReg rfl <|
    rwp_det rfl rfl (det_eql rfl rfl rfl) <|
    rMv rfl <|
    rwp_nil <|
    awp_cond rfl (fun c3 => ?_) (fun c3 => ?_)
   ·try simp only [sx] at c3
    refine sReg rfl <|
     rwp_det rfl rfl (det_field_lit rfl fd38_6 rfl) <|
     rwp_det0 rfl rfl (det_store rfl sz4 rfl rfl rfl (st_row 3 rfl rfl)) <|
     rwp_nil <|
     sReg rfl <|
     rwp_det rfl rfl (det_load_agg rfl agg38 rfl (ptr_row 3 rfl) rfl) <|
     rwp_det0 rfl rfl (det_store rfl sz38 rfl rfl rfl (st_row 2 rfl rfl)) <|
     rMv rfl <|
     rMv rfl <|
     rwp_nil <|
     awp_ret <|
     fin3 (rs_cell_agg agg38 rfl (ptr_row 2 rfl) rfl) (rs_c rfl) (rs_c rfl) ?_
    rw [stepM3 hl0 h3 c3]
    rfl
   ·try simp only [sx] at c3
    refine sReg rfl <|
     rwp_det rfl rfl (det_eql rfl rfl rfl) <|
     rMv rfl <|
     rwp_nil <|
     awp_cond rfl (fun c4 => ?_) (fun c4 => ?_)
    ·try simp only [sx] at c4
     have hj : jmpB s.ins.Op = true := by simp [jmpB]; omega
     refine awp_region rfl <|
      rMv rfl <|
      rwp_nil <|
      awp_seq <|
      sReg rfl <|
      rMv rfl <|
      rwp_det rfl rfl (det_neq rfl rfl rfl) <|
      rwp_nil <|
      awp_cond rfl (fun c13 => ?_) (fun c13 => ?_)
     ·try simp only [sx] at c13
      exact absurd trivial c13
     ·try simp only [sx] at c13
      have hd0 : doM s s.ins = (s, 0) := by rw [doM1 hj, jmpv1 c4]
      refine awp_skip <|
       sReg rfl <|
       rwp_det rfl rfl (det_field_lit rfl fd38_2 rfl) <|
       rwp_det rfl rfl (det_load_one rfl one3 rfl (ptr_row 3 rfl) rfl) <|
       rwp_det rfl rfl (det_add_nw rfl rfl rfl ⟨by omega, by omega⟩) <|
       rwp_det rfl rfl (det_field_lit rfl fd38_2 rfl) <|
       rwp_det0 rfl rfl (det_store rfl sz3 rfl rfl rfl (st_row 0 rfl rfl)) <|
       rwp_nil <|
       awp_seq <|
       sReg rfl <|
       rMv rfl <|
       rwp_nil <|
       awp_cond rfl (fun c14 => ?_) (fun c14 => ?_)
      ·try simp only [sx] at c14
       have hnx : nextM s s.ins = s.ins.A := next1 hj (by rw [jmpv1 c4])
       refine awp_region rfl <|
        rwp_det rfl rfl (det_field_lit rfl fd67_1 rfl) <|
        rwp_det rfl rfl (det_load_one rfl one3 rfl (ptr_row 1 rfl) rfl) <|
        rwp_det rfl rfl (det_field_lit rfl fd38_2 rfl) <|
        rwp_det0 rfl rfl (det_store rfl sz3 rfl rfl rfl (st_row 0 rfl rfl)) <|
        rwp_nil <|
        sReg rfl <|
        rwp_det rfl rfl (det_load_agg rfl agg38 rfl (ptr_row 0 rfl) rfl) <|
        rwp_det0 rfl rfl (det_store rfl sz38 rfl rfl rfl (st_row 2 rfl rfl)) <|
        rMv rfl <|
        rMv rfl <|
        rwp_nil <|
        awp_ret <|
        fin3 (rs_cell_agg agg38 rfl (ptr_row 2 rfl) rfl) (rs_c rfl) (rs_c rfl) ?_
       rw [stepM4 hl0 h3 c3 hd0 hnx]
       rfl
      ·try simp only [sx] at c14
       exact absurd c14 (by decide)
    ·try simp only [sx] at c4
     refine sReg rfl <|
      rwp_det rfl rfl (det_eql rfl rfl rfl) <|
      rMv rfl <|
      rwp_nil <|
      awp_cond rfl (fun c5 => ?_) (fun c5 => ?_)
     ·try simp only [sx] at c5
      have hj : jmpB s.ins.Op = true := by simp [jmpB]; omega
      obtain ⟨fA, fB, fC, fo⟩ := jmp_facts hf hj
      obtain ⟨⟨b1, b2⟩, d1, d2⟩ := fB (by omega)
      refine awp_draw 14 mixed (by kernel_rfl) rfl rfl <|
       td_det rfl rfl (det_field_lit rfl fd38_3 rfl) <|
       td_det rfl rfl (det_load_one rfl one35 rfl (ptr_row 3 rfl) rfl) <|
       td_det rfl rfl (det_field_lit rfl fd67_2 rfl) <|
       td_det rfl rfl (det_load_one rfl one3 rfl (ptr_row 1 rfl) rfl) <|
       td_det rfl rfl (det_index_sl rfl el35 rfl rfl (by omega) (getX hs (by omega) (by omega))) <|
       td_det rfl rfl (det_load_one rfl one2 rfl ptr_imm rfl) <|
       td_det rfl rfl (det_field_lit rfl fd38_3 rfl) <|
       td_det rfl rfl (det_load_one rfl one35 rfl (ptr_row 3 rfl) rfl) <|
       td_det rfl rfl (det_field_lit rfl fd67_3 rfl) <|
       td_det rfl rfl (det_load_one rfl one3 rfl (ptr_row 1 rfl) rfl) <|
       td_det rfl rfl (det_index_sl rfl el35 rfl rfl (by omega) (getX hs (by omega) (by omega))) <|
       td_det rfl rfl (det_load_one rfl one2 rfl ptr_imm rfl) <|
       td_det rfl rfl (det_lss rfl rfl rfl) <|
       td_det rfl rfl (det_assign rfl rfl) <|
       td_nil <|
       rwp_nil <|
       awp_seq <|
       sReg rfl <|
       rMv rfl <|
       rwp_det rfl rfl (det_neq rfl rfl rfl) <|
       rwp_nil <|
       awp_cond rfl (fun c13 => ?_) (fun c13 => ?_)
      ·try simp only [sx] at c13
       exact absurd trivial c13
      ·try simp only [sx] at c13
       have hd0 : doM s s.ins = (s, 0) := by rw [doM1 hj, jmpv2 c5]
       refine awp_skip <|
        sReg rfl <|
        rwp_det rfl rfl (det_field_lit rfl fd38_2 rfl) <|
        rwp_det rfl rfl (det_load_one rfl one3 rfl (ptr_row 3 rfl) rfl) <|
        rwp_det rfl rfl (det_add_nw rfl rfl rfl ⟨by omega, by omega⟩) <|
        rwp_det rfl rfl (det_field_lit rfl fd38_2 rfl) <|
        rwp_det0 rfl rfl (det_store rfl sz3 rfl rfl rfl (st_row 0 rfl rfl)) <|
        rwp_nil <|
        awp_seq <|
        sReg rfl <|
        rMv rfl <|
        rwp_nil <|
        awp_cond rfl (fun c14 => ?_) (fun c14 => ?_)
       ·try simp only [sx] at c14
        have hnx : nextM s s.ins = s.ins.A := next1 hj (by rw [jmpv2 c5]; exact decide_eq_true c14)
        refine awp_region rfl <|
         rwp_det rfl rfl (det_field_lit rfl fd67_1 rfl) <|
         rwp_det rfl rfl (det_load_one rfl one3 rfl (ptr_row 1 rfl) rfl) <|
         rwp_det rfl rfl (det_field_lit rfl fd38_2 rfl) <|
         rwp_det0 rfl rfl (det_store rfl sz3 rfl rfl rfl (st_row 0 rfl rfl)) <|
         rwp_nil <|
         sReg rfl <|
         rwp_det rfl rfl (det_load_agg rfl agg38 rfl (ptr_row 0 rfl) rfl) <|
         rwp_det0 rfl rfl (det_store rfl sz38 rfl rfl rfl (st_row 2 rfl rfl)) <|
         rMv rfl <|
         rMv rfl <|
         rwp_nil <|
         awp_ret <|
         fin3 (rs_cell_agg agg38 rfl (ptr_row 2 rfl) rfl) (rs_c rfl) (rs_c rfl) ?_
        rw [stepM4 hl0 h3 c3 hd0 hnx]
        rfl
       ·try simp only [sx] at c14
        have hnx : nextM s s.ins = s.pc + 1 := next2 (by rw [jmpv2 c5]; simpa using c14)
        refine awp_skip <|
         sReg rfl <|
         rwp_det rfl rfl (det_load_agg rfl agg38 rfl (ptr_row 0 rfl) rfl) <|
         rwp_det0 rfl rfl (det_store rfl sz38 rfl rfl rfl (st_row 2 rfl rfl)) <|
         rMv rfl <|
         rMv rfl <|
         rwp_nil <|
         awp_ret <|
         fin3 (rs_cell_agg agg38 rfl (ptr_row 2 rfl) rfl) (rs_c rfl) (rs_c rfl) ?_
        rw [stepM4 hl0 h3 c3 hd0 hnx]
        rfl
     ·try simp only [sx] at c5
      refine sReg rfl <|
       rwp_det rfl rfl (det_eql rfl rfl rfl) <|
       rMv rfl <|
       rwp_nil <|
       awp_cond rfl (fun c6 => ?_) (fun c6 => ?_)
      ·try simp only [sx] at c6
       have h14 := c6
       have hj : jmpB s.ins.Op = true := by simp [jmpB]; omega
       refine sReg rfl <|
        rwp_det rfl rfl (det_load_agg rfl agg38 rfl (ptr_row 3 rfl) rfl) <|
        rwp_det rfl rfl (det_load_agg rfl agg67 rfl (ptr_row 1 rfl) rfl) <|
        rwp_det rfl rfl (det_call rfl ok72 (ref49_test s w hs s.ins hf h14) ⟨VLe.refl _, rfl, VLe.refl _, rfl, trivial⟩) <|
        rwp_det rfl rfl (det_move_tup rfl rfl) <|
        rwp_det rfl rfl (det_ex_c rfl rfl rfl) <|
        rwp_det rfl rfl (det_ex_c rfl rfl rfl) <|
        rMv rfl <|
        rMv rfl <|
        rwp_nil <|
        sReg rfl <|
        rMv rfl <|
        rwp_det rfl rfl (det_not rfl rfl) <|
        rMv rfl <|
        rwp_nil <|
        awp_region rfl <|
        rMv rfl <|
        rMv rfl <|
        rwp_nil <|
        awp_seq <|
        sReg rfl <|
        rMv rfl <|
        rwp_det rfl rfl (det_neq rfl rfl rfl) <|
        rwp_nil <|
        awp_cond rfl (fun c13 => ?_) (fun c13 => ?_)
       ·try simp only [sx] at c13
        have hd := doM1 (s := s) hj
        rw [(tst_jmp h14).1] at c13
        have hE := c13
        rw [(tst_jmp h14).1]
        refine sReg rfl <|
         rwp_det rfl rfl (det_load_agg rfl agg38 rfl (ptr_row 3 rfl) rfl) <|
         rMv rfl <|
         rwp_det0 rfl rfl (det_store rfl sz38 rfl rfl rfl (st_row 2 rfl rfl)) <|
         rMv rfl <|
         rMv rfl <|
         rwp_nil <|
         awp_ret <|
         fin3 (rs_cell_agg agg38 rfl (ptr_row 2 rfl) rfl) (rs_c rfl) (rs_c rfl) ?_
        rw [stepM5 hl0 h3 c3 hd hE]
        rfl
       ·try simp only [sx] at c13
        have hE := (tst_jmp h14).1.symm.trans c13
        have hd0 : doM s s.ins = (s, 0) := by rw [doM1 hj, hE]
        refine awp_skip <|
         sReg rfl <|
         rwp_det rfl rfl (det_field_lit rfl fd38_2 rfl) <|
         rwp_det rfl rfl (det_load_one rfl one3 rfl (ptr_row 3 rfl) rfl) <|
         rwp_det rfl rfl (det_add_nw rfl rfl rfl ⟨by omega, by omega⟩) <|
         rwp_det rfl rfl (det_field_lit rfl fd38_2 rfl) <|
         rwp_det0 rfl rfl (det_store rfl sz3 rfl rfl rfl (st_row 0 rfl rfl)) <|
         rwp_nil <|
         awp_seq <|
         sReg rfl <|
         rMv rfl <|
         rwp_nil <|
         awp_cond rfl (fun c14 => ?_) (fun c14 => ?_)
        ·try simp only [sx] at c14
         have hnx : nextM s s.ins = s.ins.A := next1 hj (((tst_jmp h14).2 c13).trans (by rw [c14]; rfl))
         refine awp_region rfl <|
          rwp_det rfl rfl (det_field_lit rfl fd67_1 rfl) <|
          rwp_det rfl rfl (det_load_one rfl one3 rfl (ptr_row 1 rfl) rfl) <|
          rwp_det rfl rfl (det_field_lit rfl fd38_2 rfl) <|
          rwp_det0 rfl rfl (det_store rfl sz3 rfl rfl rfl (st_row 0 rfl rfl)) <|
          rwp_nil <|
          sReg rfl <|
          rwp_det rfl rfl (det_load_agg rfl agg38 rfl (ptr_row 0 rfl) rfl) <|
          rwp_det0 rfl rfl (det_store rfl sz38 rfl rfl rfl (st_row 2 rfl rfl)) <|
          rMv rfl <|
          rMv rfl <|
          rwp_nil <|
          awp_ret <|
          fin3 (rs_cell_agg agg38 rfl (ptr_row 2 rfl) rfl) (rs_c rfl) (rs_c rfl) ?_
         rw [stepM4 hl0 h3 c3 hd0 hnx]
         rfl
        ·try simp only [sx] at c14
         have hnx : nextM s s.ins = s.pc + 1 := next2 (((tst_jmp h14).2 c13).trans (by rw [c14]; rfl))
         refine awp_skip <|
          sReg rfl <|
          rwp_det rfl rfl (det_load_agg rfl agg38 rfl (ptr_row 0 rfl) rfl) <|
          rwp_det0 rfl rfl (det_store rfl sz38 rfl rfl rfl (st_row 2 rfl rfl)) <|
          rMv rfl <|
          rMv rfl <|
          rwp_nil <|
          awp_ret <|
          fin3 (rs_cell_agg agg38 rfl (ptr_row 2 rfl) rfl) (rs_c rfl) (rs_c rfl) ?_
         rw [stepM4 hl0 h3 c3 hd0 hnx]
         rfl
      ·try simp only [sx] at c6
       have hjn : jmpB s.ins.Op = false := by simp [jmpB]; omega
       refine awp_seq <|
        sReg rfl <|
        rwp_det rfl rfl (det_eql rfl rfl rfl) <|
        rMv rfl <|
        rwp_nil <|
        awp_cond rfl (fun c7 => ?_) (fun c7 => ?_)
       ·try simp only [sx] at c7
        have hm : memB s.ins.Op = true := by simp [memB]; omega
        refine awp_skip <|
         awp_cond rfl (fun c8 => ?_) (fun c8 => ?_)
        ·try simp only [sx] at c8
         have hm : memB s.ins.Op = true := by simp [memB]; omega
         refine awp_region rfl <|
          rwp_det rfl rfl (det_load_agg rfl agg38 rfl (ptr_row 3 rfl) rfl) <|
          rwp_det rfl rfl (det_load_agg rfl agg67 rfl (ptr_row 1 rfl) rfl) <|
          rwp_det rfl rfl (det_call rfl ok73 (ref49_memory s w hs s.ins hf hm (hMm hm)) ⟨VLe.refl _, rfl, VLe.refl _, rfl, trivial⟩) <|
          rwp_det rfl rfl (det_move_tup rfl rfl) <|
          rwp_det rfl rfl (det_ex_agg rfl rfl rfl) <|
          rwp_det rfl rfl (det_ex_c rfl rfl rfl) <|
          rwp_det0 rfl rfl (det_store rfl sz38 rfl rfl rfl (st_row 0 rfl rfl)) <|
          rMv rfl <|
          rwp_nil <|
          awp_seq <|
          sReg rfl <|
          rMv rfl <|
          rwp_det rfl rfl (det_neq rfl rfl rfl) <|
          rwp_nil <|
          awp_cond rfl (fun c13 => ?_) (fun c13 => ?_)
         ·try simp only [sx] at c13
          have hd : doM s s.ins = ((memV s s.ins).1, (memV s s.ins).2) := doM2 hjn hm
          have hE := c13
          refine sReg rfl <|
           rwp_det rfl rfl (det_load_agg rfl agg38 rfl (ptr_row 3 rfl) rfl) <|
           rMv rfl <|
           rwp_det0 rfl rfl (det_store rfl sz38 rfl rfl rfl (st_row 2 rfl rfl)) <|
           rMv rfl <|
           rMv rfl <|
           rwp_nil <|
           awp_ret <|
           fin3 (rs_cell_agg agg38 rfl (ptr_row 2 rfl) rfl) (rs_c rfl) (rs_c rfl) ?_
          rw [stepM5 hl0 h3 c3 hd hE]
          rfl
         ·try simp only [sx] at c13
          have hd0 : doM s s.ins = ((memV s s.ins).1, 0) := by rw [doM2 hjn hm]; exact pair0 c13
          refine awp_skip <|
           sReg rfl <|
           rwp_det rfl rfl (det_field_lit rfl fd38_2 rfl) <|
           rwp_det rfl rfl (det_load_one rfl one3 rfl (ptr_row 3 rfl) rfl) <|
           rwp_det rfl rfl (det_add_nw rfl rfl rfl ⟨by omega, by omega⟩) <|
           rwp_det rfl rfl (det_field_lit rfl fd38_2 rfl) <|
           rwp_det0 rfl rfl (det_store rfl sz3 rfl rfl rfl (st_row 0 rfl rfl)) <|
           rwp_nil <|
           awp_seq <|
           sReg rfl <|
           rMv rfl <|
           rwp_nil <|
           awp_cond rfl (fun c14 => ?_) (fun c14 => ?_)
          ·try simp only [sx] at c14
           exact absurd c14 (by decide)
          ·try simp only [sx] at c14
           have hnx : nextM s s.ins = s.pc + 1 := next3 hjn
           refine awp_skip <|
            sReg rfl <|
            rwp_det rfl rfl (det_load_agg rfl agg38 rfl (ptr_row 0 rfl) rfl) <|
            rwp_det0 rfl rfl (det_store rfl sz38 rfl rfl rfl (st_row 2 rfl rfl)) <|
            rMv rfl <|
            rMv rfl <|
            rwp_nil <|
            awp_ret <|
            fin3 (rs_cell_agg agg38 rfl (ptr_row 2 rfl) rfl) (rs_c rfl) (rs_c rfl) ?_
           rw [stepM4 hl0 h3 c3 hd0 hnx]
           rfl
        ·try simp only [sx] at c8
         exact absurd c7 c8
       ·try simp only [sx] at c7
        refine awp_region rfl <|
         rwp_det rfl rfl (det_eql rfl rfl rfl) <|
         rMv rfl <|
         rwp_nil <|
         awp_cond rfl (fun c8 => ?_) (fun c8 => ?_)
        ·try simp only [sx] at c8
         have hm : memB s.ins.Op = true := by simp [memB]; omega
         refine awp_region rfl <|
          rwp_det rfl rfl (det_load_agg rfl agg38 rfl (ptr_row 3 rfl) rfl) <|
          rwp_det rfl rfl (det_load_agg rfl agg67 rfl (ptr_row 1 rfl) rfl) <|
          rwp_det rfl rfl (det_call rfl ok73 (ref49_memory s w hs s.ins hf hm (hMm hm)) ⟨VLe.refl _, rfl, VLe.refl _, rfl, trivial⟩) <|
          rwp_det rfl rfl (det_move_tup rfl rfl) <|
          rwp_det rfl rfl (det_ex_agg rfl rfl rfl) <|
          rwp_det rfl rfl (det_ex_c rfl rfl rfl) <|
          rwp_det0 rfl rfl (det_store rfl sz38 rfl rfl rfl (st_row 0 rfl rfl)) <|
          rMv rfl <|
          rwp_nil <|
          awp_seq <|
          sReg rfl <|
          rMv rfl <|
          rwp_det rfl rfl (det_neq rfl rfl rfl) <|
          rwp_nil <|
          awp_cond rfl (fun c13 => ?_) (fun c13 => ?_)
         ·try simp only [sx] at c13
          have hd : doM s s.ins = ((memV s s.ins).1, (memV s s.ins).2) := doM2 hjn hm
          have hE := c13
          refine sReg rfl <|
           rwp_det rfl rfl (det_load_agg rfl agg38 rfl (ptr_row 3 rfl) rfl) <|
           rMv rfl <|
           rwp_det0 rfl rfl (det_store rfl sz38 rfl rfl rfl (st_row 2 rfl rfl)) <|
           rMv rfl <|
           rMv rfl <|
           rwp_nil <|
           awp_ret <|
           fin3 (rs_cell_agg agg38 rfl (ptr_row 2 rfl) rfl) (rs_c rfl) (rs_c rfl) ?_
          rw [stepM5 hl0 h3 c3 hd hE]
          rfl
         ·try simp only [sx] at c13
          have hd0 : doM s s.ins = ((memV s s.ins).1, 0) := by rw [doM2 hjn hm]; exact pair0 c13
          refine awp_skip <|
           sReg rfl <|
           rwp_det rfl rfl (det_field_lit rfl fd38_2 rfl) <|
           rwp_det rfl rfl (det_load_one rfl one3 rfl (ptr_row 3 rfl) rfl) <|
           rwp_det rfl rfl (det_add_nw rfl rfl rfl ⟨by omega, by omega⟩) <|
           rwp_det rfl rfl (det_field_lit rfl fd38_2 rfl) <|
           rwp_det0 rfl rfl (det_store rfl sz3 rfl rfl rfl (st_row 0 rfl rfl)) <|
           rwp_nil <|
           awp_seq <|
           sReg rfl <|
           rMv rfl <|
           rwp_nil <|
           awp_cond rfl (fun c14 => ?_) (fun c14 => ?_)
          ·try simp only [sx] at c14
           exact absurd c14 (by decide)
          ·try simp only [sx] at c14
           have hnx : nextM s s.ins = s.pc + 1 := next3 hjn
           refine awp_skip <|
            sReg rfl <|
            rwp_det rfl rfl (det_load_agg rfl agg38 rfl (ptr_row 0 rfl) rfl) <|
            rwp_det0 rfl rfl (det_store rfl sz38 rfl rfl rfl (st_row 2 rfl rfl)) <|
            rMv rfl <|
            rMv rfl <|
            rwp_nil <|
            awp_ret <|
            fin3 (rs_cell_agg agg38 rfl (ptr_row 2 rfl) rfl) (rs_c rfl) (rs_c rfl) ?_
           rw [stepM4 hl0 h3 c3 hd0 hnx]
           rfl
        ·try simp only [sx] at c8
         have hmn : memB s.ins.Op = false := by simp [memB]; omega
         refine awp_seq <|
          sReg rfl <|
          rwp_det rfl rfl (det_eql rfl rfl rfl) <|
          rMv rfl <|
          rwp_nil <|
          awp_cond rfl (fun c9 => ?_) (fun c9 => ?_)
         ·try simp only [sx] at c9
          have hp : cptB s.ins.Op = true := by simp [cptB]; omega
          refine awp_skip <|
           awp_cond rfl (fun c12 => ?_) (fun c12 => ?_)
          ·try simp only [sx] at c12
           have hp : cptB s.ins.Op = true := by simp [cptB]; omega
           refine awp_region rfl <|
            rwp_det rfl rfl (det_load_agg rfl agg38 rfl (ptr_row 3 rfl) rfl) <|
            rwp_det rfl rfl (det_load_agg rfl agg67 rfl (ptr_row 1 rfl) rfl) <|
            rwp_det rfl rfl (det_call rfl ok74 (ref49_compute s w hs s.ins hf hp hT) ⟨VLe.refl _, rfl, VLe.refl _, rfl, trivial⟩) <|
            rwp_det rfl rfl (det_move_tup rfl rfl) <|
            rwp_det rfl rfl (det_ex_agg rfl rfl rfl) <|
            rwp_det rfl rfl (det_ex_c rfl rfl rfl) <|
            rwp_det0 rfl rfl (det_store rfl sz38 rfl rfl rfl (st_row 0 rfl rfl)) <|
            rMv rfl <|
            rwp_nil <|
            awp_seq <|
            sReg rfl <|
            rMv rfl <|
            rwp_det rfl rfl (det_neq rfl rfl rfl) <|
            rwp_nil <|
            awp_cond rfl (fun c13 => ?_) (fun c13 => ?_)
           ·try simp only [sx] at c13
            have hd : doM s s.ins = ((cptM s s.ins).1, (cptM s s.ins).2) := doM3 hjn hmn hp
            rw [cptR_err hp] at c13
            have hE := c13
            rw [cptR_err hp]
            refine sReg rfl <|
             rwp_det rfl rfl (det_load_agg rfl agg38 rfl (ptr_row 3 rfl) rfl) <|
             rMv rfl <|
             rwp_det0 rfl rfl (det_store rfl sz38 rfl rfl rfl (st_row 2 rfl rfl)) <|
             rMv rfl <|
             rMv rfl <|
             rwp_nil <|
             awp_ret <|
             fin3 (rs_cell_agg agg38 rfl (ptr_row 2 rfl) rfl) (rs_c rfl) (rs_c rfl) ?_
            rw [stepM5 hl0 h3 c3 hd hE]
            rfl
           ·try simp only [sx] at c13
            have hd0 : doM s s.ins = ((cptR s s.ins).1, 0) := by rw [doM3 hjn hmn hp, ← cptR_ok hp c13]; exact pair0 c13
            refine awp_skip <|
             sReg rfl <|
             rwp_det rfl rfl (det_field_lit rfl fd38_2 rfl) <|
             rwp_det rfl rfl (det_load_one rfl one3 rfl (ptr_row 3 rfl) rfl) <|
             rwp_det rfl rfl (det_add_nw rfl rfl rfl ⟨by omega, by omega⟩) <|
             rwp_det rfl rfl (det_field_lit rfl fd38_2 rfl) <|
             rwp_det0 rfl rfl (det_store rfl sz3 rfl rfl rfl (st_row 0 rfl rfl)) <|
             rwp_nil <|
             awp_seq <|
             sReg rfl <|
             rMv rfl <|
             rwp_nil <|
             awp_cond rfl (fun c14 => ?_) (fun c14 => ?_)
            ·try simp only [sx] at c14
             exact absurd c14 (by decide)
            ·try simp only [sx] at c14
             have hnx : nextM s s.ins = s.pc + 1 := next3 hjn
             refine awp_skip <|
              sReg rfl <|
              rwp_det rfl rfl (det_load_agg rfl agg38 rfl (ptr_row 0 rfl) rfl) <|
              rwp_det0 rfl rfl (det_store rfl sz38 rfl rfl rfl (st_row 2 rfl rfl)) <|
              rMv rfl <|
              rMv rfl <|
              rwp_nil <|
              awp_ret <|
              fin3 (rs_cell_agg agg38 rfl (ptr_row 2 rfl) rfl) (rs_c rfl) (rs_c rfl) ?_
             rw [stepM4 hl0 h3 c3 hd0 hnx]
             rfl
          ·try simp only [sx] at c12
           exact absurd c9 c12
         ·try simp only [sx] at c9
          refine sReg rfl <|
           rwp_det rfl rfl (det_eql rfl rfl rfl) <|
           rMv rfl <|
           rwp_nil <|
           awp_cond rfl (fun c10 => ?_) (fun c10 => ?_)
          ·try simp only [sx] at c10
           have hp : cptB s.ins.Op = true := by simp [cptB]; omega
           refine awp_skip <|
            awp_cond rfl (fun c12 => ?_) (fun c12 => ?_)
           ·try simp only [sx] at c12
            have hp : cptB s.ins.Op = true := by simp [cptB]; omega
            refine awp_region rfl <|
             rwp_det rfl rfl (det_load_agg rfl agg38 rfl (ptr_row 3 rfl) rfl) <|
             rwp_det rfl rfl (det_load_agg rfl agg67 rfl (ptr_row 1 rfl) rfl) <|
             rwp_det rfl rfl (det_call rfl ok74 (ref49_compute s w hs s.ins hf hp hT) ⟨VLe.refl _, rfl, VLe.refl _, rfl, trivial⟩) <|
             rwp_det rfl rfl (det_move_tup rfl rfl) <|
             rwp_det rfl rfl (det_ex_agg rfl rfl rfl) <|
             rwp_det rfl rfl (det_ex_c rfl rfl rfl) <|
             rwp_det0 rfl rfl (det_store rfl sz38 rfl rfl rfl (st_row 0 rfl rfl)) <|
             rMv rfl <|
             rwp_nil <|
             awp_seq <|
             sReg rfl <|
             rMv rfl <|
             rwp_det rfl rfl (det_neq rfl rfl rfl) <|
             rwp_nil <|
             awp_cond rfl (fun c13 => ?_) (fun c13 => ?_)
            ·try simp only [sx] at c13
             have hd : doM s s.ins = ((cptM s s.ins).1, (cptM s s.ins).2) := doM3 hjn hmn hp
             rw [cptR_err hp] at c13
             have hE := c13
             rw [cptR_err hp]
             refine sReg rfl <|
              rwp_det rfl rfl (det_load_agg rfl agg38 rfl (ptr_row 3 rfl) rfl) <|
              rMv rfl <|
              rwp_det0 rfl rfl (det_store rfl sz38 rfl rfl rfl (st_row 2 rfl rfl)) <|
              rMv rfl <|
              rMv rfl <|
              rwp_nil <|
              awp_ret <|
              fin3 (rs_cell_agg agg38 rfl (ptr_row 2 rfl) rfl) (rs_c rfl) (rs_c rfl) ?_
             rw [stepM5 hl0 h3 c3 hd hE]
             rfl
            ·try simp only [sx] at c13
             have hd0 : doM s s.ins = ((cptR s s.ins).1, 0) := by rw [doM3 hjn hmn hp, ← cptR_ok hp c13]; exact pair0 c13
             refine awp_skip <|
              sReg rfl <|
              rwp_det rfl rfl (det_field_lit rfl fd38_2 rfl) <|
              rwp_det rfl rfl (det_load_one rfl one3 rfl (ptr_row 3 rfl) rfl) <|
              rwp_det rfl rfl (det_add_nw rfl rfl rfl ⟨by omega, by omega⟩) <|
              rwp_det rfl rfl (det_field_lit rfl fd38_2 rfl) <|
              rwp_det0 rfl rfl (det_store rfl sz3 rfl rfl rfl (st_row 0 rfl rfl)) <|
              rwp_nil <|
              awp_seq <|
              sReg rfl <|
              rMv rfl <|
              rwp_nil <|
              awp_cond rfl (fun c14 => ?_) (fun c14 => ?_)
             ·try simp only [sx] at c14
              exact absurd c14 (by decide)
             ·try simp only [sx] at c14
              have hnx : nextM s s.ins = s.pc + 1 := next3 hjn
              refine awp_skip <|
               sReg rfl <|
               rwp_det rfl rfl (det_load_agg rfl agg38 rfl (ptr_row 0 rfl) rfl) <|
               rwp_det0 rfl rfl (det_store rfl sz38 rfl rfl rfl (st_row 2 rfl rfl)) <|
               rMv rfl <|
               rMv rfl <|
               rwp_nil <|
               awp_ret <|
               fin3 (rs_cell_agg agg38 rfl (ptr_row 2 rfl) rfl) (rs_c rfl) (rs_c rfl) ?_
              rw [stepM4 hl0 h3 c3 hd0 hnx]
              rfl
           ·try simp only [sx] at c12
            exact absurd c10 c12
          ·try simp only [sx] at c10
           refine sReg rfl <|
            rwp_det rfl rfl (det_eql rfl rfl rfl) <|
            rMv rfl <|
            rwp_nil <|
            awp_cond rfl (fun c11 => ?_) (fun c11 => ?_)
           ·try simp only [sx] at c11
            have hp : cptB s.ins.Op = true := by simp [cptB]; omega
            refine awp_skip <|
             awp_cond rfl (fun c12 => ?_) (fun c12 => ?_)
            ·try simp only [sx] at c12
             have hp : cptB s.ins.Op = true := by simp [cptB]; omega
             refine awp_region rfl <|
              rwp_det rfl rfl (det_load_agg rfl agg38 rfl (ptr_row 3 rfl) rfl) <|
              rwp_det rfl rfl (det_load_agg rfl agg67 rfl (ptr_row 1 rfl) rfl) <|
              rwp_det rfl rfl (det_call rfl ok74 (ref49_compute s w hs s.ins hf hp hT) ⟨VLe.refl _, rfl, VLe.refl _, rfl, trivial⟩) <|
              rwp_det rfl rfl (det_move_tup rfl rfl) <|
              rwp_det rfl rfl (det_ex_agg rfl rfl rfl) <|
              rwp_det rfl rfl (det_ex_c rfl rfl rfl) <|
              rwp_det0 rfl rfl (det_store rfl sz38 rfl rfl rfl (st_row 0 rfl rfl)) <|
              rMv rfl <|
              rwp_nil <|
              awp_seq <|
              sReg rfl <|
              rMv rfl <|
              rwp_det rfl rfl (det_neq rfl rfl rfl) <|
              rwp_nil <|
              awp_cond rfl (fun c13 => ?_) (fun c13 => ?_)
             ·try simp only [sx] at c13
              have hd : doM s s.ins = ((cptM s s.ins).1, (cptM s s.ins).2) := doM3 hjn hmn hp
              rw [cptR_err hp] at c13
              have hE := c13
              rw [cptR_err hp]
              refine sReg rfl <|
               rwp_det rfl rfl (det_load_agg rfl agg38 rfl (ptr_row 3 rfl) rfl) <|
               rMv rfl <|
               rwp_det0 rfl rfl (det_store rfl sz38 rfl rfl rfl (st_row 2 rfl rfl)) <|
               rMv rfl <|
               rMv rfl <|
               rwp_nil <|
               awp_ret <|
               fin3 (rs_cell_agg agg38 rfl (ptr_row 2 rfl) rfl) (rs_c rfl) (rs_c rfl) ?_
              rw [stepM5 hl0 h3 c3 hd hE]
              rfl
             ·try simp only [sx] at c13
              have hd0 : doM s s.ins = ((cptR s s.ins).1, 0) := by rw [doM3 hjn hmn hp, ← cptR_ok hp c13]; exact pair0 c13
              refine awp_skip <|
               sReg rfl <|
               rwp_det rfl rfl (det_field_lit rfl fd38_2 rfl) <|
               rwp_det rfl rfl (det_load_one rfl one3 rfl (ptr_row 3 rfl) rfl) <|
               rwp_det rfl rfl (det_add_nw rfl rfl rfl ⟨by omega, by omega⟩) <|
               rwp_det rfl rfl (det_field_lit rfl fd38_2 rfl) <|
               rwp_det0 rfl rfl (det_store rfl sz3 rfl rfl rfl (st_row 0 rfl rfl)) <|
               rwp_nil <|
               awp_seq <|
               sReg rfl <|
               rMv rfl <|
               rwp_nil <|
               awp_cond rfl (fun c14 => ?_) (fun c14 => ?_)
              ·try simp only [sx] at c14
               exact absurd c14 (by decide)
              ·try simp only [sx] at c14
               have hnx : nextM s s.ins = s.pc + 1 := next3 hjn
               refine awp_skip <|
                sReg rfl <|
                rwp_det rfl rfl (det_load_agg rfl agg38 rfl (ptr_row 0 rfl) rfl) <|
                rwp_det0 rfl rfl (det_store rfl sz38 rfl rfl rfl (st_row 2 rfl rfl)) <|
                rMv rfl <|
                rMv rfl <|
                rwp_nil <|
                awp_ret <|
                fin3 (rs_cell_agg agg38 rfl (ptr_row 2 rfl) rfl) (rs_c rfl) (rs_c rfl) ?_
               rw [stepM4 hl0 h3 c3 hd0 hnx]
               rfl
            ·try simp only [sx] at c12
             exact absurd c11 c12
           ·try simp only [sx] at c11
            refine awp_region rfl <|
             rwp_det rfl rfl (det_eql rfl rfl rfl) <|
             rMv rfl <|
             rwp_nil <|
             awp_cond rfl (fun c12 => ?_) (fun c12 => ?_)
            ·try simp only [sx] at c12
             have hp : cptB s.ins.Op = true := by simp [cptB]; omega
             refine awp_region rfl <|
              rwp_det rfl rfl (det_load_agg rfl agg38 rfl (ptr_row 3 rfl) rfl) <|
              rwp_det rfl rfl (det_load_agg rfl agg67 rfl (ptr_row 1 rfl) rfl) <|
              rwp_det rfl rfl (det_call rfl ok74 (ref49_compute s w hs s.ins hf hp hT) ⟨VLe.refl _, rfl, VLe.refl _, rfl, trivial⟩) <|
              rwp_det rfl rfl (det_move_tup rfl rfl) <|
              rwp_det rfl rfl (det_ex_agg rfl rfl rfl) <|
              rwp_det rfl rfl (det_ex_c rfl rfl rfl) <|
              rwp_det0 rfl rfl (det_store rfl sz38 rfl rfl rfl (st_row 0 rfl rfl)) <|
              rMv rfl <|
              rwp_nil <|
              awp_seq <|
              sReg rfl <|
              rMv rfl <|
              rwp_det rfl rfl (det_neq rfl rfl rfl) <|
              rwp_nil <|
              awp_cond rfl (fun c13 => ?_) (fun c13 => ?_)
             ·try simp only [sx] at c13
              have hd : doM s s.ins = ((cptM s s.ins).1, (cptM s s.ins).2) := doM3 hjn hmn hp
              rw [cptR_err hp] at c13
              have hE := c13
              rw [cptR_err hp]
              refine sReg rfl <|
               rwp_det rfl rfl (det_load_agg rfl agg38 rfl (ptr_row 3 rfl) rfl) <|
               rMv rfl <|
               rwp_det0 rfl rfl (det_store rfl sz38 rfl rfl rfl (st_row 2 rfl rfl)) <|
               rMv rfl <|
               rMv rfl <|
               rwp_nil <|
               awp_ret <|
               fin3 (rs_cell_agg agg38 rfl (ptr_row 2 rfl) rfl) (rs_c rfl) (rs_c rfl) ?_
              rw [stepM5 hl0 h3 c3 hd hE]
              rfl
             ·try simp only [sx] at c13
              have hd0 : doM s s.ins = ((cptR s s.ins).1, 0) := by rw [doM3 hjn hmn hp, ← cptR_ok hp c13]; exact pair0 c13
              refine awp_skip <|
               sReg rfl <|
               rwp_det rfl rfl (det_field_lit rfl fd38_2 rfl) <|
               rwp_det rfl rfl (det_load_one rfl one3 rfl (ptr_row 3 rfl) rfl) <|
               rwp_det rfl rfl (det_add_nw rfl rfl rfl ⟨by omega, by omega⟩) <|
               rwp_det rfl rfl (det_field_lit rfl fd38_2 rfl) <|
               rwp_det0 rfl rfl (det_store rfl sz3 rfl rfl rfl (st_row 0 rfl rfl)) <|
               rwp_nil <|
               awp_seq <|
               sReg rfl <|
               rMv rfl <|
               rwp_nil <|
               awp_cond rfl (fun c14 => ?_) (fun c14 => ?_)
              ·try simp only [sx] at c14
               exact absurd c14 (by decide)
              ·try simp only [sx] at c14
               have hnx : nextM s s.ins = s.pc + 1 := next3 hjn
               refine awp_skip <|
                sReg rfl <|
                rwp_det rfl rfl (det_load_agg rfl agg38 rfl (ptr_row 0 rfl) rfl) <|
                rwp_det0 rfl rfl (det_store rfl sz38 rfl rfl rfl (st_row 2 rfl rfl)) <|
                rMv rfl <|
                rMv rfl <|
                rwp_nil <|
                awp_ret <|
                fin3 (rs_cell_agg agg38 rfl (ptr_row 2 rfl) rfl) (rs_c rfl) (rs_c rfl) ?_
               rw [stepM4 hl0 h3 c3 hd0 hnx]
               rfl
            ·try simp only [sx] at c12
             have hpn : cptB s.ins.Op = false := by simp [cptB]; omega
             refine awp_region rfl <|
              rwp_det rfl rfl (det_load_agg rfl agg38 rfl (ptr_row 3 rfl) rfl) <|
              rwp_det rfl rfl (det_load_agg rfl agg67 rfl (ptr_row 1 rfl) rfl) <|
              rwp_det rfl rfl (det_call rfl ok75 (ref49_integer s w hs s.ins hf ⟨hjn, hmn, hpn, c3⟩) ⟨VLe.refl _, rfl, VLe.refl _, rfl, trivial⟩) <|
              rwp_det0 rfl rfl (det_store rfl sz38 rfl rfl rfl (st_row 0 rfl rfl)) <|
              rwp_nil <|
              awp_seq <|
              sReg rfl <|
              rMv rfl <|
              rwp_det rfl rfl (det_neq rfl rfl rfl) <|
              rwp_nil <|
              awp_cond rfl (fun c13 => ?_) (fun c13 => ?_)
             ·try simp only [sx] at c13
              exact absurd trivial c13
             ·try simp only [sx] at c13
              have hd0 : doM s s.ins = (s.sX s.ins.A (intV s s.ins), 0) := doM4 hjn hmn hpn
              refine awp_skip <|
               sReg rfl <|
               rwp_det rfl rfl (det_field_lit rfl fd38_2 rfl) <|
               rwp_det rfl rfl (det_load_one rfl one3 rfl (ptr_row 3 rfl) rfl) <|
               rwp_det rfl rfl (det_add_nw rfl rfl rfl ⟨by omega, by omega⟩) <|
               rwp_det rfl rfl (det_field_lit rfl fd38_2 rfl) <|
               rwp_det0 rfl rfl (det_store rfl sz3 rfl rfl rfl (st_row 0 rfl rfl)) <|
               rwp_nil <|
               awp_seq <|
               sReg rfl <|
               rMv rfl <|
               rwp_nil <|
               awp_cond rfl (fun c14 => ?_) (fun c14 => ?_)
              ·try simp only [sx] at c14
               exact absurd c14 (by decide)
              ·try simp only [sx] at c14
               have hnx : nextM s s.ins = s.pc + 1 := next3 hjn
               refine awp_skip <|
                sReg rfl <|
                rwp_det rfl rfl (det_load_agg rfl agg38 rfl (ptr_row 0 rfl) rfl) <|
                rwp_det0 rfl rfl (det_store rfl sz38 rfl rfl rfl (st_row 2 rfl rfl)) <|
                rMv rfl <|
                rMv rfl <|
                rwp_nil <|
                awp_ret <|
                fin3 (rs_cell_agg agg38 rfl (ptr_row 2 rfl) rfl) (rs_c rfl) (rs_c rfl) ?_
               rw [stepM4 hl0 h3 c3 hd0 hnx]
               rfl

theorem ref49_Run (s : Mc) (f w : Int) (hs : s.Ok w) :
    Pur cfg 36 [vSt s, vI f] (.tup [vSt (runX s f).1, vI (runX s f).2.1, vI (runX s f).2.2]) := by
 refine con_intro Tryz.func36 rfl Tryz.ntmps36 Tryz.results36 rfl ?_
 intro z hz
 refine sReg rfl <|
  rwp_op rfl rfl (ope_box rfl rfl) ?_
 rintro _ _ ⟨b1, rfl, rfl⟩
 refine rwp_op rfl rfl (ope_allocN [some 11, some 5, none, some 1, some 2, some 2, none] rfl zr38 rfl) ?_
 rintro _ _ ⟨b2, rfl, rfl⟩
 refine rMv rfl <|
  rMv rfl <|
  rwp_nil <|
  awp_seq <|
  sReg rfl <|
  rMv rfl <|
  rwp_det rfl rfl (det_lss rfl rfl rfl) <|
  rMv rfl <|
  rLz [] rfl gv1 trivial (fun g1_2 => det_move rfl rfl) rfl <|
  rLz [(14, _)] rfl gv1 ⟨rfl, rfl, trivial⟩ (fun g1_2 => det_gtr rfl rfl rfl) rfl <|
  rwp_det rfl rfl (det_or rfl rfl rfl rfl (fun h => (lzf h))) <|
  rwp_nil <|
  awp_cond rfl (fun c1 => ?_) (fun c1 => ?_)
 ·have hf : f < 0 ∨ 16777216 < f := by simpa using c1
  refine sReg rfl <|
   rwp_det rfl rfl (det_load_agg rfl agg38 rfl (ptr_row 1 rfl) rfl) <|
   rwp_det0 rfl rfl (det_store rfl sz38 rfl rfl rfl (st_row 0 rfl rfl)) <|
   rMv rfl <|
   rMv rfl <|
   rwp_nil <|
   awp_ret <|
   fin3 (rs_cell_agg agg38 rfl (ptr_row 0 rfl) rfl) (rs_c rfl) (rs_c rfl) ?_
  rw [runX_no hf]
  rfl
 ·have hf : ¬ (f < 0 ∨ 16777216 < f) := by simpa using c1
  refine awp_skip <|
   sReg rfl <|
   rMv rfl <|
   rwp_nil <|
   awp_seq <|
   awp_block <|
   awp_weak ⟨[(7, .c _), (1, .c _), (2, .c _), (4, .c _)], [_, _]⟩ (Weak.mk [true, true] ⟨VLe.of_eq rfl, VLe.of_eq rfl, VLe.of_eq rfl, VLe.of_eq rfl, trivial⟩ rfl) <|
   awp_loop_k 1 2 rfl rfl (Nat × Mc) (fun ⟨k, t⟩ => [(7, vI k)]) (fun ⟨k, t⟩ => [E.row b2 38 [.sl 11 [], .sl 5 [], cI 0, .sl 1 [], .sl 2 [], .sl 2 [], .lit (.bool false)], E.row b1 38 [.sl 11 (t.code.map In.cells), .sl 5 (t.tys.map Ty.cells), cI t.pc, .sl 1 (t.X.map fun n => [cI n]), .sl 2 (t.R.map Vl.cells), .sl 2 (t.M.map Vl.cells), .lit (.bool t.hl)]]) (fun ⟨k, t⟩ => k ≤ f.toNat ∧ t.Ok w ∧ runM (f.toNat - k) t k = runM f.toNat s 0) (fun ⟨k, t⟩ => f.toNat - k) ⟨⟨0, s⟩, ⟨by omega, hs, rfl⟩, Weak.mk [true, true] ⟨VLe.refl _, VLe.refl _, VLe.refl _, VLe.refl _, trivial⟩ rfl⟩ ?_
  rintro ⟨k, t⟩ ⟨hk, hs, hr⟩
  refine awp_seq <|
   sReg rfl <|
   rwp_det rfl rfl (det_field_lit rfl fd38_6 rfl) <|
   rwp_det rfl rfl (det_load_one rfl one4 rfl (ptr_row 1 rfl) rfl) <|
   rwp_det rfl rfl (det_not rfl rfl) <|
   rwp_nil <|
   awp_cond rfl (fun c2 => ?_) (fun c2 => ?_)
  ·try simp only [sx] at c2
   have hl0 : t.hl = false := by simpa using c2
   refine awp_skip <|
    awp_block <|
    awp_seq <|
    sReg rfl <|
    rMv rfl <|
    rMv rfl <|
    rwp_det rfl rfl (det_eql rfl rfl rfl) <|
    rwp_nil <|
    awp_cond rfl (fun c3 => ?_) (fun c3 => ?_)
   ·try simp only [sx] at c3
    have hz0 : f.toNat - k = 0 := by omega
    refine sReg rfl <|
     rwp_det rfl rfl (det_load_agg rfl agg38 rfl (ptr_row 1 rfl) rfl) <|
     rwp_det0 rfl rfl (det_store rfl sz38 rfl rfl rfl (st_row 0 rfl rfl)) <|
     rMv rfl <|
     rMv rfl <|
     rwp_nil <|
     awp_ret <|
     fin3 (rs_cell_agg agg38 rfl (ptr_row 0 rfl) rfl) (rs_c rfl) (rs_c rfl) ?_
    rw [runX_yes hf, ← hr, hz0, runM_0 hl0]
    rfl
   ·try simp only [sx] at c3
    have hz1 : f.toNat - k = (f.toNat - (k + 1)) + 1 := by omega
    refine awp_skip <|
     sReg rfl <|
     rwp_det rfl rfl (det_load_agg rfl agg38 rfl (ptr_row 1 rfl) rfl) <|
     rwp_det rfl rfl (det_call rfl ok33 (ref49_Step t w hs) ⟨VLe.refl _, rfl, trivial⟩) <|
     rwp_det rfl rfl (det_move_tup rfl rfl) <|
     rwp_det rfl rfl (det_ex_agg rfl rfl rfl) <|
     rwp_det rfl rfl (det_ex_c rfl rfl rfl) <|
     rwp_det rfl rfl (det_ex_c rfl rfl rfl) <|
     rwp_op rfl rfl (ope_allocN [some 11, some 5, none, some 1, some 2, some 2, none] rfl zr38 rfl) ?_
    rintro _ _ ⟨b3, rfl, rfl⟩
    refine rwp_det0 rfl rfl (det_store rfl sz38 rfl rfl rfl (st_row 0 rfl rfl)) <|
     rMv rfl <|
     rMv rfl <|
     rwp_nil <|
     awp_seq <|
     sReg rfl <|
     rMv rfl <|
     rwp_det rfl rfl (det_neq rfl rfl rfl) <|
     rwp_nil <|
     awp_cond rfl (fun c4 => ?_) (fun c4 => ?_)
    ·try simp only [sx] at c4
     refine sReg rfl <|
      rwp_det rfl rfl (det_load_agg rfl agg38 rfl (ptr_row 2 rfl) rfl) <|
      rMv rfl <|
      rwp_det0 rfl rfl (det_store rfl sz38 rfl rfl rfl (st_row 1 rfl rfl)) <|
      rMv rfl <|
      rMv rfl <|
      rwp_nil <|
      awp_ret <|
      fin3 (rs_cell_agg agg38 rfl (ptr_row 1 rfl) rfl) (rs_c rfl) (rs_c rfl) ?_
     rw [runX_yes hf, ← hr, hz1, runM_e hl0 c4]
     rfl
    ·try simp only [sx] at c4
     refine awp_skip <|
      sReg rfl <|
      rwp_det rfl rfl (det_load_agg rfl agg38 rfl (ptr_row 0 rfl) rfl) <|
      rwp_det0 rfl rfl (det_store rfl sz38 rfl rfl rfl (st_row 2 rfl rfl)) <|
      rwp_nil <|
      awp_region rfl <|
      rMv rfl <|
      rwp_det rfl rfl (det_add_nw rfl rfl rfl ⟨by omega, by omega⟩) <|
      rMv rfl <|
      rwp_nil ?_
     refine ⟨⟨k + 1, (stepM t).1⟩, ⟨by omega, stepM_ok hs, by rw [← hr, hz1, runM_s hl0 c4]; rfl⟩, (by show f.toNat - (k + 1) < f.toNat - k; omega), Weak.mk [false, true, true] ⟨VLe.refl _, VLe.refl _, VLe.refl _, VLe.refl _, trivial⟩ rfl⟩
  ·try simp only [sx] at c2
   have hl1 : t.hl = true := by simpa using c2
   refine awp_exit <|
    sReg rfl <|
    rwp_det rfl rfl (det_load_agg rfl agg38 rfl (ptr_row 1 rfl) rfl) <|
    rMv rfl <|
    rwp_det0 rfl rfl (det_store rfl sz38 rfl rfl rfl (st_row 0 rfl rfl)) <|
    rMv rfl <|
    rMv rfl <|
    rwp_nil <|
    awp_ret <|
    fin3 (rs_cell_agg agg38 rfl (ptr_row 0 rfl) rfl) (rs_c rfl) (rs_c rfl) ?_
   rw [runX_yes hf, ← hr, runM_hl hl1]
   rfl

theorem ref49_zerosW (w : Int) (h0 : 0 ≤ w) (h : w ≤ 1048576) : OwnR cfg 28 [vI w] 63 2 ((List.replicate w.toNat (⟨0, 1⟩ : Vl)).map Vl.cells) := by
  have e := ref49_zeros w.toNat (by omega)
  rw [Int.toNat_of_nonneg h0] at e
  exact e
theorem ref49_New (code : List In) (tys : List Ty) (w : Int) (htl : tys.length ≤ 1000000) :
    Pur cfg 9 [vIns code, vTys tys, vI w] (.tup [vSt (newR code tys w).1, vI (newR code tys w).2]) := by
 refine con_intro Tryz.func9 rfl Tryz.ntmps9 Tryz.results9 rfl ?_
 intro z hz
 refine sReg rfl <|
  rwp_op rfl rfl (ope_allocN [some 11, some 5, none, some 1, some 2, some 2, none] rfl zr38 rfl) ?_
 rintro _ _ ⟨b1, rfl, rfl⟩
 refine rMv rfl <|
  rwp_nil <|
  awp_seq <|
  sReg rfl <|
  rMv rfl <|
  rMv rfl <|
  rMv rfl <|
  rwp_det rfl rfl (det_call rfl ok27 (ref47_Validate code tys w htl) ⟨VLe.refl _, rfl, VLe.refl _, rfl, VLe.refl _, rfl, trivial⟩) <|
  rwp_det rfl rfl (det_move_tup rfl rfl) <|
  rwp_det rfl rfl (det_ex_c rfl rfl rfl) <|
  rwp_det rfl rfl (det_ex_c rfl rfl rfl) <|
  rMv rfl <|
  rMv rfl <|
  rwp_nil <|
  sReg rfl <|
  rMv rfl <|
  rwp_det rfl rfl (det_neq rfl rfl rfl) <|
  rwp_nil <|
  awp_cond rfl (fun c1 => ?_) (fun c1 => ?_)
 ·try simp only [sx] at c1
  refine sReg rfl <|
   rwp_det rfl rfl (det_buildN [some 11, some 5, none, some 1, some 2, some 2, none] rfl zr38 pl38 rfl rfl) <|
   rMv rfl <|
   rwp_det0 rfl rfl (det_store rfl sz38 rfl rfl rfl (st_row 0 rfl rfl)) <|
   rMv rfl <|
   rwp_nil <|
   awp_ret <|
   fin2 (rs_cell_agg agg38 rfl (ptr_row 0 rfl) rfl) (rs_c rfl) ?_
  rw [newr2 c1]
  rfl
 ·try simp only [sx] at c1
  obtain ⟨h1, h2, h3, h4, h5⟩ := vld_ok c1
  refine awp_skip <|
   awp_seq <|
   awp_draw_c 6 1 [⟨0, .q []⟩, ⟨1, .q []⟩, ⟨3, .q []⟩, ⟨4, .q []⟩, ⟨5, .q []⟩, ⟨2, .f 0⟩] mixed (by kernel_rfl) (by kernel_rfl) rfl rfl rfl <|
   fx_skip rfl <|
   fx_skip rfl <|
   fx_skip rfl <|
   fx_skip rfl <|
   fx_skip rfl <|
   fx_fresh rfl rfl (fresh_own (ope_make 256 rfl el35 zr2 rfl rfl rfl rfl (by omega) (by omega))) ⟨_, _, .slice none 0 0, rfl, rfl⟩ <|
   fx_nil <|
   sq_det rfl (by decide) rfl rfl (det_move rfl rfl) <|
   sq_det rfl (by decide) rfl rfl (det_move rfl rfl) <|
   sq_det rfl (by decide) rfl rfl (det_call rfl ok28 (OwnR.pur (ref49_zeros 256 (by decide))) ⟨VLe.refl _, rfl, trivial⟩) <|
   sq_det rfl (by decide) rfl rfl (det_move rfl rfl) <|
   sq_det rfl (by decide) rfl rfl (det_call rfl ok28 (OwnR.pur (ref49_zerosW w (by omega) (by omega))) ⟨VLe.refl _, rfl, trivial⟩) <|
   sq_fresh rfl rfl ?_
  rintro _ _ ⟨sv2, rfl, rfl⟩
  refine sq_nil rfl <|
   rwp_weak _ (weak_freezeM 0 rfl (regs' := [(23, _)]) (μ' := [_]) ⟨FLe.sl, trivial⟩ ⟨EFle.refl _, trivial⟩) <|
   rwp_det rfl rfl (det_build rfl zr38 pl38 rfl) <|
   rwp_det0 rfl rfl (det_store rfl sz38 rfl rfl rfl (st_row 0 rfl rfl)) <|
   rMv rfl <|
   rwp_nil <|
   awp_ret <|
   fin2 (rs_cell_agg agg38 rfl (ptr_row 0 rfl) rfl) (rs_c rfl) ?_
  rw [newr1 c1]
  exact congrArg (fun q => V.tup [q, vI 0]) (new_st code tys w).symm

end Go.W
