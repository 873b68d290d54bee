/-
  Walks: what functions of the program compute. Printed by wip/gen/mk2.py.
  Conditions: none.
-/
import Derived.Test.YtlfjpejkoccibaaGreatDoorNH
import Derived.Test.YtlfjpejkoccibaaGreatDoorPlain2
set_option linter.unusedSimpArgs false
set_option linter.unusedVariables false
set_option maxRecDepth 10000
namespace Go.W
open Go Go.Eng Go.Proofs Go.L41 Go.Br
attribute [local irreducible] AWP RWP TD finQ
theorem agg80 : aggT Tryz.prog 80 = some 2 := by kernel_rfl
theorem fl80 : flatK Tryz.prog 80 = some [.str, .int] := by kernel_rfl
theorem ok16 : callOk Tryz.prog 16 = true := by kernel_rfl
theorem ok32 : callOk Tryz.prog 32 = true := by kernel_rfl
theorem ok33 : callOk Tryz.prog 33 = true := by kernel_rfl
theorem ok34 : callOk Tryz.prog 34 = true := by kernel_rfl
theorem ok35 : callOk Tryz.prog 35 = true := by kernel_rfl
theorem ok36 : callOk Tryz.prog 36 = true := by kernel_rfl
theorem ok37 : callOk Tryz.prog 37 = true := by kernel_rfl
theorem pl25 : placesT Tryz.prog 25 = some [(0, 1), (1, 1)] := by kernel_rfl
theorem sz22 : (Tryz.prog.info? 22).map (·.size) = some 1 := by kernel_rfl
theorem sz25 : (Tryz.prog.info? 25).map (·.size) = some 2 := by kernel_rfl
theorem zr25 : zeroT Tryz.prog 25 = some [(Value.slice none 0 0), (Value.slice none 0 0)] := by kernel_rfl
theorem ref30_Twin (n : Ns) (hn : n.Ok) (hl : stsWt n.Body ≤ 1000000) :
    Con cfg 35 [vNs n] [] fun r μ' => ∃ sv, r = .agg [.lit sv, .sl 20 (n.Body.map St.cells)] ∧ μ' = [E.vec sv 65 8 (n.Bufs.map Bf.cells)] := by
 refine Con.dropG <|
  con_intro Tryz.func35 rfl Tryz.ntmps35 Tryz.results35 rfl ?_
 intro z hz
 have hnb := hn.bufs
 refine sReg rfl <|
  rwp_op rfl rfl (ope_box rfl rfl) ?_
 rintro _ _ ⟨b1, rfl, rfl⟩
 refine rwp_op rfl rfl (ope_allocN [some 8, some 20] rfl zr25 rfl) ?_
 rintro _ _ ⟨b2, rfl, rfl⟩
 refine rwp_nil <|
  sReg rfl <|
  rwp_det rfl rfl (det_field_lit rfl fd25_1 rfl) <|
  rwp_det rfl rfl (det_load_one rfl one23 rfl (ptr_row 1 rfl) rfl) <|
  rwp_det rfl rfl (det_call rfl ok83 (ref30_twins n.Body hl) ⟨VLe.refl _, rfl, trivial⟩) <|
  rwp_det rfl rfl (det_build rfl zr25 pl25 rfl) <|
  rwp_op rfl rfl (ope_allocN [some 8, some 20] rfl zr25 rfl) ?_
 rintro _ _ ⟨b3, rfl, rfl⟩
 refine rwp_det0 rfl rfl (det_store rfl sz25 rfl rfl rfl (st_row 0 rfl rfl)) <|
  rwp_nil <|
  awp_seq <|
  sReg rfl <|
  rwp_weak _ (weak_own 65 8) <|
  rMv rfl <|
  rwp_nil <|
  awp_block <|
  awp_weak ⟨[(4, .c _), (1, .c _), (2, .c _), (3, .c _)], [_, _, _, _]⟩ (Weak.mk [true, true, true, true] ⟨VLe.of_eq rfl, VLe.of_eq rfl, VLe.of_eq rfl, VLe.of_eq rfl, trivial⟩ rfl) <|
  awp_loop_k 1 2 rfl rfl (Nat × Value) (fun ⟨k, sv⟩ => [(4, vI k)]) (fun ⟨k, sv⟩ => [E.vec sv 65 8 ((n.Bufs.take k).map Bf.cells), E.row b3 25 [.lit sv, .sl 20 (n.Body.map St.cells)]]) (fun ⟨k, sv⟩ => k ≤ n.Bufs.length) (fun ⟨k, sv⟩ => n.Bufs.length - k) ⟨⟨0, (.slice none 0 0)⟩, (by omega), Weak.mk [true, true, true, true] ⟨VLe.refl _, VLe.refl _, VLe.refl _, VLe.refl _, trivial⟩ rfl⟩ ?_
 rintro ⟨k, sv⟩ hk
 show AWP _ _ _ _ _ ⟨[(4, vI k)] ++ _, [E.vec sv 65 8 ((n.Bufs.take k).map Bf.cells), E.row b3 25 [.lit sv, .sl 20 (n.Body.map St.cells)]] ++ _⟩
 refine awp_seq <|
  sReg rfl <|
  rMv rfl <|
  rwp_det rfl rfl (det_field_lit rfl fd25_0 rfl) <|
  rwp_det rfl rfl (det_load_one rfl one22 rfl (ptr_row 3 rfl) rfl) <|
  rwp_det rfl rfl (det_len_slm rfl el22 rfl) <|
  rwp_det rfl rfl (det_lss rfl rfl rfl) <|
  rwp_nil <|
  awp_cond rfl (fun c1 => ?_) (fun c1 => ?_)
 ·try simp only [sx] at c1
  obtain ⟨b, hb⟩ := ex_get n.Bufs k (by omega)
  have hbd := hn.dims b (mem_of_get hb)
  refine awp_skip <|
   awp_seq <|
   awp_block <|
   sReg rfl <|
   rwp_det rfl rfl (det_field_lit rfl fd25_0 rfl) <|
   rwp_det rfl rfl (det_load_one rfl one22 rfl (ptr_row 3 rfl) rfl) <|
   rMv rfl <|
   rwp_det rfl rfl (det_index_sl rfl el22 rfl rfl (by omega) (getm (by assumption))) <|
   rwp_det rfl rfl (det_load_agg rfl agg65 rfl ptr_imm rfl) <|
   rwp_op rfl rfl (ope_allocN [none, none, none, none, none, none, some 1, none] rfl zr65 rfl) ?_
  rintro _ _ ⟨b4, rfl, rfl⟩
  refine rwp_det0 rfl rfl (det_store rfl sz65 rfl rfl rfl (st_row 0 rfl rfl)) <|
   rwp_nil <|
   sReg rfl <|
   rwp_det rfl rfl (det_bslice0 rfl el26 zr3) <|
   rwp_det rfl rfl (det_field_lit rfl fd65_2 rfl) <|
   rwp_det rfl rfl (det_load_one rfl one26 rfl (ptr_row 0 rfl) rfl) <|
   rwp_op rfl rfl (ope_append0 rfl el26 rfl rfl (by simp only [List.length_map, List.length_append, List.length_cons, List.length_nil, List.length_take, List.length_drop]; omega) (by simp only [List.length_map, List.length_append, List.length_cons, List.length_nil, List.length_take, List.length_drop]; omega)) ?_
  rintro _ _ ⟨sv5, rfl, rfl⟩
  refine rwp_weak _ (weak_freezeM 0 rfl (regs' := [(25, _)]) (μ' := [_, _, _, _, _]) ⟨FLe.sl, trivial⟩ ⟨EFle.refl _, EFle.refl _, EFle.refl _, EFle.refl _, EFle.refl _, trivial⟩) <|
   rwp_det rfl rfl (det_field_lit rfl fd65_2 rfl) <|
   rwp_det0 rfl rfl (det_store rfl sz26 rfl rfl rfl (st_row 0 rfl rfl)) <|
   rwp_nil <|
   awp_region rfl <|
   rwp_det rfl rfl (det_field_lit rfl fd25_0 rfl) <|
   rwp_det rfl rfl (det_load_one rfl one22 rfl (ptr_row 2 rfl) rfl) <|
   rwp_det rfl rfl (det_load_agg rfl agg65 rfl (ptr_row 0 rfl) rfl) <|
   rwp_det rfl rfl (det_bslice rfl el22 zr65 rfl rfl rfl rfl) <|
   rwp_op rfl rfl (ope_append 1 rfl el22 rfl rfl rfl (by simp only [List.length_map, List.length_append, List.length_cons, List.length_nil, List.length_take, List.length_drop]; omega) (by simp only [List.length_map, List.length_append, List.length_cons, List.length_nil, List.length_take, List.length_drop]; omega)) ?_
  rintro _ _ ⟨sv6, rfl, rfl⟩
  refine rwp_det rfl rfl (det_field_lit rfl fd25_0 rfl) <|
   rwp_det0 rfl rfl (det_store rfl sz22 rfl rfl rfl (st_row 2 rfl rfl)) <|
   rwp_nil <|
   awp_region rfl <|
   rMv rfl <|
   rwp_det rfl rfl (det_add_nw rfl rfl rfl ⟨by omega, by omega⟩) <|
   rMv rfl <|
   rwp_nil ?_
  refine ⟨⟨k + 1, sv6⟩, (by omega), (by show n.Bufs.length - (k + 1) < n.Bufs.length - k; omega), Weak.mk [false, true, true, true, true] ⟨VLe.refl _, VLe.refl _, VLe.refl _, VLe.refl _, trivial⟩ (by exact mem2_eq' (by rw [take_next hb, List.map_append]; rfl))⟩
 ·try simp only [sx] at c1
  rw [take_all (l := n.Bufs) (k := k) (by omega)]
  refine awp_exit <|
   sReg rfl <|
   rwp_det rfl rfl (det_load_agg rfl agg25 rfl (ptr_row 1 rfl) rfl) <|
   rwp_det0 rfl rfl (det_store rfl sz25 rfl rfl rfl (st_row 2 rfl rfl)) <|
   rwp_nil <|
   awp_ret <|
   fin1 (rs_cell_agg agg25 rfl (ptr_row 2 rfl) rfl) ?_
  exact ⟨[E.vec _ _ _ _], ⟨[], [_, _, _], rfl⟩, _, rfl, rfl⟩

theorem find_ex : Pur cfgI 32 [vNs lvN, vS (bs [105])] (.tup [vIs [0], vB true]) := by
  have h := loopnest_Find lvN (bs [105]) (by have := lvN_wt; omega)
  rw [lvN_find] at h; exact upI h
theorem encl_ex : Pur cfgI 33 [vNs lvN, vIs [0, 0]] (vBds [⟨bs [105], 2⟩]) := by
  have h := loopnest_Enclosing lvN [0, 0] (by decide)
  rw [lvN_encl] at h; exact upI h
theorem valid_ex : Pur cfgI 34 [vNs lvN] (.tup [vIs [], vI 0]) := by
  have h := loopnest_Validate lvN lvN_ok.1
  rw [lvN_valid.1] at h; exact upI h
theorem valid_ex2 : Pur cfgI 34 [vNs lvM] (.tup [vIs [0, 0], vI 1]) := by
  have h := loopnest_Validate lvM lvN_ok.2
  rw [lvN_valid.2] at h; exact upI h
theorem fresh_ex : Pur cfgI 37 [vNs lvN, vS (bs [105])] (vS (bs [105, 49])) := by
  have h := loopnest_FreshName lvN (bs [105]) (by have := lvN_wt; omega) (by decide) (by decide)
  rw [lvN_fresh] at h; exact h
theorem size_ex : Pur cfgI 16 [vNs lvN] (vI 2) := by
  have h := loopnest_Size lvN (by have := lvN_wt; omega)
  rw [lvN_size] at h; exact upI h

theorem law30_live  :
    Pur cfgI 11 [] (vB true) := by
 refine con_intro Tryz.func11 rfl Tryz.ntmps11 Tryz.results11 rfl ?_
 intro z hz
 refine sReg rfl <|
  rMv rfl <|
  rwp_nil <|
  sReg rfl <|
  rwp_det rfl rfl (det_build rfl zr38 pl38 rfl) <|
  rwp_op rfl rfl (ope_alloc rfl zr38) ?_
 rintro _ _ ⟨b1, rfl, rfl⟩
 refine rwp_det0 rfl rfl (det_store rfl sz38 rfl rfl rfl (st_row 0 rfl rfl)) <|
  rwp_nil <|
  sReg rfl <|
  rwp_det rfl rfl (det_build rfl zr69 pl69 rfl) <|
  rwp_det rfl rfl (det_bslice rfl el39 zr69 rfl rfl rfl rfl) <|
  rwp_det rfl rfl (det_build rfl zr41 pl41 rfl) <|
  rwp_det rfl rfl (det_buildN [none, none, none, some 2] rfl zr72 pl72 rfl rfl) <|
  rwp_op rfl rfl (ope_allocN [none, some 2, none, some 2] rfl zr72 rfl) ?_
 rintro _ _ ⟨b2, rfl, rfl⟩
 refine rwp_det0 rfl rfl (det_store rfl sz72 rfl rfl rfl (st_row 0 rfl rfl)) <|
  rwp_nil <|
  sReg rfl <|
  rwp_det rfl rfl (det_load_agg rfl agg72 rfl (ptr_row 0 rfl) rfl) <|
  rwp_det rfl rfl (det_bslice rfl el34 zr72 rfl rfl rfl rfl) <|
  rwp_det rfl rfl (det_load_agg rfl agg72 rfl (ptr_row 0 rfl) rfl) <|
  rwp_det rfl rfl (det_bslice rfl el34 zr72 rfl rfl rfl rfl) <|
  rwp_det rfl rfl (det_buildN [none, none, none, none, none, none, none, none, none, none, some 2, none, some 13] rfl zr44 pl44 rfl rfl) <|
  rwp_det rfl rfl (det_buildN [none, none, none, none, none, none, none, none, none, none, none, none, none, none, none, none, none, none, none, some 20] rfl zr46 pl46 rfl rfl) <|
  rwp_op rfl rfl (ope_allocN [none, none, none, none, none, some 4, none, none, none, none, none, none, none, none, none, none, some 2, some 4, some 13, some 20] rfl zr46 rfl) ?_
 rintro _ _ ⟨b3, rfl, rfl⟩
 refine rwp_det0 rfl rfl (det_store rfl sz46 rfl rfl rfl (st_row 0 rfl rfl)) <|
  rwp_nil <|
  sReg rfl <|
  rwp_det rfl rfl (det_load_agg rfl agg38 rfl (ptr_row 2 rfl) rfl) <|
  rwp_det rfl rfl (det_bslice rfl el26 zr3 rfl rfl rfl rfl) <|
  rwp_det rfl rfl (det_build rfl zr65 pl65 rfl) <|
  rwp_det rfl rfl (det_load_agg rfl agg38 rfl (ptr_row 2 rfl) rfl) <|
  rwp_det rfl rfl (det_bslice rfl el26 zr3 rfl rfl rfl rfl) <|
  rwp_det rfl rfl (det_build rfl zr65 pl65 rfl) <|
  rwp_det rfl rfl (det_bslice rfl el22 zr65 rfl rfl rfl rfl) <|
  rwp_det rfl rfl (det_load_agg rfl agg46 rfl (ptr_row 0 rfl) rfl) <|
  rwp_det rfl rfl (det_bslice rfl el23 zr46 rfl rfl rfl rfl) <|
  rwp_det rfl rfl (det_buildN [none, none, none, none, none, some 4, none, none, none, none, none, none, none, none, none, none, some 2, some 4, some 13, none] rfl zr46 pl46 rfl rfl) <|
  rwp_det rfl rfl (det_bslice rfl el23 zr46 rfl rfl rfl rfl) <|
  rwp_det rfl rfl (det_build rfl zr25 pl25 rfl) <|
  rwp_op rfl rfl (ope_allocN [some 8, some 20] rfl zr25 rfl) ?_
 rintro _ _ ⟨b4, rfl, rfl⟩
 refine rwp_det0 rfl rfl (det_store rfl sz25 rfl rfl rfl (st_row 0 rfl rfl)) <|
  rwp_nil <|
  sReg rfl <|
  rwp_det rfl rfl (det_load_agg rfl agg25 rfl (ptr_row 0 rfl) rfl) <|
  rwp_det rfl rfl (det_call rfl ok32 find_ex ⟨VLe.refl _, rfl, VLe.refl _, rfl, trivial⟩) <|
  rwp_det rfl rfl (det_move_tup rfl rfl) <|
  rwp_det rfl rfl (det_ex_c rfl rfl rfl) <|
  rwp_det rfl rfl (det_ex_c rfl rfl rfl) <|
  rMv rfl <|
  rMv rfl <|
  rwp_nil <|
  sReg rfl <|
  rwp_det rfl rfl (det_load_agg rfl agg25 rfl (ptr_row 0 rfl) rfl) <|
  rwp_det rfl rfl (det_bslice rfl el26 zr3 rfl rfl rfl rfl) <|
  rwp_det rfl rfl (det_call rfl ok33 encl_ex ⟨VLe.refl _, rfl, VLe.refl _, rfl, trivial⟩) <|
  rMv rfl <|
  rwp_nil <|
  sReg rfl <|
  rwp_det rfl rfl (det_load_agg rfl agg25 rfl (ptr_row 0 rfl) rfl) <|
  rwp_det rfl rfl (det_call rfl ok34 valid_ex ⟨VLe.refl _, rfl, trivial⟩) <|
  rwp_det rfl rfl (det_move_tup rfl rfl) <|
  rwp_det rfl rfl (det_ex_c rfl rfl rfl) <|
  rwp_det rfl rfl (det_ex_c rfl rfl rfl) <|
  rMv rfl <|
  rMv rfl <|
  rwp_nil <|
  sReg rfl <|
  rwp_det rfl rfl (det_load_agg rfl agg25 rfl (ptr_row 0 rfl) rfl) <|
  rwp_op rfl rfl (ope_call rfl ok35 (Con.frame (upI (ref30_Twin lvN lvN_ok.1 (by have := lvN_wt; omega))) _) ⟨VLe.refl _, rfl, trivial⟩) ?_
 rintro _ _ ⟨_, ⟨svT, rfl, rfl⟩, rfl⟩
 refine rwp_op rfl rfl (ope_allocN [some 8, some 20] rfl zr25 rfl) ?_
 rintro _ _ ⟨b6, rfl, rfl⟩
 refine rwp_det0 rfl rfl (det_store rfl sz25 rfl rfl rfl (st_row 0 rfl rfl)) <|
  rwp_nil <|
  sReg rfl <|
  rwp_det rfl rfl (det_field_lit rfl fd25_0 rfl) <|
  rwp_det rfl rfl (det_load_one rfl one22 rfl (ptr_row 0 rfl) rfl) <|
  rwp_det rfl rfl (det_index_vec 1 rfl el22 rfl rfl rfl (by decide) (by decide)) <|
  rwp_det rfl rfl (det_field_vec rfl fd65_3 rfl) <|
  rwp_det0 rfl rfl (det_store rfl sz3 rfl rfl rfl (st_vec 1 rfl rfl rfl)) <|
  rwp_nil <|
  awp_seq <|
  awp_weak _ (weak_freezeM 1 rfl (regs' := [(50, .agg [_, _]), (52, _)]) (μ' := [_, _, _, _, _]) ⟨FLe.agg ⟨.inr ⟨rfl, rfl⟩, .inl rfl, trivial⟩, FLe.sl, trivial⟩ ⟨EFle.row (ds := [_, _]) ⟨.inr ⟨rfl, rfl⟩, .inl rfl, trivial⟩, EFle.refl _, EFle.refl _, EFle.refl _, EFle.refl _, trivial⟩) <|
  awp_region rfl <|
  rwp_det rfl rfl (det_load_agg rfl agg25 rfl (ptr_row 0 rfl) rfl) <|
  rwp_det rfl rfl (det_call rfl ok34 valid_ex2 ⟨VLe.refl _, rfl, trivial⟩) <|
  rwp_det rfl rfl (det_move_tup rfl rfl) <|
  rwp_det rfl rfl (det_ex_c rfl rfl rfl) <|
  rwp_det rfl rfl (det_ex_c rfl rfl rfl) <|
  rMv rfl <|
  rMv rfl <|
  rwp_nil <|
  sReg rfl <|
  rMv rfl <|
  rMv rfl <|
  rLz [] rfl gv1 trivial (fun g11_1 => det_move rfl rfl) rfl <|
  rLz [] rfl gv1 trivial (fun g11_1 => det_bslice rfl el26 zr3 rfl rfl rfl rfl) rfl <|
  rLz [(62, _), (63, _)] rfl gv1 ⟨rfl, rfl, rfl, rfl, trivial⟩ (fun g11_1 => det_call rfl ok36 (upI (base_Ints [0] [0] (by decide))) ⟨VLe.refl _, rfl, VLe.refl _, rfl, trivial⟩) rfl <|
  rwp_det rfl rfl (det_and rfl rfl rfl (fun h => h) rfl) <|
  rMv rfl <|
  rLz [] rfl gv1 trivial (fun g11_6 => det_move rfl rfl) rfl <|
  rLz [(67, _)] rfl gv1 ⟨rfl, rfl, trivial⟩ (fun g11_6 => det_len_slm rfl el73 rfl) rfl <|
  rLz [(68, _)] rfl gv1 ⟨rfl, rfl, trivial⟩ (fun g11_6 => det_eql rfl rfl rfl) rfl <|
  rwp_det rfl rfl (det_and rfl rfl rfl (fun h => h) rfl) <|
  rMv rfl <|
  rLz [] rfl gv1 trivial (fun g11_11 => det_move rfl rfl) rfl <|
  rLz [(72, _)] rfl gv1 ⟨rfl, rfl, trivial⟩ (fun g11_11 => det_index_sl rfl el73 rfl rfl (by decide) rfl) rfl <|
  rLz [(73, _)] rfl gv1 ⟨rfl, rfl, trivial⟩ (fun g11_11 => det_load_agg rfl agg80 rfl ptr_imm rfl) rfl <|
  rLz [] rfl gv1 trivial (fun g11_11 => det_build rfl zr80 pl80 rfl) rfl <|
  rLz [(74, _), (75, _)] rfl gv1 ⟨rfl, rfl, rfl, rfl, trivial⟩ (fun g11_11 => det_aeql rfl fl80 rfl rfl rfl) rfl <|
  rwp_det rfl rfl (det_and rfl rfl rfl (fun h => h) rfl) <|
  rMv rfl <|
  rLz [] rfl gv1 trivial (fun g11_18 => det_move rfl rfl) rfl <|
  rLz [(79, _)] rfl gv1 ⟨rfl, rfl, trivial⟩ (fun g11_18 => det_eql rfl rfl rfl) rfl <|
  rwp_det rfl rfl (det_and rfl rfl rfl (fun h => h) rfl) <|
  rMv rfl <|
  rLz [] rfl gv1 trivial (fun g11_22 => det_move rfl rfl) rfl <|
  rLz [(83, _)] rfl gv1 ⟨rfl, rfl, trivial⟩ (fun g11_22 => det_eql rfl rfl rfl) rfl <|
  rwp_det rfl rfl (det_and rfl rfl rfl (fun h => h) rfl) <|
  rMv rfl <|
  rLz [] rfl gv1 trivial (fun g11_26 => det_move rfl rfl) rfl <|
  rLz [] rfl gv1 trivial (fun g11_26 => det_bslice rfl el26 zr3 rfl rfl rfl rfl) rfl <|
  rLz [(87, _), (88, _)] rfl gv1 ⟨rfl, rfl, rfl, rfl, trivial⟩ (fun g11_26 => det_call rfl ok36 (upI (base_Ints [0, 0] [0, 0] (by decide))) ⟨VLe.refl _, rfl, VLe.refl _, rfl, trivial⟩) rfl <|
  rwp_det rfl rfl (det_and rfl rfl rfl (fun h => h) rfl) <|
  rMv rfl <|
  rLz [] rfl gv1 trivial (fun g11_31 => det_load_agg rfl agg25 rfl (ptr_row 1 rfl) rfl) rfl <|
  rLz [(92, _)] rfl gv1 ⟨rfl, rfl, trivial⟩ (fun g11_31 => det_call rfl ok37 fresh_ex ⟨VLe.refl _, rfl, VLe.refl _, rfl, trivial⟩) rfl <|
  rLz [(93, _)] rfl gv1 ⟨rfl, rfl, trivial⟩ (fun g11_31 => det_seql rfl rfl rfl) rfl <|
  rwp_det rfl rfl (det_and rfl rfl rfl (fun h => h) rfl) <|
  rMv rfl <|
  rLz [] rfl gv1 trivial (fun g11_36 => det_load_agg rfl agg25 rfl (ptr_row 1 rfl) rfl) rfl <|
  rLz [(97, _)] rfl gv1 ⟨rfl, rfl, trivial⟩ (fun g11_36 => det_call rfl ok16 size_ex ⟨VLe.refl _, rfl, trivial⟩) rfl <|
  rLz [(98, _)] rfl gv1 ⟨rfl, rfl, trivial⟩ (fun g11_36 => det_eql rfl rfl rfl) rfl ?_
 refine rwp_det rfl rfl (det_and rfl rfl rfl (fun h => h) rfl) <|
  rMv rfl <|
  rwp_nil <|
  awp_ret <|
  fin1 (rs_c rfl) ?_
 exact congrArg vB (by decide)

end Go.W
