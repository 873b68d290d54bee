/-
  Walks: what functions of the program compute. Printed by wip/gen/mk2.py.
  Conditions: none.
-/
import Derived.Test.YtlfjpejkoccibaaGreatDoorVC
import Derived.Test.YtlfjpejkoccibaaGreatDoorEngZ
set_option linter.unusedSimpArgs false
set_option linter.unusedVariables false
set_option maxRecDepth 10000
namespace Go.W
open Go Go.Eng Go.Proofs Go.L41 Go.Br
attribute [local irreducible] AWP RWP TD finQ
theorem ok130 : callOk Tryz.prog 130 = true := by kernel_rfl
theorem ok168 : callOk Tryz.prog 168 = true := by kernel_rfl
theorem ref14_twin (l : Lf) (hl : l.L.length ≤ 4294967296) :
    Pur cfg 168 [vLin l] (vLin l) := by
 refine con_intro Tryz.func168 rfl Tryz.ntmps168 Tryz.results168 rfl ?_
 intro z hz
 refine sReg rfl <|
  rwp_op rfl rfl (ope_box rfl rfl) ?_
 rintro _ _ ⟨b1, rfl, rfl⟩
 refine rwp_op rfl rfl (ope_allocN [none, some 2] rfl zr41 rfl) ?_
 rintro _ _ ⟨b2, rfl, rfl⟩
 refine rwp_nil <|
  sReg rfl <|
  rwp_det rfl rfl (det_field_lit rfl fd41_0 rfl) <|
  rwp_det rfl rfl (det_load_one rfl one2 rfl (ptr_row 1 rfl) rfl) <|
  rwp_det rfl rfl (det_build rfl zr41 pl41 rfl) <|
  rwp_op rfl rfl (ope_alloc rfl zr41) ?_
 rintro _ _ ⟨b3, rfl, rfl⟩
 refine rwp_weak _ (weak_own 69 2) <|
  rwp_det0 rfl rfl (det_store rfl sz41 rfl rfl rfl (st_row 1 rfl rfl)) <|
  rwp_nil <|
  sReg rfl <|
  rwp_det rfl rfl (det_field_lit rfl fd41_1 rfl) <|
  rwp_det rfl rfl (det_load_one rfl one39 rfl (ptr_row 1 rfl) rfl) <|
  rwp_det rfl rfl (det_field_lit rfl fd41_1 rfl) <|
  rwp_det rfl rfl (det_load_one rfl one39 rfl (ptr_row 3 rfl) rfl) <|
  rwp_op rfl rfl (ope_append 0 rfl el39 rfl rfl rfl (by simp; omega) (by simp; omega)) ?_
 rintro _ _ ⟨sv5, rfl, rfl⟩
 refine rwp_det rfl rfl (det_field_lit rfl fd41_1 rfl) <|
  rwp_det0 rfl rfl (det_store rfl sz39 rfl rfl rfl (st_row 1 rfl rfl)) <|
  rwp_nil <|
  sReg rfl <|
  rwp_weak _ (weak_freezeM 0 rfl (regs' := [(11, _)]) (μ' := [_, _, _]) ⟨FLe.sl, trivial⟩ ⟨EFle.row (ds := [_, _]) ⟨.inl rfl, .inr ⟨rfl, rfl⟩, trivial⟩, EFle.refl _, EFle.refl _, trivial⟩) <|
  rwp_det rfl rfl (det_load_agg rfl agg41 rfl (ptr_row 0 rfl) rfl) <|
  rwp_det0 rfl rfl (det_store rfl sz41 rfl rfl rfl (st_row 1 rfl rfl)) <|
  rwp_nil <|
  awp_ret <|
  fin1 (rs_cell_agg agg41 rfl (ptr_row 1 rfl) rfl) ?_
 rfl

theorem ref14_Twin_step (e : Ex) (ih : ∀ a, a ∈ e.Args → a.wt ≤ 4294967296 → Pur cfg 130 [vE a] (vE a)) (he : e.wt ≤ 4294967296) :
    Pur cfg 130 [vE e] (vE e) := by
 refine con_intro Tryz.func130 rfl Tryz.ntmps130 Tryz.results130 rfl ?_
 intro z hz
 obtain ⟨hL, hI, hA⟩ := e.parts he
 refine sReg rfl <|
  rwp_op rfl rfl (ope_box rfl rfl) ?_
 rintro _ _ ⟨b1, rfl, rfl⟩
 refine rwp_op rfl rfl (ope_allocN [none, none, none, none, none, none, none, none, none, none, some 2, some 4, some 13] rfl zr44 rfl) ?_
 rintro _ _ ⟨b2, rfl, rfl⟩
 refine rwp_nil <|
  awp_seq <|
  awp_draw_c 13 1 [⟨0, .q []⟩, ⟨1, .q [2]⟩, ⟨2, .q []⟩, ⟨3, .q [2]⟩, ⟨4, .q []⟩, ⟨5, .q [2]⟩, ⟨6, .q []⟩, ⟨7, .q [2]⟩, ⟨8, .q []⟩, ⟨9, .q [2]⟩, ⟨10, .q []⟩, ⟨11, .q []⟩, ⟨12, .f 0⟩] mixed (by kernel_rfl) (by kernel_rfl) rfl rfl rfl <|
  fx_skip rfl <|
  fx_skip rfl <|
  fx_skip rfl <|
  fx_skip rfl <|
  fx_skip rfl <|
  fx_skip rfl <|
  fx_skip rfl <|
  fx_skip rfl <|
  fx_skip rfl <|
  fx_skip rfl <|
  fx_skip rfl <|
  fx_skip rfl <|
  fx_fresh rfl rfl (fresh_alloc' (ope_allocN [none, none, none, none, none, none, none, none, none, none, some 2, some 4, some 13] rfl zr44 rfl)) ⟨_, _, 0, rfl, rfl⟩ <|
  fx_nil <|
  sq_det rfl (by decide) rfl rfl (det_field_lit rfl fd44_0 rfl) <|
  sq_det rfl (by decide) rfl rfl (det_load_one rfl one3 rfl (ptr_row 0 rfl) rfl) <|
  sq_det rfl (by decide) rfl rfl (det_field_lit rfl fd44_1 rfl) <|
  sq_det rfl (by decide) rfl rfl (det_load_one rfl one9 rfl (ptr_row 0 rfl) rfl) <|
  sq_det rfl (by decide) rfl rfl (det_field_lit rfl fd44_2 rfl) <|
  sq_det rfl (by decide) rfl rfl (det_load_agg rfl agg36 rfl (ptr_row 0 rfl) rfl) <|
  sq_det rfl (by decide) rfl rfl (det_field_lit rfl fd44_3 rfl) <|
  sq_det rfl (by decide) rfl rfl (det_load_agg rfl agg38 rfl (ptr_row 0 rfl) rfl) <|
  sq_det rfl (by decide) rfl rfl (det_field_lit rfl fd44_4 rfl) <|
  sq_det rfl (by decide) rfl rfl (det_load_agg rfl agg41 rfl (ptr_row 0 rfl) rfl) <|
  sq_det rfl (by decide) rfl rfl (det_call rfl ok168 (ref14_twin e.Lin hL) ⟨VLe.refl _, rfl, trivial⟩) <|
  sq_det rfl (by decide) rfl rfl (det_build rfl zr44 pl44 rfl) <|
  sq_fresh rfl rfl ?_
 rintro _ _ ⟨b3, rfl, rfl⟩
 refine sq_nil rfl <|
  rwp_det0 rfl rfl (det_store rfl sz44 rfl rfl rfl (st_row 0 rfl rfl)) <|
  rwp_nil <|
  awp_seq <|
  sReg rfl <|
  rwp_weak _ (weak_own 72 4) <|
  rwp_weak _ (weak_own 44 13) <|
  rMv rfl <|
  rwp_nil <|
  awp_block <|
  awp_weak ⟨[(4, .c _), (1, .c _), (2, .c _), (3, .c _)], [_, _, _, _, _]⟩ (Weak.mk [true, true, true, true, true] ⟨VLe.of_eq rfl, VLe.of_eq rfl, VLe.of_eq rfl, VLe.of_eq rfl, trivial⟩ rfl) <|
  awp_loop_k 1 3 rfl rfl (Nat × Value) (fun ⟨k, sv⟩ => [(4, vI k)]) (fun ⟨k, sv⟩ => [E.vec (.slice none 0 0) 44 13 [], E.vec sv 72 4 ((e.Idx.take k).map Ix.cells), E.row b3 44 [cI e.Op, cS e.Name, cI e.Val.N, cI e.Val.D, cI e.Ty.Kind, cI e.Ty.Bits, cI e.Ty.Frac, cI e.Ty.Round, cI e.Ty.Over, cI e.Lin.K, .sl 2 (e.Lin.L.map Mono.cells), .lit sv, .lit (.slice none 0 0)]]) (fun ⟨k, sv⟩ => k ≤ e.Idx.length) (fun ⟨k, sv⟩ => e.Idx.length - k) ⟨⟨0, (.slice none 0 0)⟩, (by omega), Weak.mk [true, true, true, true, true] ⟨VLe.refl _, VLe.refl _, VLe.refl _, VLe.refl _, trivial⟩ rfl⟩ ?_
 rintro ⟨k, sv⟩ hk
 show AWP _ _ _ _ _ ⟨[(4, vI k)] ++ _, [E.vec (.slice none 0 0) 44 13 [], E.vec sv 72 4 ((e.Idx.take k).map Ix.cells), E.row b3 44 [cI e.Op, cS e.Name, cI e.Val.N, cI e.Val.D, cI e.Ty.Kind, cI e.Ty.Bits, cI e.Ty.Frac, cI e.Ty.Round, cI e.Ty.Over, cI e.Lin.K, .sl 2 (e.Lin.L.map Mono.cells), .lit sv, .lit (.slice none 0 0)]] ++ _⟩
 refine awp_seq <|
  sReg rfl <|
  rMv rfl <|
  rwp_det rfl rfl (det_field_lit rfl fd44_5 rfl) <|
  rwp_det rfl rfl (det_load_one rfl one34 rfl (ptr_row 4 rfl) rfl) <|
  rwp_det rfl rfl (det_len_slm rfl el34 rfl) <|
  rwp_det rfl rfl (det_lss rfl rfl rfl) <|
  rwp_nil <|
  awp_cond rfl (fun c1 => ?_) (fun c1 => ?_)
 ·try simp only [sx] at c1
  obtain ⟨x, hx⟩ := ex_get e.Idx k (by omega)
  have hxw := Ex.idx_wt (mem_of_get hx)
  refine awp_skip <|
   awp_seq <|
   awp_block <|
   awp_seq <|
   awp_draw_c 15 1 [⟨0, .q []⟩, ⟨1, .q [5]⟩, ⟨2, .q []⟩, ⟨3, .q []⟩, ⟨4, .q []⟩, ⟨5, .q []⟩, ⟨6, .q []⟩, ⟨7, .q []⟩, ⟨8, .q [5]⟩, ⟨9, .q []⟩, ⟨10, .q []⟩, ⟨11, .q []⟩, ⟨12, .q []⟩, ⟨13, .q []⟩, ⟨14, .f 0⟩] mixed (by kernel_rfl) (by kernel_rfl) rfl rfl rfl <|
   fx_skip rfl <|
   fx_skip rfl <|
   fx_skip rfl <|
   fx_skip rfl <|
   fx_skip rfl <|
   fx_skip rfl <|
   fx_skip rfl <|
   fx_skip rfl <|
   fx_skip rfl <|
   fx_skip rfl <|
   fx_skip rfl <|
   fx_skip rfl <|
   fx_skip rfl <|
   fx_skip rfl <|
   fx_fresh rfl rfl (fresh_alloc' (ope_allocN [none, some 2, none, some 2] rfl zr72 rfl)) ⟨_, _, 0, rfl, rfl⟩ <|
   fx_nil <|
   sq_det rfl (by decide) rfl rfl (det_field_lit rfl fd44_5 rfl) <|
   sq_det rfl (by decide) rfl rfl (det_load_one rfl one34 rfl (ptr_row 0 rfl) rfl) <|
   sq_det rfl (by decide) rfl rfl (det_move rfl rfl) <|
   sq_det rfl (by decide) rfl rfl (det_index_sl rfl el34 rfl rfl (by omega) (getm (by assumption))) <|
   sq_det rfl (by decide) rfl rfl (det_field_imm rfl fd72_0 rfl) <|
   sq_det rfl (by decide) rfl rfl (det_load_agg rfl agg41 rfl ptr_imm rfl) <|
   sq_det rfl (by decide) rfl rfl (det_call rfl ok168 (ref14_twin x.Lin (by have := Ex.idx_wt (mem_of_get hx); omega)) ⟨VLe.refl _, rfl, trivial⟩) <|
   sq_det rfl (by decide) rfl rfl (det_field_lit rfl fd44_5 rfl) <|
   sq_det rfl (by decide) rfl rfl (det_load_one rfl one34 rfl (ptr_row 0 rfl) rfl) <|
   sq_det rfl (by decide) rfl rfl (det_move rfl rfl) <|
   sq_det rfl (by decide) rfl rfl (det_index_sl rfl el34 rfl rfl (by omega) (getm (by assumption))) <|
   sq_det rfl (by decide) rfl rfl (det_field_imm rfl fd72_1 rfl) <|
   sq_det rfl (by decide) rfl rfl (det_load_one rfl one9 rfl ptr_imm rfl) <|
   sq_det rfl (by decide) rfl rfl (det_build rfl zr72 pl72 rfl) <|
   sq_fresh rfl rfl ?_
  rintro _ _ ⟨b4, rfl, rfl⟩
  refine sq_nil rfl <|
   rwp_det0 rfl rfl (det_store rfl sz72 rfl rfl rfl (st_row 0 rfl rfl)) <|
   rwp_nil <|
   awp_seq <|
   sReg rfl <|
   rwp_weak _ (weak_own 41 2) <|
   rMv rfl <|
   rwp_nil <|
   awp_block <|
   awp_weak ⟨[(6, .c _), (1, .c _), (2, .c _), (3, .c _), (4, .c _), (5, .c _)], [_, _, _, _, _, _, _]⟩ (Weak.mk [true, true, true, true, true, true, true] ⟨VLe.of_eq rfl, VLe.of_eq rfl, VLe.of_eq rfl, VLe.of_eq rfl, VLe.of_eq rfl, VLe.of_eq rfl, trivial⟩ rfl) <|
   awp_loop_k 1 2 rfl rfl (Nat × Value) (fun ⟨j, sw⟩ => [(6, vI j)]) (fun ⟨j, sw⟩ => [E.vec sw 41 2 ((x.At.take j).map Lf.cells), E.row b4 72 [cI x.Lin.K, .sl 2 (x.Lin.L.map Mono.cells), cS x.From, .lit sw]]) (fun ⟨j, sw⟩ => j ≤ x.At.length) (fun ⟨j, sw⟩ => x.At.length - j) ⟨⟨0, (.slice none 0 0)⟩, (by omega), Weak.mk [true, true, true, true, true, true, true] ⟨VLe.refl _, VLe.refl _, VLe.refl _, VLe.refl _, VLe.refl _, VLe.refl _, trivial⟩ rfl⟩ ?_
  rintro ⟨j, sw⟩ hj
  show AWP _ _ _ _ _ ⟨[(6, vI j)] ++ _, [E.vec sw 41 2 ((x.At.take j).map Lf.cells), E.row b4 72 [cI x.Lin.K, .sl 2 (x.Lin.L.map Mono.cells), cS x.From, .lit sw]] ++ _⟩
  refine awp_seq <|
   sReg rfl <|
   rMv rfl <|
   rwp_det rfl rfl (det_field_lit rfl fd44_5 rfl) <|
   rwp_det rfl rfl (det_load_one rfl one34 rfl (ptr_row 6 rfl) rfl) <|
   rMv rfl <|
   rwp_det rfl rfl (det_index_sl rfl el34 rfl rfl (by omega) (getm (by assumption))) <|
   rwp_det rfl rfl (det_field_imm rfl fd72_2 rfl) <|
   rwp_det rfl rfl (det_load_one rfl one70 rfl ptr_imm rfl) <|
   rwp_det rfl rfl (det_len_slm rfl el70 rfl) <|
   rwp_det rfl rfl (det_lss rfl rfl rfl) <|
   rwp_nil <|
   awp_cond rfl (fun c2 => ?_) (fun c2 => ?_)
  ·try simp only [sx] at c2
   obtain ⟨l, hl⟩ := ex_get x.At j (by omega)
   refine awp_skip <|
    awp_seq <|
    awp_block <|
    awp_draw 13 mixed (by kernel_rfl) rfl rfl <|
    td_det rfl rfl (det_field_lit rfl fd72_2 rfl) <|
    td_det rfl rfl (det_load_one rfl one70 rfl (ptr_row 1 rfl) rfl) <|
    td_det rfl rfl (det_field_lit rfl fd44_5 rfl) <|
    td_det rfl rfl (det_load_one rfl one34 rfl (ptr_row 6 rfl) rfl) <|
    td_det rfl rfl (det_move rfl rfl) <|
    td_det rfl rfl (det_index_sl rfl el34 rfl rfl (by omega) (getm (by assumption))) <|
    td_det rfl rfl (det_field_imm rfl fd72_2 rfl) <|
    td_det rfl rfl (det_load_one rfl one70 rfl ptr_imm rfl) <|
    td_det rfl rfl (det_move rfl rfl) <|
    td_det rfl rfl (det_index_sl rfl el70 rfl rfl (by omega) (getm (by assumption))) <|
    td_det rfl rfl (det_load_agg rfl agg41 rfl ptr_imm rfl) <|
    td_det rfl rfl (det_call rfl ok168 (ref14_twin l (by have := Ex.idx_wt (mem_of_get hx); have := linsWt_mem (mem_of_get hl); omega)) ⟨VLe.refl _, rfl, trivial⟩) <|
    td_det rfl rfl (det_bslice rfl el70 zr41 rfl rfl rfl rfl) <|
    td_nil <|
    rwp_op rfl rfl (ope_append 0 rfl el70 rfl rfl rfl (by simp only [List.length_take, List.length_map, List.length_append, List.length_cons, List.length_nil]; omega) (by simp only [List.length_take, List.length_map, List.length_append, List.length_cons, List.length_nil]; omega)) ?_
   rintro _ _ ⟨sv5, rfl, rfl⟩
   refine rwp_det rfl rfl (det_field_lit rfl fd72_2 rfl) <|
    rwp_det0 rfl rfl (det_store rfl sz70 rfl rfl rfl (st_row 1 rfl rfl)) <|
    rwp_nil <|
    awp_region rfl <|
    rMv rfl <|
    rwp_det rfl rfl (det_add_nw rfl rfl rfl ⟨by omega, by omega⟩) <|
    rMv rfl <|
    rwp_nil ?_
   refine ⟨⟨j + 1, sv5⟩, (by omega), (by show x.At.length - (j + 1) < x.At.length - j; omega), Weak.mk [true, true, true, true, true, true, true] ⟨VLe.refl _, VLe.refl _, VLe.refl _, VLe.refl _, VLe.refl _, VLe.refl _, trivial⟩ (by exact mem2_eq' (by rw [take_next hl, List.map_append]; rfl))⟩
  ·try simp only [sx] at c2
   rw [take_all (l := x.At) (k := j) (by omega)]
   refine awp_weak _ (weak_freezeM 0 rfl (regs' := []) (μ' := [_, _, _, _, _, _]) trivial ⟨EFle.row (ds := [_, _, _, _]) ⟨.inl rfl, .inl rfl, .inl rfl, .inr ⟨rfl, rfl⟩, trivial⟩, EFle.refl _, EFle.refl _, EFle.refl _, EFle.refl _, EFle.refl _, trivial⟩) <|
    awp_exit <|
    awp_region rfl <|
    rwp_det rfl rfl (det_field_lit rfl fd44_5 rfl) <|
    rwp_det rfl rfl (det_load_one rfl one34 rfl (ptr_row 3 rfl) rfl) <|
    rwp_det rfl rfl (det_load_agg rfl agg72 rfl (ptr_row 0 rfl) rfl) <|
    rwp_det rfl rfl (det_bslice rfl el34 zr72 rfl rfl rfl rfl) <|
    rwp_op rfl rfl (ope_append 2 rfl el34 rfl rfl rfl (by simp only [List.length_take, List.length_map, List.length_append, List.length_cons, List.length_nil]; omega) (by simp only [List.length_take, List.length_map, List.length_append, List.length_cons, List.length_nil]; omega)) ?_
   rintro _ _ ⟨sv6, rfl, rfl⟩
   refine rwp_det rfl rfl (det_field_lit rfl fd44_5 rfl) <|
    rwp_det0 rfl rfl (det_store rfl sz34 rfl rfl rfl (st_row 3 rfl rfl)) <|
    rwp_nil <|
    awp_region rfl <|
    rMv rfl <|
    rwp_det rfl rfl (det_add_nw rfl rfl rfl ⟨by omega, by omega⟩) <|
    rMv rfl <|
    rwp_nil ?_
   refine ⟨⟨k + 1, sv6⟩, (by omega), (by show e.Idx.length - (k + 1) < e.Idx.length - k; omega), Weak.mk [false, true, true, true, true, true] ⟨VLe.refl _, VLe.refl _, VLe.refl _, VLe.refl _, trivial⟩ (by exact mem3_eq (by rw [take_next hx, List.map_append]; rfl))⟩
 ·try simp only [sx] at c1
  rw [take_all (l := e.Idx) (k := k) (by omega)]
  refine awp_weak _ (weak_freezeM 1 rfl (regs' := []) (μ' := [_, _, _, _]) trivial ⟨EFle.refl _, EFle.row (ds := [_, _, _, _, _, _, _, _, _, _, _, _, _]) ⟨.inl rfl, .inl rfl, .inl rfl, .inl rfl, .inl rfl, .inl rfl, .inl rfl, .inl rfl, .inl rfl, .inl rfl, .inl rfl, .inr ⟨rfl, rfl⟩, .inl rfl, trivial⟩, EFle.refl _, EFle.refl _, trivial⟩) <|
   awp_exit <|
   awp_seq <|
   sReg rfl <|
   rMv rfl <|
   rwp_nil <|
   awp_block <|
   awp_weak ⟨[(7, .c _), (1, .c _), (2, .c _), (3, .c _)], [_, _, _, _]⟩ (Weak.mk [true, true, true, true] ⟨VLe.of_eq rfl, VLe.of_eq rfl, VLe.of_eq rfl, VLe.of_eq rfl, trivial⟩ rfl) <|
   awp_loop_k 1 2 rfl rfl (Nat × Value) (fun ⟨n, su⟩ => [(7, vI n)]) (fun ⟨n, su⟩ => [E.vec su 44 13 ((e.Args.take n).map Ex.cells), E.row b3 44 [cI e.Op, cS e.Name, cI e.Val.N, cI e.Val.D, cI e.Ty.Kind, cI e.Ty.Bits, cI e.Ty.Frac, cI e.Ty.Round, cI e.Ty.Over, cI e.Lin.K, .sl 2 (e.Lin.L.map Mono.cells), .sl 4 (e.Idx.map Ix.cells), .lit su]]) (fun ⟨n, su⟩ => n ≤ e.Args.length) (fun ⟨n, su⟩ => e.Args.length - n) ⟨⟨0, (.slice none 0 0)⟩, (by omega), Weak.mk [true, true, true, true] ⟨VLe.refl _, VLe.refl _, VLe.refl _, VLe.refl _, trivial⟩ rfl⟩ ?_
  rintro ⟨n, su⟩ hn
  show AWP _ _ _ _ _ ⟨[(7, vI n)] ++ _, [E.vec su 44 13 ((e.Args.take n).map Ex.cells), E.row b3 44 [cI e.Op, cS e.Name, cI e.Val.N, cI e.Val.D, cI e.Ty.Kind, cI e.Ty.Bits, cI e.Ty.Frac, cI e.Ty.Round, cI e.Ty.Over, cI e.Lin.K, .sl 2 (e.Lin.L.map Mono.cells), .sl 4 (e.Idx.map Ix.cells), .lit su]] ++ _⟩
  refine awp_seq <|
   sReg rfl <|
   rMv rfl <|
   rwp_det rfl rfl (det_field_lit rfl fd44_6 rfl) <|
   rwp_det rfl rfl (det_load_one rfl one42 rfl (ptr_row 3 rfl) rfl) <|
   rwp_det rfl rfl (det_len_slm rfl el42 rfl) <|
   rwp_det rfl rfl (det_lss rfl rfl rfl) <|
   rwp_nil <|
   awp_cond rfl (fun c3 => ?_) (fun c3 => ?_)
  ·try simp only [sx] at c3
   obtain ⟨a, ha⟩ := ex_get e.Args n (by omega)
   refine awp_skip <|
    awp_seq <|
    awp_block <|
    awp_draw 9 mixed (by kernel_rfl) rfl rfl <|
    td_det rfl rfl (det_field_lit rfl fd44_6 rfl) <|
    td_det rfl rfl (det_load_one rfl one42 rfl (ptr_row 1 rfl) rfl) <|
    td_det rfl rfl (det_field_lit rfl fd44_6 rfl) <|
    td_det rfl rfl (det_load_one rfl one42 rfl (ptr_row 3 rfl) rfl) <|
    td_det rfl rfl (det_move rfl rfl) <|
    td_det rfl rfl (det_index_sl rfl el42 rfl rfl (by omega) (getmE (by assumption))) <|
    td_det rfl rfl (det_load_agg rfl agg44 rfl ptr_imm rfl) <|
    td_det rfl rfl (det_call rfl ok130 (ih a (mem_of_get ha) (by have := Ex.arg_wt (mem_of_get ha); omega)) ⟨VLe.refl _, rfl, trivial⟩) <|
    td_det rfl rfl (det_bslice rfl el42 zr44 rfl rfl rfl rfl) <|
    td_nil <|
    rwp_op rfl rfl (ope_append 0 rfl el42 rfl rfl rfl (by simp only [List.length_take, List.length_map, List.length_append, List.length_cons, List.length_nil]; omega) (by simp only [List.length_take, List.length_map, List.length_append, List.length_cons, List.length_nil]; omega)) ?_
   rintro _ _ ⟨sv7, rfl, rfl⟩
   refine rwp_det rfl rfl (det_field_lit rfl fd44_6 rfl) <|
    rwp_det0 rfl rfl (det_store rfl sz42 rfl rfl rfl (st_row 1 rfl rfl)) <|
    rwp_nil <|
    awp_region rfl <|
    rMv rfl <|
    rwp_det rfl rfl (det_add_nw rfl rfl rfl ⟨by omega, by omega⟩) <|
    rMv rfl <|
    rwp_nil ?_
   refine ⟨⟨n + 1, sv7⟩, (by omega), (by show e.Args.length - (n + 1) < e.Args.length - n; omega), Weak.mk [true, true, true, true] ⟨VLe.refl _, VLe.refl _, VLe.refl _, VLe.refl _, trivial⟩ (by exact mem2_eq' (by rw [take_next ha, List.map_append]; simp only [List.map_cons, List.map_nil, Ex.cells_eq]))⟩
  ·try simp only [sx] at c3
   rw [take_all (l := e.Args) (k := n) (by omega)]
   refine awp_weak _ (weak_freezeM 0 rfl (regs' := []) (μ' := [_, _, _]) trivial ⟨EFle.row (ds := [_, _, _, _, _, _, _, _, _, _, _, _, _]) ⟨.inl rfl, .inl rfl, .inl rfl, .inl rfl, .inl rfl, .inl rfl, .inl rfl, .inl rfl, .inl rfl, .inl rfl, .inl rfl, .inl rfl, .inr ⟨rfl, rfl⟩, trivial⟩, EFle.refl _, EFle.refl _, trivial⟩) <|
    awp_exit <|
    sReg rfl <|
    rwp_det rfl rfl (det_load_agg rfl agg44 rfl (ptr_row 0 rfl) rfl) <|
    rwp_det0 rfl rfl (det_store rfl sz44 rfl rfl rfl (st_row 1 rfl rfl)) <|
    rwp_nil <|
    awp_ret <|
    fin1 (rs_cell_agg agg44 rfl (ptr_row 1 rfl) rfl) ?_
   rfl

theorem ref14_Twin (e : Ex) (he : e.wt ≤ 4294967296) : Pur cfg 130 [vE e] (vE e) := by
  induction e using Ex.ind with
  | _ e ih => exact ref14_Twin_step e (fun a ha h => ih a ha h) he

end Go.W
