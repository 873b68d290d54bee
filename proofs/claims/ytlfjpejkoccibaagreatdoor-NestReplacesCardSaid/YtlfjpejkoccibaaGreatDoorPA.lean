/-
  Walks: what functions of the program compute. Printed by wip/gen/mk2.py.
  Conditions: none.
-/
import Derived.Test.YtlfjpejkoccibaaGreatDoorWalkR
import Derived.Test.YtlfjpejkoccibaaGreatDoorPlain2
set_option linter.unusedSimpArgs false
set_option linter.unusedVariables false
set_option maxRecDepth 10000
namespace Go.W
open Go Go.Eng Go.Proofs Go.L41 Go.Br
attribute [local irreducible] AWP RWP TD finQ
theorem vSts_one (s : St) : vSts [s] = .c (.sl 20 [s.cs]) := by show V.c (C.sl 20 [s.cells]) = _; rw [St.cells_eq]
theorem one_ns (s : St) : vNs ⟨[], [s]⟩ = .agg [.sl 8 [], .sl 20 [s.cs]] := by show V.agg [C.sl 8 [], C.sl 20 [s.cells]] = _; rw [St.cells_eq]
theorem repR_wt {n : Ns} {way : List Int} {q : List St} : stsWt (repR n way q).Body ≤ stsWt n.Body + stsWt q := by
  unfold repR
  split
  · next h => exact replL_wt (way_of h).2
  · show stsWt [] ≤ _; rw [stsWt]; omega
theorem repR_ok {n : Ns} {way : List Int} {q : List St} (hn : n.Ok) (h : stsWt n.Body + stsWt q ≤ 1000000) : (repR n way q).Ok := by
  have hw := repR_wt (n := n) (way := way) (q := q)
  have h2 : ∀ b, b ∈ (repR n way q).Bufs → b ∈ n.Bufs := by
    unfold repR; intro b hb
    split at hb
    · exact hb
    · cases hb
  refine ⟨?_, fun b hb => hn.dims b (h2 b hb), by have := hn.body; omega⟩
  unfold repR
  split
  · exact hn.bufs
  · show (0 : Nat) ≤ _; omega
theorem repR_self {n : Ns} {way : List Int} (h : (atT n.Body way).2 = true) : repR n way [(atT n.Body way).1] = n := by
  have hw := way_of h
  unfold repR
  rw [if_pos h]
  unfold replN
  rw [show replL way n.Body [(atT n.Body way).1] = n.Body by unfold atT at h ⊢; rw [if_neg hw.1] at h ⊢; exact replL_self hw.1 h]
theorem repR_n {n : Ns} {way : List Int} {q : List St} (h : (atT n.Body way).2 = true) : stsN (repR n way q).Body + stN (atT n.Body way).1 = stsN n.Body + stsN q := by
  have hw := way_of h
  unfold repR
  rw [if_pos h]
  unfold replN
  show stsN (replL way n.Body q) + _ = _
  unfold atT at h ⊢
  rw [if_neg hw.1] at h ⊢
  exact replL_n hw.1 h
theorem ok9 : callOk Tryz.prog 9 = true := by kernel_rfl
theorem ok11 : callOk Tryz.prog 11 = true := by kernel_rfl
theorem ok12 : callOk Tryz.prog 12 = true := by kernel_rfl
theorem ok13 : callOk Tryz.prog 13 = true := by kernel_rfl
theorem ok14 : callOk Tryz.prog 14 = true := by kernel_rfl
theorem ok15 : callOk Tryz.prog 15 = true := by kernel_rfl
theorem ok17 : callOk Tryz.prog 17 = true := by kernel_rfl
theorem ok39 : callOk Tryz.prog 39 = true := by kernel_rfl
theorem ok40 : callOk Tryz.prog 40 = true := by kernel_rfl
theorem loopnest_Replace (n : Ns) (way : List Int) (q : List St) (hn : n.Ok) (hl : stsWt n.Body ≤ 1000000) (hq : stsWt q ≤ 1000000) (hw : way.length ≤ 1073741824) :
    Pur cfg 12 [vNs n, vIs way, vSts q] (.tup [vNs (repR n way q), vB (atT n.Body way).2]) := by
 refine con_intro Tryz.func12 rfl Tryz.ntmps12 Tryz.results12 rfl ?_
 intro z hz
 have hql := stsWt_len q
 refine sReg rfl <|
  rwp_op rfl rfl (ope_box rfl rfl) ?_
 rintro _ _ ⟨b1, rfl, rfl⟩
 refine rwp_op rfl rfl (ope_allocN [some 8, some 20] rfl zr25 rfl) ?_
 rintro _ _ ⟨b2, rfl, rfl⟩
 refine rMv rfl <|
  rwp_nil <|
  awp_seq <|
  sReg rfl <|
  rwp_det rfl rfl (det_field_lit rfl fd25_1 rfl) <|
  rwp_det rfl rfl (det_load_one rfl one23 rfl (ptr_row 1 rfl) rfl) <|
  rMv rfl <|
  rwp_det rfl rfl (det_call rfl ok38 (loopnest_trail n.Body way (by omega)) ⟨VLe.refl _, rfl, VLe.refl _, rfl, trivial⟩) <|
  rwp_det rfl rfl (det_len_slm rfl el23 rfl) <|
  rwp_det rfl rfl (det_eql rfl rfl rfl) <|
  rwp_nil <|
  awp_cond rfl (fun c1 => ?_) (fun c1 => ?_)
 ·try simp only [sx] at c1
  have he : trailT n.Body way = [] := List.eq_nil_of_length_eq_zero (by omega)
  have ha := at_none he
  refine sReg rfl <|
   rwp_det rfl rfl (det_buildN [some 8, some 20] rfl zr25 pl25 rfl rfl) <|
   rwp_det0 rfl rfl (det_store rfl sz25 rfl rfl rfl (st_row 0 rfl rfl)) <|
   rMv rfl <|
   rwp_nil <|
   awp_ret <|
   fin2 (rs_cell_agg agg25 rfl (ptr_row 0 rfl) rfl) (rs_c rfl) ?_
  rw [show repR n way q = ⟨[], []⟩ from if_neg (by rw [ha]; simp), ha]; rfl
 ·try simp only [sx] at c1
  have hne : trailT n.Body way ≠ [] := fun h => c1 (by rw [h]; rfl)
  have hok := at_some hne
  obtain ⟨hwn, hwo⟩ := way_of hok
  refine awp_skip <|
   sReg rfl <|
   rwp_det rfl rfl (det_load_agg rfl agg25 rfl (ptr_row 1 rfl) rfl) <|
   rwp_op rfl rfl (ope_call_newE rfl ok39 (loopnest_CopyC way hwn n hn hwo) ⟨VLe.refl _, rfl, trivial⟩) ?_
  rintro _ _ ⟨ch, rfl, rfl⟩
  refine rwp_op rfl rfl (ope_allocN [some 8, some 20] rfl zr25 rfl) ?_
  rintro _ _ ⟨b3, rfl, rfl⟩
  refine rwp_det0 rfl rfl (det_store rfl sz25 rfl rfl rfl (st_row 0 rfl rfl)) <|
   rwp_nil <|
   awp_seq <|
   awp_draw 5 mixed (by kernel_rfl) rfl rfl <|
   td_det rfl rfl (det_field_lit rfl fd25_1 rfl) <|
   td_det rfl rfl (det_load_one rfl one23 rfl (ptr_row 0 rfl) rfl) <|
   td_det rfl rfl (det_move rfl rfl) <|
   td_det rfl rfl (det_move rfl rfl) <|
   td_det rfl rfl (det_call rfl ok41 (loopnest_copyStmts q (by omega)) ⟨VLe.refl _, rfl, trivial⟩) <|
   td_nil <|
   rwp_op rfl rfl (ope_call_mem [1] rfl ok40 (replaceC way hwn ch n.Body q hwo (by omega) (by omega)) ⟨VLe.refl _, rfl, VLe.refl _, rfl, VLe.refl _, rfl, trivial⟩ rfl) ?_
  rintro _ _ ⟨_, ⟨sv9, rfl, rfl⟩, rfl⟩
  refine rwp_det rfl rfl (det_field_lit rfl fd25_1 rfl) <|
   rwp_det0 rfl rfl (det_store rfl sz23 rfl rfl rfl (st_row 0 rfl rfl)) <|
   rwp_nil <|
   awp_seq <|
   awp_weak _ (weak_freezeM 1 rfl (regs' := [(23, _)]) (μ' := [_, _, _]) ⟨FLe.sl, trivial⟩ ⟨EFle.row (ds := [_, _]) ⟨.inl rfl, .inr ⟨rfl, rfl⟩, trivial⟩, EFle.refl _, EFle.refl _, trivial⟩) <|
   awp_region rfl <|
   rwp_det rfl rfl (det_load_agg rfl agg25 rfl (ptr_row 0 rfl) rfl) <|
   rwp_det0 rfl rfl (det_store rfl sz25 rfl rfl rfl (st_row 1 rfl rfl)) <|
   rMv rfl <|
   rwp_nil <|
   awp_ret <|
   fin2 (rs_cell_agg agg25 rfl (ptr_row 1 rfl) rfl) (rs_c rfl) ?_
  rw [show repR n way q = replN n way q from if_pos hok, hok]; rfl

theorem law_NestReplaces (n : Ns) (way : List Int) (l : List St) (hf : n.Fit) (hl : l.length ≤ 140737488355328) (hfl : fitS l) :
    Pur cfgI 3 [vNs n, vIs way, vSts l] (vB true) := by
 refine con_intro Tryz.func3 rfl Tryz.ntmps3 Tryz.results3 rfl ?_
 intro z hz
 refine sReg rfl <|
  rwp_op rfl rfl (ope_box rfl rfl) ?_
 rintro _ _ ⟨b1, rfl, rfl⟩
 refine rMv rfl <|
  rwp_nil <|
  awp_seq <|
  sReg rfl <|
  rwp_det rfl rfl (det_load_agg rfl agg25 rfl (ptr_row 0 rfl) rfl) <|
  rwp_det rfl rfl (det_call rfl ok9 (upI (law30_Few n 300 300 hf (by omega) rfl)) ⟨VLe.refl _, rfl, VLe.refl _, rfl, trivial⟩) <|
  rwp_det rfl rfl (det_not rfl rfl) <|
  rMv rfl <|
  rLz [] rfl gv1 trivial (fun g1_3 => det_move rfl rfl) rfl <|
  rLz [(19, _)] rfl gv1 ⟨rfl, rfl, trivial⟩ (fun g1_3 => det_call rfl ok10 (upI (law30_FewStmts l 300 300 hfl hl (by omega) rfl)) ⟨VLe.refl _, rfl, VLe.refl _, rfl, trivial⟩) rfl <|
  rLz [(20, _)] rfl gv1 ⟨rfl, rfl, trivial⟩ (fun g1_3 => det_not rfl rfl) rfl <|
  rwp_det rfl rfl (det_or rfl rfl rfl rfl (fun h => (lzf h))) <|
  rMv rfl <|
  rLz [] rfl gv1 trivial (fun g1_8 => det_move rfl rfl) rfl <|
  rLz [(24, _)] rfl gv1 ⟨rfl, rfl, trivial⟩ (fun g1_8 => det_len_slm rfl el26 rfl) rfl <|
  rLz [(25, _)] rfl gv1 ⟨rfl, rfl, trivial⟩ (fun g1_8 => det_gtr rfl rfl rfl) rfl <|
  rwp_det rfl rfl (det_or rfl rfl rfl rfl (fun h => (lzf h))) <|
  rwp_nil <|
  awp_cond rfl (fun c1 => ?_) (fun c1 => ?_)
 ·try simp only [sx] at c1
  refine sReg rfl <|
   rwp_det rfl rfl (det_call rfl ok11 law30_live trivial) <|
   rMv rfl <|
   rwp_nil <|
   awp_ret <|
   fin1 (rs_c rfl) ?_
  rfl
 ·try simp only [sx] at c1
  obtain ⟨⟨c1, cq⟩, cw⟩ := c1
  obtain ⟨k1, k2, k3, k4⟩ := few_parts c1
  obtain ⟨q3, q4⟩ := fewS_parts cq
  have hok := hf.ok (m := 300) (by omega) k1 k3
  have hw := weighB_wt k3
  have hqw := weighB_wt q3
  have hql := stsWt_len l
  have hwt := atT_wt (l := n.Body) (way := way)
  have hrok := repR_ok (way := way) hok (show stsWt n.Body + stsWt l ≤ 1000000 by omega)
  have hrw := repR_wt (n := n) (way := way) (q := l)
  refine awp_skip <|
   sReg rfl <|
   rwp_det rfl rfl (det_load_agg rfl agg25 rfl (ptr_row 0 rfl) rfl) <|
   rMv rfl <|
   rMv rfl <|
   rwp_det rfl rfl (det_call rfl ok12 (upI (loopnest_Replace n way l hok (by omega) (by omega) (by omega))) ⟨VLe.refl _, rfl, VLe.refl _, rfl, VLe.refl _, rfl, trivial⟩) <|
   rwp_det rfl rfl (det_move_tup rfl rfl) <|
   rwp_det rfl rfl (det_ex_agg rfl rfl rfl) <|
   rwp_det rfl rfl (det_ex_c rfl rfl rfl) <|
   rwp_op rfl rfl (ope_allocN [some 8, some 20] rfl zr25 rfl) ?_
  rintro _ _ ⟨b2, rfl, rfl⟩
  refine rwp_det0 rfl rfl (det_store rfl sz25 rfl rfl rfl (st_row 0 rfl rfl)) <|
   rMv rfl <|
   rwp_nil <|
   sReg rfl <|
   rwp_det rfl rfl (det_load_agg rfl agg25 rfl (ptr_row 1 rfl) rfl) <|
   rMv rfl <|
   rMv rfl <|
   rwp_det rfl rfl (det_call rfl ok13 (upI (ref30_Replace n way l (by omega) (by omega) (by omega))) ⟨VLe.refl _, rfl, VLe.refl _, rfl, VLe.refl _, rfl, trivial⟩) <|
   rwp_det rfl rfl (det_move_tup rfl rfl) <|
   rwp_det rfl rfl (det_ex_agg rfl rfl rfl) <|
   rwp_det rfl rfl (det_ex_c rfl rfl rfl) <|
   rwp_op rfl rfl (ope_allocN [some 8, some 20] rfl zr25 rfl) ?_
  rintro _ _ ⟨b3, rfl, rfl⟩
  refine rwp_det0 rfl rfl (det_store rfl sz25 rfl rfl rfl (st_row 0 rfl rfl)) <|
   rMv rfl <|
   rwp_nil <|
   awp_seq <|
   sReg rfl <|
   rMv rfl <|
   rMv rfl <|
   rwp_det rfl rfl (det_bneq rfl un4 rfl rfl) <|
   rMv rfl <|
   rLz [] rfl gv1 trivial (fun g5_3 => det_load_agg rfl agg25 rfl (ptr_row 1 rfl) rfl) rfl <|
   rLz [] rfl gv1 trivial (fun g5_3 => det_load_agg rfl agg25 rfl (ptr_row 0 rfl) rfl) rfl <|
   rLz [(47, _), (48, _)] rfl gv1 ⟨rfl, rfl, rfl, rfl, trivial⟩ (fun g5_3 => det_call rfl ok14 (upI (base_Nest (repR n way l) (repR n way l) hrok)) ⟨VLe.refl _, rfl, VLe.refl _, rfl, trivial⟩) rfl <|
   rLz [(49, _)] rfl gv1 ⟨rfl, rfl, trivial⟩ (fun g5_3 => det_not rfl rfl) rfl <|
   rwp_det rfl rfl (det_or rfl rfl rfl rfl (fun h => (lzf h))) <|
   rwp_nil <|
   awp_cond rfl (fun c2 => ?_) (fun c2 => ?_)
  ·try simp only [sx] at c2
   exact absurd c2 (by simp)
  ·try simp only [sx] at c2
   refine awp_skip <|
    awp_seq <|
    sReg rfl <|
    rMv rfl <|
    rwp_det rfl rfl (det_not rfl rfl) <|
    rwp_nil <|
    awp_cond rfl (fun c3 => ?_) (fun c3 => ?_)
   ·try simp only [sx] at c3
    refine sReg rfl <|
     rwp_det rfl rfl (det_call rfl ok11 law30_live trivial) <|
     rMv rfl <|
     rwp_nil <|
     awp_ret <|
     fin1 (rs_c rfl) ?_
    rfl
   ·try simp only [sx] at c3
    have hat : (atT n.Body way).2 = true := by simpa using c3
    have hsn := repR_n (q := l) hat
    have hN1 := stsN_wt n.Body
    have hN2 := stsN_wt l
    refine awp_skip <|
     sReg rfl <|
     rwp_det rfl rfl (det_load_agg rfl agg25 rfl (ptr_row 2 rfl) rfl) <|
     rMv rfl <|
     rwp_det rfl rfl (det_call rfl ok15 (upI (loopnest_At n way (by omega) (by omega))) ⟨VLe.refl _, rfl, VLe.refl _, rfl, trivial⟩) <|
     rwp_det rfl rfl (det_move_tup rfl rfl) <|
     rwp_det rfl rfl (det_ex_agg rfl rfl rfl) <|
     rwp_det rfl rfl (det_ex_c rfl rfl rfl) <|
     rwp_op rfl rfl (ope_allocN [none, none, none, none, none, some 4, none, none, none, none, none, none, none, none, none, none, some 2, some 4, some 13, some 20] rfl zr46 rfl) ?_
    rintro _ _ ⟨b4, rfl, rfl⟩
    refine rwp_det0 rfl rfl (det_store rfl sz46 rfl rfl rfl (st_row 0 rfl rfl)) <|
     rMv rfl <|
     rwp_nil <|
     sReg rfl <|
     rwp_det rfl rfl (det_load_agg rfl agg25 rfl (ptr_row 3 rfl) rfl) <|
     rMv rfl <|
     rwp_det rfl rfl (det_load_agg rfl agg46 rfl (ptr_row 0 rfl) rfl) <|
     rwp_det rfl rfl (det_bslice rfl el23 zr46 rfl rfl rfl rfl) <|
     rwp_det rfl rfl (det_call rfl ok12 (show Pur cfgI 12 [vNs n, vIs way, .c (.sl 20 [(atT n.Body way).1.cs])] (.tup [vNs n, vB true]) by have h := upI (loopnest_Replace n way [(atT n.Body way).1] hok (by omega) (by simp only [stsWt]; omega) (by omega)); rw [vSts_one, repR_self hat, hat] at h; exact h) ⟨VLe.refl _, rfl, VLe.refl _, rfl, VLe.refl _, rfl, trivial⟩) <|
     rwp_det rfl rfl (det_move_tup rfl rfl) <|
     rwp_det rfl rfl (det_ex_agg rfl rfl rfl) <|
     rwp_det rfl rfl (det_ex_c rfl rfl rfl) <|
     rwp_op rfl rfl (ope_allocN [some 8, some 20] rfl zr25 rfl) ?_
    rintro _ _ ⟨b5, rfl, rfl⟩
    refine rwp_det0 rfl rfl (det_store rfl sz25 rfl rfl rfl (st_row 0 rfl rfl)) <|
     rMv rfl <|
     rwp_nil <|
     awp_seq <|
     awp_draw 26 mixed (by kernel_rfl) rfl rfl <|
     td_det rfl rfl (det_move rfl rfl) <|
     td_det rfl rfl (det_move rfl rfl) <|
     td_lazy [] rfl rfl rfl rfl gv1 trivial (fun g11_1 => det_load_agg rfl agg25 rfl (ptr_row 0 rfl) rfl) rfl <|
     td_lazy [] rfl rfl rfl rfl gv1 trivial (fun g11_1 => det_load_agg rfl agg25 rfl (ptr_row 4 rfl) rfl) rfl <|
     td_lazy [(71, _), (72, _)] rfl rfl rfl rfl gv1 ⟨rfl, rfl, rfl, rfl, trivial⟩ (fun g11_1 => det_call rfl ok14 (show Pur cfgI 14 [vNs n, vNs n] (vB true) by have h := upI (base_Nest n n hok); rw [dec_true rfl] at h; exact h) ⟨VLe.refl _, rfl, VLe.refl _, rfl, trivial⟩) rfl <|
     td_det rfl rfl (det_and rfl rfl rfl (fun h => h) rfl) <|
     td_det rfl rfl (det_move rfl rfl) <|
     td_lazy [] rfl rfl rfl rfl gv1 trivial (fun g11_6 => det_load_agg rfl agg25 rfl (ptr_row 3 rfl) rfl) rfl <|
     td_lazy [(76, _)] rfl rfl rfl rfl gv1 ⟨rfl, rfl, trivial⟩ (fun g11_6 => det_call rfl ok16 (upI (loopnest_Size (repR n way l) (by omega))) ⟨VLe.refl _, rfl, trivial⟩) rfl <|
     td_lazy [] rfl rfl rfl rfl gv1 trivial (fun g11_6 => det_load_agg rfl agg25 rfl (ptr_row 4 rfl) rfl) rfl <|
     td_lazy [(78, _)] rfl rfl rfl rfl gv1 ⟨rfl, rfl, trivial⟩ (fun g11_6 => det_call rfl ok17 (upI (ref30_Size n (by omega))) ⟨VLe.refl _, rfl, trivial⟩) rfl <|
     td_lazy [] rfl rfl rfl rfl gv1 trivial (fun g11_6 => det_load_agg rfl agg46 rfl (ptr_row 1 rfl) rfl) rfl <|
     td_lazy [(80, _)] rfl rfl rfl rfl gv1 ⟨rfl, rfl, trivial⟩ (fun g11_6 => det_bslice rfl el23 zr46 rfl rfl rfl rfl) rfl <|
     td_lazy [(81, _)] rfl rfl rfl rfl gv1 ⟨rfl, rfl, trivial⟩ (fun g11_6 => det_buildN [some 8, none] rfl zr25 pl25 rfl rfl) rfl <|
     td_lazy [(82, _)] rfl rfl rfl rfl gv1 ⟨rfl, rfl, trivial⟩ (fun g11_6 => det_call rfl ok17 (show Pur cfgI 17 [.agg [.sl 8 [], .sl 20 [(atT n.Body way).1.cs]]] (vI (stN (atT n.Body way).1)) by have h := upI (ref30_Size ⟨[], [(atT n.Body way).1]⟩ (by simp only [stsWt]; omega)); rw [one_ns] at h; simpa only [stsN, Nat.add_zero] using h) ⟨VLe.refl _, rfl, trivial⟩) rfl <|
     td_lazy [(79, _), (83, _)] rfl rfl rfl rfl gv1 ⟨rfl, rfl, rfl, rfl, trivial⟩ (fun g11_6 => det_sub_nw rfl rfl rfl ⟨by omega, by omega⟩) rfl <|
     td_lazy [] rfl rfl rfl rfl gv1 trivial (fun g11_6 => det_move rfl rfl) rfl <|
     td_lazy [(85, _)] rfl rfl rfl rfl gv1 ⟨rfl, rfl, trivial⟩ (fun g11_6 => det_buildN [some 8, none] rfl zr25 pl25 rfl rfl) rfl <|
     td_lazy [(86, _)] rfl rfl rfl rfl gv1 ⟨rfl, rfl, trivial⟩ (fun g11_6 => det_call rfl ok17 (show Pur cfgI 17 [.agg [.sl 8 [], .sl 20 (l.map St.cells)]] (vI (stsN l)) from upI (ref30_Size ⟨[], l⟩ (by show stsWt l ≤ _; omega))) ⟨VLe.refl _, rfl, trivial⟩) rfl <|
     td_lazy [(84, _), (87, _)] rfl rfl rfl rfl gv1 ⟨rfl, rfl, rfl, rfl, trivial⟩ (fun g11_6 => det_add_nw rfl rfl rfl ⟨by omega, by omega⟩) rfl <|
     td_lazy [(77, _), (88, _)] rfl rfl rfl rfl gv1 ⟨rfl, rfl, rfl, rfl, trivial⟩ (fun g11_6 => det_eql rfl rfl rfl) rfl <|
     td_det rfl rfl (det_and rfl rfl rfl (fun h => h) rfl) <|
     td_det rfl rfl (det_move rfl rfl) <|
     td_lazy [] rfl rfl rfl rfl gv1 trivial (fun g11_22 => det_call rfl ok11 law30_live trivial) rfl <|
     td_det rfl rfl (det_and rfl rfl rfl (fun h => h) rfl) <|
     td_det rfl rfl (det_assign rfl rfl) <|
     td_nil <|
     rwp_nil <|
     awp_ret <|
     fin1 (rs_c rfl) ?_
    exact congrArg vB (by simp; omega)

end Go.W
