/-
  Walks: what functions of the program compute. Printed by wip/gen/mk2.py.
  Conditions: none.
-/
import Derived.Test.YtlfjpejkoccibaaGreatDoorNF
import Derived.Test.YtlfjpejkoccibaaGreatDoorPlain2
import Derived.Test.YtlfjpejkoccibaaGreatDoorVK
import Derived.Test.YtlfjpejkoccibaaGreatDoorNE
set_option linter.unusedSimpArgs false
set_option linter.unusedVariables false
set_option maxRecDepth 10000
namespace Go.W
open Go Go.Eng Go.Proofs Go.L41 Go.Br
attribute [local irreducible] AWP RWP TD finQ
theorem ok10 : callOk Tryz.prog 10 = true := by kernel_rfl
theorem ok31 : callOk Tryz.prog 31 = true := by kernel_rfl
theorem ok83 : callOk Tryz.prog 83 = true := by kernel_rfl
theorem pl46 : placesT Tryz.prog 46 = some [(0, 1), (1, 1), (2, 1), (3, 1), (4, 1), (5, 1), (6, 13), (19, 1)] := by kernel_rfl
theorem sz23 : (Tryz.prog.info? 23).map (·.size) = some 1 := by kernel_rfl
theorem base_Ints (a b : List Int) (ha : a.length ≤ 17592186044416) :
    Pur cfg 36 [vIs a, vIs b] (vB (decide (a = b))) := by
 refine con_intro Tryz.func36 rfl Tryz.ntmps36 Tryz.results36 rfl ?_
 intro z hz
 refine sReg rfl <|
  rMv rfl <|
  rwp_nil <|
  awp_seq <|
  sReg rfl <|
  rMv rfl <|
  rwp_det rfl rfl (det_len_slm rfl el26 rfl) <|
  rMv rfl <|
  rwp_det rfl rfl (det_len_slm rfl el26 rfl) <|
  rwp_det rfl rfl (det_neq rfl rfl rfl) <|
  rwp_nil <|
  awp_cond rfl (fun c1 => ?_) (fun c1 => ?_)
 ·try simp only [sx] at c1
  refine sReg rfl <|
   rMv rfl <|
   rwp_nil <|
   awp_ret <|
   fin1 (rs_c rfl) ?_
  rw [dec_false (fun h => c1 (by rw [h]))]
 ·try simp only [sx] at c1
  refine awp_skip <|
   awp_seq <|
   sReg rfl <|
   rMv rfl <|
   rwp_nil <|
   awp_block <|
   awp_weak ⟨[(5, .c _), (0, .c _), (1, .c _)], []⟩ (Weak.mk [] ⟨VLe.of_eq rfl, VLe.of_eq rfl, VLe.of_eq rfl, trivial⟩ rfl) <|
   awp_loop_k 1 0 rfl rfl (Nat) (fun k => [(5, vI k)]) (fun k => []) (fun k => k ≤ a.length ∧ (a.take k = b.take k)) (fun k => a.length - k) ⟨0, ⟨by omega, rfl⟩, Weak.mk [] ⟨VLe.refl _, VLe.refl _, VLe.refl _, trivial⟩ rfl⟩ ?_
  rintro k ⟨hk, hp⟩
  refine awp_seq <|
   sReg rfl <|
   rMv rfl <|
   rMv rfl <|
   rwp_det rfl rfl (det_len_slm rfl el26 rfl) <|
   rwp_det rfl rfl (det_lss rfl rfl rfl) <|
   rwp_nil <|
   awp_cond rfl (fun c2 => ?_) (fun c2 => ?_)
  ·try simp only [sx] at c2
   obtain ⟨x, hx⟩ := ex_get a k (by omega)
   obtain ⟨y, hy⟩ := ex_get b k (by omega)
   refine awp_skip <|
    awp_seq <|
    awp_block <|
    awp_seq <|
    awp_draw 9 mixed (by kernel_rfl) rfl rfl <|
    td_det rfl rfl (det_move rfl rfl) <|
    td_det rfl rfl (det_move rfl rfl) <|
    td_det rfl rfl (det_index_sl rfl el26 rfl rfl (by omega) (getm (by assumption))) <|
    td_det rfl rfl (det_load_one rfl one3 rfl ptr_imm rfl) <|
    td_det rfl rfl (det_move rfl rfl) <|
    td_det rfl rfl (det_move rfl rfl) <|
    td_det rfl rfl (det_index_sl rfl el26 rfl rfl (by omega) (getm (by assumption))) <|
    td_det rfl rfl (det_load_one rfl one3 rfl ptr_imm rfl) <|
    td_det rfl rfl (det_neq rfl rfl rfl) <|
    td_nil <|
    rwp_nil <|
    awp_cond rfl (fun c3 => ?_) (fun c3 => ?_)
   ·try simp only [sx] at c3
    refine sReg rfl <|
     rMv rfl <|
     rwp_nil <|
     awp_ret <|
     fin1 (rs_c rfl) ?_
    rw [dec_false (ne_of_get hx hy c3)]
   ·try simp only [sx] at c3
    refine awp_skip <|
     awp_region rfl <|
     rMv rfl <|
     rwp_det rfl rfl (det_add_nw rfl rfl rfl ⟨by omega, by omega⟩) <|
     rMv rfl <|
     rwp_nil ?_
    refine ⟨k + 1, ⟨by omega, take_eq_next hx hy hp c3⟩, (by omega), Weak.mk [] ⟨VLe.refl _, VLe.refl _, VLe.refl _, trivial⟩ rfl⟩
  ·try simp only [sx] at c2
   refine awp_exit <|
    sReg rfl <|
    rMv rfl <|
    rwp_nil <|
    awp_ret <|
    fin1 (rs_c rfl) ?_
   rw [dec_true (eq_of_take hp (by omega) (by omega))]

theorem ref30_Size (n : Ns) (hl : stsWt n.Body ≤ 536870912) :
    Pur cfg 17 [vNs n] (vI (stsN n.Body)) := by
 refine con_intro Tryz.func17 rfl Tryz.ntmps17 Tryz.results17 rfl ?_
 intro z hz
 have hN := stsN_wt n.Body
 refine sReg rfl <|
  rwp_op rfl rfl (ope_box rfl rfl) ?_
 rintro _ _ ⟨b1, rfl, rfl⟩
 refine rMv rfl <|
  rwp_nil <|
  sReg rfl <|
  rwp_det rfl rfl (det_field_lit rfl fd25_1 rfl) <|
  rwp_det rfl rfl (det_load_one rfl one23 rfl (ptr_row 0 rfl) rfl) <|
  rwp_det rfl rfl (det_call rfl ok46 (ref30_size n.Body 1073741824 1073741824 (by omega) (by omega) rfl) ⟨VLe.refl _, rfl, VLe.refl _, rfl, trivial⟩) <|
  rMv rfl <|
  rwp_nil <|
  awp_ret <|
  fin1 (rs_c rfl) ?_
 rw [numB_eqN (by omega)]

theorem ref30_At (n : Ns) (way : List Int) (hw : way.length ≤ 1073741824) :
    Pur cfg 29 [vNs n, vIs way] (.tup [vSt (atT n.Body way).1, vB (atT n.Body way).2]) := by
 refine con_intro Tryz.func29 rfl Tryz.ntmps29 Tryz.results29 rfl ?_
 intro z hz
 refine sReg rfl <|
  rwp_op rfl rfl (ope_box rfl rfl) ?_
 rintro _ _ ⟨b1, rfl, rfl⟩
 refine rwp_op rfl rfl (ope_allocN [none, none, none, none, none, some 4, none, none, none, none, none, none, none, none, none, none, some 2, some 4, some 13, some 20] rfl zr46 rfl) ?_
 rintro _ _ ⟨b2, rfl, rfl⟩
 refine rMv rfl <|
  rwp_nil <|
  sReg rfl <|
  rwp_det rfl rfl (det_field_lit rfl fd25_1 rfl) <|
  rwp_det rfl rfl (det_load_one rfl one23 rfl (ptr_row 1 rfl) rfl) <|
  rMv rfl <|
  rwp_nil <|
  sReg rfl <|
  rwp_det rfl rfl (det_buildN [none, none, none, none, none, some 4, none, none, none, none, none, none, none, none, none, none, some 2, some 4, some 13, some 20] rfl zr46 pl46 rfl rfl) <|
  rwp_op rfl rfl (ope_allocN [none, none, none, none, none, some 4, none, none, none, none, none, none, none, none, none, none, some 2, some 4, some 13, some 20] rfl zr46 rfl) ?_
 rintro _ _ ⟨b3, rfl, rfl⟩
 refine rwp_det0 rfl rfl (det_store rfl sz46 rfl rfl rfl (st_row 0 rfl rfl)) <|
  rwp_nil <|
  awp_seq <|
  sReg rfl <|
  rMv rfl <|
  rwp_nil <|
  awp_block <|
  awp_weak ⟨[(8, .c _), (6, .c _), (1, .c _), (4, .c _), (7, .c _)], [_, _]⟩ (Weak.mk [true, true, false] ⟨VLe.of_eq rfl, VLe.of_eq rfl, VLe.of_eq rfl, VLe.of_eq rfl, VLe.of_eq rfl, trivial⟩ rfl) <|
  awp_loop_k 2 1 rfl rfl (Nat × List St × St) (fun ⟨k, lc, s0⟩ => [(8, vI k), (6, vSts lc)]) (fun ⟨k, lc, s0⟩ => [E.row b3 46 s0.cs]) (fun ⟨k, lc, s0⟩ => k ≤ way.length ∧ (atF way n.Body zSt = atF (way.drop k) lc s0)) (fun ⟨k, lc, s0⟩ => way.length - k) ⟨⟨0, n.Body, zSt⟩, ⟨by omega, rfl⟩, Weak.mk [true, true] ⟨VLe.refl _, VLe.refl _, VLe.refl _, VLe.refl _, VLe.refl _, trivial⟩ rfl⟩ ?_
 rintro ⟨k, lc, s0⟩ ⟨hk, hp⟩
 show AWP _ _ _ _ _ ⟨[(8, vI k), (6, vSts lc)] ++ _, [E.row b3 46 s0.cs] ++ _⟩
 refine awp_seq <|
  sReg rfl <|
  rMv rfl <|
  rMv rfl <|
  rwp_det rfl rfl (det_len_slm rfl el26 rfl) <|
  rwp_det rfl rfl (det_lss rfl rfl rfl) <|
  rwp_nil <|
  awp_cond rfl (fun c1 => ?_) (fun c1 => ?_)
 ·try simp only [sx] at c1
  obtain ⟨i, hi⟩ := ex_get way k (by omega)
  refine awp_skip <|
   awp_seq <|
   awp_block <|
   awp_seq <|
   sReg rfl <|
   rMv rfl <|
   rMv rfl <|
   rwp_det rfl rfl (det_index_sl rfl el26 rfl rfl (by omega) (getm (by assumption))) <|
   rwp_det rfl rfl (det_load_one rfl one3 rfl ptr_imm rfl) <|
   rwp_det rfl rfl (det_lss rfl rfl rfl) <|
   rMv rfl <|
   rLz [] rfl gv1 trivial (fun g6_5 => det_move rfl rfl) rfl <|
   rLz [] rfl gv1 trivial (fun g6_5 => det_move rfl rfl) rfl <|
   rLz [(24, _), (25, _)] rfl gv1 ⟨rfl, rfl, rfl, rfl, trivial⟩ (fun g6_5 => det_index_sl rfl el26 rfl rfl (by omega) (getm (by assumption))) rfl <|
   rLz [(26, _)] rfl gv1 ⟨rfl, rfl, trivial⟩ (fun g6_5 => det_load_one rfl one3 rfl ptr_imm rfl) rfl <|
   rLz [] rfl gv1 trivial (fun g6_5 => det_move rfl rfl) rfl <|
   rLz [(28, _)] rfl gv1 ⟨rfl, rfl, trivial⟩ (fun g6_5 => det_len_slm rfl el23 rfl) rfl <|
   rLz [(27, _), (29, _)] rfl gv1 ⟨rfl, rfl, rfl, rfl, trivial⟩ (fun g6_5 => det_geq rfl rfl rfl) rfl <|
   rwp_det rfl rfl (det_or rfl rfl rfl rfl (fun h => (lzf h))) <|
   rwp_nil <|
   awp_cond rfl (fun c2 => ?_) (fun c2 => ?_)
  ·try simp only [sx] at c2
   refine sReg rfl <|
    rwp_det rfl rfl (det_buildN [none, none, none, none, none, some 4, none, none, none, none, none, none, none, none, none, none, some 2, some 4, some 13, some 20] rfl zr46 pl46 rfl rfl) <|
    rwp_det0 rfl rfl (det_store rfl sz46 rfl rfl rfl (st_row 1 rfl rfl)) <|
    rMv rfl <|
    rwp_nil <|
    awp_ret <|
    fin2 (rs_cell_agg agg46 rfl (ptr_row 1 rfl) rfl) (rs_c rfl) ?_
   have e : atT n.Body way = (zSt, false) := by unfold atT; split; rfl; exact atF_no hi hp (by omega)
   rw [e]; rfl
  ·try simp only [sx] at c2
   have hs := stD_get (l := lc) (i := i) (by omega)
   refine awp_skip <|
    sReg rfl <|
    rMv rfl <|
    rMv rfl <|
    rMv rfl <|
    rwp_det rfl rfl (det_index_sl rfl el26 rfl rfl (by omega) (getm (by assumption))) <|
    rwp_det rfl rfl (det_load_one rfl one3 rfl ptr_imm rfl) <|
    rwp_det rfl rfl (det_index_sl rfl el23 rfl rfl (by omega) (getmS hs)) <|
    rwp_det rfl rfl (det_load_agg rfl agg46 rfl ptr_imm rfl) <|
    rwp_det0 rfl rfl (det_store rfl sz46 rfl rfl rfl (st_row 0 rfl rfl)) <|
    rwp_nil <|
    awp_region rfl <|
    rwp_det rfl rfl (det_field_lit rfl fd46_7 rfl) <|
    rwp_det rfl rfl (det_load_one rfl one23 rfl (ptr_row 0 rfl) rfl) <|
    rMv rfl <|
    rwp_nil <|
    awp_region rfl <|
    rMv rfl <|
    rwp_det rfl rfl (det_add_nw rfl rfl rfl ⟨by omega, by omega⟩) <|
    rMv rfl <|
    rwp_nil ?_
   refine ⟨⟨k + 1, (lc.getD i.toNat zSt).Body, (lc.getD i.toNat zSt)⟩, ⟨by omega, atF_next hi hp (by omega)⟩, (by show way.length - (k + 1) < way.length - k; omega), Weak.mk [true, true] ⟨VLe.refl _, VLe.refl _, VLe.refl _, VLe.refl _, VLe.refl _, trivial⟩ rfl⟩
 ·try simp only [sx] at c1
  have hwe : way = [] ∨ 0 < way.length := by cases way; exact .inl rfl; exact .inr (by simp)
  refine awp_exit <|
   sReg rfl <|
   rwp_det rfl rfl (det_load_agg rfl agg46 rfl (ptr_row 0 rfl) rfl) <|
   rMv rfl <|
   rwp_det rfl rfl (det_len_slm rfl el26 rfl) <|
   rwp_det rfl rfl (det_gtr rfl rfl rfl) <|
   rwp_det0 rfl rfl (det_store rfl sz46 rfl rfl rfl (st_row 1 rfl rfl)) <|
   rMv rfl <|
   rwp_nil <|
   awp_ret <|
   fin2 (rs_cell_agg agg46 rfl (ptr_row 1 rfl) rfl) (rs_c rfl) ?_
  have e : atT n.Body way = (s0, decide ((0 : Int) < way.length)) := by
    unfold atT
    have e0 := atF_end hp (by omega)
    rcases hwe with h | h
    · subst h
      have e1 : zSt = s0 := congrArg Prod.fst e0
      rw [if_pos rfl, e1]; rfl
    · rw [if_neg (by intro h2; rw [h2] at h; simp at h), e0, decide_eq_true (by omega)]
  rw [e]; rfl

theorem law30_short_step (l : List St) (hl : stsWt l ≤ 536870912) (ih : ∀ s, s ∈ l → Pur cfg 31 [vSts s.Body] (vB (shortL s.Body))) :
    Pur cfg 31 [vSts l] (vB (shortL l)) := by
 refine con_intro Tryz.func31 rfl Tryz.ntmps31 Tryz.results31 rfl ?_
 intro z hz
 have hll := stsWt_len l
 refine sReg rfl <|
  rMv rfl <|
  rwp_nil <|
  awp_seq <|
  sReg rfl <|
  rMv rfl <|
  rwp_nil <|
  awp_block <|
  awp_weak ⟨[(3, .c _), (0, .c _)], []⟩ (Weak.mk [] ⟨VLe.of_eq rfl, VLe.of_eq rfl, trivial⟩ rfl) <|
  awp_loop_k 1 0 rfl rfl (Nat) (fun k => [(3, vI k)]) (fun k => []) (fun k => k ≤ l.length ∧ ((l.take k).all shortT = true)) (fun k => l.length - k) ⟨0, ⟨by omega, rfl⟩, Weak.mk [] ⟨VLe.refl _, VLe.refl _, trivial⟩ rfl⟩ ?_
 rintro k ⟨hk, hp⟩
 refine awp_seq <|
  sReg rfl <|
  rMv rfl <|
  rMv rfl <|
  rwp_det rfl rfl (det_len_slm rfl el23 rfl) <|
  rwp_det rfl rfl (det_lss rfl rfl rfl) <|
  rwp_nil <|
  awp_cond rfl (fun c1 => ?_) (fun c1 => ?_)
 ·try simp only [sx] at c1
  obtain ⟨s, hs⟩ := ex_get l k (by omega)
  refine awp_skip <|
   awp_seq <|
   awp_block <|
   sReg rfl <|
   rMv rfl <|
   rMv rfl <|
   rwp_det rfl rfl (det_index_sl rfl el23 rfl rfl (by omega) (getmS hs)) <|
   rwp_det rfl rfl (det_field_imm rfl fd46_1 rfl) <|
   rwp_det rfl rfl (det_load_one rfl one9 rfl ptr_imm rfl) <|
   rwp_det rfl rfl (det_len_str rfl un9 rfl) <|
   rwp_det rfl rfl (det_gtr rfl rfl rfl) <|
   rMv rfl <|
   rLz [] rfl gv1 trivial (fun g4_7 => det_move rfl rfl) rfl <|
   rLz [] rfl gv1 trivial (fun g4_7 => det_move rfl rfl) rfl <|
   rLz [(18, _), (19, _)] rfl gv1 ⟨rfl, rfl, rfl, rfl, trivial⟩ (fun g4_7 => det_index_sl rfl el23 rfl rfl (by omega) (getmS hs)) rfl <|
   rLz [(20, _)] rfl gv1 ⟨rfl, rfl, trivial⟩ (fun g4_7 => det_field_imm rfl fd46_5 rfl) rfl <|
   rLz [(21, _)] rfl gv1 ⟨rfl, rfl, trivial⟩ (fun g4_7 => det_load_one rfl one34 rfl ptr_imm rfl) rfl <|
   rLz [(22, _)] rfl gv1 ⟨rfl, rfl, trivial⟩ (fun g4_7 => det_len_slm rfl el34 rfl) rfl <|
   rLz [(23, _)] rfl gv1 ⟨rfl, rfl, trivial⟩ (fun g4_7 => det_gtr rfl rfl rfl) rfl <|
   rwp_det rfl rfl (det_or rfl rfl rfl rfl (fun h => (lzf h))) <|
   rMv rfl <|
   rLz [] rfl gv1 trivial (fun g4_16 => det_move rfl rfl) rfl <|
   rLz [] rfl gv1 trivial (fun g4_16 => det_move rfl rfl) rfl <|
   rLz [(27, _), (28, _)] rfl gv1 ⟨rfl, rfl, rfl, rfl, trivial⟩ (fun g4_16 => det_index_sl rfl el23 rfl rfl (by omega) (getmS hs)) rfl <|
   rLz [(29, _)] rfl gv1 ⟨rfl, rfl, trivial⟩ (fun g4_16 => det_field_imm rfl fd46_7 rfl) rfl <|
   rLz [(30, _)] rfl gv1 ⟨rfl, rfl, trivial⟩ (fun g4_16 => det_load_one rfl one23 rfl ptr_imm rfl) rfl <|
   rLz [(31, _)] rfl gv1 ⟨rfl, rfl, trivial⟩ (fun g4_16 => det_call rfl ok31 (ih s (mem_of_get hs)) ⟨VLe.refl _, rfl, trivial⟩) rfl <|
   rLz [(32, _)] rfl gv1 ⟨rfl, rfl, trivial⟩ (fun g4_16 => det_not rfl rfl) rfl <|
   rwp_det rfl rfl (det_or rfl rfl rfl rfl (fun h => (lzf h))) <|
   rwp_nil <|
   awp_cond rfl (fun c2 => ?_) (fun c2 => ?_)
  ·refine sReg rfl <|
    rMv rfl <|
    rwp_nil <|
    awp_ret <|
    fin1 (rs_c rfl) ?_
   rw [shortL_eq, all_no hs (short_t c2)]
  ·refine awp_skip <|
    awp_region rfl <|
    rMv rfl <|
    rwp_det rfl rfl (det_add_nw rfl rfl rfl ⟨by omega, by omega⟩) <|
    rMv rfl <|
    rwp_nil ?_
   refine ⟨k + 1, ⟨by omega, allP_next hs hp (short_f c2)⟩, (by omega), Weak.mk [] ⟨VLe.refl _, VLe.refl _, trivial⟩ rfl⟩
 ·try simp only [sx] at c1
  refine awp_exit <|
   sReg rfl <|
   rMv rfl <|
   rwp_nil <|
   awp_ret <|
   fin1 (rs_c rfl) ?_
  rw [take_all (by omega)] at hp; rw [shortL_eq, hp]

theorem law30_short_body (s : St) (hl : stsWt s.Body ≤ 536870912) : Pur cfg 31 [vSts s.Body] (vB (shortL s.Body)) := by
  induction s using St.ind with
  | _ s ih => exact law30_short_step s.Body hl fun a ha => ih a ha (by have := stsWt_mem ha; have := St.body_wt a; omega)
theorem law30_short (l : List St) (hl : stsWt l ≤ 536870912) : Pur cfg 31 [vSts l] (vB (shortL l)) :=
  law30_short_step l hl fun s hs => law30_short_body s (by have := stsWt_mem hs; have := St.body_wt s; omega)

theorem law30_FewStmts (l : List St) (m : Nat) (x : Int) (hf : fitS l) (hl : l.length ≤ 140737488355328) (hm : m ≤ 5000) (hx : x = m) :
    Pur cfg 10 [vSts l, vI x] (vB (fewS l m)) := by
 refine con_intro Tryz.func10 rfl Tryz.ntmps10 Tryz.results10 rfl ?_
 intro z hz
 refine sReg rfl <|
  rMv rfl <|
  rwp_nil <|
  sReg rfl <|
  rMv rfl <|
  rMv rfl <|
  rwp_det rfl rfl (det_call rfl ok30 (base_WeighStmts l m x hf hl hm hx) ⟨VLe.refl _, rfl, VLe.refl _, rfl, trivial⟩) <|
  rMv rfl <|
  rwp_det rfl rfl (det_leq rfl rfl rfl) <|
  rMv rfl <|
  rLz [] rfl gv1 trivial (fun g1_5 => det_move rfl rfl) rfl <|
  rLz [(11, _)] rfl gv1 ⟨rfl, rfl, trivial⟩ (fun g1_5 => det_call rfl ok31 (law30_short l (by simp only [Lz, cond_true, cond_false, Bool.and_eq_true, Bool.or_eq_true, Bool.not_eq_true', Bool.not_eq_false', Bool.or_eq_false_iff, Bool.and_eq_false_iff, decide_eq_true_eq, decide_eq_false_iff_not, Bool.not_eq_true, Bool.not_eq_false] at g1_5; have := weighB_wt (l := l) (m := m) (by omega); omega)) ⟨VLe.refl _, rfl, trivial⟩) rfl <|
  rwp_det rfl rfl (det_and rfl rfl rfl (fun h => h) rfl) <|
  rMv rfl <|
  rwp_nil <|
  awp_ret <|
  fin1 (rs_c rfl) ?_
 subst hx
 exact congrArg vB (by unfold fewS; congr 1; exact decide_eq_decide.2 (by omega))

theorem law30_Few (n : Ns) (m : Nat) (x : Int) (hf : n.Fit) (hm : m ≤ 5000) (hx : x = m) :
    Pur cfg 9 [vNs n, vI x] (vB (fewN n m)) := by
 refine con_intro Tryz.func9 rfl Tryz.ntmps9 Tryz.results9 rfl ?_
 intro z hz
 have hbl := hf.bufs
 refine sReg rfl <|
  rwp_op rfl rfl (ope_box rfl rfl) ?_
 rintro _ _ ⟨b1, rfl, rfl⟩
 refine rMv rfl <|
  rwp_nil <|
  awp_seq <|
  sReg rfl <|
  rwp_det rfl rfl (det_field_lit rfl fd25_0 rfl) <|
  rwp_det rfl rfl (det_load_one rfl one22 rfl (ptr_row 0 rfl) rfl) <|
  rwp_det rfl rfl (det_len_slm rfl el22 rfl) <|
  rwp_det rfl rfl (det_gtr rfl rfl rfl) <|
  rwp_nil <|
  awp_cond rfl (fun c1 => ?_) (fun c1 => ?_)
 ·try simp only [sx] at c1
  refine sReg rfl <|
   rMv rfl <|
   rwp_nil <|
   awp_ret <|
   fin1 (rs_c rfl) ?_
  rw [few_1 (by omega)]
 ·try simp only [sx] at c1
  refine awp_skip <|
   awp_seq <|
   sReg rfl <|
   rMv rfl <|
   rwp_nil <|
   awp_block <|
   awp_weak ⟨[(5, .c _), (1, .c _), (2, .c _)], [_]⟩ (Weak.mk [true] ⟨VLe.of_eq rfl, VLe.of_eq rfl, VLe.of_eq rfl, trivial⟩ rfl) <|
   awp_loop_k 1 0 rfl rfl (Nat) (fun k => [(5, vI k)]) (fun k => []) (fun k => k ≤ n.Bufs.length ∧ ((n.Bufs.take k).all fewBf = true)) (fun k => n.Bufs.length - k) ⟨0, ⟨by omega, rfl⟩, Weak.mk [true] ⟨VLe.refl _, VLe.refl _, VLe.refl _, trivial⟩ rfl⟩ ?_
  rintro k ⟨hk, hp⟩
  refine awp_seq <|
   sReg rfl <|
   rMv rfl <|
   rwp_det rfl rfl (det_field_lit rfl fd25_0 rfl) <|
   rwp_det rfl rfl (det_load_one rfl one22 rfl (ptr_row 0 rfl) rfl) <|
   rwp_det rfl rfl (det_len_slm rfl el22 rfl) <|
   rwp_det rfl rfl (det_lss rfl rfl rfl) <|
   rwp_nil <|
   awp_cond rfl (fun c2 => ?_) (fun c2 => ?_)
  ·try simp only [sx] at c2
   obtain ⟨b, hb⟩ := ex_get n.Bufs k (by omega)
   refine awp_skip <|
    awp_seq <|
    awp_block <|
    sReg rfl <|
    rwp_det rfl rfl (det_field_lit rfl fd25_0 rfl) <|
    rwp_det rfl rfl (det_load_one rfl one22 rfl (ptr_row 0 rfl) rfl) <|
    rMv rfl <|
    rwp_det rfl rfl (det_index_sl rfl el22 rfl rfl (by omega) (getm (by assumption))) <|
    rwp_det rfl rfl (det_field_imm rfl fd65_2 rfl) <|
    rwp_det rfl rfl (det_load_one rfl one26 rfl ptr_imm rfl) <|
    rwp_det rfl rfl (det_len_slm rfl el26 rfl) <|
    rwp_det rfl rfl (det_gtr rfl rfl rfl) <|
    rMv rfl <|
    rLz [] rfl gv1 trivial (fun g6_8 => det_field_lit rfl fd25_0 rfl) rfl <|
    rLz [(26, _)] rfl gv1 ⟨rfl, rfl, trivial⟩ (fun g6_8 => det_load_one rfl one22 rfl (ptr_row 0 rfl) rfl) rfl <|
    rLz [] rfl gv1 trivial (fun g6_8 => det_move rfl rfl) rfl <|
    rLz [(27, _), (28, _)] rfl gv1 ⟨rfl, rfl, rfl, rfl, trivial⟩ (fun g6_8 => det_index_sl rfl el22 rfl rfl (by omega) (getm (by assumption))) rfl <|
    rLz [(29, _)] rfl gv1 ⟨rfl, rfl, trivial⟩ (fun g6_8 => det_field_imm rfl fd65_0 rfl) rfl <|
    rLz [(30, _)] rfl gv1 ⟨rfl, rfl, trivial⟩ (fun g6_8 => det_load_one rfl one9 rfl ptr_imm rfl) rfl <|
    rLz [(31, _)] rfl gv1 ⟨rfl, rfl, trivial⟩ (fun g6_8 => det_len_str rfl un9 rfl) rfl <|
    rLz [(32, _)] rfl gv1 ⟨rfl, rfl, trivial⟩ (fun g6_8 => det_gtr rfl rfl rfl) rfl <|
    rwp_det rfl rfl (det_or rfl rfl rfl rfl (fun h => (lzf h))) <|
    rwp_nil <|
    awp_cond rfl (fun c3 => ?_) (fun c3 => ?_)
   ·refine sReg rfl <|
     rMv rfl <|
     rwp_nil <|
     awp_ret <|
     fin1 (rs_c rfl) ?_
    rw [few_2 hb (fewB_t c3)]
   ·refine awp_skip <|
     awp_region rfl <|
     rMv rfl <|
     rwp_det rfl rfl (det_add_nw rfl rfl rfl ⟨by omega, by omega⟩) <|
     rMv rfl <|
     rwp_nil ?_
    refine ⟨k + 1, ⟨by omega, allP_next hb hp (fewB_f c3)⟩, (by omega), Weak.mk [true] ⟨VLe.refl _, VLe.refl _, VLe.refl _, trivial⟩ rfl⟩
  ·try simp only [sx] at c2
   refine awp_exit <|
    sReg rfl <|
    rwp_det rfl rfl (det_field_lit rfl fd25_1 rfl) <|
    rwp_det rfl rfl (det_load_one rfl one23 rfl (ptr_row 0 rfl) rfl) <|
    rMv rfl <|
    rwp_det rfl rfl (det_call rfl ok10 (law30_FewStmts n.Body m x hf.body hf.len hm hx) ⟨VLe.refl _, rfl, VLe.refl _, rfl, trivial⟩) <|
    rMv rfl <|
    rwp_nil <|
    awp_ret <|
    fin1 (rs_c rfl) ?_
   rw [take_all (by omega)] at hp; exact congrArg vB (few_3 (by omega) hp)

theorem ref30_twins_step (l : List St) (hl : stsWt l ≤ 1000000) (ih : ∀ s, s ∈ l → Pur cfg 83 [vSts s.Body] (vSts s.Body)) :
    Pur cfg 83 [vSts l] (vSts l) := by
 refine con_intro Tryz.func83 rfl Tryz.ntmps83 Tryz.results83 rfl ?_
 intro z hz
 have hll := stsWt_len l
 refine sReg rfl <|
  rwp_det rfl rfl (det_assignN 20 rfl rfl) <|
  rwp_nil <|
  sReg rfl <|
  rMv rfl <|
  rwp_weak _ (weak_own 46 20) <|
  rwp_nil <|
  awp_seq <|
  sReg rfl <|
  rMv rfl <|
  rwp_nil <|
  awp_block <|
  awp_weak ⟨[(4, .c _), (3, .c _), (0, .c _)], [_]⟩ (Weak.mk [true] ⟨VLe.of_eq rfl, VLe.of_eq rfl, VLe.of_eq rfl, trivial⟩ rfl) <|
  awp_loop_k 2 1 rfl rfl (Nat × Value) (fun ⟨k, sv⟩ => [(4, vI k), (3, .c (.lit sv))]) (fun ⟨k, sv⟩ => [E.vec sv 46 20 ((l.take k).map St.cells)]) (fun ⟨k, sv⟩ => k ≤ l.length) (fun ⟨k, sv⟩ => l.length - k) ⟨⟨0, (.slice none 0 0)⟩, (by omega), Weak.mk [true] ⟨VLe.refl _, VLe.refl _, VLe.refl _, trivial⟩ rfl⟩ ?_
 rintro ⟨k, sv⟩ hk
 show AWP _ _ _ _ _ ⟨[(4, vI k), (3, .c (.lit sv))] ++ _, [E.vec sv 46 20 ((l.take k).map St.cells)] ++ _⟩
 refine awp_seq <|
  sReg rfl <|
  rMv rfl <|
  rMv rfl <|
  rwp_det rfl rfl (det_len_slm rfl el23 rfl) <|
  rwp_det rfl rfl (det_lss rfl rfl rfl) <|
  rwp_nil <|
  awp_cond rfl (fun c1 => ?_) (fun c1 => ?_)
 ·try simp only [sx] at c1
  obtain ⟨s, hs⟩ := ex_get l k (by omega)
  have hsw := stsWt_mem (mem_of_get hs)
  have hse := St.wt_eq s
  refine awp_skip <|
   awp_seq <|
   awp_block <|
   sReg rfl <|
   rMv rfl <|
   rMv rfl <|
   rwp_det rfl rfl (det_index_sl rfl el23 rfl rfl (by omega) (getmS hs)) <|
   rwp_det rfl rfl (det_load_agg rfl agg46 rfl ptr_imm rfl) <|
   rwp_op rfl rfl (ope_allocN [none, none, none, none, none, some 4, none, none, none, none, none, none, none, none, none, none, some 2, some 4, some 13, some 20] rfl zr46 rfl) ?_
  rintro _ _ ⟨b2, rfl, rfl⟩
  refine rwp_det0 rfl rfl (det_store rfl sz46 rfl rfl rfl (st_row 0 rfl rfl)) <|
   rwp_nil <|
   sReg rfl <|
   rwp_det rfl rfl (det_field_lit rfl fd46_5 rfl) <|
   rwp_det rfl rfl (det_load_one rfl one34 rfl (ptr_row 0 rfl) rfl) <|
   rwp_det rfl rfl (det_buildN [none, none, none, none, none, none, none, none, none, none, some 2, none, some 13] rfl zr44 pl44 rfl rfl) <|
   rwp_det rfl rfl (det_call rfl ok130 (ref14_Twin (rdZ s.Idx) (by rw [rdZ_wt]; omega)) ⟨VLe.refl _, rfl, trivial⟩) <|
   rwp_det rfl rfl (det_part_one rfl fd44_5 one34 rfl rfl) <|
   rwp_det rfl rfl (det_field_lit rfl fd46_5 rfl) <|
   rwp_det0 rfl rfl (det_store rfl sz34 rfl rfl rfl (st_row 0 rfl rfl)) <|
   rwp_nil <|
   sReg rfl <|
   rwp_det rfl rfl (det_field_lit rfl fd46_6 rfl) <|
   rwp_det rfl rfl (det_load_agg rfl agg44 rfl (ptr_row 0 rfl) rfl) <|
   rwp_det rfl rfl (det_call rfl ok130 (ref14_Twin s.E (by omega)) ⟨VLe.refl _, rfl, trivial⟩) <|
   rwp_det rfl rfl (det_field_lit rfl fd46_6 rfl) <|
   rwp_det0 rfl rfl (det_store rfl sz44 rfl rfl rfl (st_row 0 rfl rfl)) <|
   rwp_nil <|
   sReg rfl <|
   rwp_det rfl rfl (det_field_lit rfl fd46_7 rfl) <|
   rwp_det rfl rfl (det_load_one rfl one23 rfl (ptr_row 0 rfl) rfl) <|
   rwp_det rfl rfl (det_call rfl ok83 (ih s (mem_of_get hs)) ⟨VLe.refl _, rfl, trivial⟩) <|
   rwp_det rfl rfl (det_field_lit rfl fd46_7 rfl) <|
   rwp_det0 rfl rfl (det_store rfl sz23 rfl rfl rfl (st_row 0 rfl rfl)) <|
   rwp_nil <|
   awp_region rfl <|
   rMv rfl <|
   rwp_det rfl rfl (det_load_agg rfl agg46 rfl (ptr_row 0 rfl) rfl) <|
   rwp_det rfl rfl (det_bslice rfl el23 zr46 rfl rfl rfl rfl) <|
   rwp_op rfl rfl (ope_append 1 rfl el23 rfl rfl rfl (by simp only [List.length_map, List.length_append, List.length_cons, List.length_nil, List.length_take, List.length_drop]; omega) (by simp only [List.length_map, List.length_append, List.length_cons, List.length_nil, List.length_take, List.length_drop]; omega)) ?_
  rintro _ _ ⟨sv3, rfl, rfl⟩
  refine rMv rfl <|
   rwp_nil <|
   awp_region rfl <|
   rMv rfl <|
   rwp_det rfl rfl (det_add_nw rfl rfl rfl ⟨by omega, by omega⟩) <|
   rMv rfl <|
   rwp_nil ?_
  refine ⟨⟨k + 1, sv3⟩, (by omega), (by show l.length - (k + 1) < l.length - k; omega), Weak.mk [false, true] ⟨VLe.refl _, VLe.refl _, VLe.refl _, trivial⟩ (by exact mem1_eq (by rw [take_next hs, List.map_append, List.map_singleton, St.cells_eq]; rfl))⟩
 ·try simp only [sx] at c1
  rw [take_all (l := l) (k := k) (by omega)]
  refine awp_exit <|
   awp_seq <|
   awp_weak _ (weak_freezeM 0 rfl (regs' := [(3, _)]) (μ' := []) ⟨FLe.sl, trivial⟩ trivial) <|
   awp_region rfl <|
   rMv rfl <|
   rMv rfl <|
   rwp_nil <|
   awp_ret <|
   fin1 (rs_c rfl) ?_
  exact rfl

theorem ref30_twins_body (s : St) (hl : stsWt s.Body ≤ 1000000) : Pur cfg 83 [vSts s.Body] (vSts s.Body) := by
  induction s using St.ind with
  | _ s ih => exact ref30_twins_step s.Body hl fun a ha => ih a ha (by have := stsWt_mem ha; have := St.body_wt a; omega)
theorem ref30_twins (l : List St) (hl : stsWt l ≤ 1000000) : Pur cfg 83 [vSts l] (vSts l) :=
  ref30_twins_step l hl fun s hs => ref30_twins_body s (by have := stsWt_mem hs; have := St.body_wt s; omega)

end Go.W
