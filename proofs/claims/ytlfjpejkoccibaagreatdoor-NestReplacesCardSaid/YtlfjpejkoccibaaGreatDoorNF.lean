/-
  Walks: what functions of the program compute. Printed by wip/gen/mk2.py.
  Conditions: none.
-/
import Derived.Test.YtlfjpejkoccibaaGreatDoorNC
import Derived.Test.YtlfjpejkoccibaaGreatDoorPlain2
import Derived.Test.YtlfjpejkoccibaaGreatDoorEngZ
set_option linter.unusedSimpArgs false
set_option linter.unusedVariables false
set_option maxRecDepth 10000
namespace Go.W
open Go Go.Eng Go.Proofs Go.L41 Go.Br
attribute [local irreducible] AWP RWP TD finQ
theorem ok38 : callOk Tryz.prog 38 = true := by kernel_rfl
theorem ok44 : callOk Tryz.prog 44 = true := by kernel_rfl
theorem ok45 : callOk Tryz.prog 45 = true := by kernel_rfl
theorem ok78 : callOk Tryz.prog 78 = true := by kernel_rfl
theorem zr26 : zeroT Tryz.prog 26 = some [(Value.slice none 0 0)] := by kernel_rfl
theorem visit_step (y : C) (J Jx : List (St × List Int) → List E → Prop) (M : Nat) (hy : ∀ (pre : List (St × List Int)) (x : St × List Int) (μ : List E), x.2 ≠ [] → x.1.wt ≤ 536870912 → pre.length + 1 ≤ M → J pre μ → FnCon cfg y [vSt x.1, vIs x.2] μ fun r μ' => ∃ b, r = .c (.lit (.bool b)) ∧ (b = true → J (pre ++ [x]) μ') ∧ (b = false → Jx (pre ++ [x]) μ')) (l : List St) (hl : stsWt l ≤ 536870912) (ih : ∀ s, s ∈ l → ∀ (way : List Int) (pre0 : List (St × List Int)) (μ : List E), way.length + stsN s.Body ≤ 1073741824 → pre0.length + stsN s.Body ≤ M → J pre0 μ → Con cfg 44 [vSts s.Body, vIs way, .c y] μ fun r μ' => ∃ b, r = .c (.lit (.bool b)) ∧ (b = true → J (pre0 ++ preL way 0 s.Body) μ') ∧ (b = false → ∃ pre x suf, preL way 0 s.Body = pre ++ x :: suf ∧ Jx (pre0 ++ pre ++ [x]) μ')) (way : List Int) (hw : way.length + stsN l ≤ 1073741824) (pre0 : List (St × List Int)) (hM : pre0.length + stsN l ≤ M) (μ : List E) (h0 : J pre0 μ) :
    Con cfg 44 [vSts l, vIs way, .c y] μ fun r μ' => ∃ b, r = .c (.lit (.bool b)) ∧ (b = true → J (pre0 ++ preL way 0 l) μ') ∧ (b = false → ∃ pre x suf, preL way 0 l = pre ++ x :: suf ∧ Jx (pre0 ++ pre ++ [x]) μ') := by
 refine con_intro Tryz.func44 rfl Tryz.ntmps44 Tryz.results44 rfl ?_
 intro z hz
 have hll := stsWt_len l
 have hlN := stsN_len l
 refine sReg rfl <|
  rMv rfl <|
  rwp_nil <|
  awp_seq <|
  sReg rfl <|
  rMv rfl <|
  rwp_det rfl rfl (det_len_slm rfl el23 rfl) <|
  rMv rfl <|
  rwp_nil <|
  awp_block <|
  awp_weak ⟨[(11, .c _), (0, .c _), (1, .c _), (2, .c _), (10, .c _)], _⟩ (Weak.regs ⟨VLe.of_eq rfl, VLe.of_eq rfl, VLe.of_eq rfl, VLe.of_eq rfl, VLe.of_eq rfl, trivial⟩) <|
  awp_loop_m 1 rfl (Nat × List E) (fun ⟨k, m⟩ => [(11, vI k)]) (fun ⟨k, m⟩ => m) (fun ⟨k, m⟩ => k ≤ l.length ∧ (J (pre0 ++ preL way 0 (l.take k)) m)) (fun ⟨k, m⟩ => l.length - k) ⟨⟨0, μ⟩, ⟨by omega, by simpa [preL] using h0⟩, Weak.regs ⟨VLe.refl _, VLe.refl _, VLe.refl _, VLe.refl _, VLe.refl _, trivial⟩⟩ ?_
 rintro ⟨k, m⟩ ⟨hk, hJ⟩
 refine sReg rfl <|
  rwp_det rfl rfl (det_lss rfl rfl rfl) <|
  rwp_nil <|
  awp_seq <|
  awp_cond rfl (fun c1 => ?_) (fun c1 => ?_)
 ·try simp only [sx] at c1
  obtain ⟨s, hs⟩ := ex_get l k (by omega)
  have hsN := stsN_mem (mem_of_get hs)
  have hse := stN_eq s
  have hst := stsN_take hs
  refine awp_skip <|
   awp_seq <|
   awp_block <|
   sReg rfl <|
   rMv rfl <|
   rMv rfl <|
   rwp_nil <|
   sReg rfl <|
   rMv rfl <|
   rwp_op rfl rfl (ope_call_own rfl ok96 (slices_Clone_int way (by omega)) ⟨VLe.refl _, rfl, trivial⟩) ?_
  rintro _ _ ⟨sv1, rfl, rfl⟩
  refine rMv rfl <|
   rwp_det rfl rfl (det_bslice rfl el26 zr3 rfl rfl rfl rfl) <|
   rwp_op rfl rfl (ope_append 0 rfl el26 rfl rfl rfl (by simp only [List.length_map, List.length_append, List.length_cons, List.length_nil, List.length_take, List.length_drop]; omega) (by simp only [List.length_map, List.length_append, List.length_cons, List.length_nil, List.length_take, List.length_drop]; omega)) ?_
  rintro _ _ ⟨sv2, rfl, rfl⟩
  refine rMv rfl <|
   rwp_nil <|
   awp_seq <|
   awp_weak _ (Weak.vecEq 0 rfl (rows' := (way ++ [(k : Int)]).map fun n => [cI n]) (by first | rfl | simp | rw [List.take_of_length_le (by simp)])) <|
   awp_weak _ (weak_freezeM 0 rfl (regs' := [(18, _), (8, _)]) (μ' := _) ⟨FLe.sl, FLe.sl, trivial⟩ (efles_refl _)) <|
   awp_region rfl <|
   rMv rfl <|
   rMv rfl <|
   rMv rfl <|
   rwp_det rfl rfl (det_index_sl rfl el23 rfl rfl (by omega) (getmS hs)) <|
   rwp_det rfl rfl (det_load_agg rfl agg46 rfl ptr_imm rfl) <|
   rMv rfl <|
   rwp_op rfl rfl (ope_call_val rfl rfl (hy _ (s, (way ++ [(k : Int)])) _ (by simp) (by have := stsWt_mem (mem_of_get hs); show s.wt ≤ _; omega) (by rw [List.length_append, preL_len]; omega) hJ) ⟨VLe.refl _, rfl, VLe.refl _, rfl, trivial⟩) ?_
  rintro _ m1 ⟨y1, rfl, t1, f1⟩
  refine rwp_det rfl rfl (det_not rfl rfl) <|
   rMv rfl <|
   rwp_split 27 rfl (fun h1 => ?_) (fun h1 => ?_)
  ·have hy1 : y1 = false := by simpa using h1
   subst hy1
   refine rwp_no rfl rfl rfl rfl gv1 (by simp [Lz, h1]) <|
    rwp_no rfl rfl rfl rfl gv1 (by simp [Lz, h1]) <|
    rwp_no rfl rfl rfl rfl gv1 (by simp [Lz, h1]) <|
    rwp_no rfl rfl rfl rfl gv1 (by simp [Lz, h1]) <|
    rwp_no rfl rfl rfl rfl gv1 (by simp [Lz, h1]) <|
    rwp_no rfl rfl rfl rfl gv1 (by simp [Lz, h1]) <|
    rwp_no rfl rfl rfl rfl gv1 (by simp [Lz, h1]) <|
    rwp_no rfl rfl rfl rfl gv1 (by simp [Lz, h1]) <|
    rwp_no rfl rfl rfl rfl gv1 (by simp [Lz, h1]) <|
    rwp_det rfl rfl (det_pick rfl rfl) <|
    rwp_nil <|
    awp_cond rfl (fun c2 => ?_) (fun c2 => ?_)
   ·refine sReg rfl <|
     rMv rfl <|
     rwp_nil <|
     awp_ret <|
     fin1 (rs_c rfl) ?_
    exact ⟨false, rfl, fun h => (by cases h), fun _ => ⟨_, (s, (way ++ [(k : Int)])), _, pre_at1 hs, by simpa using f1 rfl⟩⟩
   ·exact absurd c2 (by decide)
  ·have hy1 : y1 = true := by simpa using h1
   subst hy1
   refine rwp_yes_det rfl rfl rfl rfl gv1 (by simp [Lz, h1]) (det_move rfl rfl) <|
    rwp_yes_det rfl rfl rfl rfl gv1 (by simp [Lz, h1]) (det_move rfl rfl) <|
    rwp_yes_det rfl rfl rfl rfl gv1 (by simp [Lz, h1]) (det_index_sl rfl el23 rfl rfl (by omega) (getmS hs)) <|
    rwp_yes_det rfl rfl rfl rfl gv1 (by simp [Lz, h1]) (det_field_imm rfl fd46_7 rfl) <|
    rwp_yes_det rfl rfl rfl rfl gv1 (by simp [Lz, h1]) (det_load_one rfl one23 rfl ptr_imm rfl) <|
    rwp_yes_det rfl rfl rfl rfl gv1 (by simp [Lz, h1]) (det_move rfl rfl) <|
    rwp_yes_det rfl rfl rfl rfl gv1 (by simp [Lz, h1]) (det_move rfl rfl) <|
    rwp_yes rfl rfl rfl rfl gv1 (by simp [Lz, h1]) (ope_call rfl ok44 (ih s (mem_of_get hs) (way ++ [(k : Int)]) _ _ (by simp; omega) (by rw [List.length_append, List.length_append, preL_len, List.length_singleton]; omega) (t1 rfl)) ⟨VLe.refl _, rfl, VLe.refl _, rfl, VLe.refl _, rfl, trivial⟩) ?_
   rintro _ m2 ⟨y2, rfl, t2, f2⟩
   refine rwp_yes_det rfl rfl rfl rfl gv1 (by simp [Lz, h1]) (det_not rfl rfl) <|
    rwp_det rfl rfl (det_pick rfl rfl) <|
    rwp_nil <|
    awp_cond rfl (fun c2 => ?_) (fun c2 => ?_)
   ·have hy2 : y2 = false := by cases y2; rfl; exact absurd c2 (by decide)
    subst hy2
    refine sReg rfl <|
     rMv rfl <|
     rwp_nil <|
     awp_ret <|
     fin1 (rs_c rfl) ?_
    obtain ⟨pre, x, suf, h1, h2⟩ := f2 rfl
    exact ⟨false, rfl, fun h => (by cases h), fun _ => ⟨_, x, _, pre_at2 hs h1, by simpa using h2⟩⟩
   ·have hy2 : y2 = true := by cases y2; exact absurd c2 (by decide); rfl
    subst hy2
    refine awp_skip <|
     awp_region rfl <|
     rwp_det rfl rfl (det_add_nw rfl rfl rfl ⟨by omega, by omega⟩) <|
     rMv rfl <|
     rwp_nil ?_
    refine ⟨⟨k + 1, m2⟩, ⟨by omega, by rw [preL_next hs, preS_eq, ← List.append_assoc]; have := t2 rfl; simpa using this⟩, (by show l.length - (k + 1) < l.length - k; omega), Weak.regs ⟨VLe.refl _, VLe.refl _, VLe.refl _, VLe.refl _, VLe.refl _, trivial⟩⟩
 ·try simp only [sx] at c1
  refine awp_exit <|
   sReg rfl <|
   rMv rfl <|
   rwp_nil <|
   awp_ret <|
   fin1 (rs_c rfl) ?_
  rw [take_all (by omega)] at hJ
  exact ⟨true, rfl, fun _ => hJ, fun h => (by cases h)⟩

theorem visit_body (y : C) (J Jx : List (St × List Int) → List E → Prop) (M : Nat) (hy : ∀ (pre : List (St × List Int)) (x : St × List Int) (μ : List E), x.2 ≠ [] → x.1.wt ≤ 536870912 → pre.length + 1 ≤ M → J pre μ → FnCon cfg y [vSt x.1, vIs x.2] μ fun r μ' => ∃ b, r = .c (.lit (.bool b)) ∧ (b = true → J (pre ++ [x]) μ') ∧ (b = false → Jx (pre ++ [x]) μ')) (s : St) (hl : stsWt s.Body ≤ 536870912) : ∀ (way : List Int) (pre0 : List (St × List Int)) (μ : List E), way.length + stsN s.Body ≤ 1073741824 → pre0.length + stsN s.Body ≤ M → J pre0 μ → Con cfg 44 [vSts s.Body, vIs way, .c y] μ fun r μ' => ∃ b, r = .c (.lit (.bool b)) ∧ (b = true → J (pre0 ++ preL way 0 s.Body) μ') ∧ (b = false → ∃ pre x suf, preL way 0 s.Body = pre ++ x :: suf ∧ Jx (pre0 ++ pre ++ [x]) μ') := by
  induction s using St.ind with
  | _ s ih => exact fun way pre0 μ hw hM h0 => visit_step y J Jx M hy s.Body hl (fun a ha => ih a ha (by have := stsWt_mem ha; have := St.body_wt a; omega)) way hw pre0 hM μ h0
theorem visit_con (y : C) (J Jx : List (St × List Int) → List E → Prop) (M : Nat) (hy : ∀ (pre : List (St × List Int)) (x : St × List Int) (μ : List E), x.2 ≠ [] → x.1.wt ≤ 536870912 → pre.length + 1 ≤ M → J pre μ → FnCon cfg y [vSt x.1, vIs x.2] μ fun r μ' => ∃ b, r = .c (.lit (.bool b)) ∧ (b = true → J (pre ++ [x]) μ') ∧ (b = false → Jx (pre ++ [x]) μ')) (l : List St) (hl : stsWt l ≤ 536870912) (way : List Int) (hw : way.length + stsN l ≤ 1073741824) (pre0 : List (St × List Int)) (hM : pre0.length + stsN l ≤ M) (μ : List E) (h0 : J pre0 μ) : Con cfg 44 [vSts l, vIs way, .c y] μ fun r μ' => ∃ b, r = .c (.lit (.bool b)) ∧ (b = true → J (pre0 ++ preL way 0 l) μ') ∧ (b = false → ∃ pre x suf, preL way 0 l = pre ++ x :: suf ∧ Jx (pre0 ++ pre ++ [x]) μ') :=
  visit_step y J Jx M hy l hl (fun s hs => visit_body y J Jx M hy s (by have := stsWt_mem hs; have := St.body_wt s; omega)) way hw pre0 hM μ h0

theorem loopnest_trail (l : List St) (way : List Int) (hw : way.length ≤ 1073741824) :
    Pur cfg 38 [vSts l, vIs way] (vSts (trailT l way)) := by
 refine con_intro Tryz.func38 rfl Tryz.ntmps38 Tryz.results38 rfl ?_
 intro z hz
 refine sReg rfl <|
  rwp_det rfl rfl (det_assignN 20 rfl rfl) <|
  rwp_nil <|
  sReg rfl <|
  rMv rfl <|
  rwp_weak _ (weak_own 46 20) <|
  rwp_nil <|
  awp_seq <|
  sReg rfl <|
  rMv rfl <|
  rwp_det rfl rfl (det_len_slm rfl el26 rfl) <|
  rMv rfl <|
  rwp_nil <|
  awp_block <|
  awp_weak ⟨[(10, .c _), (0, .c _), (5, .c _), (8, .c _), (9, .c _)], [_]⟩ (Weak.mk [true] ⟨VLe.of_eq rfl, VLe.of_eq rfl, VLe.of_eq rfl, VLe.of_eq rfl, VLe.of_eq rfl, trivial⟩ rfl) <|
  awp_loop_k 3 1 rfl rfl (Nat × Value × List St × List St) (fun ⟨k, sv, lc, out⟩ => [(10, vI k), (0, vSts lc), (5, .c (.lit sv))]) (fun ⟨k, sv, lc, out⟩ => [E.vec sv 46 20 (out.map St.cells)]) (fun ⟨k, sv, lc, out⟩ => k ≤ way.length ∧ (out.length = k) ∧ (trailT l way = trl (way.drop k) lc out)) (fun ⟨k, sv, lc, out⟩ => way.length - k) ⟨⟨0, (.slice none 0 0), l, []⟩, ⟨by omega, rfl, rfl⟩, Weak.mk [true] ⟨VLe.refl _, VLe.refl _, VLe.refl _, VLe.refl _, VLe.refl _, trivial⟩ rfl⟩ ?_
 rintro ⟨k, sv, lc, out⟩ ⟨hk, ho, hp⟩
 show AWP _ _ _ _ _ ⟨[(10, vI k), (0, vSts lc), (5, .c (.lit sv))] ++ _, [E.vec sv 46 20 (out.map St.cells)] ++ _⟩
 refine sReg rfl <|
  rwp_det rfl rfl (det_lss rfl rfl rfl) <|
  rwp_nil <|
  awp_seq <|
  awp_cond rfl (fun c1 => ?_) (fun c1 => ?_)
 ·try simp only [sx] at c1
  obtain ⟨i, hi⟩ := ex_get way k (by omega)
  refine awp_skip <|
   awp_seq <|
   awp_block <|
   sReg rfl <|
   rwp_det rfl rfl (det_index_sl rfl el26 rfl rfl (by omega) (getm (by assumption))) <|
   rwp_det rfl rfl (det_load_one rfl one3 rfl ptr_imm rfl) <|
   rMv rfl <|
   rwp_nil <|
   awp_seq <|
   sReg rfl <|
   rMv rfl <|
   rwp_det rfl rfl (det_lss rfl rfl rfl) <|
   rMv rfl <|
   rLz [] rfl gv1 trivial (fun g5_2 => det_move rfl rfl) rfl <|
   rLz [] rfl gv1 trivial (fun g5_2 => det_move rfl rfl) rfl <|
   rLz [(18, _)] rfl gv1 ⟨rfl, rfl, trivial⟩ (fun g5_2 => det_len_slm rfl el23 rfl) rfl <|
   rLz [(17, _), (19, _)] rfl gv1 ⟨rfl, rfl, rfl, rfl, trivial⟩ (fun g5_2 => det_geq rfl rfl rfl) rfl <|
   rwp_det rfl rfl (det_or rfl rfl rfl rfl (fun h => (lzf h))) <|
   rwp_nil <|
   awp_cond rfl (fun c2 => ?_) (fun c2 => ?_)
  ·try simp only [sx] at c2
   refine sReg rfl <|
    rwp_det rfl rfl (det_assignN 20 rfl rfl) <|
    rwp_nil <|
    awp_ret <|
    fin1 (rs_c rfl) ?_
   rw [show trailT l way = [] from trl_no hi hp (by omega)]; rfl
  ·try simp only [sx] at c2
   have hs := stD_get (l := lc) (i := i) (by omega)
   refine awp_skip <|
    sReg rfl <|
    rMv rfl <|
    rMv rfl <|
    rMv rfl <|
    rwp_det rfl rfl (det_index_sl rfl el23 rfl rfl (by omega) (getmS hs)) <|
    rwp_det rfl rfl (det_load_agg rfl agg46 rfl ptr_imm rfl) <|
    rwp_det rfl rfl (det_bslice rfl el23 zr46 rfl rfl rfl rfl) <|
    rwp_op rfl rfl (ope_append 0 rfl el23 rfl rfl rfl (by simp only [List.length_map, List.length_append, List.length_cons, List.length_nil, List.length_take, List.length_drop]; omega) (by simp only [List.length_map, List.length_append, List.length_cons, List.length_nil, List.length_take, List.length_drop]; omega)) ?_
   rintro _ _ ⟨sv2, rfl, rfl⟩
   refine rMv rfl <|
    rwp_nil <|
    awp_region rfl <|
    rMv rfl <|
    rMv rfl <|
    rwp_det rfl rfl (det_index_sl rfl el23 rfl rfl (by omega) (getmS hs)) <|
    rwp_det rfl rfl (det_field_imm rfl fd46_7 rfl) <|
    rwp_det rfl rfl (det_load_one rfl one23 rfl ptr_imm rfl) <|
    rMv rfl <|
    rwp_nil <|
    awp_region rfl <|
    rwp_det rfl rfl (det_add_nw rfl rfl rfl ⟨by omega, by omega⟩) <|
    rMv rfl <|
    rwp_nil ?_
   refine ⟨⟨k + 1, sv2, (lc.getD i.toNat zSt).Body, out ++ [lc.getD i.toNat zSt]⟩, ⟨by omega, by simp; omega, trl_next hi hp (by omega)⟩, (by show way.length - (k + 1) < way.length - k; omega), Weak.mk [true] ⟨VLe.refl _, VLe.refl _, VLe.refl _, VLe.refl _, VLe.refl _, trivial⟩ (by exact mem1_eq (by rw [List.map_append, List.map_singleton, St.cells_eq]; rfl))⟩
 ·try simp only [sx] at c1
  refine awp_exit <|
   awp_seq <|
   awp_weak _ (weak_freezeM 0 rfl (regs' := [(5, _)]) (μ' := []) ⟨FLe.sl, trivial⟩ trivial) <|
   awp_region rfl <|
   rMv rfl <|
   rMv rfl <|
   rwp_nil <|
   awp_ret <|
   fin1 (rs_c rfl) ?_
  rw [show trailT l way = out from trl_end hp (by omega)]

theorem loopnest_Size_1 (bb : Nat) (n : Int) (s : St) (w : List Int) (h1 : 0 ≤ n) (h2 : n ≤ 1099511627776) :
    Con cfg 45 [vSt s, vIs w, .c (.lit (.pointer (some ⟨bb, 0, none⟩)))] [E.row bb 3 [cI n]] fun r μ' => r = vB true ∧ μ' = [E.row bb 3 [cI (n + 1)]] := by
 refine Con.drop <|
  con_intro Tryz.func45 rfl Tryz.ntmps45 Tryz.results45 rfl ?_
 intro z hz
 refine sReg rfl <|
  rwp_op rfl rfl (ope_box rfl rfl) ?_
 rintro _ _ ⟨b1, rfl, rfl⟩
 refine rMv rfl <|
  rwp_nil <|
  sReg rfl <|
  rwp_det rfl rfl (det_load_one rfl one3 rfl (ptr_row 1 rfl) rfl) <|
  rwp_det rfl rfl (det_add_nw rfl rfl rfl ⟨by omega, by omega⟩) <|
  rwp_det0 rfl rfl (det_store rfl sz3 rfl rfl rfl (st_row 1 rfl rfl)) <|
  rwp_nil <|
  sReg rfl <|
  rMv rfl <|
  rwp_nil <|
  awp_ret <|
  fin1 (rs_c rfl) ?_
 exact ⟨rfl, [_], rfl⟩

theorem visit_size (bb : Nat) (l : List St) (hl : stsWt l ≤ 536870912) : Con cfg 44 [vSts l, vIs [], .c (.fn (.func 45) [] [.lit (.pointer (some ⟨bb, 0, none⟩))])] [E.row bb 3 [cI 0]] fun r μ' => r = vB true ∧ μ' = [E.row bb 3 [cI (stsN l)]] := by
  have hN := stsN_wt l
  refine (visit_con (.fn (.func 45) [] [.lit (.pointer (some ⟨bb, 0, none⟩))]) (fun pre μ => μ = [E.row bb 3 [cI pre.length]]) (fun _ _ => False) (stsN l) (fun pre x μ hx hxw hM hJ => ?_) l hl [] (by simp; omega) [] (by simp) _ rfl).mono ?_
  · subst hJ
    refine (FnCon.of_con (first := []) (cap := [.lit (.pointer (some ⟨bb, 0, none⟩))]) ok45 (loopnest_Size_1 bb pre.length x.1 x.2 (by omega) (by omega))).mono ?_
    rintro r μ' ⟨rfl, rfl⟩
    exact ⟨true, rfl, fun _ => by simp, fun h => by cases h⟩
  · rintro r μ' ⟨b, rfl, h1, h2⟩
    cases b with
    | true => exact ⟨rfl, by rw [h1 rfl]; simp [preL_len]⟩
    | false => obtain ⟨_, _, _, _, h⟩ := h2 rfl; exact h.elim

theorem loopnest_Size (n : Ns) (hl : stsWt n.Body ≤ 536870912) :
    Pur cfg 16 [vNs n] (vI (stsN n.Body)) := by
 refine con_intro Tryz.func16 rfl Tryz.ntmps16 Tryz.results16 rfl ?_
 intro z hz
 refine sReg rfl <|
  rwp_op rfl rfl (ope_box rfl rfl) ?_
 rintro _ _ ⟨b1, rfl, rfl⟩
 refine rMv rfl <|
  rwp_nil <|
  sReg rfl <|
  rwp_op rfl rfl (ope_alloc rfl zr3) ?_
 rintro _ _ ⟨b2, rfl, rfl⟩
 refine rwp_det0 rfl rfl (det_store rfl sz3 rfl rfl rfl (st_row 0 rfl rfl)) <|
  rwp_nil <|
  sReg rfl <|
  rwp_det rfl rfl (det_field_lit rfl fd25_1 rfl) <|
  rwp_det rfl rfl (det_load_one rfl one23 rfl (ptr_row 1 rfl) rfl) <|
  rwp_det rfl rfl (det_func rfl rfl rfl rfl rfl) <|
  rwp_op rfl rfl (ope_call_reg 0 rfl rfl ok44 (visit_size _ n.Body hl) ⟨VLe.refl _, rfl, VLe.nil, rfl, VLe.refl _, rfl, trivial⟩) ?_
 rintro _ _ ⟨rfl, rfl⟩
 refine rwp_nil <|
  sReg rfl <|
  rwp_det rfl rfl (det_load_one rfl one3 rfl (ptr_row 0 rfl) rfl) <|
  rMv rfl <|
  rwp_nil <|
  awp_ret <|
  fin1 (rs_c rfl) ?_
 exact rfl

theorem loopnest_Find_1 (bb : Nat) (t : ByteArray) (s : St) (w : List Int) (hw : w ≠ []) :
    Con cfg 78 [vSt s, vIs w, .c (.iptr [cS t]), .c (.lit (.pointer (some ⟨bb, 0, none⟩)))] [E.row bb 26 [fndC none]] fun r μ' => r = vB (!isLoop t s) ∧ μ' = [E.row bb 26 [fndC (if isLoop t s = true then some w else none)]] := by
 refine Con.drop <|
  con_intro Tryz.func78 rfl Tryz.ntmps78 Tryz.results78 rfl ?_
 intro z hz
 refine sReg rfl <|
  rwp_op rfl rfl (ope_box rfl rfl) ?_
 rintro _ _ ⟨b1, rfl, rfl⟩
 refine rMv rfl <|
  rwp_nil <|
  awp_seq <|
  sReg rfl <|
  rwp_det rfl rfl (det_field_lit rfl fd46_0 rfl) <|
  rwp_det rfl rfl (det_load_one rfl one3 rfl (ptr_row 0 rfl) rfl) <|
  rwp_det rfl rfl (det_eql rfl rfl rfl) <|
  rMv rfl <|
  rLz [] rfl gv1 trivial (fun g1_3 => det_field_lit rfl fd46_1 rfl) rfl <|
  rLz [(11, _)] rfl gv1 ⟨rfl, rfl, trivial⟩ (fun g1_3 => det_load_one rfl one9 rfl (ptr_row 0 rfl) rfl) rfl <|
  rLz [] rfl gv1 trivial (fun g1_3 => det_load_one rfl one9 rfl ptr_imm rfl) rfl <|
  rLz [(12, _), (13, _)] rfl gv1 ⟨rfl, rfl, rfl, rfl, trivial⟩ (fun g1_3 => det_seql rfl rfl rfl) rfl <|
  rwp_det rfl rfl (det_and rfl rfl rfl (fun h => h) rfl) <|
  rwp_nil <|
  awp_cond rfl (fun c1 => ?_) (fun c1 => ?_)
 ·refine awp_region rfl <|
   rMv rfl <|
   rwp_det0 rfl rfl (det_store rfl sz26 rfl rfl rfl (st_row 1 rfl rfl)) <|
   rwp_nil <|
   sReg rfl <|
   rwp_det rfl rfl (det_load_one rfl one26 rfl (ptr_row 1 rfl) rfl) <|
   rwp_det rfl rfl (det_fnil_eq (q := (some w)) rfl el26 rfl rfl (by intro u h; cases h; exact hw)) <|
   rMv rfl <|
   rwp_nil <|
   awp_ret <|
   fin1 (rs_c rfl) ?_
  have hc : isLoop t s = true := c1
  exact ⟨by rw [hc]; rfl, [_], by rw [if_pos hc]; rfl⟩
 ·refine awp_skip <|
   sReg rfl <|
   rwp_det rfl rfl (det_load_one rfl one26 rfl (ptr_row 1 rfl) rfl) <|
   rwp_det rfl rfl (det_fnil_eq (q := none) rfl el26 rfl rfl (by intro u h; cases h)) <|
   rMv rfl <|
   rwp_nil <|
   awp_ret <|
   fin1 (rs_c rfl) ?_
  have hc : isLoop t s = false := c1
  exact ⟨by rw [hc]; rfl, [_], by rw [if_neg (by rw [hc]; simp)]; rfl⟩

theorem visit_find (bb : Nat) (t : ByteArray) (l : List St) (hl : stsWt l ≤ 536870912) : Con cfg 44 [vSts l, vIs [], .c (.fn (.func 78) [] [.iptr [cS t], .lit (.pointer (some ⟨bb, 0, none⟩))])] [E.row bb 26 [fndC none]] fun r μ' => r = vB (findN l t).isNone ∧ μ' = [E.row bb 26 [fndC (findN l t)]] := by
  have hN := stsN_wt l
  refine (visit_con (.fn (.func 78) [] [.iptr [cS t], .lit (.pointer (some ⟨bb, 0, none⟩))]) (fun pre μ => pre.any (hitN t) = false ∧ μ = [E.row bb 26 [fndC none]]) (fun pre μ => ∃ p x, pre = p ++ [x] ∧ p.any (hitN t) = false ∧ hitN t x = true ∧ μ = [E.row bb 26 [fndC (some x.2)]]) (stsN l) (fun pre x μ hx hxw hM hJ => ?_) l hl [] (by simp; omega) [] (by simp) _ ⟨rfl, rfl⟩).mono ?_
  · obtain ⟨h1, rfl⟩ := hJ
    refine (FnCon.of_con (first := []) (cap := [.iptr [cS t], .lit (.pointer (some ⟨bb, 0, none⟩))]) ok78 (loopnest_Find_1 bb t x.1 x.2 hx)).mono ?_
    rintro r μ' ⟨rfl, rfl⟩
    refine ⟨!isLoop t x.1, rfl, fun h => ?_, fun h => ?_⟩
    · have hc : isLoop t x.1 = false := by simpa using h
      exact ⟨any_one h1 hc, by rw [hc]; rfl⟩
    · have hc : isLoop t x.1 = true := by simpa using h
      exact ⟨pre, x, rfl, h1, hc, by rw [hc]; rfl⟩
  · rintro r μ' ⟨b, rfl, h1, h2⟩
    cases b with
    | true =>
      obtain ⟨k1, k2⟩ := h1 rfl
      have e : findN l t = none := findA_none k1
      exact ⟨by rw [e]; rfl, by rw [e]; exact k2⟩
    | false =>
      obtain ⟨pre, x, suf, h3, p, y, h4, h5, h6, h7⟩ := h2 rfl
      have e : findN l t = some y.2 := by
        obtain ⟨e1, e2⟩ := List.append_inj' h4 rfl
        have e3 : x = y := by simpa using e2
        have e4 : pre = p := by simpa using e1
        unfold findN
        rw [h3, e3, e4]
        exact findA_some h5 h6
      exact ⟨by rw [e]; rfl, by rw [e]; exact h7⟩

theorem loopnest_Find (n : Ns) (t : ByteArray) (hl : stsWt n.Body ≤ 536870912) :
    Pur cfg 32 [vNs n, vS t] (.tup [vIs ((findN n.Body t).getD []), vB (findN n.Body t).isSome]) := by
 refine con_intro Tryz.func32 rfl Tryz.ntmps32 Tryz.results32 rfl ?_
 intro z hz
 refine sReg rfl <|
  rwp_op rfl rfl (ope_box rfl rfl) ?_
 rintro _ _ ⟨b1, rfl, rfl⟩
 refine rwp_op rfl rfl (ope_box rfl rfl) ?_
 rintro _ _ ⟨b2, rfl, rfl⟩
 refine rwp_weak _ (weak_freeze_row 0 rfl 3 _ PLe.ptr) <|
  rwp_det rfl rfl (det_assignN 1 rfl rfl) <|
  rMv rfl <|
  rwp_nil <|
  sReg rfl <|
  rwp_op rfl rfl (ope_alloc rfl zr26) ?_
 rintro _ _ ⟨b3, rfl, rfl⟩
 refine rwp_nil <|
  sReg rfl <|
  rwp_det rfl rfl (det_field_lit rfl fd25_1 rfl) <|
  rwp_det rfl rfl (det_load_one rfl one23 rfl (ptr_row 1 rfl) rfl) <|
  rwp_det rfl rfl (det_func rfl rfl rfl rfl rfl) <|
  rwp_op rfl rfl (ope_call_reg 0 rfl rfl ok44 (visit_find _ t n.Body hl) ⟨VLe.refl _, rfl, VLe.nil, rfl, VLe.refl _, rfl, trivial⟩) ?_
 rintro _ _ ⟨rfl, rfl⟩
 refine rwp_nil <|
  awp_seq <|
  awp_draw 5 mixed (by kernel_rfl) rfl rfl <|
  td_det rfl rfl (det_load_one rfl one26 rfl (ptr_row 0 rfl) rfl) <|
  td_det rfl rfl (det_load_one rfl one26 rfl (ptr_row 0 rfl) rfl) <|
  td_det rfl rfl (det_fnil_ne (q := (findN n.Body t)) rfl el26 rfl rfl (fun u h => findN_ne h)) <|
  td_det rfl rfl (det_assign rfl rfl) <|
  td_det rfl rfl (det_assign rfl rfl) <|
  td_nil <|
  rwp_nil <|
  awp_weak ⟨[(4, .c _), (5, .c _)], _⟩ (Weak.regs ⟨fndC_le _, VLe.of_eq rfl, trivial⟩) <|
  awp_ret <|
  fin2 (rs_c rfl) (rs_c rfl) ?_
 exact rfl

theorem loopnest_Enclosing (n : Ns) (way : List Int) (hw : way.length ≤ 1073741824) :
    Pur cfg 33 [vNs n, vIs way] (vBds (enclT n.Body way)) := by
 refine con_intro Tryz.func33 rfl Tryz.ntmps33 Tryz.results33 rfl ?_
 intro z hz
 have htl := trl_len way n.Body []
 have htl2 : (trailT n.Body way).length ≤ way.length := by unfold trailT; simpa using htl
 refine sReg rfl <|
  rwp_op rfl rfl (ope_box rfl rfl) ?_
 rintro _ _ ⟨b1, rfl, rfl⟩
 refine rwp_det rfl rfl (det_assignN 2 rfl rfl) <|
  rwp_nil <|
  sReg rfl <|
  rMv rfl <|
  rwp_weak _ (weak_own 80 2) <|
  rwp_nil <|
  sReg rfl <|
  rwp_det rfl rfl (det_field_lit rfl fd25_1 rfl) <|
  rwp_det rfl rfl (det_load_one rfl one23 rfl (ptr_row 1 rfl) rfl) <|
  rMv rfl <|
  rwp_det rfl rfl (det_call rfl ok38 (loopnest_trail n.Body way hw) ⟨VLe.refl _, rfl, VLe.refl _, rfl, trivial⟩) <|
  rMv rfl <|
  rwp_nil <|
  awp_seq <|
  sReg rfl <|
  rMv rfl <|
  rwp_det rfl rfl (det_len_slm rfl el23 rfl) <|
  rwp_det rfl rfl (det_sub_nw rfl rfl rfl ⟨by omega, by omega⟩) <|
  rwp_det rfl rfl (det_max rfl rfl rfl) <|
  rMv rfl <|
  rwp_nil <|
  awp_block <|
  awp_weak ⟨[(16, .c _), (5, .c _), (6, .c _), (15, .c _)], [_]⟩ (Weak.mk [true, false] ⟨VLe.of_eq rfl, VLe.of_eq rfl, VLe.of_eq rfl, VLe.of_eq rfl, trivial⟩ rfl) <|
  awp_loop_k 2 1 rfl rfl (Nat × Value) (fun ⟨k, sv⟩ => [(16, vI k), (5, .c (.lit sv))]) (fun ⟨k, sv⟩ => [E.vec sv 80 2 ((((trailT n.Body way).take k).flatMap bdNm).map Bd.cells)]) (fun ⟨k, sv⟩ => (k : Int) ≤ max 0 (((trailT n.Body way).length : Int) - 1)) (fun ⟨k, sv⟩ => (trailT n.Body way).length - k) ⟨⟨0, .slice none 0 0⟩, (by omega), Weak.mk [true] ⟨VLe.refl _, VLe.refl _, VLe.refl _, VLe.refl _, trivial⟩ rfl⟩ ?_
 rintro ⟨k, sv⟩ hk
 show AWP _ _ _ _ _ ⟨[(16, vI k), (5, .c (.lit sv))] ++ _, [E.vec sv 80 2 ((((trailT n.Body way).take k).flatMap bdNm).map Bd.cells)] ++ _⟩
 refine sReg rfl <|
  rwp_det rfl rfl (det_lss rfl rfl rfl) <|
  rwp_nil <|
  awp_seq <|
  awp_cond rfl (fun c1 => ?_) (fun c1 => ?_)
 ·try simp only [sx] at c1
  obtain ⟨s, hs⟩ := ex_get (trailT n.Body way) k (by omega)
  have hel := enc_len ((trailT n.Body way).take k)
  have hel2 := List.length_take_le k (trailT n.Body way)
  refine awp_skip <|
   awp_seq <|
   awp_block <|
   sReg rfl <|
   rMv rfl <|
   rMv rfl <|
   rwp_nil <|
   sReg rfl <|
   rMv rfl <|
   rMv rfl <|
   rwp_det rfl rfl (det_index_sl rfl el23 rfl rfl (by omega) (getmS hs)) <|
   rwp_det rfl rfl (det_field_imm rfl fd46_0 rfl) <|
   rwp_det rfl rfl (det_load_one rfl one3 rfl ptr_imm rfl) <|
   rwp_det rfl rfl (det_eql rfl rfl rfl) <|
   rwp_nil <|
   awp_cond rfl (fun c2 => ?_) (fun c2 => ?_)
  ·try simp only [sx] at c2
   refine awp_draw 13 mixed (by kernel_rfl) rfl rfl <|
    td_det rfl rfl (det_move rfl rfl) <|
    td_det rfl rfl (det_move rfl rfl) <|
    td_det rfl rfl (det_move rfl rfl) <|
    td_det rfl rfl (det_index_sl rfl el23 rfl rfl (by omega) (getmS hs)) <|
    td_det rfl rfl (det_field_imm rfl fd46_1 rfl) <|
    td_det rfl rfl (det_load_one rfl one9 rfl ptr_imm rfl) <|
    td_det rfl rfl (det_move rfl rfl) <|
    td_det rfl rfl (det_move rfl rfl) <|
    td_det rfl rfl (det_index_sl rfl el23 rfl rfl (by omega) (getmS hs)) <|
    td_det rfl rfl (det_field_imm rfl fd46_2 rfl) <|
    td_det rfl rfl (det_load_one rfl one3 rfl ptr_imm rfl) <|
    td_det rfl rfl (det_build rfl zr80 pl80 rfl) <|
    td_det rfl rfl (det_bslice rfl el73 zr80 rfl rfl rfl rfl) <|
    td_nil <|
    rwp_op rfl rfl (ope_append 0 rfl el73 rfl rfl rfl (by simp only [List.length_map, List.length_append, List.length_cons, List.length_nil, List.length_take, List.length_drop]; omega) (by simp only [List.length_map, List.length_append, List.length_cons, List.length_nil, List.length_take, List.length_drop]; omega)) ?_
   rintro _ _ ⟨sv3, rfl, rfl⟩
   refine rMv rfl <|
    rwp_nil <|
    awp_region rfl <|
    rwp_det rfl rfl (det_add_nw rfl rfl rfl ⟨by omega, by omega⟩) <|
    rMv rfl <|
    rwp_nil ?_
   refine ⟨⟨k + 1, sv3⟩, (by omega), (by show (trailT n.Body way).length - (k + 1) < (trailT n.Body way).length - k; omega), Weak.mk [true] ⟨VLe.refl _, VLe.refl _, VLe.refl _, VLe.refl _, trivial⟩ (by exact mem1_eq (by rw [enc_step hs]; first | (rw [bdNm_yes c2, List.map_append]; rfl) | (rw [bdNm_no c2, List.append_nil])))⟩
  ·try simp only [sx] at c2
   refine awp_skip <|
    awp_region rfl <|
    rwp_det rfl rfl (det_add_nw rfl rfl rfl ⟨by omega, by omega⟩) <|
    rMv rfl <|
    rwp_nil ?_
   refine ⟨⟨k + 1, sv⟩, (by omega), (by show (trailT n.Body way).length - (k + 1) < (trailT n.Body way).length - k; omega), Weak.mk [true] ⟨VLe.refl _, VLe.refl _, VLe.refl _, VLe.refl _, trivial⟩ (by exact mem1_eq (by rw [enc_step hs]; first | (rw [bdNm_yes c2, List.map_append]; rfl) | (rw [bdNm_no c2, List.append_nil])))⟩
 ·try simp only [sx] at c1
  refine awp_exit <|
   awp_seq <|
   awp_weak _ (weak_freezeM 0 rfl (regs' := [(5, _)]) (μ' := []) ⟨FLe.sl, trivial⟩ trivial) <|
   awp_region rfl <|
   rMv rfl <|
   rMv rfl <|
   rwp_nil <|
   awp_ret <|
   fin1 (rs_c rfl) ?_
  rw [← enc_all (l := n.Body) (way := way) (k := k) (by omega)]

end Go.W
