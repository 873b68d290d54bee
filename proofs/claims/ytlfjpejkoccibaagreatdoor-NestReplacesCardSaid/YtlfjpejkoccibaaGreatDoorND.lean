/-
  Walks: what functions of the program compute. Printed by wip/gen/mk2.py.
  Conditions: none.
-/
import Derived.Test.YtlfjpejkoccibaaGreatDoorNC
import Derived.Test.YtlfjpejkoccibaaGreatDoorPlain2
set_option linter.unusedSimpArgs false
set_option linter.unusedVariables false
set_option maxRecDepth 10000
namespace Go.W
open Go Go.Eng Go.Proofs Go.L41 Go.Br
attribute [local irreducible] AWP RWP TD finQ

theorem ok30 : callOk Tryz.prog 30 = true := by kernel_rfl
theorem base_WeighStmts_step (l : List St) (ih : ∀ s, s ∈ l → ∀ (m : Nat) (x : Int), m ≤ 5000 → x = m → Pur cfg 30 [vSts s.Body, vI x] (vI (weighB s.Body m))) (m : Nat) (x : Int) (hf : fitS l) (hl : l.length ≤ 140737488355328) (hm : m ≤ 5000) (hx : x = m) :
    Pur cfg 30 [vSts l, vI x] (vI (weighB l m)) := by
 refine con_intro Tryz.func30 rfl Tryz.ntmps30 Tryz.results30 rfl ?_
 intro z hz
 have hwB : wB m ≤ 5700000000000000000 := by unfold wB; omega
 refine sReg rfl <|
  rMv rfl <|
  rwp_nil <|
  sReg rfl <|
  rMv rfl <|
  rwp_det rfl rfl (det_len_slm rfl el23 rfl) <|
  rMv rfl <|
  rwp_nil <|
  awp_seq <|
  sReg rfl <|
  rMv rfl <|
  rwp_nil <|
  awp_block <|
  awp_weak ⟨[(6, .c _), (5, .c _), (0, .c _), (1, .c _)], []⟩ (Weak.mk [] ⟨VLe.of_eq rfl, VLe.of_eq rfl, VLe.of_eq rfl, VLe.of_eq rfl, trivial⟩ rfl) <|
  awp_loop_k 2 0 rfl rfl (Nat × Nat) (fun ⟨k, n⟩ => [(6, vI k), (5, vI n)]) (fun ⟨k, n⟩ => []) (fun ⟨k, n⟩ => k ≤ l.length ∧ (n ≤ wB m) ∧ (l.length ≤ n) ∧ (weighB l m = weighSs (l.drop k) m n)) (fun ⟨k, n⟩ => l.length - k) ⟨⟨0, l.length⟩, ⟨by omega, by unfold wB; omega, by omega, rfl⟩, Weak.mk [] ⟨VLe.refl _, VLe.of_eq (congrArg vI (by simp)), VLe.refl _, VLe.refl _, trivial⟩ rfl⟩ ?_
 rintro ⟨k, n⟩ ⟨hk, hn1, hn2, hp⟩
 show AWP _ _ _ _ _ ⟨[(6, vI k), (5, vI n)] ++ _, [] ++ _⟩
 refine awp_seq <|
  sReg rfl <|
  rMv rfl <|
  rMv rfl <|
  rwp_det rfl rfl (det_len_slm rfl el23 rfl) <|
  rwp_det rfl rfl (det_lss rfl rfl rfl) <|
  rMv rfl <|
  rLz [] rfl gv1 trivial (fun g3_4 => det_move rfl rfl) rfl <|
  rLz [] rfl gv1 trivial (fun g3_4 => det_move rfl rfl) rfl <|
  rLz [(14, _), (15, _)] rfl gv1 ⟨rfl, rfl, rfl, rfl, trivial⟩ (fun g3_4 => det_leq rfl rfl rfl) rfl <|
  rwp_det rfl rfl (det_and rfl rfl rfl (fun h => h) rfl) <|
  rwp_nil <|
  awp_cond rfl (fun c1 => ?_) (fun c1 => ?_)
 ·try simp only [sx] at c1
  obtain ⟨s, hs⟩ := ex_get l k (by omega)
  have hsf := fitS_mem hf s (mem_of_get hs)
  obtain ⟨f1, f2, f3, f4, f5⟩ := St.fit_eq hsf
  have hwl := weigh_lt (n := n) hs hf hm (by omega) (by omega)
  refine awp_skip <|
   awp_seq <|
   awp_block <|
   awp_draw 30 mixed (by kernel_rfl) rfl rfl <|
   td_det rfl rfl (det_move rfl rfl) <|
   td_det rfl rfl (det_move rfl rfl) <|
   td_det rfl rfl (det_move rfl rfl) <|
   td_det rfl rfl (det_index_sl rfl el23 rfl rfl (by omega) (getmS hs)) <|
   td_det rfl rfl (det_field_imm rfl fd46_6 rfl) <|
   td_det rfl rfl (det_load_agg rfl agg44 rfl ptr_imm rfl) <|
   td_det rfl rfl (det_move rfl rfl) <|
   td_det rfl rfl (det_call rfl ok77 (base_Weigh s.E m x f3 (by omega) hx) ⟨VLe.refl _, rfl, VLe.refl _, rfl, trivial⟩) <|
   td_det rfl rfl (det_add_nw rfl rfl rfl ⟨by omega, by omega⟩) <|
   td_det rfl rfl (det_move rfl rfl) <|
   td_det rfl rfl (det_move rfl rfl) <|
   td_det rfl rfl (det_index_sl rfl el23 rfl rfl (by omega) (getmS hs)) <|
   td_det rfl rfl (det_field_imm rfl fd46_5 rfl) <|
   td_det rfl rfl (det_load_one rfl one34 rfl ptr_imm rfl) <|
   td_det rfl rfl (det_buildN [none, none, none, none, none, none, none, none, none, none, some 2, none, some 13] rfl zr44 pl44 rfl rfl) <|
   td_det rfl rfl (det_move rfl rfl) <|
   td_det rfl rfl (det_call rfl ok77 (base_Weigh (idxE s.Idx) m x (idxE_fit f1 f2) (by omega) hx) ⟨VLe.refl _, rfl, VLe.refl _, rfl, trivial⟩) <|
   td_det rfl rfl (det_add_nw rfl rfl rfl ⟨by omega, by omega⟩) <|
   td_det rfl rfl (det_move rfl rfl) <|
   td_det rfl rfl (det_move rfl rfl) <|
   td_det rfl rfl (det_index_sl rfl el23 rfl rfl (by omega) (getmS hs)) <|
   td_det rfl rfl (det_field_imm rfl fd46_7 rfl) <|
   td_det rfl rfl (det_load_one rfl one23 rfl ptr_imm rfl) <|
   td_det rfl rfl (det_move rfl rfl) <|
   td_det rfl rfl (det_move rfl rfl) <|
   td_det rfl rfl (det_sub_nw rfl rfl rfl ⟨by omega, by omega⟩) <|
   td_det rfl rfl (det_max rfl rfl rfl) <|
   td_det rfl rfl (det_call rfl ok30 (ih s (mem_of_get hs) (m - n) _ (by omega) (by omega)) ⟨VLe.refl _, rfl, VLe.refl _, rfl, trivial⟩) <|
   td_det rfl rfl (det_add_nw rfl rfl rfl ⟨by omega, by omega⟩) <|
   td_det rfl rfl (det_assign rfl rfl) <|
   td_nil <|
   rwp_nil <|
   awp_region rfl <|
   rMv rfl <|
   rwp_det rfl rfl (det_add_nw rfl rfl rfl ⟨by omega, by omega⟩) <|
   rMv rfl <|
   rwp_nil ?_
  refine ⟨⟨k + 1, n + weighE s.E m + weighE (idxE s.Idx) m + weighB s.Body (m - n)⟩, ⟨by omega, hwl, by omega, weighSs_next hs hp (by omega)⟩, (by show l.length - (k + 1) < l.length - k; omega), Weak.mk [] ⟨VLe.refl _, VLe.of_eq (congrArg vI (by omega)), VLe.refl _, VLe.refl _, trivial⟩ rfl⟩
 ·try simp only [sx] at c1
  refine awp_exit <|
   sReg rfl <|
   rMv rfl <|
   rMv rfl <|
   rwp_nil <|
   awp_ret <|
   fin1 (rs_c rfl) ?_
  exact congrArg vI (by rw [← weighSs_end hp hx (by omega)])

theorem base_WeighStmts_body (s : St) : ∀ (m : Nat) (x : Int), s.fit → m ≤ 5000 → x = m → Pur cfg 30 [vSts s.Body, vI x] (vI (weighB s.Body m)) := by
  induction s using St.ind with
  | _ s ih =>
    intro m x hf hm hx
    obtain ⟨_, _, _, f4, f5⟩ := St.fit_eq hf
    exact base_WeighStmts_step s.Body (fun a ha m x h1 h2 => ih a ha m x (fitS_mem f5 a ha) h1 h2) m x f5 f4 hm hx
theorem base_WeighStmts (l : List St) (m : Nat) (x : Int) (hf : fitS l) (hl : l.length ≤ 140737488355328) (hm : m ≤ 5000) (hx : x = m) : Pur cfg 30 [vSts l, vI x] (vI (weighB l m)) :=
  base_WeighStmts_step l (fun a ha m x h1 h2 => base_WeighStmts_body a m x (fitS_mem hf a ha) h1 h2) m x hf hl hm hx

end Go.W
