/-
  Walks: what functions of the program compute. Printed by wip/gen/mk2.py.
  Conditions: none.
-/
import Derived.Test.YtmmiedgoamlhpaaDoorYK
set_option linter.unusedSimpArgs false
set_option linter.unusedVariables false
set_option maxRecDepth 10000
namespace Go.W
open Go Go.Eng Go.Proofs Go.L41 Go.Br
attribute [local irreducible] AWP RWP TD finQ
theorem agg24 : aggT Tryd.prog 24 = some 4 := by kernel_rfl
theorem el37 : elemT Tryd.prog 37 = some (28, 1, 8) := by kernel_rfl
theorem ok4 : callOk Tryd.prog 4 = true := by kernel_rfl
theorem ok5 : callOk Tryd.prog 5 = true := by kernel_rfl
theorem ok6 : callOk Tryd.prog 6 = true := by kernel_rfl
theorem one28 : oneT Tryd.prog 28 = true := by kernel_rfl
theorem zr24 : zeroT Tryd.prog 24 = some [(Value.int IntKind.i64 0), (Value.int IntKind.i64 0), (Value.int IntKind.i64 0), (Value.slice none 0 0)] := by kernel_rfl
theorem zr28 : zeroT Tryd.prog 28 = some [(Value.pointer none)] := by kernel_rfl
theorem vm_ready_nil  :
    Pur cfg 14 [.c (.lit (.pointer none))] (vB false) := by
 refine con_intro Tryd.func14 rfl Tryd.ntmps14 Tryd.results14 rfl ?_
 intro z hz
 refine sReg rfl <|
  rMv rfl <|
  rwp_nil <|
  sReg rfl <|
  rMv rfl <|
  rwp_det rfl rfl (det_ptr_ne rfl rfl rfl un28) <|
  rMv rfl <|
  rLz [] rfl gv1 trivial (fun g1_2 => det_move rfl rfl) rfl <|
  rLz [(6, _)] rfl gv1 ⟨rfl, rfl, trivial⟩ (fun g1_2 => (show Det _ _ _ _ (.c (.lit (.pointer none))) _ from False.elim (by simp [Lz] at g1_2))) rfl <|
  rLz [(7, _)] rfl gv1 ⟨rfl, rfl, trivial⟩ (fun g1_2 => (show Det _ _ _ _ (.c (.lit (.pointer none))) _ from False.elim (by simp [Lz] at g1_2))) rfl <|
  rLz [(8, _)] rfl gv1 ⟨rfl, rfl, trivial⟩ (fun g1_2 => (show Det _ _ _ _ (.c (.lit (.bool false))) _ from False.elim (by simp [Lz] at g1_2))) rfl <|
  rwp_det rfl rfl (det_and rfl rfl rfl (fun h => h) rfl) <|
  rMv rfl <|
  rwp_nil <|
  awp_ret <|
  fin1 (rs_c rfl) ?_
 exact rfl

theorem vm_ready_zero  :
    Pur cfg 14 [.c (.iptr (zM.map .lit))] (vB false) := by
 refine con_intro Tryd.func14 rfl Tryd.ntmps14 Tryd.results14 rfl ?_
 intro z hz
 refine sReg rfl <|
  rMv rfl <|
  rwp_nil <|
  sReg rfl <|
  rMv rfl <|
  rwp_det rfl rfl (det_ptr_ne_imm rfl rfl rfl un28) <|
  rMv rfl <|
  rLz [] rfl gv1 trivial (fun g1_2 => det_move rfl rfl) rfl <|
  rLz [(6, _)] rfl gv1 ⟨rfl, rfl, trivial⟩ (fun g1_2 => det_nilcheck_imm rfl rfl) rfl <|
  rLz [(7, _)] rfl gv1 ⟨rfl, rfl, trivial⟩ (fun g1_2 => det_field_imm rfl fd36_0 rfl) rfl <|
  rLz [(8, _)] rfl gv1 ⟨rfl, rfl, trivial⟩ (fun g1_2 => det_load_one rfl one4 rfl ptr_imm rfl) rfl <|
  rwp_det rfl rfl (det_and rfl rfl rfl (fun h => h) rfl) <|
  rMv rfl <|
  rwp_nil <|
  awp_ret <|
  fin1 (rs_c rfl) ?_
 exact rfl

theorem dead_Step (c : C) (hc : Pur cfg 14 [.c c] (vB false))  :
    Pur cfg 11 [.c c] (.tup [vB false, vI 1]) := by
 refine con_intro Tryd.func11 rfl Tryd.ntmps11 Tryd.results11 rfl ?_
 intro z hz
 refine sReg rfl <|
  rMv rfl <|
  rMv rfl <|
  rwp_nil <|
  awp_seq <|
  awp_block <|
  sReg rfl <|
  rMv rfl <|
  rwp_det rfl rfl (det_call rfl ok14 hc ⟨VLe.refl _, rfl, trivial⟩) <|
  rwp_det rfl rfl (det_not rfl rfl) <|
  rMv rfl <|
  rwp_nil <|
  awp_cond rfl (fun c1 => ?_) (fun c1 => ?_)
 ·try simp only [sx] at c1
  refine sReg rfl <|
   rMv rfl <|
   rMv rfl <|
   rwp_nil <|
   awp_ret <|
   fin2 (rs_c rfl) (rs_c rfl) ?_
  exact rfl
 ·try simp only [sx] at c1
  exact absurd c1 (by simp [Lz])

theorem dead_Store (c : C) (hc : Pur cfg 14 [.c c] (vB false)) (a : Int) (v : List Vl)  :
    Pur cfg 12 [.c c, vI a, vVals v] (vI 1) := by
 refine con_intro Tryd.func12 rfl Tryd.ntmps12 Tryd.results12 rfl ?_
 intro z hz
 refine sReg rfl <|
  rMv rfl <|
  rwp_nil <|
  awp_seq <|
  sReg rfl <|
  rMv rfl <|
  rwp_det rfl rfl (det_call rfl ok14 hc ⟨VLe.refl _, rfl, trivial⟩) <|
  rwp_det rfl rfl (det_not rfl rfl) <|
  rwp_nil <|
  awp_cond rfl (fun c1 => ?_) (fun c1 => ?_)
 ·try simp only [sx] at c1
  refine sReg rfl <|
   rMv rfl <|
   rwp_nil <|
   awp_ret <|
   fin1 (rs_c rfl) ?_
  exact rfl
 ·try simp only [sx] at c1
  exact absurd c1 (by simp [Lz])

theorem dead_Load (c : C) (hc : Pur cfg 14 [.c c] (vB false)) (a m : Int)  :
    Pur cfg 13 [.c c, vI a, vI m] (.tup [vVals [], vI 1]) := by
 refine con_intro Tryd.func13 rfl Tryd.ntmps13 Tryd.results13 rfl ?_
 intro z hz
 refine sReg rfl <|
  rwp_det rfl rfl (det_assignN 2 rfl rfl) <|
  rMv rfl <|
  rwp_nil <|
  awp_seq <|
  sReg rfl <|
  rMv rfl <|
  rwp_det rfl rfl (det_call rfl ok14 hc ⟨VLe.refl _, rfl, trivial⟩) <|
  rwp_det rfl rfl (det_not rfl rfl) <|
  rwp_nil <|
  awp_cond rfl (fun c1 => ?_) (fun c1 => ?_)
 ·try simp only [sx] at c1
  refine sReg rfl <|
   rwp_det rfl rfl (det_assignN 2 rfl rfl) <|
   rMv rfl <|
   rwp_nil <|
   awp_ret <|
   fin2 (rs_c rfl) (rs_c rfl) ?_
  exact rfl
 ·try simp only [sx] at c1
  exact absurd c1 (by simp [Lz])

theorem dead_Run (c : C) (hc : Pur cfg 14 [.c c] (vB false)) (f : Int)  :
    Pur cfg 10 [.c c, vI f] (.tup [vI 0, vI 1]) := by
 refine con_intro Tryd.func10 rfl Tryd.ntmps10 Tryd.results10 rfl ?_
 intro z hz
 refine sReg rfl <|
  rMv rfl <|
  rMv rfl <|
  rwp_nil <|
  awp_seq <|
  sReg rfl <|
  rMv rfl <|
  rwp_det rfl rfl (det_call rfl ok14 hc ⟨VLe.refl _, rfl, trivial⟩) <|
  rwp_det rfl rfl (det_not rfl rfl) <|
  rMv rfl <|
  rLz [] rfl gv1 trivial (fun g1_3 => det_move rfl rfl) rfl <|
  rLz [(13, _)] rfl gv1 ⟨rfl, rfl, trivial⟩ (fun g1_3 => det_lss rfl rfl rfl) rfl <|
  rwp_det rfl rfl (det_or rfl rfl rfl rfl (fun h => (lzf h))) <|
  rMv rfl <|
  rLz [] rfl gv1 trivial (fun g1_7 => det_move rfl rfl) rfl <|
  rLz [(17, _)] rfl gv1 ⟨rfl, rfl, trivial⟩ (fun g1_7 => det_gtr rfl rfl rfl) rfl <|
  rwp_det rfl rfl (det_or rfl rfl rfl rfl (fun h => (lzf h))) <|
  rwp_nil <|
  awp_cond rfl (fun c1 => ?_) (fun c1 => ?_)
 ·refine sReg rfl <|
   rMv rfl <|
   rMv rfl <|
   rwp_nil <|
   awp_ret <|
   fin2 (rs_c rfl) (rs_c rfl) ?_
  exact rfl
 ·exact absurd c1 (by simp [Lz])

theorem dead_PC (c : C) (hc : Pur cfg 14 [.c c] (vB false))  :
    Pur cfg 7 [.c c] (vI 0) := by
 refine con_intro Tryd.func7 rfl Tryd.ntmps7 Tryd.results7 rfl ?_
 intro z hz
 refine sReg rfl <|
  rMv rfl <|
  rwp_nil <|
  awp_seq <|
  sReg rfl <|
  rMv rfl <|
  rwp_det rfl rfl (det_call rfl ok14 hc ⟨VLe.refl _, rfl, trivial⟩) <|
  rwp_det rfl rfl (det_not rfl rfl) <|
  rwp_nil <|
  awp_cond rfl (fun c1 => ?_) (fun c1 => ?_)
 ·try simp only [sx] at c1
  refine sReg rfl <|
   rMv rfl <|
   rwp_nil <|
   awp_ret <|
   fin1 (rs_c rfl) ?_
  exact rfl
 ·try simp only [sx] at c1
  exact absurd c1 (by simp [Lz])

theorem dead_IntRegisters (c : C) (hc : Pur cfg 14 [.c c] (vB false))  :
    Pur cfg 8 [.c c] (vIs []) := by
 refine con_intro Tryd.func8 rfl Tryd.ntmps8 Tryd.results8 rfl ?_
 intro z hz
 refine sReg rfl <|
  rwp_det rfl rfl (det_assignN 1 rfl rfl) <|
  rwp_nil <|
  awp_seq <|
  sReg rfl <|
  rMv rfl <|
  rwp_det rfl rfl (det_call rfl ok14 hc ⟨VLe.refl _, rfl, trivial⟩) <|
  rwp_det rfl rfl (det_not rfl rfl) <|
  rwp_nil <|
  awp_cond rfl (fun c1 => ?_) (fun c1 => ?_)
 ·try simp only [sx] at c1
  refine sReg rfl <|
   rwp_det rfl rfl (det_assignN 1 rfl rfl) <|
   rwp_nil <|
   awp_ret <|
   fin1 (rs_c rfl) ?_
  exact rfl
 ·try simp only [sx] at c1
  exact absurd c1 (by simp [Lz])

theorem dead_act (c : C) (hc : Pur cfg 14 [.c c] (vB false)) (x : Ac) :
    Pur cfg 6 [.c c, vAc x] (.tup [vI 0, vVals [], vI 1]) := by
 refine con_intro Tryd.func6 rfl Tryd.ntmps6 Tryd.results6 rfl ?_
 intro z hz
 refine sReg rfl <|
  rwp_op rfl rfl (ope_box rfl rfl) ?_
 rintro _ _ ⟨b1, rfl, rfl⟩
 refine rMv rfl <|
  rwp_det rfl rfl (det_assignN 2 rfl rfl) <|
  rMv rfl <|
  rwp_nil <|
  awp_seq <|
  sReg rfl <|
  rwp_det rfl rfl (det_field_lit rfl fd24_0 rfl) <|
  rwp_det rfl rfl (det_load_one rfl one3 rfl (ptr_row 0 rfl) rfl) <|
  rwp_nil <|
  awp_block <|
  sReg rfl <|
  rwp_det rfl rfl (det_eql rfl rfl rfl) <|
  rMv rfl <|
  rwp_nil <|
  awp_cond rfl (fun c1 => ?_) (fun c1 => ?_)
 ·try simp only [sx] at c1
  refine sReg rfl <|
   rMv rfl <|
   rwp_det rfl rfl (det_call rfl ok11 (dead_Step c hc) ⟨VLe.refl _, rfl, trivial⟩) <|
   rwp_det rfl rfl (det_move_tup rfl rfl) <|
   rwp_det rfl rfl (det_ex_c rfl rfl rfl) <|
   rwp_det rfl rfl (det_ex_c rfl rfl rfl) <|
   rMv rfl <|
   rMv rfl <|
   rwp_nil <|
   awp_seq <|
   sReg rfl <|
   rMv rfl <|
   rwp_nil <|
   awp_cond rfl (fun c2 => ?_) (fun c2 => ?_)
  ·try simp only [sx] at c2
   exact absurd c2 (by simp)
  ·try simp only [sx] at c2
   refine awp_skip <|
    sReg rfl <|
    rMv rfl <|
    rMv rfl <|
    rwp_det rfl rfl (det_assignN 2 rfl rfl) <|
    rMv rfl <|
    rwp_nil <|
    awp_ret <|
    fin3 (rs_c rfl) (rs_c rfl) (rs_c rfl) ?_
   exact rfl
 ·try simp only [sx] at c1
  refine sReg rfl <|
   rwp_det rfl rfl (det_eql rfl rfl rfl) <|
   rMv rfl <|
   rwp_nil <|
   awp_cond rfl (fun c3 => ?_) (fun c3 => ?_)
  ·try simp only [sx] at c3
   refine sReg rfl <|
    rMv rfl <|
    rwp_det rfl rfl (det_field_lit rfl fd24_1 rfl) <|
    rwp_det rfl rfl (det_load_one rfl one3 rfl (ptr_row 0 rfl) rfl) <|
    rwp_det rfl rfl (det_field_lit rfl fd24_3 rfl) <|
    rwp_det rfl rfl (det_load_one rfl one22 rfl (ptr_row 0 rfl) rfl) <|
    rwp_det rfl rfl (det_call rfl ok12 (dead_Store c hc x.At x.Vals) ⟨VLe.refl _, rfl, VLe.refl _, rfl, VLe.refl _, rfl, trivial⟩) <|
    rMv rfl <|
    rwp_det rfl rfl (det_assignN 2 rfl rfl) <|
    rMv rfl <|
    rwp_nil <|
    awp_ret <|
    fin3 (rs_c rfl) (rs_c rfl) (rs_c rfl) ?_
   exact rfl
  ·try simp only [sx] at c3
   refine sReg rfl <|
    rwp_det rfl rfl (det_eql rfl rfl rfl) <|
    rMv rfl <|
    rwp_nil <|
    awp_cond rfl (fun c4 => ?_) (fun c4 => ?_)
   ·try simp only [sx] at c4
    refine sReg rfl <|
     rMv rfl <|
     rwp_det rfl rfl (det_field_lit rfl fd24_1 rfl) <|
     rwp_det rfl rfl (det_load_one rfl one3 rfl (ptr_row 0 rfl) rfl) <|
     rwp_det rfl rfl (det_field_lit rfl fd24_2 rfl) <|
     rwp_det rfl rfl (det_load_one rfl one3 rfl (ptr_row 0 rfl) rfl) <|
     rwp_det rfl rfl (det_call rfl ok13 (dead_Load c hc x.At x.Many) ⟨VLe.refl _, rfl, VLe.refl _, rfl, VLe.refl _, rfl, trivial⟩) <|
     rwp_det rfl rfl (det_move_tup rfl rfl) <|
     rwp_det rfl rfl (det_ex_c rfl rfl rfl) <|
     rwp_det rfl rfl (det_ex_c rfl rfl rfl) <|
     rMv rfl <|
     rMv rfl <|
     rwp_nil <|
     sReg rfl <|
     rMv rfl <|
     rMv rfl <|
     rMv rfl <|
     rMv rfl <|
     rMv rfl <|
     rwp_nil <|
     awp_ret <|
     fin3 (rs_c rfl) (rs_c rfl) (rs_c rfl) ?_
    exact rfl
   ·try simp only [sx] at c4
    refine awp_skip <|
     sReg rfl <|
     rMv rfl <|
     rwp_det rfl rfl (det_field_lit rfl fd24_2 rfl) <|
     rwp_det rfl rfl (det_load_one rfl one3 rfl (ptr_row 0 rfl) rfl) <|
     rwp_det rfl rfl (det_call rfl ok10 (dead_Run c hc x.Many) ⟨VLe.refl _, rfl, VLe.refl _, rfl, trivial⟩) <|
     rwp_det rfl rfl (det_move_tup rfl rfl) <|
     rwp_det rfl rfl (det_ex_c rfl rfl rfl) <|
     rwp_det rfl rfl (det_ex_c rfl rfl rfl) <|
     rMv rfl <|
     rMv rfl <|
     rwp_nil <|
     sReg rfl <|
     rMv rfl <|
     rMv rfl <|
     rMv rfl <|
     rwp_det rfl rfl (det_assignN 2 rfl rfl) <|
     rMv rfl <|
     rwp_nil <|
     awp_ret <|
     fin3 (rs_c rfl) (rs_c rfl) (rs_c rfl) ?_
    exact rfl

def dl : List C := [.lit (.pointer none), .iptr (zM.map .lit)]
theorem fillZ : afill (nth [(0, 1), (1, 1), (2, 1), (3, 1), (4, 256), (260, 512), (772, 1), (773, 1)]) (zM.map .lit) [] = some (zM.map .lit) := rfl
theorem dl_dead {c : C} (h : c ∈ dl) : Pur cfg 14 [.c c] (vB false) := by
  rcases List.mem_cons.1 h with rfl | h
  · exact vm_ready_nil
  · rcases List.mem_cons.1 h with rfl | h
    · exact vm_ready_zero
    · cases h
theorem law49_VmNobody (x : Ac) (hx : x.Vals.length ≤ 140737488355328) :
    Pur cfg 3 [vAc x] (vB true) := by
 refine con_intro Tryd.func3 rfl Tryd.ntmps3 Tryd.results3 rfl ?_
 intro z hz
 have hdl : dl.length = 2 := rfl
 refine sReg rfl <|
  rwp_op rfl rfl (ope_box rfl rfl) ?_
 rintro _ _ ⟨b1, rfl, rfl⟩
 refine rMv rfl <|
  rwp_nil <|
  awp_seq <|
  sReg rfl <|
  rwp_det rfl rfl (det_load_agg rfl agg24 rfl (ptr_row 0 rfl) rfl) <|
  rwp_det rfl rfl (det_bslice rfl el26 zr24 rfl rfl rfl rfl) <|
  rwp_det rfl rfl (det_call rfl ok4 (law49_fewActs [x] (by simp)) ⟨VLe.refl _, rfl, trivial⟩) <|
  rwp_det rfl rfl (det_not rfl rfl) <|
  rwp_nil <|
  awp_cond rfl (fun c1 => ?_) (fun c1 => ?_)
 ·try simp only [sx] at c1
  refine sReg rfl <|
   rwp_det rfl rfl (det_call rfl ok5 (law49_live) trivial) <|
   rMv rfl <|
   rwp_nil <|
   awp_ret <|
   fin1 (rs_c rfl) ?_
  exact rfl
 ·try simp only [sx] at c1
  refine awp_skip <|
   sReg rfl <|
   rwp_det rfl rfl (det_build rfl zrM pl36 (fillZ)) <|
   rwp_op rfl rfl (ope_box rfl rfl) ?_
  rintro _ _ ⟨b2, rfl, rfl⟩
  refine rwp_weak _ (weak_freeze_row 0 rfl 14 _ PLe.ptr) <|
   rwp_det rfl rfl (det_bslice rfl el37 zr28 rfl rfl rfl rfl) ?_
  rw [show ([[C.lit (Value.pointer none)], [C.iptr (List.map C.lit zM)]] : List (List C)) = dl.map (fun c => [c]) from rfl]
  refine rMv rfl <|
   rwp_nil <|
   awp_seq <|
   sReg rfl <|
   rMv rfl <|
   rwp_nil <|
   awp_block <|
   awp_weak ⟨[(4, .c _), (1, .c _), (3, .c _)], [_]⟩ (Weak.mk [true] ⟨VLe.of_eq rfl, VLe.of_eq rfl, VLe.of_eq rfl, trivial⟩ rfl) <|
   awp_loop_k 1 0 rfl rfl (Nat) (fun k => [(4, vI k)]) (fun k => []) (fun k => k ≤ dl.length) (fun k => dl.length - k) ⟨0, (by omega), Weak.mk [true] ⟨VLe.refl _, VLe.refl _, VLe.refl _, trivial⟩ rfl⟩ ?_
  rintro k hk
  refine awp_seq <|
   sReg rfl <|
   rMv rfl <|
   rMv rfl <|
   rwp_det rfl rfl (det_len_sl rfl el37 rfl) <|
   rwp_det rfl rfl (det_lss rfl rfl rfl) <|
   rwp_nil <|
   awp_cond rfl (fun c2 => ?_) (fun c2 => ?_)
  ·try simp only [sx] at c2
   obtain ⟨c, hc⟩ := ex_get dl k (by omega)
   refine awp_skip <|
    awp_seq <|
    awp_block <|
    awp_seq <|
    awp_draw 13 mixed (by kernel_rfl) rfl rfl <|
    td_det rfl rfl (det_move rfl rfl) <|
    td_det rfl rfl (det_move rfl rfl) <|
    td_det rfl rfl (det_index_sl rfl el37 rfl rfl (by omega) (getm hc)) <|
    td_det rfl rfl (det_load_one rfl one28 rfl ptr_imm rfl) <|
    td_det rfl rfl (det_load_agg rfl agg24 rfl (ptr_row 0 rfl) rfl) <|
    td_det rfl rfl (det_call rfl ok6 (dead_act c (dl_dead (mem_of_get hc)) x) ⟨VLe.refl _, rfl, VLe.refl _, rfl, trivial⟩) <|
    td_det rfl rfl (det_move_tup rfl rfl) <|
    td_det rfl rfl (det_ex_c rfl rfl rfl) <|
    td_det rfl rfl (det_ex_c rfl rfl rfl) <|
    td_det rfl rfl (det_ex_c rfl rfl rfl) <|
    td_det rfl rfl (det_assign rfl rfl) <|
    td_det rfl rfl (det_assign rfl rfl) <|
    td_det rfl rfl (det_assign rfl rfl) <|
    td_nil <|
    rwp_nil <|
    sReg rfl <|
    rMv rfl <|
    rwp_det rfl rfl (det_neq rfl rfl rfl) <|
    rMv rfl <|
    rLz [] rfl gv1 trivial (fun g8_2 => det_move rfl rfl) rfl <|
    rLz [(35, _)] rfl gv1 ⟨rfl, rfl, trivial⟩ (fun g8_2 => det_len_slm rfl el22 rfl) rfl <|
    rLz [(36, _)] rfl gv1 ⟨rfl, rfl, trivial⟩ (fun g8_2 => det_neq rfl rfl rfl) rfl <|
    rwp_det rfl rfl (det_or rfl rfl rfl rfl (fun h => (lzf h))) <|
    rMv rfl <|
    rLz [] rfl gv1 trivial (fun g8_7 => det_move rfl rfl) rfl <|
    rLz [(40, _)] rfl gv1 ⟨rfl, rfl, trivial⟩ (fun g8_7 => det_neq rfl rfl rfl) rfl <|
    rwp_det rfl rfl (det_or rfl rfl rfl rfl (fun h => (lzf h))) <|
    rMv rfl <|
    rLz [] rfl gv1 trivial (fun g8_11 => det_move rfl rfl) rfl <|
    rLz [] rfl gv1 trivial (fun g8_11 => det_move rfl rfl) rfl <|
    rLz [(44, _), (45, _)] rfl gv1 ⟨rfl, rfl, rfl, rfl, trivial⟩ (fun g8_11 => det_index_sl rfl el37 rfl rfl (by omega) (getm hc)) rfl <|
    rLz [(46, _)] rfl gv1 ⟨rfl, rfl, trivial⟩ (fun g8_11 => det_load_one rfl one28 rfl ptr_imm rfl) rfl <|
    rLz [(47, _)] rfl gv1 ⟨rfl, rfl, trivial⟩ (fun g8_11 => det_call rfl ok7 (dead_PC c (dl_dead (mem_of_get hc))) ⟨VLe.refl _, rfl, trivial⟩) rfl <|
    rLz [(48, _)] rfl gv1 ⟨rfl, rfl, trivial⟩ (fun g8_11 => det_neq rfl rfl rfl) rfl <|
    rwp_det rfl rfl (det_or rfl rfl rfl rfl (fun h => (lzf h))) <|
    rMv rfl <|
    rLz [] rfl gv1 trivial (fun g8_19 => det_move rfl rfl) rfl <|
    rLz [] rfl gv1 trivial (fun g8_19 => det_move rfl rfl) rfl <|
    rLz [(52, _), (53, _)] rfl gv1 ⟨rfl, rfl, rfl, rfl, trivial⟩ (fun g8_19 => det_index_sl rfl el37 rfl rfl (by omega) (getm hc)) rfl <|
    rLz [(54, _)] rfl gv1 ⟨rfl, rfl, trivial⟩ (fun g8_19 => det_load_one rfl one28 rfl ptr_imm rfl) rfl <|
    rLz [(55, _)] rfl gv1 ⟨rfl, rfl, trivial⟩ (fun g8_19 => det_call rfl ok8 (dead_IntRegisters c (dl_dead (mem_of_get hc))) ⟨VLe.refl _, rfl, trivial⟩) rfl <|
    rLz [(56, _)] rfl gv1 ⟨rfl, rfl, trivial⟩ (fun g8_19 => det_len_slm rfl el42 rfl) rfl <|
    rLz [(57, _)] rfl gv1 ⟨rfl, rfl, trivial⟩ (fun g8_19 => det_neq rfl rfl rfl) rfl <|
    rwp_det rfl rfl (det_or rfl rfl rfl rfl (fun h => (lzf h))) <|
    rwp_nil <|
    awp_cond rfl (fun c3 => ?_) (fun c3 => ?_)
   ·exact absurd c3 (by simp [Lz])
   ·refine awp_skip <|
     awp_region rfl <|
     rMv rfl <|
     rwp_det rfl rfl (det_add_nw rfl rfl rfl ⟨by omega, by omega⟩) <|
     rMv rfl <|
     rwp_nil ?_
    refine ⟨k + 1, (by omega), (by omega), Weak.mk [true] ⟨VLe.refl _, VLe.refl _, VLe.refl _, trivial⟩ rfl⟩
  ·try simp only [sx] at c2
   refine awp_exit <|
    sReg rfl <|
    rwp_det rfl rfl (det_call rfl ok5 (law49_live) trivial) <|
    rMv rfl <|
    rwp_nil <|
    awp_ret <|
    fin1 (rs_c rfl) ?_
   exact rfl

end Go.W
