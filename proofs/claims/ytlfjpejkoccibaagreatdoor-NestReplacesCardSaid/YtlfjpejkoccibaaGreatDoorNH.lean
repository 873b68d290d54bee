/-
  Walks: what functions of the program compute. Printed by wip/gen/mk2.py.
  Conditions: none.
-/
import Derived.Test.YtlfjpejkoccibaaGreatDoorNI
import Derived.Test.YtlfjpejkoccibaaGreatDoorCfgI
set_option linter.unusedSimpArgs false
set_option linter.unusedVariables false
set_option maxRecDepth 10000
namespace Go.W
open Go Go.Eng Go.Proofs Go.L41 Go.Br
attribute [local irreducible] AWP RWP TD finQ
theorem ok84 : callOk Tryz.prog 84 = true := by kernel_rfl
theorem ok85 : callOk Tryz.prog 85 = true := by kernel_rfl
theorem ok86 : callOk Tryz.prog 86 = true := by kernel_rfl
theorem ok88 : callOk Tryz.prog 88 = true := by kernel_rfl
theorem one125 : oneT Tryz.prog 125 = true := by kernel_rfl
theorem one126 : oneT Tryz.prog 126 = true := by kernel_rfl
theorem sm125 : smapT Tryz.prog 125 = some (Value.bool false) := by kernel_rfl
theorem sz125 : (Tryz.prog.info? 125).map (·.size) = some 1 := by kernel_rfl
theorem sz126 : (Tryz.prog.info? 126).map (·.size) = some 1 := by kernel_rfl
theorem zr125 : zeroT Tryz.prog 125 = some [(Value.map none)] := by kernel_rfl
theorem zr126 : zeroT Tryz.prog 126 = some [Value.nilFunc] := by kernel_rfl
theorem fresh_mark (mb : Nat) (m : BM) (l : Lf) (hl : l.L.length ≤ 4294967296) :
    Con cfg 84 [vLin l, .c (.iptr [.lit (.map (some mb))])] [E.blk mb (MapR vB (m))] fun r μ' => r = .tup [vLin l, vI 0] ∧ μ' = [E.blk mb (MapR vB ((namesF l).foldl putB m))] := by
 refine Con.drop <|
  con_intro Tryz.func84 rfl Tryz.ntmps84 Tryz.results84 rfl ?_
 intro z hz
 refine sReg rfl <|
  rwp_op rfl rfl (ope_box rfl rfl) ?_
 rintro _ _ ⟨b1, rfl, rfl⟩
 refine rwp_op rfl rfl (ope_allocN [none, some 2] rfl zr41 rfl) ?_
 rintro _ _ ⟨b2, rfl, rfl⟩
 refine rMv rfl <|
  rwp_nil <|
  awp_seq <|
  sReg rfl <|
  rwp_det rfl rfl (det_field_lit rfl fd41_1 rfl) <|
  rwp_det rfl rfl (det_load_one rfl one39 rfl (ptr_row 1 rfl) rfl) <|
  rwp_det rfl rfl (det_len_slm rfl el39 rfl) <|
  rMv rfl <|
  rwp_nil <|
  awp_block <|
  awp_weak ⟨[(10, .c _), (1, .c _), (2, .c _), (3, .c _), (8, .c _), (9, .c _)], [_, _, _]⟩ (Weak.mk [true, true, true] ⟨VLe.of_eq rfl, VLe.of_eq rfl, VLe.of_eq rfl, VLe.of_eq rfl, VLe.of_eq rfl, VLe.of_eq rfl, trivial⟩ rfl) <|
  awp_loop_k 1 3 rfl rfl (Nat) (fun k => [(10, vI k)]) (fun k => [E.row b2 41 [cI 0, .sl 2 []], E.row b1 41 l.cells, E.blk mb (MapR vB (((l.L.take k).map Mono.Name).foldl putB m))]) (fun k => k ≤ l.L.length) (fun k => l.L.length - k) ⟨0, (by omega), Weak.mk [true, true, true] ⟨VLe.refl _, VLe.refl _, VLe.refl _, VLe.refl _, VLe.refl _, VLe.refl _, trivial⟩ rfl⟩ ?_
 rintro k hk
 refine sReg rfl <|
  rwp_det rfl rfl (det_lss rfl rfl rfl) <|
  rwp_nil <|
  awp_seq <|
  awp_cond rfl (fun c1 => ?_) (fun c1 => ?_)
 ·try simp only [sx] at c1
  obtain ⟨q, hq⟩ := ex_get l.L k (by omega)
  refine awp_skip <|
   awp_seq <|
   awp_block <|
   sReg rfl <|
   rwp_det rfl rfl (det_index_sl rfl el39 rfl rfl (by omega) (getm (by assumption))) <|
   rwp_det rfl rfl (det_load_agg rfl agg69 rfl ptr_imm rfl) <|
   rwp_op rfl rfl (ope_alloc rfl zr69) ?_
  rintro _ _ ⟨b3, rfl, rfl⟩
  refine rwp_det0 rfl rfl (det_store rfl sz69 rfl rfl rfl (st_row 0 rfl rfl)) <|
   rwp_nil <|
   awp_region rfl <|
   rwp_det rfl rfl (det_load_one rfl one125 rfl ptr_imm rfl) <|
   rwp_det rfl rfl (det_field_lit rfl fd69_0 rfl) <|
   rwp_det rfl rfl (det_load_one rfl one9 rfl (ptr_row 0 rfl) rfl) <|
   rwp_det0 rfl rfl (det_mapput 3 true rfl sm125 rfl rfl rfl (VLe.refl _) rfl) <|
   rwp_nil <|
   awp_region rfl <|
   rwp_det rfl rfl (det_add_nw rfl rfl rfl ⟨by omega, by omega⟩) <|
   rMv rfl <|
   rwp_nil ?_
  refine ⟨k + 1, (by omega), (by omega), Weak.mk [false, true, true, true] ⟨VLe.refl _, VLe.refl _, VLe.refl _, VLe.refl _, VLe.refl _, VLe.refl _, trivial⟩ (by rw [namesM_next hq, List.foldl_append]; rfl)⟩
 ·try simp only [sx] at c1
  refine awp_exit <|
   sReg rfl <|
   rwp_det rfl rfl (det_load_agg rfl agg41 rfl (ptr_row 1 rfl) rfl) <|
   rwp_det0 rfl rfl (det_store rfl sz41 rfl rfl rfl (st_row 0 rfl rfl)) <|
   rMv rfl <|
   rwp_nil <|
   awp_ret <|
   fin2 (rs_cell_agg agg41 rfl (ptr_row 0 rfl) rfl) (rs_c rfl) ?_
  rw [take_all (l := l.L) (k := k) (by omega)]
  exact ⟨rfl, [_, _], rfl⟩

theorem mapIndices_mark (mb : Nat) (m : BM) (i : List Ix) (hi : i.length ≤ 536870912) (hw : idxWt i ≤ 536870912) :
    Con cfg 87 [vIndices i, .c (.fn (.func 84) [] [.iptr [.lit (.map (some mb))]])] [E.blk mb (MapR vB (m))] fun r μ' => r = .tup [vIndices i, vI 0] ∧ μ' = [E.blk mb (MapR vB ((namesI i).foldl putB m))] := by
 refine Con.drop <|
  con_intro Tryz.func87 rfl Tryz.ntmps87 Tryz.results87 rfl ?_
 intro z hz
 refine sReg rfl <|
  rwp_det rfl rfl (det_assignN 4 rfl rfl) <|
  rMv rfl <|
  rwp_nil <|
  sReg rfl <|
  rMv rfl <|
  rwp_op rfl rfl (ope_call_own rfl ok133 (slices_Clone_ix i (by omega)) ⟨VLe.refl _, rfl, trivial⟩) ?_
 rintro _ _ ⟨sv1, rfl, rfl⟩
 refine rMv rfl <|
  rwp_nil <|
  sReg rfl <|
  rMv rfl <|
  rwp_nil <|
  awp_seq <|
  sReg rfl <|
  rMv rfl <|
  rwp_det rfl rfl (det_len_slm rfl el34 rfl) <|
  rMv rfl <|
  rwp_nil <|
  awp_block <|
  awp_weak ⟨[(14, .c _), (0, .c _), (1, .c _), (6, .c _), (13, .c _)], [_, _]⟩ (Weak.mk [true, true] ⟨VLe.of_eq rfl, VLe.of_eq rfl, VLe.of_eq rfl, VLe.of_eq rfl, VLe.of_eq rfl, trivial⟩ rfl) <|
  awp_loop_k 1 2 rfl rfl (Nat) (fun k => [(14, vI k)]) (fun k => [E.vec sv1 72 4 ((i.take k).map Ix.cells ++ (i.drop k).map Ix.cells), E.blk mb (MapR vB ((((i.take k).flatMap ixF).flatMap namesF).foldl putB m))]) (fun k => k ≤ i.length) (fun k => i.length - k) ⟨0, (by omega), Weak.mk [true, true] ⟨VLe.refl _, VLe.refl _, VLe.refl _, VLe.refl _, VLe.refl _, trivial⟩ rfl⟩ ?_
 rintro k hk
 refine sReg rfl <|
  rwp_det rfl rfl (det_lss rfl rfl rfl) <|
  rwp_nil <|
  awp_seq <|
  awp_cond rfl (fun c1 => ?_) (fun c1 => ?_)
 ·try simp only [sx] at c1
  obtain ⟨x, hx⟩ := ex_get i k (by omega)
  have hxw := idxWt_mem (mem_of_get hx)
  rw [Ix.wt] at hxw
  refine awp_skip <|
   awp_seq <|
   awp_block <|
   sReg rfl <|
   rMv rfl <|
   rMv rfl <|
   rwp_nil <|
   awp_seq <|
   sReg rfl <|
   rMv rfl <|
   rMv rfl <|
   rMv rfl <|
   rMv rfl <|
   rMv rfl <|
   rwp_det rfl rfl (det_index_sl rfl el34 rfl rfl (by omega) (getm (by assumption))) <|
   rwp_det rfl rfl (det_field_imm rfl fd72_0 rfl) <|
   rwp_det rfl rfl (det_load_agg rfl agg41 rfl ptr_imm rfl) <|
   rwp_op rfl rfl (ope_val_reg 1 rfl rfl rfl (FnCon.of_con (first := []) (cap := [.iptr [.lit (.map (some mb))]]) (args := [vLin x.Lin]) ok84 (fresh_mark mb _ x.Lin (by omega))) ⟨VLe.refl _, rfl, trivial⟩) ?_
  rintro _ _ ⟨rfl, rfl⟩
  refine rwp_det rfl rfl (det_move_tup rfl rfl) <|
   rwp_det rfl rfl (det_ex_agg rfl rfl rfl) <|
   rwp_det rfl rfl (det_ex_c rfl rfl rfl) <|
   rwp_det rfl rfl (det_index_vec 0 rfl el34 rfl rfl rfl (by omega) (mid_len (by simp; omega) (by omega))) <|
   rwp_det rfl rfl (det_field_vec rfl fd72_0 rfl) <|
   rwp_det0 rfl rfl (det_store rfl sz41 rfl rfl rfl (st_vec 0 rfl (mid_get (by simp; omega) hx) rfl)) <|
   rMv rfl <|
   rwp_nil <|
   sReg rfl <|
   rMv rfl <|
   rwp_det rfl rfl (det_neq rfl rfl rfl) <|
   rwp_nil <|
   awp_cond rfl (fun c2 => ?_) (fun c2 => ?_)
  ·try simp only [sx] at c2
   exact absurd trivial c2
  ·try simp only [sx] at c2
   refine awp_skip <|
    sReg rfl <|
    rMv rfl <|
    rMv rfl <|
    rMv rfl <|
    rMv rfl <|
    rwp_det rfl rfl (det_index_sl rfl el34 rfl rfl (by omega) (getm (by assumption))) <|
    rwp_det rfl rfl (det_field_imm rfl fd72_2 rfl) <|
    rwp_det rfl rfl (det_load_one rfl one70 rfl ptr_imm rfl) <|
    rwp_op rfl rfl (ope_call_own rfl ok134 (slices_Clone_lin x.At (by omega)) ⟨VLe.refl _, rfl, trivial⟩) ?_
   rintro _ _ ⟨sv2, rfl, rfl⟩
   refine rwp_det rfl rfl (det_index_vec 1 rfl el34 rfl rfl rfl (by omega) (by simp; omega)) <|
    rwp_det rfl rfl (det_field_vec rfl fd72_2 rfl) <|
    rwp_det0 rfl rfl (det_store rfl sz70 rfl rfl rfl (st_vec 1 rfl (set_get (by simp; omega)) rfl)) <|
    rwp_nil <|
    sReg rfl <|
    rMv rfl <|
    rMv rfl <|
    rwp_det rfl rfl (det_index_sl rfl el34 rfl rfl (by omega) (getm (by assumption))) <|
    rwp_det rfl rfl (det_field_imm rfl fd72_2 rfl) <|
    rwp_det rfl rfl (det_load_one rfl one70 rfl ptr_imm rfl) <|
    rwp_det rfl rfl (det_len_slm rfl el70 rfl) <|
    rMv rfl <|
    rwp_nil <|
    awp_block <|
    awp_weak ⟨[(50, .c _), (0, .c _), (1, .c _), (6, .c _), (8, .c _), (13, .c _), (14, .c _), (49, .c _)], [_, _, _]⟩ (Weak.mk [true, true, true] ⟨VLe.of_eq rfl, VLe.of_eq rfl, VLe.of_eq rfl, VLe.of_eq rfl, VLe.of_eq rfl, VLe.of_eq rfl, VLe.of_eq rfl, VLe.of_eq rfl, trivial⟩ rfl) <|
    awp_loop_k 1 3 rfl rfl (Nat) (fun j => [(50, vI j)]) (fun j => [E.vec sv2 41 2 ((x.At.take j).map Lf.cells ++ (x.At.drop j).map Lf.cells), E.vec sv1 72 4 _, E.blk mb (MapR vB (((x.At.take j).flatMap namesF).foldl putB ((namesF x.Lin).foldl putB ((((i.take k).flatMap ixF).flatMap namesF).foldl putB m))))]) (fun j => j ≤ x.At.length) (fun j => x.At.length - j) ⟨0, (by omega), Weak.mk [true, true, true] ⟨VLe.refl _, VLe.refl _, VLe.refl _, VLe.refl _, VLe.refl _, VLe.refl _, VLe.refl _, VLe.refl _, trivial⟩ rfl⟩ ?_
   rintro j hj
   refine sReg rfl <|
    rwp_det rfl rfl (det_lss rfl rfl rfl) <|
    rwp_nil <|
    awp_seq <|
    awp_cond rfl (fun c3 => ?_) (fun c3 => ?_)
   ·try simp only [sx] at c3
    obtain ⟨l, hl⟩ := ex_get x.At j (by omega)
    have hlw := linsWt_mem (mem_of_get hl)
    refine awp_skip <|
     awp_seq <|
     awp_block <|
     sReg rfl <|
     rMv rfl <|
     rMv rfl <|
     rwp_nil <|
     awp_seq <|
     awp_draw_c 21 0 [⟨0, .q []⟩, ⟨1, .q []⟩, ⟨2, .q [1]⟩, ⟨3, .q []⟩, ⟨4, .q [1]⟩, ⟨5, .q []⟩, ⟨6, .q []⟩, ⟨7, .q []⟩, ⟨8, .q []⟩, ⟨9, .q []⟩, ⟨10, .q []⟩, ⟨11, .q []⟩, ⟨12, .q []⟩, ⟨13, .q []⟩, ⟨14, .q []⟩, ⟨15, .e 2 []⟩, ⟨16, .q []⟩, ⟨17, .q []⟩, ⟨18, .q []⟩, ⟨19, .q [0]⟩, ⟨20, .e 0 []⟩] mixed (by kernel_rfl) (by kernel_rfl) rfl rfl rfl <|
     fx_skip rfl <|
     fx_skip rfl <|
     fx_skip rfl <|
     fx_skip rfl <|
     fx_skip rfl <|
     fx_skip rfl <|
     fx_skip rfl <|
     fx_skip rfl <|
     fx_skip rfl <|
     fx_skip rfl <|
     fx_skip rfl <|
     fx_skip rfl <|
     fx_skip rfl <|
     fx_skip rfl <|
     fx_skip rfl <|
     fx_skip rfl <|
     fx_skip rfl <|
     fx_skip rfl <|
     fx_skip rfl <|
     fx_skip rfl <|
     fx_skip rfl <|
     fx_nil <|
     sq_det rfl (by decide) rfl rfl (det_move rfl rfl) <|
     sq_det rfl (by decide) rfl rfl (det_move rfl rfl) <|
     sq_det rfl (by decide) rfl rfl (det_index_vec 0 rfl el34 rfl rfl rfl (by omega) (by simp; omega)) <|
     sq_det rfl (by decide) rfl rfl (det_field_vec rfl fd72_2 rfl) <|
     sq_det rfl (by decide) rfl rfl (det_load_one rfl one70 rfl (ptr_vec 0 rfl (set_get (by simp; omega))) rfl) <|
     sq_det rfl (by decide) rfl rfl (det_move rfl rfl) <|
     sq_det rfl (by decide) rfl rfl (det_move rfl rfl) <|
     sq_det rfl (by decide) rfl rfl (det_move rfl rfl) <|
     sq_det rfl (by decide) rfl rfl (det_move rfl rfl) <|
     sq_det rfl (by decide) rfl rfl (det_index_sl rfl el34 rfl rfl (by omega) (getm (by assumption))) <|
     sq_det rfl (by decide) rfl rfl (det_field_imm rfl fd72_2 rfl) <|
     sq_det rfl (by decide) rfl rfl (det_load_one rfl one70 rfl ptr_imm rfl) <|
     sq_det rfl (by decide) rfl rfl (det_move rfl rfl) <|
     sq_det rfl (by decide) rfl rfl (det_index_sl rfl el70 rfl rfl (by omega) (getm (by assumption))) <|
     sq_det rfl (by decide) rfl rfl (det_load_agg rfl agg41 rfl ptr_imm rfl) <|
     sq_op rfl rfl (by decide) rfl rfl (ope_val_reg 0 rfl rfl rfl (FnCon.of_con (first := []) (cap := [.iptr [.lit (.map (some mb))]]) (args := [vLin l]) ok84 (fresh_mark mb _ l (by omega))) ⟨VLe.refl _, rfl, trivial⟩) ?_
    rintro _ _ ⟨rfl, rfl⟩
    refine ⟨_, rfl, ?_⟩
    refine sq_det rfl (by decide) rfl rfl (det_move_tup rfl rfl) <|
     sq_det rfl (by decide) rfl rfl (det_ex_agg rfl rfl rfl) <|
     sq_det rfl (by decide) rfl rfl (det_ex_c rfl rfl rfl) <|
     sq_det rfl (by decide) rfl rfl (det_index_vec 0 rfl el70 rfl rfl rfl (by omega) (mid_len (by simp; omega) (by omega))) <|
     sq_op0 rfl rfl (by decide) rfl rfl (det_store rfl sz41 rfl rfl rfl (st_vec 0 rfl (mid_get (by simp; omega) hl) rfl)) ?_
    rintro _ _ ⟨rfl, rfl⟩
    refine ⟨_, rfl, ?_⟩
    refine sq_nil rfl <|
     rMv rfl <|
     rwp_nil <|
     sReg rfl <|
     rMv rfl <|
     rwp_det rfl rfl (det_neq rfl rfl rfl) <|
     rwp_nil <|
     awp_cond rfl (fun c4 => ?_) (fun c4 => ?_)
    ·try simp only [sx] at c4
     exact absurd trivial c4
    ·try simp only [sx] at c4
     refine awp_skip <|
      awp_region rfl <|
      rwp_det rfl rfl (det_add_nw rfl rfl rfl ⟨by omega, by omega⟩) <|
      rMv rfl <|
      rwp_nil ?_
     refine ⟨j + 1, (by omega), (by omega), Weak.mk [true, true, true] ⟨VLe.refl _, VLe.refl _, VLe.refl _, VLe.refl _, VLe.refl _, VLe.refl _, VLe.refl _, VLe.refl _, trivial⟩ (by simp only [Int.toNat_natCast]; rw [mid_set (by simp; omega) hl, mark_at hl, take_next hl]; simp only [List.map_append, List.map_cons, List.map_nil]; rfl)⟩
   ·try simp only [sx] at c3
    rw [drop_end (l := x.At) (k := j) (by omega), take_all (l := x.At) (k := j) (by omega)]
    simp only [List.map_nil, List.append_nil]
    refine awp_weak _ (weak_freezeM 0 rfl (regs' := []) (μ' := [_, _]) trivial ⟨EFle.vec (r' := [_, _, _, _]) (set_get (by simp; omega)) ⟨.inl rfl, .inl rfl, .inl rfl, .inr ⟨rfl, rfl⟩, trivial⟩, EFle.refl _, trivial⟩) <|
     awp_exit <|
     awp_region rfl <|
     rwp_det rfl rfl (det_add_nw rfl rfl rfl ⟨by omega, by omega⟩) <|
     rMv rfl <|
     rwp_nil ?_
    refine ⟨k + 1, (by omega), (by omega), Weak.mk [true, true] ⟨VLe.refl _, VLe.refl _, VLe.refl _, VLe.refl _, VLe.refl _, trivial⟩ (by simp only [Int.toNat_natCast, List.set_set]; rw [mid_set (by simp; omega) hx, mark_ix hx, take_next hx]; simp only [List.map_append, List.map_cons, List.map_nil]; rfl)⟩
 ·try simp only [sx] at c1
  rw [drop_end (l := i) (k := k) (by omega), take_all (l := i) (k := k) (by omega)]
  simp only [List.map_nil, List.append_nil]
  refine awp_weak _ (weak_freezeM 0 rfl (regs' := [(6, _)]) (μ' := [_]) ⟨FLe.sl, trivial⟩ ⟨EFle.refl _, trivial⟩) <|
   awp_exit <|
   sReg rfl <|
   rMv rfl <|
   rMv rfl <|
   rMv rfl <|
   rwp_nil <|
   awp_ret <|
   fin2 (rs_c rfl) (rs_c rfl) ?_
  exact ⟨rfl, [], rfl⟩

theorem fresh_stmt (mb : Nat) (m : BM) (s : St) (w : List Int) (hs : s.wt ≤ 536870912) :
    Con cfg 85 [vSt s, vIs w, .c (.iptr [.lit (.map (some mb))]), .c (.iptr [.fn (.func 84) [] [.iptr [.lit (.map (some mb))]]])] [E.blk mb (MapR vB (m))] fun r μ' => r = vB true ∧ μ' = [E.blk mb (MapR vB ((markHd s).foldl putB m))] := by
 refine Con.drop <|
  con_intro Tryz.func85 rfl Tryz.ntmps85 Tryz.results85 rfl ?_
 intro z hz
 have hse := St.wt_eq s
 have hil : (indexT s.E).length ≤ s.E.wt := by have h1 := thin_len (sortB (namesA (nodes s.E))); have h2 := sortB_len (namesA (nodes s.E)); have h3 := namesA_len s.E; unfold indexT; omega
 refine sReg rfl <|
  rwp_op rfl rfl (ope_box rfl rfl) ?_
 rintro _ _ ⟨b1, rfl, rfl⟩
 refine rMv rfl <|
  rwp_nil <|
  awp_seq <|
  sReg rfl <|
  rwp_det rfl rfl (det_field_lit rfl fd46_0 rfl) <|
  rwp_det rfl rfl (det_load_one rfl one3 rfl (ptr_row 0 rfl) rfl) <|
  rwp_det rfl rfl (det_eql rfl rfl rfl) <|
  rwp_nil <|
  awp_cond rfl (fun c1 => ?_) (fun c1 => ?_)
 ·try simp only [sx] at c1
  refine awp_region rfl <|
   rwp_det rfl rfl (det_load_one rfl one125 rfl ptr_imm rfl) <|
   rwp_det rfl rfl (det_field_lit rfl fd46_1 rfl) <|
   rwp_det rfl rfl (det_load_one rfl one9 rfl (ptr_row 0 rfl) rfl) <|
   rwp_det0 rfl rfl (det_mapput 1 true rfl sm125 rfl rfl rfl (VLe.refl _) rfl) <|
   rwp_nil <|
   awp_seq <|
   sReg rfl <|
   rwp_det rfl rfl (det_field_lit rfl fd46_6 rfl) <|
   rwp_det rfl rfl (det_load_agg rfl agg44 rfl (ptr_row 0 rfl) rfl) <|
   rwp_det rfl rfl (det_call rfl ok86 (OwnR.pur (expr_IndexNames s.E (by omega))) ⟨VLe.refl _, rfl, trivial⟩) <|
   rwp_det rfl rfl (det_len_slm rfl el105 rfl) <|
   rMv rfl <|
   rwp_nil <|
   awp_block <|
   awp_weak ⟨[(19, .c _), (2, .c _), (3, .c _), (4, .c _), (17, .c _), (18, .c _)], [_, _]⟩ (Weak.mk [true, true] ⟨VLe.of_eq rfl, VLe.of_eq rfl, VLe.of_eq rfl, VLe.of_eq rfl, VLe.of_eq rfl, VLe.of_eq rfl, trivial⟩ rfl) <|
   awp_loop_k 1 2 rfl rfl (Nat) (fun k => [(19, vI k)]) (fun k => [E.row b1 46 s.cs, E.blk mb (MapR vB ((loopNm s ++ (indexT s.E).take k).foldl putB m))]) (fun k => k ≤ (indexT s.E).length) (fun k => (indexT s.E).length - k) ⟨0, (by omega), Weak.mk [true, true] ⟨VLe.refl _, VLe.refl _, VLe.refl _, VLe.refl _, VLe.refl _, VLe.refl _, trivial⟩ (by first | (rw [show loopNm s = [s.Name] from if_pos c1]; rfl) | (rw [show loopNm s = [] from if_neg c1]; rfl))⟩ ?_
  rintro k hk
  refine sReg rfl <|
   rwp_det rfl rfl (det_lss rfl rfl rfl) <|
   rwp_nil <|
   awp_seq <|
   awp_cond rfl (fun c2 => ?_) (fun c2 => ?_)
  ·try simp only [sx] at c2
   obtain ⟨t, ht⟩ := ex_get (indexT s.E) k (by omega)
   refine awp_skip <|
    awp_seq <|
    awp_block <|
    sReg rfl <|
    rwp_det rfl rfl (det_index_sl rfl el105 rfl rfl (by omega) (getm (by assumption))) <|
    rwp_det rfl rfl (det_load_one rfl one9 rfl ptr_imm rfl) <|
    rMv rfl <|
    rwp_nil <|
    awp_region rfl <|
    rwp_det rfl rfl (det_load_one rfl one125 rfl ptr_imm rfl) <|
    rMv rfl <|
    rwp_det0 rfl rfl (det_mapput 1 true rfl sm125 rfl rfl rfl (VLe.refl _) rfl) <|
    rwp_nil <|
    awp_region rfl <|
    rwp_det rfl rfl (det_add_nw rfl rfl rfl ⟨by omega, by omega⟩) <|
    rMv rfl <|
    rwp_nil ?_
   refine ⟨k + 1, (by omega), (by omega), Weak.mk [true, true] ⟨VLe.refl _, VLe.refl _, VLe.refl _, VLe.refl _, VLe.refl _, VLe.refl _, trivial⟩ (by rw [← set_at ht]; rfl)⟩
  ·try simp only [sx] at c2
   refine awp_exit <|
    sReg rfl <|
    rwp_det rfl rfl (det_field_lit rfl fd46_5 rfl) <|
    rwp_det rfl rfl (det_load_one rfl one34 rfl (ptr_row 0 rfl) rfl) <|
    rwp_det rfl rfl (det_load_one rfl one126 rfl ptr_imm rfl) <|
    rwp_op rfl rfl (ope_call_reg 1 rfl rfl ok87 (mapIndices_mark mb _ s.Idx (by omega) (by omega)) ⟨VLe.refl _, rfl, VLe.refl _, rfl, trivial⟩) ?_
   rintro _ _ ⟨rfl, rfl⟩
   refine rwp_nil <|
    sReg rfl <|
    rMv rfl <|
    rwp_nil <|
    awp_ret <|
    fin1 (rs_c rfl) ?_
   rw [take_all (l := indexT s.E) (k := k) (by omega), ← List.foldl_append]
   exact ⟨rfl, [_], rfl⟩
 ·try simp only [sx] at c1
  refine awp_skip <|
   awp_seq <|
   sReg rfl <|
   rwp_det rfl rfl (det_field_lit rfl fd46_6 rfl) <|
   rwp_det rfl rfl (det_load_agg rfl agg44 rfl (ptr_row 0 rfl) rfl) <|
   rwp_det rfl rfl (det_call rfl ok86 (OwnR.pur (expr_IndexNames s.E (by omega))) ⟨VLe.refl _, rfl, trivial⟩) <|
   rwp_det rfl rfl (det_len_slm rfl el105 rfl) <|
   rMv rfl <|
   rwp_nil <|
   awp_block <|
   awp_weak ⟨[(19, .c _), (2, .c _), (3, .c _), (4, .c _), (17, .c _), (18, .c _)], [_, _]⟩ (Weak.mk [true, true] ⟨VLe.of_eq rfl, VLe.of_eq rfl, VLe.of_eq rfl, VLe.of_eq rfl, VLe.of_eq rfl, VLe.of_eq rfl, trivial⟩ rfl) <|
   awp_loop_k 1 2 rfl rfl (Nat) (fun k => [(19, vI k)]) (fun k => [E.row b1 46 s.cs, E.blk mb (MapR vB ((loopNm s ++ (indexT s.E).take k).foldl putB m))]) (fun k => k ≤ (indexT s.E).length) (fun k => (indexT s.E).length - k) ⟨0, (by omega), Weak.mk [true, true] ⟨VLe.refl _, VLe.refl _, VLe.refl _, VLe.refl _, VLe.refl _, VLe.refl _, trivial⟩ (by first | (rw [show loopNm s = [s.Name] from if_pos c1]; rfl) | (rw [show loopNm s = [] from if_neg c1]; rfl))⟩ ?_
  rintro k hk
  refine sReg rfl <|
   rwp_det rfl rfl (det_lss rfl rfl rfl) <|
   rwp_nil <|
   awp_seq <|
   awp_cond rfl (fun c2 => ?_) (fun c2 => ?_)
  ·try simp only [sx] at c2
   obtain ⟨t, ht⟩ := ex_get (indexT s.E) k (by omega)
   refine awp_skip <|
    awp_seq <|
    awp_block <|
    sReg rfl <|
    rwp_det rfl rfl (det_index_sl rfl el105 rfl rfl (by omega) (getm (by assumption))) <|
    rwp_det rfl rfl (det_load_one rfl one9 rfl ptr_imm rfl) <|
    rMv rfl <|
    rwp_nil <|
    awp_region rfl <|
    rwp_det rfl rfl (det_load_one rfl one125 rfl ptr_imm rfl) <|
    rMv rfl <|
    rwp_det0 rfl rfl (det_mapput 1 true rfl sm125 rfl rfl rfl (VLe.refl _) rfl) <|
    rwp_nil <|
    awp_region rfl <|
    rwp_det rfl rfl (det_add_nw rfl rfl rfl ⟨by omega, by omega⟩) <|
    rMv rfl <|
    rwp_nil ?_
   refine ⟨k + 1, (by omega), (by omega), Weak.mk [true, true] ⟨VLe.refl _, VLe.refl _, VLe.refl _, VLe.refl _, VLe.refl _, VLe.refl _, trivial⟩ (by rw [← set_at ht]; rfl)⟩
  ·try simp only [sx] at c2
   refine awp_exit <|
    sReg rfl <|
    rwp_det rfl rfl (det_field_lit rfl fd46_5 rfl) <|
    rwp_det rfl rfl (det_load_one rfl one34 rfl (ptr_row 0 rfl) rfl) <|
    rwp_det rfl rfl (det_load_one rfl one126 rfl ptr_imm rfl) <|
    rwp_op rfl rfl (ope_call_reg 1 rfl rfl ok87 (mapIndices_mark mb _ s.Idx (by omega) (by omega)) ⟨VLe.refl _, rfl, VLe.refl _, rfl, trivial⟩) ?_
   rintro _ _ ⟨rfl, rfl⟩
   refine rwp_nil <|
    sReg rfl <|
    rMv rfl <|
    rwp_nil <|
    awp_ret <|
    fin1 (rs_c rfl) ?_
   rw [take_all (l := indexT s.E) (k := k) (by omega), ← List.foldl_append]
   exact ⟨rfl, [_], rfl⟩

theorem visit_mark (mb : Nat) (m : BM) (l : List St) (hl : stsWt l ≤ 536870912) : Con cfg 44 [vSts l, vIs [], .c (.fn (.func 85) [] [.iptr [.lit (.map (some mb))], .iptr [.fn (.func 84) [] [.iptr [.lit (.map (some mb))]]]])] [E.blk mb (MapR vB (m))] fun r μ' => r = vB true ∧ μ' = [E.blk mb (MapR vB ((markA (preL [] 0 l)).foldl putB m))] := by
  have hN := stsN_wt l
  refine (visit_con (.fn (.func 85) [] [.iptr [.lit (.map (some mb))], .iptr [.fn (.func 84) [] [.iptr [.lit (.map (some mb))]]]]) (fun pre μ => μ = [E.blk mb (MapR vB ((markA pre).foldl putB m))]) (fun _ _ => False) (stsN l) (fun pre x μ hx hxw hM hJ => ?_) l hl [] (by simp; omega) [] (by simp) _ rfl).mono ?_
  · subst hJ
    refine (FnCon.of_con (first := []) (cap := [.iptr [.lit (.map (some mb))], .iptr [.fn (.func 84) [] [.iptr [.lit (.map (some mb))]]]]) ok85 (fresh_stmt mb ((markA pre).foldl putB m) x.1 x.2 hxw)).mono ?_
    rintro r μ' ⟨rfl, rfl⟩
    exact ⟨true, rfl, fun _ => by rw [markA_one, List.foldl_append], fun h => by cases h⟩
  · rintro r μ' ⟨b, rfl, h1, h2⟩
    cases b with
    | true => exact ⟨rfl, by rw [h1 rfl, List.nil_append]⟩
    | false => obtain ⟨_, _, _, _, h⟩ := h2 rfl; exact h.elim

theorem loopnest_FreshName (n : Ns) (base : ByteArray) (hl : stsWt n.Body ≤ 400000) (hb : n.Bufs.length ≤ 1000) (hs : base.size ≤ 1000) :
    Pur cfgI 37 [vNs n, vS base] (vS (freshN n base)) := by
 refine con_intro Tryz.func37 rfl Tryz.ntmps37 Tryz.results37 rfl ?_
 intro z hz
 have hul := usedP_len n
 refine sReg rfl <|
  rwp_op rfl rfl (ope_box rfl rfl) ?_
 rintro _ _ ⟨b1, rfl, rfl⟩
 refine rMv rfl <|
  rwp_nil <|
  sReg rfl <|
  rwp_op rfl rfl (ope_mkmap vB rfl rfl) ?_
 rintro _ _ ⟨b2, rfl, rfl⟩
 refine rwp_op rfl rfl (ope_alloc rfl zr125) ?_
 rintro _ _ ⟨b3, rfl, rfl⟩
 refine rwp_det0 rfl rfl (det_store rfl sz125 rfl rfl rfl (st_row 0 rfl rfl)) <|
  rwp_weak _ (weak_freeze_row 0 rfl 5 _ PLe.ptr) <|
  rwp_nil <|
  awp_seq <|
  sReg rfl <|
  rwp_det rfl rfl (det_field_lit rfl fd25_0 rfl) <|
  rwp_det rfl rfl (det_load_one rfl one22 rfl (ptr_row 1 rfl) rfl) <|
  rwp_det rfl rfl (det_len_slm rfl el22 rfl) <|
  rMv rfl <|
  rwp_nil <|
  awp_block <|
  awp_weak ⟨[(14, .c _), (1, .c _), (2, .c _), (5, .c _), (13, .c _)], [_, _]⟩ (Weak.mk [true, true] ⟨VLe.of_eq rfl, VLe.of_eq rfl, VLe.of_eq rfl, VLe.of_eq rfl, VLe.of_eq rfl, trivial⟩ rfl) <|
  awp_loop_k 1 2 rfl rfl (Nat) (fun k => [(14, vI k)]) (fun k => [E.blk b2 (MapR vB (((n.Bufs.take k).map Bf.Name).foldl putB [])), E.row b1 25 n.cells]) (fun k => k ≤ n.Bufs.length) (fun k => n.Bufs.length - k) ⟨0, (by omega), Weak.mk [true, true] ⟨VLe.refl _, VLe.refl _, VLe.refl _, VLe.refl _, VLe.refl _, trivial⟩ rfl⟩ ?_
 rintro k hk
 refine sReg rfl <|
  rwp_det rfl rfl (det_lss rfl rfl rfl) <|
  rwp_nil <|
  awp_seq <|
  awp_cond rfl (fun c1 => ?_) (fun c1 => ?_)
 ·try simp only [sx] at c1
  obtain ⟨b, hbx⟩ := ex_get n.Bufs k (by omega)
  refine awp_skip <|
   awp_seq <|
   awp_block <|
   sReg rfl <|
   rMv rfl <|
   rMv rfl <|
   rwp_nil <|
   awp_draw 7 mixed (by kernel_rfl) rfl rfl <|
   td_det rfl rfl (det_load_one rfl one125 rfl ptr_imm rfl) <|
   td_det rfl rfl (det_field_lit rfl fd25_0 rfl) <|
   td_det rfl rfl (det_load_one rfl one22 rfl (ptr_row 1 rfl) rfl) <|
   td_det rfl rfl (det_move rfl rfl) <|
   td_det rfl rfl (det_index_sl rfl el22 rfl rfl (by omega) (getm (by assumption))) <|
   td_det rfl rfl (det_field_imm rfl fd65_0 rfl) <|
   td_det rfl rfl (det_load_one rfl one9 rfl ptr_imm rfl) <|
   td_nil <|
   rwp_det0 rfl rfl (det_mapput 0 true rfl sm125 rfl rfl rfl (VLe.refl _) rfl) <|
   rwp_nil <|
   awp_region rfl <|
   rwp_det rfl rfl (det_add_nw rfl rfl rfl ⟨by omega, by omega⟩) <|
   rMv rfl <|
   rwp_nil ?_
  refine ⟨k + 1, (by omega), (by omega), Weak.mk [true, true] ⟨VLe.refl _, VLe.refl _, VLe.refl _, VLe.refl _, VLe.refl _, trivial⟩ (by rw [take_next hbx, List.map_append, List.foldl_append]; rfl)⟩
 ·try simp only [sx] at c1
  rw [take_all (l := n.Bufs) (k := k) (by omega)]
  refine awp_exit <|
   sReg rfl <|
   rwp_det rfl rfl (det_func rfl rfl rfl rfl rfl) <|
   rwp_op rfl rfl (ope_alloc rfl zr126) ?_
  rintro _ _ ⟨b4, rfl, rfl⟩
  refine rwp_det0 rfl rfl (det_store rfl sz126 rfl rfl rfl (st_row 0 rfl rfl)) <|
   rwp_weak _ (weak_freeze_row 0 rfl 7 _ PLe.ptr) <|
   rwp_nil <|
   sReg rfl <|
   rwp_det rfl rfl (det_field_lit rfl fd25_1 rfl) <|
   rwp_det rfl rfl (det_load_one rfl one23 rfl (ptr_row 1 rfl) rfl) <|
   rwp_det rfl rfl (det_func rfl rfl rfl rfl rfl) <|
   rwp_op rfl rfl (ope_call_reg 0 rfl rfl ok44 (upI (visit_mark _ _ n.Body (by omega))) ⟨VLe.refl _, rfl, VLe.nil, rfl, VLe.refl _, rfl, trivial⟩) ?_
  rintro _ _ ⟨rfl, rfl⟩
  refine rwp_nil <|
   sReg rfl <|
   rMv rfl <|
   rMv rfl <|
   rwp_nil <|
   awp_seq <|
   sReg rfl <|
   rMv rfl <|
   rwp_nil <|
   awp_block <|
   awp_weak ⟨[(9, .c _), (8, .c _), (1, .c _), (5, .c _)], [_]⟩ (Weak.mk [true, false] ⟨VLe.of_eq rfl, VLe.of_eq rfl, VLe.of_eq rfl, VLe.of_eq rfl, trivial⟩ rfl) <|
   awp_loop_k 2 0 rfl rfl (Nat) (fun j => [(9, vI (j + 1)), (8, vS (nmK base j))]) (fun j => []) (fun j => j ≤ (usedP n).length ∧ ∀ i, i < j → hasB (usedP n) (nmK base i) = true) (fun j => (usedP n).length + 1 - j) ⟨0, ⟨by omega, fun i hi => by omega⟩, Weak.mk [true] ⟨VLe.refl _, VLe.of_eq (rfl), VLe.refl _, VLe.refl _, trivial⟩ rfl⟩ ?_
  rintro j ⟨hj, hp⟩
  refine awp_seq <|
   sReg rfl <|
   rwp_det rfl rfl (det_load_one rfl one125 rfl ptr_imm rfl) <|
   rMv rfl <|
   rwp_det rfl rfl (det_lookup 0 false rfl sm125 rfl rfl rfl (fun _ _ => CRep.lit _ rfl)) <|
   rwp_nil <|
   awp_cond rfl (fun c2 => ?_) (fun c2 => ?_)
  ·rw [← List.foldl_append, show n.Bufs.map Bf.Name ++ markA (preL [] 0 n.Body) = usedP n from rfl, set_has] at c2
   have hnx := fresh_next hp c2
   have hlt := fresh_lt hnx
   refine awp_skip <|
    awp_seq <|
    awp_block <|
    awp_region rfl <|
    rMv rfl <|
    rMv rfl <|
    rwp_det rfl rfl (det_call rfl ok88 (strconv_Itoa (j + 1) (by omega)) ⟨VLe.refl _, rfl, trivial⟩) <|
    rwp_det rfl rfl (det_sadd rfl rfl rfl (by have := decB_size (n := j + 1) (by omega); omega)) <|
    rMv rfl <|
    rwp_nil <|
    awp_region rfl <|
    rMv rfl <|
    rwp_det rfl rfl (det_add_nw rfl rfl rfl ⟨by omega, by omega⟩) <|
    rMv rfl <|
    rwp_nil ?_
   refine ⟨j + 1, ⟨hlt, hnx⟩, (by omega), Weak.mk [true] ⟨VLe.refl _, VLe.of_eq (congrArg vS (nmK_succ base j)), VLe.refl _, VLe.refl _, trivial⟩ rfl⟩
  ·rw [← List.foldl_append, show n.Bufs.map Bf.Name ++ markA (preL [] 0 n.Body) = usedP n from rfl, set_has] at c2
   refine awp_exit <|
    sReg rfl <|
    rMv rfl <|
    rMv rfl <|
    rwp_nil <|
    awp_ret <|
    fin1 (rs_c rfl) ?_
   rw [show freshN n base = nmK base j from (freshP n base).symm.trans (fresh_end hp c2)]

end Go.W
