/-
  Walks: what functions of the program compute. Printed by wip/gen/mk2.py.
  Conditions: none.
-/
import Derived.Test.YtlfjpejkoccibaaGreatDoorNG
import Derived.Test.YtlfjpejkoccibaaGreatDoorPlain2
set_option linter.unusedSimpArgs false
set_option linter.unusedVariables false
set_option maxRecDepth 10000
namespace Go.W
open Go Go.Eng Go.Proofs Go.L41 Go.Br
attribute [local irreducible] AWP RWP TD finQ
theorem ok41 : callOk Tryz.prog 41 = true := by kernel_rfl
theorem ok87 : callOk Tryz.prog 87 = true := by kernel_rfl
theorem ok91 : callOk Tryz.prog 91 = true := by kernel_rfl
theorem ok92 : callOk Tryz.prog 92 = true := by kernel_rfl
theorem ok93 : callOk Tryz.prog 93 = true := by kernel_rfl
theorem ok94 : callOk Tryz.prog 94 = true := by kernel_rfl
theorem ok133 : callOk Tryz.prog 133 = true := by kernel_rfl
theorem ok134 : callOk Tryz.prog 134 = true := by kernel_rfl
theorem ok137 : callOk Tryz.prog 137 = true := by kernel_rfl
theorem ok138 : callOk Tryz.prog 138 = true := by kernel_rfl
theorem ok139 : callOk Tryz.prog 139 = true := by kernel_rfl
theorem ok173 : callOk Tryz.prog 173 = true := by kernel_rfl
theorem sz9 : (Tryz.prog.info? 9).map (·.size) = some 1 := by kernel_rfl
theorem slices_Clone_st (l : List St) (hl : l.length ≤ 4294967296) :
    OwnR cfg 137 [vSts l] 46 20 (l.map St.cells) := by
 refine con_intro Tryz.func137 rfl Tryz.ntmps137 Tryz.results137 rfl ?_
 intro z hz
 refine sReg rfl <|
  rwp_det rfl rfl (det_assignN 20 rfl rfl) <|
  rwp_nil <|
  awp_seq <|
  sReg rfl <|
  rMv rfl <|
  rwp_op rfl rfl (ope_nileq rfl el23 rfl rfl) ?_
 rintro _ _ ⟨nb1, rfl, hnil1, rfl⟩
 refine rwp_nil <|
  awp_cond rfl (fun c1 => ?_) (fun c1 => ?_)
 ·try simp only [sx] at c1
  refine sReg rfl <|
   rMv rfl <|
   rwp_weak _ (weak_own 46 20) <|
   rwp_nil <|
   awp_ret <|
   fin1 (rs_c rfl) ?_
  exact ⟨_, rfl, by rw [hnil1 c1]⟩
 ·try simp only [sx] at c1
  refine awp_skip <|
   sReg rfl <|
   rwp_op rfl rfl (ope_bslice rfl el23 zr46 rfl rfl rfl rfl) ?_
  rintro _ _ ⟨sv3, rfl, rfl⟩
  refine rMv rfl <|
   rwp_op rfl rfl (ope_append 0 rfl el23 rfl rfl rfl (by simp only [List.length_map, List.length_nil, Nat.zero_add]; omega) (by simp only [List.length_map, List.length_nil, Nat.zero_add]; omega)) ?_
  rintro _ _ ⟨sv4, rfl, rfl⟩
  refine rMv rfl <|
   rwp_nil <|
   awp_ret <|
   fin1 (rs_c rfl) ?_
  exact ⟨_, rfl, rfl⟩

theorem loopnest_mapIndices (f : Lf → Lf × Int) (c : C) (P : Lf → Prop) (hf : ∀ l, P l → FnPur cfg c [vLin l] (.tup [vLin (f l).1, vI (f l).2])) (i : List Ix) (hi : i.length ≤ 4294967296) (hA : ∀ x, x ∈ i → x.At.length ≤ 4294967296) (hP : ixsAll P i) :
    Pur cfg 87 [vIndices i, .c c] (.tup [vIndices (outIs (mIxs f i)), vI (errE (mIxs f i))]) := by
 refine con_intro Tryz.func87 rfl Tryz.ntmps87 Tryz.results87 rfl ?_
 intro z hz
 refine sReg rfl <|
  rwp_det rfl rfl (det_assignN 4 rfl rfl) <|
  rMv rfl <|
  rwp_nil <|
  sReg rfl <|
  rMv rfl <|
  rwp_op rfl rfl (ope_call_own rfl ok133 (slices_Clone_ix i hi) ⟨VLe.refl _, rfl, trivial⟩) ?_
 rintro _ _ ⟨sv1, rfl, rfl⟩
 refine rMv rfl <|
  rwp_nil <|
  sReg rfl <|
  rMv rfl <|
  rwp_nil <|
  awp_seq <|
  sReg rfl <|
  rMv rfl <|
  rwp_det rfl rfl (det_len_slm rfl el34 rfl) <|
  rMv rfl <|
  rwp_nil <|
  awp_block <|
  awp_weak ⟨[(14, .c _), (0, .c _), (1, .c _), (6, .c _), (13, .c _)], [_]⟩ (Weak.mk [true] ⟨VLe.of_eq rfl, VLe.of_eq rfl, VLe.of_eq rfl, VLe.of_eq rfl, VLe.of_eq rfl, trivial⟩ rfl) <|
  awp_loop_k 1 1 rfl rfl (Nat × List Ix) (fun ⟨k, outs⟩ => [(14, vI k)]) (fun ⟨k, outs⟩ => [E.vec sv1 72 4 (outs.map Ix.cells ++ (i.drop k).map Ix.cells)]) (fun ⟨k, outs⟩ => k ≤ i.length ∧ (outs.length = k) ∧ (mIxs f i = mapRest outs (mIxs f (i.drop k)))) (fun ⟨k, outs⟩ => i.length - k) ⟨⟨0, []⟩, ⟨by omega, rfl, (mapRest_nil _).symm⟩, Weak.mk [true] ⟨VLe.refl _, VLe.refl _, VLe.refl _, VLe.refl _, VLe.refl _, trivial⟩ rfl⟩ ?_
 rintro ⟨k, outs⟩ ⟨hk, ho, hp⟩
 show AWP _ _ _ _ _ ⟨[(14, vI k)] ++ _, [E.vec sv1 72 4 (outs.map Ix.cells ++ (i.drop k).map Ix.cells)] ++ _⟩
 refine sReg rfl <|
  rwp_det rfl rfl (det_lss rfl rfl rfl) <|
  rwp_nil <|
  awp_seq <|
  awp_cond rfl (fun c1 => ?_) (fun c1 => ?_)
 ·try simp only [sx] at c1
  obtain ⟨x, hx⟩ := ex_get i k (by omega)
  have hAx := hA x (mem_of_get hx)
  refine awp_skip <|
   awp_seq <|
   awp_block <|
   sReg rfl <|
   rMv rfl <|
   rMv rfl <|
   rwp_nil <|
   awp_seq <|
   sReg rfl <|
   rMv rfl <|
   rMv rfl <|
   rMv rfl <|
   rMv rfl <|
   rMv rfl <|
   rwp_det rfl rfl (det_index_sl rfl el34 rfl rfl (by omega) (getm (by assumption))) <|
   rwp_det rfl rfl (det_field_imm rfl fd72_0 rfl) <|
   rwp_det rfl rfl (det_load_agg rfl agg41 rfl ptr_imm rfl) <|
   rwp_det rfl rfl (det_call_val rfl rfl (hf x.Lin (hP x (mem_of_get hx)).1) ⟨VLe.refl _, rfl, trivial⟩) <|
   rwp_det rfl rfl (det_move_tup rfl rfl) <|
   rwp_det rfl rfl (det_ex_agg rfl rfl rfl) <|
   rwp_det rfl rfl (det_ex_c rfl rfl rfl) <|
   rwp_det rfl rfl (det_index_vec 0 rfl el34 rfl rfl rfl (by omega) (mid_len (by simp; omega) (by omega))) <|
   rwp_det rfl rfl (det_field_vec rfl fd72_0 rfl) <|
   rwp_det0 rfl rfl (det_store rfl sz41 rfl rfl rfl (st_vec 0 rfl (mid_get (by simp; omega) hx) rfl)) <|
   rMv rfl <|
   rwp_nil <|
   sReg rfl <|
   rMv rfl <|
   rwp_det rfl rfl (det_neq rfl rfl rfl) <|
   rwp_nil <|
   awp_cond rfl (fun c2 => ?_) (fun c2 => ?_)
  ·try simp only [sx] at c2
   refine sReg rfl <|
    rMv rfl <|
    rwp_det rfl rfl (det_assignN 4 rfl rfl) <|
    rMv rfl <|
    rwp_nil <|
    awp_ret <|
    fin2 (rs_c rfl) (rs_c rfl) ?_
   rw [mIxs_no hx hp (mIx_e1 c2)]; rfl
  ·try simp only [sx] at c2
   refine awp_skip <|
    sReg rfl <|
    rMv rfl <|
    rMv rfl <|
    rMv rfl <|
    rMv rfl <|
    rwp_det rfl rfl (det_index_sl rfl el34 rfl rfl (by omega) (getm (by assumption))) <|
    rwp_det rfl rfl (det_field_imm rfl fd72_2 rfl) <|
    rwp_det rfl rfl (det_load_one rfl one70 rfl ptr_imm rfl) <|
    rwp_op rfl rfl (ope_call_own rfl ok134 (slices_Clone_lin x.At (hA x (mem_of_get hx))) ⟨VLe.refl _, rfl, trivial⟩) ?_
   rintro _ _ ⟨sv2, rfl, rfl⟩
   refine rwp_det rfl rfl (det_index_vec 1 rfl el34 rfl rfl rfl (by omega) (by simp; omega)) <|
    rwp_det rfl rfl (det_field_vec rfl fd72_2 rfl) <|
    rwp_det0 rfl rfl (det_store rfl sz70 rfl rfl rfl (st_vec 1 rfl (set_get (by simp; omega)) rfl)) <|
    rwp_nil <|
    sReg rfl <|
    rMv rfl <|
    rMv rfl <|
    rwp_det rfl rfl (det_index_sl rfl el34 rfl rfl (by omega) (getm (by assumption))) <|
    rwp_det rfl rfl (det_field_imm rfl fd72_2 rfl) <|
    rwp_det rfl rfl (det_load_one rfl one70 rfl ptr_imm rfl) <|
    rwp_det rfl rfl (det_len_slm rfl el70 rfl) <|
    rMv rfl <|
    rwp_nil <|
    awp_block <|
    awp_weak ⟨[(50, .c _), (0, .c _), (1, .c _), (6, .c _), (8, .c _), (13, .c _), (14, .c _), (49, .c _)], [_, _]⟩ (Weak.mk [true, true] ⟨VLe.of_eq rfl, VLe.of_eq rfl, VLe.of_eq rfl, VLe.of_eq rfl, VLe.of_eq rfl, VLe.of_eq rfl, VLe.of_eq rfl, VLe.of_eq rfl, trivial⟩ rfl) <|
    awp_loop_k 1 1 rfl rfl (Nat × List Lf) (fun ⟨j, lins⟩ => [(50, vI j)]) (fun ⟨j, lins⟩ => [E.vec sv2 41 2 (lins.map Lf.cells ++ (x.At.drop j).map Lf.cells)]) (fun ⟨j, lins⟩ => j ≤ x.At.length ∧ (lins.length = j) ∧ (mLins f x.At = mapRest lins (mLins f (x.At.drop j)))) (fun ⟨j, lins⟩ => x.At.length - j) ⟨⟨0, []⟩, ⟨by omega, rfl, (mapRest_nil _).symm⟩, Weak.mk [true, true] ⟨VLe.refl _, VLe.refl _, VLe.refl _, VLe.refl _, VLe.refl _, VLe.refl _, VLe.refl _, VLe.refl _, trivial⟩ rfl⟩ ?_
   rintro ⟨j, lins⟩ ⟨hj, hlo, hq⟩
   show AWP _ _ _ _ _ ⟨[(50, vI j)] ++ _, [E.vec sv2 41 2 (lins.map Lf.cells ++ (x.At.drop j).map Lf.cells)] ++ _⟩
   refine sReg rfl <|
    rwp_det rfl rfl (det_lss rfl rfl rfl) <|
    rwp_nil <|
    awp_seq <|
    awp_cond rfl (fun c3 => ?_) (fun c3 => ?_)
   ·try simp only [sx] at c3
    obtain ⟨l, hl⟩ := ex_get x.At j (by omega)
    refine awp_skip <|
     awp_seq <|
     awp_block <|
     sReg rfl <|
     rMv rfl <|
     rMv rfl <|
     rwp_nil <|
     awp_seq <|
     awp_draw_c 21 0 [⟨0, .q []⟩, ⟨1, .q []⟩, ⟨2, .q [1]⟩, ⟨3, .q []⟩, ⟨4, .q [1]⟩, ⟨5, .q []⟩, ⟨6, .q []⟩, ⟨7, .q []⟩, ⟨8, .q []⟩, ⟨9, .q []⟩, ⟨10, .q []⟩, ⟨11, .q []⟩, ⟨12, .q []⟩, ⟨13, .q []⟩, ⟨14, .q []⟩, ⟨15, .q []⟩, ⟨16, .q []⟩, ⟨17, .q []⟩, ⟨18, .q []⟩, ⟨19, .q [0]⟩, ⟨20, .e 0 []⟩] mixed (by kernel_rfl) (by kernel_rfl) rfl rfl rfl <|
     fx_skip rfl <|
     fx_skip rfl <|
     fx_skip rfl <|
     fx_skip rfl <|
     fx_skip rfl <|
     fx_skip rfl <|
     fx_skip rfl <|
     fx_skip rfl <|
     fx_skip rfl <|
     fx_skip rfl <|
     fx_skip rfl <|
     fx_skip rfl <|
     fx_skip rfl <|
     fx_skip rfl <|
     fx_skip rfl <|
     fx_skip rfl <|
     fx_skip rfl <|
     fx_skip rfl <|
     fx_skip rfl <|
     fx_skip rfl <|
     fx_skip rfl <|
     fx_nil <|
     sq_det rfl (by decide) rfl rfl (det_move rfl rfl) <|
     sq_det rfl (by decide) rfl rfl (det_move rfl rfl) <|
     sq_det rfl (by decide) rfl rfl (det_index_vec 0 rfl el34 rfl rfl rfl (by omega) (by simp; omega)) <|
     sq_det rfl (by decide) rfl rfl (det_field_vec rfl fd72_2 rfl) <|
     sq_det rfl (by decide) rfl rfl (det_load_one rfl one70 rfl (ptr_vec 0 rfl (set_get (by simp; omega))) rfl) <|
     sq_det rfl (by decide) rfl rfl (det_move rfl rfl) <|
     sq_det rfl (by decide) rfl rfl (det_move rfl rfl) <|
     sq_det rfl (by decide) rfl rfl (det_move rfl rfl) <|
     sq_det rfl (by decide) rfl rfl (det_move rfl rfl) <|
     sq_det rfl (by decide) rfl rfl (det_index_sl rfl el34 rfl rfl (by omega) (getm (by assumption))) <|
     sq_det rfl (by decide) rfl rfl (det_field_imm rfl fd72_2 rfl) <|
     sq_det rfl (by decide) rfl rfl (det_load_one rfl one70 rfl ptr_imm rfl) <|
     sq_det rfl (by decide) rfl rfl (det_move rfl rfl) <|
     sq_det rfl (by decide) rfl rfl (det_index_sl rfl el70 rfl rfl (by omega) (getm (by assumption))) <|
     sq_det rfl (by decide) rfl rfl (det_load_agg rfl agg41 rfl ptr_imm rfl) <|
     sq_det rfl (by decide) rfl rfl (det_call_val rfl rfl (hf l ((hP x (mem_of_get hx)).2 l (mem_of_get hl))) ⟨VLe.refl _, rfl, trivial⟩) <|
     sq_det rfl (by decide) rfl rfl (det_move_tup rfl rfl) <|
     sq_det rfl (by decide) rfl rfl (det_ex_agg rfl rfl rfl) <|
     sq_det rfl (by decide) rfl rfl (det_ex_c rfl rfl rfl) <|
     sq_det rfl (by decide) rfl rfl (det_index_vec 0 rfl el70 rfl rfl rfl (by omega) (mid_len (by simp; omega) (by omega))) <|
     sq_op0 rfl rfl (by decide) rfl rfl (det_store rfl sz41 rfl rfl rfl (st_vec 0 rfl (mid_get (by simp; omega) hl) rfl)) ?_
    rintro _ _ ⟨rfl, rfl⟩
    refine ⟨_, rfl, ?_⟩
    refine sq_nil rfl <|
     rMv rfl <|
     rwp_nil <|
     sReg rfl <|
     rMv rfl <|
     rwp_det rfl rfl (det_neq rfl rfl rfl) <|
     rwp_nil <|
     awp_cond rfl (fun c4 => ?_) (fun c4 => ?_)
    ·try simp only [sx] at c4
     refine sReg rfl <|
      rMv rfl <|
      rwp_det rfl rfl (det_assignN 4 rfl rfl) <|
      rMv rfl <|
      rwp_nil <|
      awp_ret <|
      fin2 (rs_c rfl) (rs_c rfl) ?_
     rw [mIxs_no hx hp (mIx_e2 c2 (mLins_no hl hq c4))]; rfl
    ·try simp only [sx] at c4
     refine awp_skip <|
      awp_region rfl <|
      rwp_det rfl rfl (det_add_nw rfl rfl rfl ⟨by omega, by omega⟩) <|
      rMv rfl <|
      rwp_nil ?_
     refine ⟨⟨j + 1, lins ++ [(f l).1]⟩, ⟨by omega, by simp; omega, mLins_next hl hq c4⟩, (by show x.At.length - (j + 1) < x.At.length - j; omega), Weak.mk [true, true] ⟨VLe.refl _, VLe.refl _, VLe.refl _, VLe.refl _, VLe.refl _, VLe.refl _, VLe.refl _, VLe.refl _, trivial⟩ (by simp only [Int.toNat_natCast]; rw [mid_set (by simp; omega) hl]; simp only [List.map_append, List.map_cons, List.map_nil]; rfl)⟩
   ·try simp only [sx] at c3
    have hml := mLins_end hq (by omega)
    rw [drop_end (l := x.At) (k := j) (by omega)]
    simp only [List.map_nil, List.append_nil]
    refine awp_weak _ (weak_freezeM 0 rfl (regs' := []) (μ' := [_]) trivial ⟨EFle.vec (r' := [_, _, _, _]) (set_get (by simp; omega)) ⟨.inl rfl, .inl rfl, .inl rfl, .inr ⟨rfl, rfl⟩, trivial⟩, trivial⟩) <|
     awp_exit <|
     awp_region rfl <|
     rwp_det rfl rfl (det_add_nw rfl rfl rfl ⟨by omega, by omega⟩) <|
     rMv rfl <|
     rwp_nil ?_
    refine ⟨⟨k + 1, outs ++ [⟨(f x.Lin).1, x.From, lins⟩]⟩, ⟨by omega, by simp; omega, mIxs_next hx hp (mIx_ok c2 hml)⟩, (by show i.length - (k + 1) < i.length - k; omega), Weak.mk [true] ⟨VLe.refl _, VLe.refl _, VLe.refl _, VLe.refl _, VLe.refl _, trivial⟩ (by simp only [Int.toNat_natCast, List.set_set]; rw [mid_set (by simp; omega) hx]; simp only [List.map_append, List.map_cons, List.map_nil]; rfl)⟩
 ·try simp only [sx] at c1
  have hmi := mIxs_end hp (by omega)
  rw [drop_end (l := i) (k := k) (by omega)]
  simp only [List.map_nil, List.append_nil]
  refine awp_weak _ (weak_freezeM 0 rfl (regs' := [(6, _)]) (μ' := []) ⟨FLe.sl, trivial⟩ trivial) <|
   awp_exit <|
   sReg rfl <|
   rMv rfl <|
   rMv rfl <|
   rMv rfl <|
   rwp_nil <|
   awp_ret <|
   fin2 (rs_c rfl) (rs_c rfl) ?_
  rw [hmi]; rfl

theorem loopnest_mapExpr_step (f : Lf → Lf × Int) (c : C) (P : Lf → Prop) (hf : ∀ l, P l → FnPur cfg c [vLin l] (.tup [vLin (f l).1, vI (f l).2])) (e : Ex) (hP : e.allF P) (ih : ∀ a, a ∈ e.Args → a.allF P → a.cnt ≤ 4294967296 → Pur cfg 138 [vE a, .c c] (.tup [vE (outE (mEx f a)), vI (errE (mEx f a))])) (he : e.cnt ≤ 4294967296) :
    Pur cfg 138 [vE e, .c c] (.tup [vE (outE (mEx f e)), vI (errE (mEx f e))]) := by
 refine con_intro Tryz.func138 rfl Tryz.ntmps138 Tryz.results138 rfl ?_
 intro z hz
 obtain ⟨hI, hA, hAt⟩ := e.cparts he
 have hPI := ixsAll_of hP
 refine sReg rfl <|
  rwp_op rfl rfl (ope_box rfl rfl) ?_
 rintro _ _ ⟨b1, rfl, rfl⟩
 refine rwp_op rfl rfl (ope_allocN [none, none, none, none, none, none, none, none, none, none, some 2, some 4, some 13] rfl zr44 rfl) ?_
 rintro _ _ ⟨b2, rfl, rfl⟩
 refine rMv rfl <|
  rwp_nil <|
  sReg rfl <|
  rwp_det rfl rfl (det_load_agg rfl agg44 rfl (ptr_row 1 rfl) rfl) <|
  rwp_op rfl rfl (ope_allocN [none, none, none, none, none, none, none, none, none, none, some 2, some 4, some 13] rfl zr44 rfl) ?_
 rintro _ _ ⟨b3, rfl, rfl⟩
 refine rwp_det0 rfl rfl (det_store rfl sz44 rfl rfl rfl (st_row 0 rfl rfl)) <|
  rwp_nil <|
  sReg rfl <|
  rMv rfl <|
  rwp_nil <|
  awp_seq <|
  sReg rfl <|
  rMv rfl <|
  rwp_det rfl rfl (det_field_lit rfl fd44_4 rfl) <|
  rwp_det rfl rfl (det_load_agg rfl agg41 rfl (ptr_row 2 rfl) rfl) <|
  rwp_det rfl rfl (det_call_val rfl rfl (hf e.Lin (Ex.allF_lin hP)) ⟨VLe.refl _, rfl, trivial⟩) <|
  rwp_det rfl rfl (det_move_tup rfl rfl) <|
  rwp_det rfl rfl (det_ex_agg rfl rfl rfl) <|
  rwp_det rfl rfl (det_ex_c rfl rfl rfl) <|
  rwp_det rfl rfl (det_field_lit rfl fd44_4 rfl) <|
  rwp_det0 rfl rfl (det_store rfl sz41 rfl rfl rfl (st_row 0 rfl rfl)) <|
  rMv rfl <|
  rwp_nil <|
  sReg rfl <|
  rMv rfl <|
  rwp_det rfl rfl (det_neq rfl rfl rfl) <|
  rwp_nil <|
  awp_cond rfl (fun c1 => ?_) (fun c1 => ?_)
 ·try simp only [sx] at c1
  refine sReg rfl <|
   rwp_det rfl rfl (det_buildN [none, none, none, none, none, none, none, none, none, none, some 2, some 4, some 13] rfl zr44 pl44 rfl rfl) <|
   rMv rfl <|
   rwp_det0 rfl rfl (det_store rfl sz44 rfl rfl rfl (st_row 1 rfl rfl)) <|
   rMv rfl <|
   rwp_nil <|
   awp_ret <|
   fin2 (rs_cell_agg agg44 rfl (ptr_row 1 rfl) rfl) (rs_c rfl) ?_
  rw [mEx_e1 c1]; rfl
 ·try simp only [sx] at c1
  refine awp_skip <|
   awp_seq <|
   sReg rfl <|
   rwp_det rfl rfl (det_field_lit rfl fd44_5 rfl) <|
   rwp_det rfl rfl (det_load_one rfl one34 rfl (ptr_row 2 rfl) rfl) <|
   rMv rfl <|
   rwp_det rfl rfl (det_call rfl ok87 (loopnest_mapIndices f c P hf e.Idx hI hAt hPI) ⟨VLe.refl _, rfl, VLe.refl _, rfl, trivial⟩) <|
   rwp_det rfl rfl (det_move_tup rfl rfl) <|
   rwp_det rfl rfl (det_ex_c rfl rfl rfl) <|
   rwp_det rfl rfl (det_ex_c rfl rfl rfl) <|
   rwp_det rfl rfl (det_field_lit rfl fd44_5 rfl) <|
   rwp_det0 rfl rfl (det_store rfl sz34 rfl rfl rfl (st_row 0 rfl rfl)) <|
   rMv rfl <|
   rwp_nil <|
   sReg rfl <|
   rMv rfl <|
   rwp_det rfl rfl (det_neq rfl rfl rfl) <|
   rwp_nil <|
   awp_cond rfl (fun c2 => ?_) (fun c2 => ?_)
  ·try simp only [sx] at c2
   refine sReg rfl <|
    rwp_det rfl rfl (det_buildN [none, none, none, none, none, none, none, none, none, none, some 2, some 4, some 13] rfl zr44 pl44 rfl rfl) <|
    rMv rfl <|
    rwp_det0 rfl rfl (det_store rfl sz44 rfl rfl rfl (st_row 1 rfl rfl)) <|
    rMv rfl <|
    rwp_nil <|
    awp_ret <|
    fin2 (rs_cell_agg agg44 rfl (ptr_row 1 rfl) rfl) (rs_c rfl) ?_
   rw [mEx_e2 c1 (mIxs_err c2)]; rfl
  ·try simp only [sx] at c2
   obtain ⟨di, hmi⟩ := mIxs_0 c2
   rw [hmi]
   refine awp_skip <|
    sReg rfl <|
    rwp_det rfl rfl (det_field_lit rfl fd44_6 rfl) <|
    rwp_det rfl rfl (det_load_one rfl one42 rfl (ptr_row 2 rfl) rfl) <|
    rwp_op rfl rfl (ope_call_own rfl ok173 (slices_Clone_ex e.Args hA) ⟨VLe.refl _, rfl, trivial⟩) ?_
   rintro _ _ ⟨sv4, rfl, rfl⟩
   refine rwp_det rfl rfl (det_field_lit rfl fd44_6 rfl) <|
    rwp_det0 rfl rfl (det_store rfl sz42 rfl rfl rfl (st_row 1 rfl rfl)) <|
    rwp_nil <|
    awp_seq <|
    sReg rfl <|
    rwp_det rfl rfl (det_field_lit rfl fd44_6 rfl) <|
    rwp_det rfl rfl (det_load_one rfl one42 rfl (ptr_row 3 rfl) rfl) <|
    rwp_det rfl rfl (det_len_slm rfl el42 rfl) <|
    rMv rfl <|
    rwp_nil <|
    awp_block <|
    awp_weak ⟨[(41, .c _), (1, .c _), (2, .c _), (4, .c _), (6, .c _), (40, .c _)], [_, _, _, _]⟩ (Weak.mk [true, true, true, true] ⟨VLe.of_eq rfl, VLe.of_eq rfl, VLe.of_eq rfl, VLe.of_eq rfl, VLe.of_eq rfl, VLe.of_eq rfl, trivial⟩ rfl) <|
    awp_loop_k 1 1 rfl rfl (Nat × List Ex) (fun ⟨n, exs⟩ => [(41, vI n)]) (fun ⟨n, exs⟩ => [E.vec sv4 44 13 (exs.map Ex.cells ++ (e.Args.drop n).map Ex.cells)]) (fun ⟨n, exs⟩ => n ≤ e.Args.length ∧ (exs.length = n) ∧ (mExs f e.Args = mapRest exs (mExs f (e.Args.drop n)))) (fun ⟨n, exs⟩ => e.Args.length - n) ⟨⟨0, []⟩, ⟨by omega, rfl, (mapRest_nil _).symm⟩, Weak.mk [true, true, true, true] ⟨VLe.refl _, VLe.refl _, VLe.refl _, VLe.refl _, VLe.refl _, VLe.refl _, trivial⟩ rfl⟩ ?_
   rintro ⟨n, exs⟩ ⟨hn, hno, hr⟩
   show AWP _ _ _ _ _ ⟨[(41, vI n)] ++ _, [E.vec sv4 44 13 (exs.map Ex.cells ++ (e.Args.drop n).map Ex.cells)] ++ _⟩
   refine sReg rfl <|
    rwp_det rfl rfl (det_lss rfl rfl rfl) <|
    rwp_nil <|
    awp_seq <|
    awp_cond rfl (fun c3 => ?_) (fun c3 => ?_)
   ·try simp only [sx] at c3
    obtain ⟨a, ha⟩ := ex_get e.Args n (by omega)
    refine awp_skip <|
     awp_seq <|
     awp_block <|
     sReg rfl <|
     rMv rfl <|
     rMv rfl <|
     rwp_nil <|
     awp_seq <|
     awp_draw_c 15 0 [⟨0, .q []⟩, ⟨1, .q [1]⟩, ⟨2, .q []⟩, ⟨3, .q []⟩, ⟨4, .q [3]⟩, ⟨5, .q []⟩, ⟨6, .q []⟩, ⟨7, .q []⟩, ⟨8, .q []⟩, ⟨9, .q []⟩, ⟨10, .q []⟩, ⟨11, .q []⟩, ⟨12, .q []⟩, ⟨13, .q [0]⟩, ⟨14, .e 0 []⟩] mixed (by kernel_rfl) (by kernel_rfl) rfl rfl rfl <|
     fx_skip rfl <|
     fx_skip rfl <|
     fx_skip rfl <|
     fx_skip rfl <|
     fx_skip rfl <|
     fx_skip rfl <|
     fx_skip rfl <|
     fx_skip rfl <|
     fx_skip rfl <|
     fx_skip rfl <|
     fx_skip rfl <|
     fx_skip rfl <|
     fx_skip rfl <|
     fx_skip rfl <|
     fx_skip rfl <|
     fx_nil <|
     sq_det rfl (by decide) rfl rfl (det_field_lit rfl fd44_6 rfl) <|
     sq_det rfl (by decide) rfl rfl (det_load_one rfl one42 rfl (ptr_row 0 rfl) rfl) <|
     sq_det rfl (by decide) rfl rfl (det_move rfl rfl) <|
     sq_det rfl (by decide) rfl rfl (det_field_lit rfl fd44_6 rfl) <|
     sq_det rfl (by decide) rfl rfl (det_load_one rfl one42 rfl (ptr_row 0 rfl) rfl) <|
     sq_det rfl (by decide) rfl rfl (det_move rfl rfl) <|
     sq_det rfl (by decide) rfl rfl (det_index_sl rfl el42 rfl rfl (by omega) (getmE (by assumption))) <|
     sq_det rfl (by decide) rfl rfl (det_load_agg rfl agg44 rfl ptr_imm rfl) <|
     sq_det rfl (by decide) rfl rfl (det_move rfl rfl) <|
     sq_det rfl (by decide) rfl rfl (det_call rfl ok138 (ih a (mem_of_get ha) (Ex.allF_arg hP (mem_of_get ha)) (by have := Ex.arg_cnt (mem_of_get ha); omega)) ⟨VLe.refl _, rfl, VLe.refl _, rfl, trivial⟩) <|
     sq_det rfl (by decide) rfl rfl (det_move_tup rfl rfl) <|
     sq_det rfl (by decide) rfl rfl (det_ex_agg rfl rfl rfl) <|
     sq_det rfl (by decide) rfl rfl (det_ex_c rfl rfl rfl) <|
     sq_det rfl (by decide) rfl rfl (det_index_vec 0 rfl el42 rfl rfl rfl (by omega) (mid_len (by simp; omega) (by omega))) <|
     sq_op0 rfl rfl (by decide) rfl rfl (det_store rfl sz44 rfl rfl rfl (st_vec 0 rfl (mid_getE (by simp; omega) ha) rfl)) ?_
    rintro _ _ ⟨rfl, rfl⟩
    refine ⟨_, rfl, ?_⟩
    refine sq_nil rfl <|
     rMv rfl <|
     rwp_nil <|
     sReg rfl <|
     rMv rfl <|
     rwp_det rfl rfl (det_neq rfl rfl rfl) <|
     rwp_nil <|
     awp_cond rfl (fun c4 => ?_) (fun c4 => ?_)
    ·try simp only [sx] at c4
     refine sReg rfl <|
      rwp_det rfl rfl (det_buildN [none, none, none, none, none, none, none, none, none, none, some 2, some 4, some 13] rfl zr44 pl44 rfl rfl) <|
      rMv rfl <|
      rwp_det0 rfl rfl (det_store rfl sz44 rfl rfl rfl (st_row 2 rfl rfl)) <|
      rMv rfl <|
      rwp_nil <|
      awp_ret <|
      fin2 (rs_cell_agg agg44 rfl (ptr_row 2 rfl) rfl) (rs_c rfl) ?_
     rw [mEx_e3 c1 hmi (mExs_no ha hr c4)]; rfl
    ·try simp only [sx] at c4
     refine awp_skip <|
      awp_region rfl <|
      rwp_det rfl rfl (det_add_nw rfl rfl rfl ⟨by omega, by omega⟩) <|
      rMv rfl <|
      rwp_nil ?_
     refine ⟨⟨n + 1, exs ++ [outE (mEx f a)]⟩, ⟨by omega, by simp; omega, mExs_next ha hr c4⟩, (by show e.Args.length - (n + 1) < e.Args.length - n; omega), Weak.mk [true, true, true, true] ⟨VLe.refl _, VLe.refl _, VLe.refl _, VLe.refl _, VLe.refl _, VLe.refl _, trivial⟩ (by simp only [Int.toNat_natCast]; rw [mid_set (by simp; omega) ha]; simp only [List.map_append, List.map_cons, List.map_nil, Ex.cells_eq (outE (mEx f a))]; rfl)⟩
   ·try simp only [sx] at c3
    have hme := mExs_end hr (by omega)
    rw [drop_end (l := e.Args) (k := n) (by omega)]
    simp only [List.map_nil, List.append_nil]
    refine awp_weak _ (weak_freezeM 0 rfl (regs' := []) (μ' := [_, _, _]) trivial ⟨EFle.row (ds := [_, _, _, _, _, _, _, _, _, _, _, _, _]) ⟨.inl rfl, .inl rfl, .inl rfl, .inl rfl, .inl rfl, .inl rfl, .inl rfl, .inl rfl, .inl rfl, .inl rfl, .inl rfl, .inl rfl, .inr ⟨rfl, rfl⟩, trivial⟩, EFle.refl _, EFle.refl _, trivial⟩) <|
     awp_exit <|
     sReg rfl <|
     rwp_det rfl rfl (det_load_agg rfl agg44 rfl (ptr_row 0 rfl) rfl) <|
     rwp_det0 rfl rfl (det_store rfl sz44 rfl rfl rfl (st_row 1 rfl rfl)) <|
     rMv rfl <|
     rwp_nil <|
     awp_ret <|
     fin2 (rs_cell_agg agg44 rfl (ptr_row 1 rfl) rfl) (rs_c rfl) ?_
    rw [mEx_ok c1 hmi hme]; rfl

theorem loopnest_mapExpr (f : Lf → Lf × Int) (c : C) (P : Lf → Prop) (hf : ∀ l, P l → FnPur cfg c [vLin l] (.tup [vLin (f l).1, vI (f l).2])) (e : Ex) (hP : e.allF P) (he : e.cnt ≤ 4294967296) : Pur cfg 138 [vE e, .c c] (.tup [vE (outE (mEx f e)), vI (errE (mEx f e))]) := by
  induction e using Ex.ind with
  | _ e ih => exact loopnest_mapExpr_step f c P hf e hP ih he

theorem loopnest_mapStmts_step (f : Lf → Lf × Int) (c : C) (P : Lf → Prop) (hf : ∀ l, P l → FnPur cfg c [vLin l] (.tup [vLin (f l).1, vI (f l).2])) (g : ByteArray → ByteArray) (c9 : C) (hg : ∀ s, FnPur cfg c9 [vS s] (vS (g s))) (l : List St) (hP : allSs P l) (ih : ∀ s, s ∈ l → Pur cfg 91 [vSts s.Body, .c c, .c c9] (.tup [vSts (outS (mSts f g s.Body)), vI (errE (mSts f g s.Body))])) (hl : stsWt l ≤ 1073741824) :
    Pur cfg 91 [vSts l, .c c, .c c9] (.tup [vSts (outS (mSts f g l)), vI (errE (mSts f g l))]) := by
 refine con_intro Tryz.func91 rfl Tryz.ntmps91 Tryz.results91 rfl ?_
 intro z hz
 have hll := stsWt_len l
 refine sReg rfl <|
  rwp_det rfl rfl (det_assignN 20 rfl rfl) <|
  rMv rfl <|
  rwp_nil <|
  sReg rfl <|
  rMv rfl <|
  rwp_op rfl rfl (ope_call_own rfl ok137 (slices_Clone_st l (by omega)) ⟨VLe.refl _, rfl, trivial⟩) ?_
 rintro _ _ ⟨sv1, rfl, rfl⟩
 refine rMv rfl <|
  rwp_nil <|
  sReg rfl <|
  rMv rfl <|
  rwp_nil <|
  awp_seq <|
  sReg rfl <|
  rMv rfl <|
  rwp_det rfl rfl (det_len_slm rfl el23 rfl) <|
  rMv rfl <|
  rwp_nil <|
  awp_block <|
  awp_weak ⟨[(15, .c _), (0, .c _), (1, .c _), (2, .c _), (8, .c _), (14, .c _)], [_]⟩ (Weak.mk [true] ⟨VLe.of_eq rfl, VLe.of_eq rfl, VLe.of_eq rfl, VLe.of_eq rfl, VLe.of_eq rfl, VLe.of_eq rfl, trivial⟩ rfl) <|
  awp_loop_k 1 1 rfl rfl (Nat × List St) (fun ⟨k, outs⟩ => [(15, vI k)]) (fun ⟨k, outs⟩ => [E.vec sv1 46 20 (outs.map St.cells ++ (l.drop k).map St.cells)]) (fun ⟨k, outs⟩ => k ≤ l.length ∧ (outs.length = k) ∧ (mSts f g l = mapRest outs (mSts f g (l.drop k)))) (fun ⟨k, outs⟩ => l.length - k) ⟨⟨0, []⟩, ⟨by omega, rfl, (mapRest_nil _).symm⟩, Weak.mk [true] ⟨VLe.refl _, VLe.refl _, VLe.refl _, VLe.refl _, VLe.refl _, VLe.refl _, trivial⟩ rfl⟩ ?_
 rintro ⟨k, outs⟩ ⟨hk, ho, hp⟩
 show AWP _ _ _ _ _ ⟨[(15, vI k)] ++ _, [E.vec sv1 46 20 (outs.map St.cells ++ (l.drop k).map St.cells)] ++ _⟩
 refine sReg rfl <|
  rwp_det rfl rfl (det_lss rfl rfl rfl) <|
  rwp_nil <|
  awp_seq <|
  awp_cond rfl (fun c1 => ?_) (fun c1 => ?_)
 ·try simp only [sx] at c1
  obtain ⟨s, hs⟩ := ex_get l k (by omega)
  have hsw := stsWt_mem (mem_of_get hs)
  have hse := St.wt_eq s
  have hPs := St.allF_eq (allSs_mem hP s (mem_of_get hs))
  refine awp_skip <|
   awp_seq <|
   awp_block <|
   sReg rfl <|
   rMv rfl <|
   rMv rfl <|
   rwp_nil <|
   awp_seq <|
   sReg rfl <|
   rMv rfl <|
   rMv rfl <|
   rwp_det rfl rfl (det_index_sl rfl el23 rfl rfl (by omega) (getmS hs)) <|
   rwp_det rfl rfl (det_field_imm rfl fd46_0 rfl) <|
   rwp_det rfl rfl (det_load_one rfl one3 rfl ptr_imm rfl) <|
   rwp_det rfl rfl (det_eql rfl rfl rfl) <|
   rwp_nil <|
   awp_cond rfl (fun c2 => ?_) (fun c2 => ?_)
  ·try simp only [sx] at c2
   refine awp_region rfl <|
    rMv rfl <|
    rMv rfl <|
    rMv rfl <|
    rMv rfl <|
    rMv rfl <|
    rwp_det rfl rfl (det_index_sl rfl el23 rfl rfl (by omega) (getmS hs)) <|
    rwp_det rfl rfl (det_field_imm rfl fd46_1 rfl) <|
    rwp_det rfl rfl (det_load_one rfl one9 rfl ptr_imm rfl) <|
    rwp_det rfl rfl (det_call_val rfl rfl (hg s.Name) ⟨VLe.refl _, rfl, trivial⟩) <|
    rwp_det rfl rfl (det_index_vec 0 rfl el23 rfl rfl rfl (by omega) (mid_len (by simp; omega) (by omega))) <|
    rwp_det rfl rfl (det_field_vec rfl fd46_1 rfl) <|
    rwp_det0 rfl rfl (det_store rfl sz9 rfl rfl rfl (st_vec 0 rfl (mid_getS (by simp; omega) hs) rfl)) <|
    rwp_nil <|
    awp_seq <|
    sReg rfl <|
    rMv rfl <|
    rMv rfl <|
    rMv rfl <|
    rMv rfl <|
    rwp_det rfl rfl (det_index_sl rfl el23 rfl rfl (by omega) (getmS hs)) <|
    rwp_det rfl rfl (det_field_imm rfl fd46_5 rfl) <|
    rwp_det rfl rfl (det_load_one rfl one34 rfl ptr_imm rfl) <|
    rMv rfl <|
    rwp_det rfl rfl (det_call rfl ok87 (loopnest_mapIndices f c P hf s.Idx (by omega) (fun x hx => by have := idxWt_mem hx; rw [Ix.wt] at this; omega) hPs.1) ⟨VLe.refl _, rfl, VLe.refl _, rfl, trivial⟩) <|
    rwp_det rfl rfl (det_move_tup rfl rfl) <|
    rwp_det rfl rfl (det_ex_c rfl rfl rfl) <|
    rwp_det rfl rfl (det_ex_c rfl rfl rfl) <|
    rwp_det rfl rfl (det_index_vec 0 rfl el23 rfl rfl rfl (by omega) (by simp; omega)) <|
    rwp_det rfl rfl (det_field_vec rfl fd46_5 rfl) <|
    rwp_det0 rfl rfl (det_store rfl sz34 rfl rfl rfl (st_vec 0 rfl (set_get (by simp; omega)) rfl)) <|
    rMv rfl <|
    rwp_nil <|
    sReg rfl <|
    rMv rfl <|
    rwp_det rfl rfl (det_neq rfl rfl rfl) <|
    rwp_nil <|
    awp_cond rfl (fun c3 => ?_) (fun c3 => ?_)
   ·try simp only [sx] at c3
    refine sReg rfl <|
     rMv rfl <|
     rwp_det rfl rfl (det_assignN 20 rfl rfl) <|
     rMv rfl <|
     rwp_nil <|
     awp_ret <|
     fin2 (rs_c rfl) (rs_c rfl) ?_
    rw [mSts_no hs hp (mSt_e1 (mIxs_err c3))]; rfl
   ·try simp only [sx] at c3
    obtain ⟨di, hmi⟩ := mIxs_0 c3
    rw [hmi]
    refine awp_skip <|
     awp_seq <|
     sReg rfl <|
     rMv rfl <|
     rMv rfl <|
     rMv rfl <|
     rMv rfl <|
     rwp_det rfl rfl (det_index_sl rfl el23 rfl rfl (by omega) (getmS hs)) <|
     rwp_det rfl rfl (det_field_imm rfl fd46_6 rfl) <|
     rwp_det rfl rfl (det_load_agg rfl agg44 rfl ptr_imm rfl) <|
     rMv rfl <|
     rwp_det rfl rfl (det_call rfl ok138 (loopnest_mapExpr f c P hf s.E hPs.2.1 (by have := s.E.cnt_le; omega)) ⟨VLe.refl _, rfl, VLe.refl _, rfl, trivial⟩) <|
     rwp_det rfl rfl (det_move_tup rfl rfl) <|
     rwp_det rfl rfl (det_ex_agg rfl rfl rfl) <|
     rwp_det rfl rfl (det_ex_c rfl rfl rfl) <|
     rwp_det rfl rfl (det_index_vec 0 rfl el23 rfl rfl rfl (by omega) (by simp; omega)) <|
     rwp_det rfl rfl (det_field_vec rfl fd46_6 rfl) <|
     rwp_det0 rfl rfl (det_store rfl sz44 rfl rfl rfl (st_vec 0 rfl (set_get (by simp; omega)) rfl)) <|
     rMv rfl <|
     rwp_nil <|
     sReg rfl <|
     rMv rfl <|
     rwp_det rfl rfl (det_neq rfl rfl rfl) <|
     rwp_nil <|
     awp_cond rfl (fun c4 => ?_) (fun c4 => ?_)
    ·try simp only [sx] at c4
     refine sReg rfl <|
      rMv rfl <|
      rwp_det rfl rfl (det_assignN 20 rfl rfl) <|
      rMv rfl <|
      rwp_nil <|
      awp_ret <|
      fin2 (rs_c rfl) (rs_c rfl) ?_
     rw [mSts_no hs hp (mSt_e2 hmi (mEx_err c4))]; rfl
    ·try simp only [sx] at c4
     obtain ⟨de, hmE⟩ := mEx_0 c4
     rw [hmE]
     refine awp_skip <|
      sReg rfl <|
      rMv rfl <|
      rMv rfl <|
      rMv rfl <|
      rMv rfl <|
      rwp_det rfl rfl (det_index_sl rfl el23 rfl rfl (by omega) (getmS hs)) <|
      rwp_det rfl rfl (det_field_imm rfl fd46_7 rfl) <|
      rwp_det rfl rfl (det_load_one rfl one23 rfl ptr_imm rfl) <|
      rMv rfl <|
      rMv rfl <|
      rwp_det rfl rfl (det_call rfl ok91 (ih s (mem_of_get hs)) ⟨VLe.refl _, rfl, VLe.refl _, rfl, VLe.refl _, rfl, trivial⟩) <|
      rwp_det rfl rfl (det_move_tup rfl rfl) <|
      rwp_det rfl rfl (det_ex_c rfl rfl rfl) <|
      rwp_det rfl rfl (det_ex_c rfl rfl rfl) <|
      rwp_det rfl rfl (det_index_vec 0 rfl el23 rfl rfl rfl (by omega) (by simp; omega)) <|
      rwp_det rfl rfl (det_field_vec rfl fd46_7 rfl) <|
      rwp_det0 rfl rfl (det_store rfl sz23 rfl rfl rfl (st_vec 0 rfl (set_get (by simp; omega)) rfl)) <|
      rMv rfl <|
      rwp_nil <|
      sReg rfl <|
      rMv rfl <|
      rwp_det rfl rfl (det_neq rfl rfl rfl) <|
      rwp_nil <|
      awp_cond rfl (fun c5 => ?_) (fun c5 => ?_)
     ·try simp only [sx] at c5
      refine sReg rfl <|
       rMv rfl <|
       rwp_det rfl rfl (det_assignN 20 rfl rfl) <|
       rMv rfl <|
       rwp_nil <|
       awp_ret <|
       fin2 (rs_c rfl) (rs_c rfl) ?_
      rw [mSts_no hs hp (mSt_e3 hmi hmE (mSts_err c5))]; rfl
     ·try simp only [sx] at c5
      obtain ⟨db, hmb⟩ := mSts_0 c5
      rw [hmb]
      have hms := mSt_ok hmi hmE hmb
      have hset : ∀ r, (outs.map St.cells ++ (l.drop k).map St.cells).set k r = (outs.map St.cells ++ [r]) ++ (l.drop (k + 1)).map St.cells := fun r => mid_set (by simp; omega) hs
      have hset2 : ∀ r r', ((outs.map St.cells ++ [r]) ++ (l.drop (k + 1)).map St.cells).set k r' = (outs.map St.cells ++ [r']) ++ (l.drop (k + 1)).map St.cells := fun r r' => mid_set' (α := St) (f := St.cells) (l := l) (by simp; omega)
      refine awp_skip <|
       awp_region rfl <|
       rwp_det rfl rfl (det_add_nw rfl rfl rfl ⟨by omega, by omega⟩) <|
       rMv rfl <|
       rwp_nil ?_
      refine ⟨⟨k + 1, outs ++ [.mk s.Op (if s.Op = 1 then g s.Name else s.Name) s.Many s.Mark s.Fold di de db]⟩, ⟨by omega, by simp; omega, mSts_next hs hp hms⟩, (by show l.length - (k + 1) < l.length - k; omega), Weak.mk [true] ⟨VLe.refl _, VLe.refl _, VLe.refl _, VLe.refl _, VLe.refl _, VLe.refl _, trivial⟩ (by simp only [Int.toNat_natCast, List.set_set, hset, hset2]; simp only [List.map_append, List.map_cons, List.map_nil, St.cells_eq (.mk _ _ _ _ _ _ _ _)]; first | (rw [if_pos c2]; rfl) | (rw [if_neg c2]; rfl))⟩
  ·try simp only [sx] at c2
   refine awp_skip <|
    awp_seq <|
    sReg rfl <|
    rMv rfl <|
    rMv rfl <|
    rMv rfl <|
    rMv rfl <|
    rwp_det rfl rfl (det_index_sl rfl el23 rfl rfl (by omega) (getmS hs)) <|
    rwp_det rfl rfl (det_field_imm rfl fd46_5 rfl) <|
    rwp_det rfl rfl (det_load_one rfl one34 rfl ptr_imm rfl) <|
    rMv rfl <|
    rwp_det rfl rfl (det_call rfl ok87 (loopnest_mapIndices f c P hf s.Idx (by omega) (fun x hx => by have := idxWt_mem hx; rw [Ix.wt] at this; omega) hPs.1) ⟨VLe.refl _, rfl, VLe.refl _, rfl, trivial⟩) <|
    rwp_det rfl rfl (det_move_tup rfl rfl) <|
    rwp_det rfl rfl (det_ex_c rfl rfl rfl) <|
    rwp_det rfl rfl (det_ex_c rfl rfl rfl) <|
    rwp_det rfl rfl (det_index_vec 0 rfl el23 rfl rfl rfl (by omega) (mid_len (by simp; omega) (by omega))) <|
    rwp_det rfl rfl (det_field_vec rfl fd46_5 rfl) <|
    rwp_det0 rfl rfl (det_store rfl sz34 rfl rfl rfl (st_vec 0 rfl (mid_getS (by simp; omega) hs) rfl)) <|
    rMv rfl <|
    rwp_nil <|
    sReg rfl <|
    rMv rfl <|
    rwp_det rfl rfl (det_neq rfl rfl rfl) <|
    rwp_nil <|
    awp_cond rfl (fun c3 => ?_) (fun c3 => ?_)
   ·try simp only [sx] at c3
    refine sReg rfl <|
     rMv rfl <|
     rwp_det rfl rfl (det_assignN 20 rfl rfl) <|
     rMv rfl <|
     rwp_nil <|
     awp_ret <|
     fin2 (rs_c rfl) (rs_c rfl) ?_
    rw [mSts_no hs hp (mSt_e1 (mIxs_err c3))]; rfl
   ·try simp only [sx] at c3
    obtain ⟨di, hmi⟩ := mIxs_0 c3
    rw [hmi]
    refine awp_skip <|
     awp_seq <|
     sReg rfl <|
     rMv rfl <|
     rMv rfl <|
     rMv rfl <|
     rMv rfl <|
     rwp_det rfl rfl (det_index_sl rfl el23 rfl rfl (by omega) (getmS hs)) <|
     rwp_det rfl rfl (det_field_imm rfl fd46_6 rfl) <|
     rwp_det rfl rfl (det_load_agg rfl agg44 rfl ptr_imm rfl) <|
     rMv rfl <|
     rwp_det rfl rfl (det_call rfl ok138 (loopnest_mapExpr f c P hf s.E hPs.2.1 (by have := s.E.cnt_le; omega)) ⟨VLe.refl _, rfl, VLe.refl _, rfl, trivial⟩) <|
     rwp_det rfl rfl (det_move_tup rfl rfl) <|
     rwp_det rfl rfl (det_ex_agg rfl rfl rfl) <|
     rwp_det rfl rfl (det_ex_c rfl rfl rfl) <|
     rwp_det rfl rfl (det_index_vec 0 rfl el23 rfl rfl rfl (by omega) (by simp; omega)) <|
     rwp_det rfl rfl (det_field_vec rfl fd46_6 rfl) <|
     rwp_det0 rfl rfl (det_store rfl sz44 rfl rfl rfl (st_vec 0 rfl (set_get (by simp; omega)) rfl)) <|
     rMv rfl <|
     rwp_nil <|
     sReg rfl <|
     rMv rfl <|
     rwp_det rfl rfl (det_neq rfl rfl rfl) <|
     rwp_nil <|
     awp_cond rfl (fun c4 => ?_) (fun c4 => ?_)
    ·try simp only [sx] at c4
     refine sReg rfl <|
      rMv rfl <|
      rwp_det rfl rfl (det_assignN 20 rfl rfl) <|
      rMv rfl <|
      rwp_nil <|
      awp_ret <|
      fin2 (rs_c rfl) (rs_c rfl) ?_
     rw [mSts_no hs hp (mSt_e2 hmi (mEx_err c4))]; rfl
    ·try simp only [sx] at c4
     obtain ⟨de, hmE⟩ := mEx_0 c4
     rw [hmE]
     refine awp_skip <|
      sReg rfl <|
      rMv rfl <|
      rMv rfl <|
      rMv rfl <|
      rMv rfl <|
      rwp_det rfl rfl (det_index_sl rfl el23 rfl rfl (by omega) (getmS hs)) <|
      rwp_det rfl rfl (det_field_imm rfl fd46_7 rfl) <|
      rwp_det rfl rfl (det_load_one rfl one23 rfl ptr_imm rfl) <|
      rMv rfl <|
      rMv rfl <|
      rwp_det rfl rfl (det_call rfl ok91 (ih s (mem_of_get hs)) ⟨VLe.refl _, rfl, VLe.refl _, rfl, VLe.refl _, rfl, trivial⟩) <|
      rwp_det rfl rfl (det_move_tup rfl rfl) <|
      rwp_det rfl rfl (det_ex_c rfl rfl rfl) <|
      rwp_det rfl rfl (det_ex_c rfl rfl rfl) <|
      rwp_det rfl rfl (det_index_vec 0 rfl el23 rfl rfl rfl (by omega) (by simp; omega)) <|
      rwp_det rfl rfl (det_field_vec rfl fd46_7 rfl) <|
      rwp_det0 rfl rfl (det_store rfl sz23 rfl rfl rfl (st_vec 0 rfl (set_get (by simp; omega)) rfl)) <|
      rMv rfl <|
      rwp_nil <|
      sReg rfl <|
      rMv rfl <|
      rwp_det rfl rfl (det_neq rfl rfl rfl) <|
      rwp_nil <|
      awp_cond rfl (fun c5 => ?_) (fun c5 => ?_)
     ·try simp only [sx] at c5
      refine sReg rfl <|
       rMv rfl <|
       rwp_det rfl rfl (det_assignN 20 rfl rfl) <|
       rMv rfl <|
       rwp_nil <|
       awp_ret <|
       fin2 (rs_c rfl) (rs_c rfl) ?_
      rw [mSts_no hs hp (mSt_e3 hmi hmE (mSts_err c5))]; rfl
     ·try simp only [sx] at c5
      obtain ⟨db, hmb⟩ := mSts_0 c5
      rw [hmb]
      have hms := mSt_ok hmi hmE hmb
      have hset : ∀ r, (outs.map St.cells ++ (l.drop k).map St.cells).set k r = (outs.map St.cells ++ [r]) ++ (l.drop (k + 1)).map St.cells := fun r => mid_set (by simp; omega) hs
      have hset2 : ∀ r r', ((outs.map St.cells ++ [r]) ++ (l.drop (k + 1)).map St.cells).set k r' = (outs.map St.cells ++ [r']) ++ (l.drop (k + 1)).map St.cells := fun r r' => mid_set' (α := St) (f := St.cells) (l := l) (by simp; omega)
      refine awp_skip <|
       awp_region rfl <|
       rwp_det rfl rfl (det_add_nw rfl rfl rfl ⟨by omega, by omega⟩) <|
       rMv rfl <|
       rwp_nil ?_
      refine ⟨⟨k + 1, outs ++ [.mk s.Op (if s.Op = 1 then g s.Name else s.Name) s.Many s.Mark s.Fold di de db]⟩, ⟨by omega, by simp; omega, mSts_next hs hp hms⟩, (by show l.length - (k + 1) < l.length - k; omega), Weak.mk [true] ⟨VLe.refl _, VLe.refl _, VLe.refl _, VLe.refl _, VLe.refl _, VLe.refl _, trivial⟩ (by simp only [Int.toNat_natCast, List.set_set, hset, hset2]; simp only [List.map_append, List.map_cons, List.map_nil, St.cells_eq (.mk _ _ _ _ _ _ _ _)]; first | (rw [if_pos c2]; rfl) | (rw [if_neg c2]; rfl))⟩
 ·try simp only [sx] at c1
  have hme := mSts_end hp (by omega)
  rw [drop_end (l := l) (k := k) (by omega)]
  simp only [List.map_nil, List.append_nil]
  refine awp_weak _ (weak_freezeM 0 rfl (regs' := [(8, _)]) (μ' := []) ⟨FLe.sl, trivial⟩ trivial) <|
   awp_exit <|
   sReg rfl <|
   rMv rfl <|
   rMv rfl <|
   rMv rfl <|
   rwp_nil <|
   awp_ret <|
   fin2 (rs_c rfl) (rs_c rfl) ?_
  rw [hme]; rfl

theorem loopnest_mapStmts_body (f : Lf → Lf × Int) (c : C) (P : Lf → Prop) (hf : ∀ l, P l → FnPur cfg c [vLin l] (.tup [vLin (f l).1, vI (f l).2])) (g : ByteArray → ByteArray) (c9 : C) (hg : ∀ s, FnPur cfg c9 [vS s] (vS (g s))) (s : St) (hP : allSs P s.Body) (hl : stsWt s.Body ≤ 1073741824) : Pur cfg 91 [vSts s.Body, .c c, .c c9] (.tup [vSts (outS (mSts f g s.Body)), vI (errE (mSts f g s.Body))]) := by
  induction s using St.ind with
  | _ s ih => exact loopnest_mapStmts_step f c P hf g c9 hg s.Body hP (fun a ha => ih a ha (St.allF_eq (allSs_mem hP a ha)).2.2 (by have := stsWt_mem ha; have := St.body_wt a; omega)) hl
theorem loopnest_mapStmts (f : Lf → Lf × Int) (c : C) (P : Lf → Prop) (hf : ∀ l, P l → FnPur cfg c [vLin l] (.tup [vLin (f l).1, vI (f l).2])) (g : ByteArray → ByteArray) (c9 : C) (hg : ∀ s, FnPur cfg c9 [vS s] (vS (g s))) (l : List St) (hP : allSs P l) (hl : stsWt l ≤ 1073741824) : Pur cfg 91 [vSts l, .c c, .c c9] (.tup [vSts (outS (mSts f g l)), vI (errE (mSts f g l))]) :=
  loopnest_mapStmts_step f c P hf g c9 hg l hP (fun s hs => loopnest_mapStmts_body f c P hf g c9 hg s (St.allF_eq (allSs_mem hP s hs)).2.2 (by have := stsWt_mem hs; have := St.body_wt s; omega)) hl

theorem loopnest_copyLin (l : Lf) (hl : l.L.length ≤ 1073741824) :
    Pur cfg 93 [vLin l] (vLin l) := by
 refine con_intro Tryz.func93 rfl Tryz.ntmps93 Tryz.results93 rfl ?_
 intro z hz
 refine sReg rfl <|
  rwp_op rfl rfl (ope_box rfl rfl) ?_
 rintro _ _ ⟨b1, rfl, rfl⟩
 refine rwp_op rfl rfl (ope_allocN [none, some 2] rfl zr41 rfl) ?_
 rintro _ _ ⟨b2, rfl, rfl⟩
 refine rwp_nil <|
  awp_seq <|
  awp_draw 6 mixed (by kernel_rfl) rfl rfl <|
  td_det rfl rfl (det_field_lit rfl fd41_0 rfl) <|
  td_det rfl rfl (det_load_one rfl one2 rfl (ptr_row 1 rfl) rfl) <|
  td_det rfl rfl (det_field_lit rfl fd41_1 rfl) <|
  td_det rfl rfl (det_load_one rfl one39 rfl (ptr_row 1 rfl) rfl) <|
  td_det rfl rfl (det_call rfl ok139 (OwnR.pur (slices_Clone_mono l.L (by omega))) ⟨VLe.refl _, rfl, trivial⟩) <|
  td_det rfl rfl (det_build rfl zr41 pl41 rfl) <|
  td_nil <|
  rwp_det0 rfl rfl (det_store rfl sz41 rfl rfl rfl (st_row 0 rfl rfl)) <|
  rwp_nil <|
  awp_ret <|
  fin1 (rs_cell_agg agg41 rfl (ptr_row 0 rfl) rfl) ?_
 exact rfl

theorem copyStmts_1 (l : Lf) (hl : l.L.length ≤ 1073741824) :
    Pur cfg 92 [vLin l] (.tup [vLin (idF l).1, vI (idF l).2]) := by
 refine con_intro Tryz.func92 rfl Tryz.ntmps92 Tryz.results92 rfl ?_
 intro z hz
 refine sReg rfl <|
  rwp_op rfl rfl (ope_box rfl rfl) ?_
 rintro _ _ ⟨b1, rfl, rfl⟩
 refine rwp_op rfl rfl (ope_allocN [none, some 2] rfl zr41 rfl) ?_
 rintro _ _ ⟨b2, rfl, rfl⟩
 refine rMv rfl <|
  rwp_nil <|
  sReg rfl <|
  rwp_det rfl rfl (det_load_agg rfl agg41 rfl (ptr_row 1 rfl) rfl) <|
  rwp_det rfl rfl (det_call rfl ok93 (loopnest_copyLin l hl) ⟨VLe.refl _, rfl, trivial⟩) <|
  rwp_det0 rfl rfl (det_store rfl sz41 rfl rfl rfl (st_row 0 rfl rfl)) <|
  rMv rfl <|
  rwp_nil <|
  awp_ret <|
  fin2 (rs_cell_agg agg41 rfl (ptr_row 0 rfl) rfl) (rs_c rfl) ?_
 exact rfl

theorem loopnest_same (s : ByteArray) :
    Pur cfg 94 [vS s] (vS s) := by
 refine con_intro Tryz.func94 rfl Tryz.ntmps94 Tryz.results94 rfl ?_
 intro z hz
 refine sReg rfl <|
  rMv rfl <|
  rwp_nil <|
  sReg rfl <|
  rMv rfl <|
  rMv rfl <|
  rwp_nil <|
  awp_ret <|
  fin1 (rs_c rfl) ?_
 exact rfl

theorem loopnest_copyStmts (l : List St) (hl : stsWt l ≤ 1073741824) :
    Pur cfg 41 [vSts l] (vSts l) := by
 refine con_intro Tryz.func41 rfl Tryz.ntmps41 Tryz.results41 rfl ?_
 intro z hz
 refine sReg rfl <|
  rwp_det rfl rfl (det_assignN 20 rfl rfl) <|
  rwp_nil <|
  sReg rfl <|
  rMv rfl <|
  rwp_det rfl rfl (det_call rfl ok91 (loopnest_mapStmts idF _ (fun l => l.L.length ≤ 1073741824) (fun l hl => FnPur.of_pur (first := []) (cap := []) ok92 (copyStmts_1 l hl)) (fun x => x) _ (fun s => FnPur.of_pur (first := []) (cap := []) ok94 (loopnest_same s)) l (sts_short hl) hl) ⟨VLe.refl _, rfl, VLe.refl _, rfl, VLe.refl _, rfl, trivial⟩) <|
  rwp_det rfl rfl (det_move_tup rfl rfl) <|
  rwp_det rfl rfl (det_ex_c rfl rfl rfl) <|
  rwp_det rfl rfl (det_ex_c rfl rfl rfl) <|
  rMv rfl <|
  rMv rfl <|
  rwp_nil <|
  sReg rfl <|
  rMv rfl <|
  rMv rfl <|
  rwp_nil <|
  awp_ret <|
  fin1 (rs_c rfl) ?_
 rw [mSts_id]; rfl

theorem loopnest_At (n : Ns) (way : List Int) (hw : way.length ≤ 1073741824) (hl : stsWt n.Body ≤ 1000000000) :
    Pur cfg 15 [vNs n, vIs way] (.tup [vSt (atT n.Body way).1, vB (atT n.Body way).2]) := by
 refine con_intro Tryz.func15 rfl Tryz.ntmps15 Tryz.results15 rfl ?_
 intro z hz
 have htl := trl_len way n.Body []
 have htl2 : (trailT n.Body way).length ≤ way.length := by unfold trailT; simpa using htl
 refine sReg rfl <|
  rwp_op rfl rfl (ope_box rfl rfl) ?_
 rintro _ _ ⟨b1, rfl, rfl⟩
 refine rwp_op rfl rfl (ope_allocN [none, none, none, none, none, some 4, none, none, none, none, none, none, none, none, none, none, some 2, some 4, some 13, some 20] rfl zr46 rfl) ?_
 rintro _ _ ⟨b2, rfl, rfl⟩
 refine rMv rfl <|
  rwp_nil <|
  sReg rfl <|
  rwp_det rfl rfl (det_field_lit rfl fd25_1 rfl) <|
  rwp_det rfl rfl (det_load_one rfl one23 rfl (ptr_row 1 rfl) rfl) <|
  rMv rfl <|
  rwp_det rfl rfl (det_call rfl ok38 (loopnest_trail n.Body way hw) ⟨VLe.refl _, rfl, VLe.refl _, rfl, trivial⟩) <|
  rMv rfl <|
  rwp_nil <|
  awp_seq <|
  sReg rfl <|
  rMv rfl <|
  rwp_det rfl rfl (det_len_slm rfl el23 rfl) <|
  rwp_det rfl rfl (det_eql rfl rfl rfl) <|
  rwp_nil <|
  awp_cond rfl (fun c1 => ?_) (fun c1 => ?_)
 ·try simp only [sx] at c1
  have he : trailT n.Body way = [] := List.eq_nil_of_length_eq_zero (by omega)
  have ha := at_none he
  refine sReg rfl <|
   rwp_det rfl rfl (det_buildN [none, none, none, none, none, some 4, none, none, none, none, none, none, none, none, none, none, some 2, some 4, some 13, some 20] rfl zr46 pl46 rfl rfl) <|
   rwp_det0 rfl rfl (det_store rfl sz46 rfl rfl rfl (st_row 0 rfl rfl)) <|
   rMv rfl <|
   rwp_nil <|
   awp_ret <|
   fin2 (rs_cell_agg agg46 rfl (ptr_row 0 rfl) rfl) (rs_c rfl) ?_
  rw [ha]; rfl
 ·try simp only [sx] at c1
  have hne : trailT n.Body way ≠ [] := fun h => c1 (by rw [h]; rfl)
  have hlast := at_last hne
  have hok := at_some hne
  refine awp_skip <|
   sReg rfl <|
   rMv rfl <|
   rMv rfl <|
   rwp_det rfl rfl (det_len_slm rfl el23 rfl) <|
   rwp_det rfl rfl (det_sub_nw rfl rfl rfl ⟨by omega, by omega⟩) <|
   rwp_det rfl rfl (det_cut_drop (k := (trailT n.Body way).length - 1) rfl el23 rfl (congrArg (fun n => V.c (C.lit (.int .i64 n))) (by have := List.length_pos_iff.2 hne; omega)) (by omega)) <|
   rwp_det rfl rfl (det_call rfl ok41 (show Pur cfg 41 [vSts ((trailT n.Body way).drop ((trailT n.Body way).length - 1))] (vSts [(atT n.Body way).1]) by rw [hlast]; exact loopnest_copyStmts [(atT n.Body way).1] (by have := atT_wt (l := n.Body) (way := way); simp only [stsWt]; omega)) ⟨VLe.refl _, rfl, trivial⟩) <|
   rwp_det rfl rfl (det_index_sl rfl el23 rfl rfl (by omega) (show ([(atT n.Body way).1].map St.cells)[0]? = some (atT n.Body way).1.cs by rw [← St.cells_eq]; rfl)) <|
   rwp_det rfl rfl (det_load_agg rfl agg46 rfl ptr_imm rfl) <|
   rwp_det0 rfl rfl (det_store rfl sz46 rfl rfl rfl (st_row 0 rfl rfl)) <|
   rMv rfl <|
   rwp_nil <|
   awp_ret <|
   fin2 (rs_cell_agg agg46 rfl (ptr_row 0 rfl) rfl) (rs_c rfl) ?_
  rw [hok]; rfl

end Go.W
