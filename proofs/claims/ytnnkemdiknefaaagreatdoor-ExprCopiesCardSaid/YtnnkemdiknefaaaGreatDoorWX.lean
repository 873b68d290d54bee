/-
  Walks: what functions of the program compute. Printed by wip/gen/mk2.py.
  Conditions: none.
-/
import Derived.Test.YtnnkemdiknefaaaGreatDoorWR
import Derived.Test.YtnnkemdiknefaaaGreatDoorPlain2
import Derived.Test.YtnnkemdiknefaaaGreatDoorEngZ
set_option linter.unusedSimpArgs false
set_option linter.unusedVariables false
namespace Go.W
open Go Go.Eng Go.Proofs Go.L41 Go.Br
attribute [local irreducible] AWP RWP TD
theorem ik2 : intT Tryz.prog 2 = some .i64 := by kernel_rfl
theorem ok204 : callOk Tryz.prog 204 = true := by kernel_rfl
theorem ok239 : callOk Tryz.prog 239 = true := by kernel_rfl
theorem ok240 : callOk Tryz.prog 240 = true := by kernel_rfl
theorem sz27 : (Tryz.prog.info? 27).map (·.size) = some 1 := by kernel_rfl
theorem us222 : (Tryz.prog.underlying 222).isSome = true := by kernel_rfl
theorem lin_plus (a b : Int) (ha : r64 a) (hb : r64 b) :
    Pur cfg 205 [vI a, vI b] (.tup [vI (w64 (a + b)), vB (decide (r64 (a + b)))]) := by
 refine con_intro Tryz.func205 rfl Tryz.ntmps205 Tryz.results205 rfl ?_
 intro z hz
 refine awp_seq ?_
 refine awp_region rfl ?_
 refine rwp_det rfl rfl (det_assign rfl rfl) ?_
 refine rwp_det rfl rfl (det_assign rfl rfl) ?_
 refine rwp_nil ?_
 refine awp_seq ?_
 refine awp_region rfl ?_
 refine rwp_det rfl rfl (det_move rfl rfl) ?_
 refine rwp_det rfl rfl (det_move rfl rfl) ?_
 refine rwp_det rfl rfl (det_add rfl rfl rfl) ?_
 refine rwp_det rfl rfl (det_assign rfl rfl) ?_
 refine rwp_nil ?_
 refine awp_seq ?_
 refine awp_region rfl ?_
 refine rwp_det rfl rfl (det_move rfl rfl) ?_
 refine rwp_det rfl rfl (det_move rfl rfl) ?_
 refine rwp_det rfl rfl (det_move rfl rfl) ?_
 refine rwp_det rfl rfl (det_gtr rfl rfl rfl) ?_
 refine rwp_det rfl rfl (det_move rfl rfl) ?_
 refine rwp_det rfl rfl (det_gtr rfl rfl rfl) ?_
 refine rwp_det rfl rfl (det_beql rfl un4 rfl rfl) ?_
 refine rwp_det rfl rfl (det_assign rfl rfl) ?_
 refine rwp_det rfl rfl (det_assign rfl rfl) ?_
 refine rwp_nil ?_
 refine awp_ret ?_
 repeat (first | refine thenQ_ret ?_ | refine blockQ_ret ?_)
 refine fin2 (rs_c rfl) (rs_c rfl) ?_
 rw [← plus_ok ha hb]; rfl

theorem lin_magnitude (x : Int) (hx : r64 x) :
    Pur cfg 240 [vI x] (vUn x.natAbs) := by
 refine con_intro Tryz.func240 rfl Tryz.ntmps240 Tryz.results240 rfl ?_
 intro z hz
 refine awp_seq ?_
 refine awp_region rfl ?_
 refine rwp_det rfl rfl (det_assign rfl rfl) ?_
 refine rwp_nil ?_
 refine awp_seq ?_
 refine awp_seq ?_
 refine awp_region rfl ?_
 refine rwp_det rfl rfl (det_move rfl rfl) ?_
 refine rwp_det rfl rfl (det_lss rfl rfl rfl) ?_
 refine rwp_nil ?_
 refine awp_cond rfl (fun c1 => ?_) (fun c1 => ?_)
 ·try simp only [sx, List.length_map] at c1
  refine awp_seq ?_
  refine awp_region rfl ?_
  refine rwp_det rfl rfl (det_move rfl rfl) ?_
  refine rwp_det rfl rfl (det_conv rfl us2 ik222 rfl) ?_
  refine rwp_det rfl rfl (det_neg rfl rfl) ?_
  refine rwp_det rfl rfl (det_assign rfl rfl) ?_
  refine rwp_nil ?_
  refine awp_ret ?_
  repeat (first | refine thenQ_ret ?_ | refine blockQ_ret ?_)
  refine fin1 (rs_c rfl) ?_
  exact congrArg (fun n => V.c (.lit (.int .u64 n))) (magn_neg hx c1)
 ·try simp only [sx, List.length_map] at c1
  refine awp_skip ?_
  refine awp_seq ?_
  refine awp_region rfl ?_
  refine rwp_det rfl rfl (det_move rfl rfl) ?_
  refine rwp_det rfl rfl (det_conv rfl us2 ik222 rfl) ?_
  refine rwp_det rfl rfl (det_assign rfl rfl) ?_
  refine rwp_nil ?_
  refine awp_ret ?_
  repeat (first | refine thenQ_ret ?_ | refine blockQ_ret ?_)
  refine fin1 (rs_c rfl) ?_
  exact congrArg (fun n => V.c (.lit (.int .u64 n))) (magn_pos hx (by omega))

theorem lin_product (a b : Nat) (ha : a < 18446744073709551616) (hb : b < 18446744073709551616) :
    Pur cfg 239 [vUn a, vUn b] (.tup [vUn (hiN a b), vUn (a * b % 18446744073709551616)]) := by
 refine con_intro Tryz.func239 rfl Tryz.ntmps239 Tryz.results239 rfl ?_
 intro z hz
 obtain ⟨p1, p2, p3, p4⟩ := part_le ha hb
 obtain ⟨q1, q2, q3, q4⟩ := hi_bounds ha hb
 refine awp_seq ?_
 refine awp_region rfl ?_
 refine rwp_det rfl rfl (det_assign rfl rfl) ?_
 refine rwp_det rfl rfl (det_assign rfl rfl) ?_
 refine rwp_nil ?_
 refine awp_seq ?_
 refine awp_region rfl ?_
 refine rwp_det rfl rfl (det_move rfl rfl) ?_
 refine rwp_det rfl rfl (det_uand rfl rfl rfl ha) ?_
 refine rwp_det rfl rfl (det_move rfl rfl) ?_
 refine rwp_det rfl rfl (det_uand rfl rfl rfl hb) ?_
 refine rwp_det rfl rfl (det_umul rfl rfl rfl (by omega)) ?_
 refine rwp_det rfl rfl (det_assign rfl rfl) ?_
 refine rwp_nil ?_
 refine awp_seq ?_
 refine awp_region rfl ?_
 refine rwp_det rfl rfl (det_move rfl rfl) ?_
 refine rwp_det rfl rfl (det_ushr rfl rfl rfl ) ?_
 refine rwp_det rfl rfl (det_move rfl rfl) ?_
 refine rwp_det rfl rfl (det_uand rfl rfl rfl hb) ?_
 refine rwp_det rfl rfl (det_umul rfl rfl rfl (by omega)) ?_
 refine rwp_det rfl rfl (det_move rfl rfl) ?_
 refine rwp_det rfl rfl (det_ushr rfl rfl rfl ) ?_
 refine rwp_det rfl rfl (det_uadd rfl rfl rfl q1) ?_
 refine rwp_det rfl rfl (det_assign rfl rfl) ?_
 refine rwp_nil ?_
 refine awp_seq ?_
 refine awp_region rfl ?_
 refine rwp_det rfl rfl (det_move rfl rfl) ?_
 refine rwp_det rfl rfl (det_uand rfl rfl rfl ha) ?_
 refine rwp_det rfl rfl (det_move rfl rfl) ?_
 refine rwp_det rfl rfl (det_ushr rfl rfl rfl ) ?_
 refine rwp_det rfl rfl (det_umul rfl rfl rfl (by omega)) ?_
 refine rwp_det rfl rfl (det_move rfl rfl) ?_
 refine rwp_det rfl rfl (det_uand rfl rfl rfl q1) ?_
 refine rwp_det rfl rfl (det_uadd rfl rfl rfl q2) ?_
 refine rwp_det rfl rfl (det_assign rfl rfl) ?_
 refine rwp_nil ?_
 refine awp_seq ?_
 refine awp_region rfl ?_
 refine rwp_det rfl rfl (det_move rfl rfl) ?_
 refine rwp_det rfl rfl (det_ushr rfl rfl rfl ) ?_
 refine rwp_det rfl rfl (det_move rfl rfl) ?_
 refine rwp_det rfl rfl (det_ushr rfl rfl rfl ) ?_
 refine rwp_det rfl rfl (det_umul rfl rfl rfl (by omega)) ?_
 refine rwp_det rfl rfl (det_move rfl rfl) ?_
 refine rwp_det rfl rfl (det_ushr rfl rfl rfl ) ?_
 refine rwp_det rfl rfl (det_uadd rfl rfl rfl q3) ?_
 refine rwp_det rfl rfl (det_move rfl rfl) ?_
 refine rwp_det rfl rfl (det_ushr rfl rfl rfl ) ?_
 refine rwp_det rfl rfl (det_uadd rfl rfl rfl q4) ?_
 refine rwp_det rfl rfl (det_move rfl rfl) ?_
 refine rwp_det rfl rfl (det_move rfl rfl) ?_
 refine rwp_det rfl rfl (det_umod rfl rfl rfl ) ?_
 refine rwp_det rfl rfl (det_assign rfl rfl) ?_
 refine rwp_det rfl rfl (det_assign rfl rfl) ?_
 refine rwp_nil ?_
 refine awp_ret ?_
 repeat (first | refine thenQ_ret ?_ | refine blockQ_ret ?_)
 refine fin2 (rs_c rfl) (rs_c rfl) ?_
 exact rfl

theorem lin_times (x y : Int) (hx : r64 x) (hy : r64 y) :
    Pur cfg 204 [vI x, vI y] (.tup [vI (timesT x y).1, vB (timesT x y).2]) := by
 refine con_intro Tryz.func204 rfl Tryz.ntmps204 Tryz.results204 rfl ?_
 intro z hz
 have hm1 := magn_le hx
 have hm2 := magn_le hy
 refine awp_seq ?_
 refine awp_region rfl ?_
 refine rwp_det rfl rfl (det_assign rfl rfl) ?_
 refine rwp_det rfl rfl (det_assign rfl rfl) ?_
 refine rwp_nil ?_
 refine awp_seq ?_
 refine awp_region rfl ?_
 refine rwp_det rfl rfl (det_move rfl rfl) ?_
 refine rwp_det rfl rfl (det_call rfl ok240 (lin_magnitude x hx) ⟨VLe.refl _, rfl, trivial⟩) ?_
 refine rwp_det rfl rfl (det_move rfl rfl) ?_
 refine rwp_det rfl rfl (det_call rfl ok240 (lin_magnitude y hy) ⟨VLe.refl _, rfl, trivial⟩) ?_
 refine rwp_det rfl rfl (det_call rfl ok239 (lin_product x.natAbs y.natAbs (by omega) (by omega)) ⟨VLe.refl _, rfl, VLe.refl _, rfl, trivial⟩) ?_
 refine rwp_det rfl rfl (det_move_tup rfl rfl) ?_
 refine rwp_det rfl rfl (det_ex_c rfl rfl rfl) ?_
 refine rwp_det rfl rfl (det_ex_c rfl rfl rfl) ?_
 refine rwp_det rfl rfl (det_assign rfl rfl) ?_
 refine rwp_det rfl rfl (det_assign rfl rfl) ?_
 refine rwp_nil ?_
 refine awp_seq ?_
 refine awp_region rfl ?_
 refine rwp_det rfl rfl (det_move rfl rfl) ?_
 refine rwp_det rfl rfl (det_lss rfl rfl rfl) ?_
 refine rwp_det rfl rfl (det_move rfl rfl) ?_
 refine rwp_det rfl rfl (det_lss rfl rfl rfl) ?_
 refine rwp_det rfl rfl (det_bneq rfl un4 rfl rfl) ?_
 refine rwp_det rfl rfl (det_assign rfl rfl) ?_
 refine rwp_nil ?_
 refine awp_seq ?_
 refine awp_block ?_
 refine awp_seq ?_
 refine awp_region rfl ?_
 refine rwp_det rfl rfl (det_move rfl rfl) ?_
 refine rwp_det rfl rfl (det_neq rfl rfl rfl) ?_
 refine rwp_det rfl rfl (det_move rfl rfl) ?_
 refine rwp_lazy [] rfl rfl rfl rfl gv1 trivial (fun g3_2 => det_move rfl rfl) rfl ?_
 refine rwp_lazy [(26, _)] rfl rfl rfl rfl gv1 ⟨rfl, rfl, trivial⟩ (fun g3_2 => det_gtr rfl rfl rfl) rfl ?_
 refine rwp_det rfl rfl (det_or rfl rfl rfl rfl (fun h => (lzf h))) ?_
 refine rwp_det rfl rfl (det_move rfl rfl) ?_
 refine rwp_lazy [] rfl rfl rfl rfl gv1 trivial (fun g3_6 => det_move rfl rfl) rfl ?_
 refine rwp_lazy [(30, _)] rfl rfl rfl rfl gv1 ⟨rfl, rfl, trivial⟩ (fun g3_6 => det_eql rfl rfl rfl) rfl ?_
 refine rwp_lazy [(31, _)] rfl rfl rfl rfl gv1 ⟨rfl, rfl, trivial⟩ (fun g3_6 => det_move rfl rfl) rfl ?_
 refine rwp_lazy [] rfl rfl rfl rfl gv2 trivial (fun g3_9 => det_move rfl rfl) rfl ?_
 refine rwp_lazy [(33, _)] rfl rfl rfl rfl gv2 ⟨rfl, rfl, trivial⟩ (fun g3_9 => det_not rfl rfl) rfl ?_
 refine rwp_lazy [(32, _)] rfl rfl rfl rfl gv1 ⟨rfl, rfl, trivial⟩ (fun g3_6 => det_and rfl rfl rfl (fun h => and_mk (by assumption) h) rfl) rfl ?_
 refine rwp_det rfl rfl (det_or rfl rfl rfl rfl (fun h => (lzf h))) ?_
 refine rwp_det rfl rfl (det_assign rfl rfl) ?_
 refine rwp_nil ?_
 refine awp_cond rfl (fun c1 => ?_) (fun c1 => ?_)
 ·try simp only [sx, List.length_map] at c1
  refine awp_seq ?_
  refine awp_region rfl ?_
  refine rwp_det rfl rfl (det_assign rfl rfl) ?_
  refine rwp_det rfl rfl (det_assign rfl rfl) ?_
  refine rwp_nil ?_
  refine awp_ret ?_
  repeat (first | refine thenQ_ret ?_ | refine blockQ_ret ?_)
  refine fin2 (rs_c rfl) (rs_c rfl) ?_
  rw [times_f hx hy c1]
 ·try simp only [sx, List.length_map] at c1
  refine awp_seq ?_
  refine awp_region rfl ?_
  refine rwp_det rfl rfl (det_move rfl rfl) ?_
  refine rwp_det rfl rfl (det_assign rfl rfl) ?_
  refine rwp_nil ?_
  refine awp_cond rfl (fun c2 => ?_) (fun c2 => ?_)
  ·try simp only [sx, List.length_map] at c2
   refine awp_seq ?_
   refine awp_region rfl ?_
   refine rwp_det rfl rfl (det_move rfl rfl) ?_
   refine rwp_det rfl rfl (det_neg rfl rfl) ?_
   refine rwp_det rfl rfl (det_conv rfl us222 ik2 rfl) ?_
   refine rwp_det rfl rfl (det_assign rfl rfl) ?_
   refine rwp_det rfl rfl (det_assign rfl rfl) ?_
   refine rwp_nil ?_
   refine awp_ret ?_
   repeat (first | refine thenQ_ret ?_ | refine blockQ_ret ?_)
   refine fin2 (rs_c rfl) (rs_c rfl) ?_
   rw [times_neg c2 (by have := c1.1.1; omega) (by have := c1.1.2; omega)]
  ·try simp only [sx, List.length_map] at c2
   refine awp_skip ?_
   refine awp_seq ?_
   refine awp_region rfl ?_
   refine rwp_det rfl rfl (det_move rfl rfl) ?_
   refine rwp_det rfl rfl (det_conv rfl us222 ik2 rfl) ?_
   refine rwp_det rfl rfl (det_assign rfl rfl) ?_
   refine rwp_det rfl rfl (det_assign rfl rfl) ?_
   refine rwp_nil ?_
   refine awp_ret ?_
   repeat (first | refine thenQ_ret ?_ | refine blockQ_ret ?_)
   refine fin2 (rs_c rfl) (rs_c rfl) ?_
   have hlt : x.natAbs * y.natAbs % 18446744073709551616 < 9223372036854775808 := by
     have h1 := c1.1.2
     rcases c1.2 with h | h
     · omega
     · rw [c2] at h; cases h
   rw [times_pos c2 (by have := c1.1.1; omega) hlt]

theorem lin_Scale (l : Lf) (by_ : Int) (hl : l.L.length ≤ 4294967296) (hr : l.rng) (hb : r64 by_) :
    Pur cfg 153 [vLin l, vI by_] (.tup [vLin (scaleL l by_).1, vI (scaleL l by_).2]) := by
 refine con_intro Tryz.func153 rfl Tryz.ntmps153 Tryz.results153 rfl ?_
 intro z hz
 refine awp_seq ?_
 refine awp_region rfl ?_
 refine rwp_op rfl rfl (ope_box rfl rfl) ?_
 rintro _ _ ⟨b1, rfl, rfl⟩
 refine rwp_op rfl rfl (ope_allocN [none, some 2] rfl zr29 rfl) ?_
 rintro _ _ ⟨b2, rfl, rfl⟩
 refine rwp_det rfl rfl (det_assign rfl rfl) ?_
 refine rwp_nil ?_
 refine awp_seq ?_
 refine awp_seq ?_
 refine awp_region rfl ?_
 refine rwp_det rfl rfl (det_load_agg rfl agg29 rfl (ptr_row 1 rfl) rfl) ?_
 refine rwp_det rfl rfl (det_call rfl ok151 (lin_Validate l (by omega)) ⟨VLe.refl _, rfl, trivial⟩) ?_
 refine rwp_det rfl rfl (det_neq rfl rfl rfl) ?_
 refine rwp_nil ?_
 refine awp_cond rfl (fun c1 => ?_) (fun c1 => ?_)
 ·try simp only [sx, List.length_map] at c1
  have hl0 := linErr_no c1
  refine awp_seq ?_
  refine awp_region rfl ?_
  refine rwp_det rfl rfl (det_buildN [none, some 2] rfl zr29 pl29 rfl rfl) ?_
  refine rwp_det0 rfl rfl (det_store rfl sz29 rfl rfl rfl (st_row 0 rfl rfl)) ?_
  refine rwp_det rfl rfl (det_assign rfl rfl) ?_
  refine rwp_nil ?_
  refine awp_ret ?_
  repeat (first | refine thenQ_ret ?_ | refine blockQ_ret ?_)
  refine fin2 (rs_cell_agg agg29 rfl (ptr_row 0 rfl) rfl) (rs_c rfl) ?_
  rw [scale_bad hl0]; rfl
 ·try simp only [sx, List.length_map] at c1
  have hl1 := linErr_yes c1
  refine awp_skip ?_
  refine awp_seq ?_
  refine awp_seq ?_
  refine awp_region rfl ?_
  refine rwp_det rfl rfl (det_move rfl rfl) ?_
  refine rwp_det rfl rfl (det_eql rfl rfl rfl) ?_
  refine rwp_nil ?_
  refine awp_cond rfl (fun c2 => ?_) (fun c2 => ?_)
  ·try simp only [sx, List.length_map] at c2
   refine awp_seq ?_
   refine awp_region rfl ?_
   refine rwp_det rfl rfl (det_buildN [none, some 2] rfl zr29 pl29 rfl rfl) ?_
   refine rwp_det0 rfl rfl (det_store rfl sz29 rfl rfl rfl (st_row 0 rfl rfl)) ?_
   refine rwp_det rfl rfl (det_assign rfl rfl) ?_
   refine rwp_nil ?_
   refine awp_ret ?_
   repeat (first | refine thenQ_ret ?_ | refine blockQ_ret ?_)
   refine fin2 (rs_cell_agg agg29 rfl (ptr_row 0 rfl) rfl) (rs_c rfl) ?_
   rw [scale_zero hl1 c2]; rfl
  ·try simp only [sx, List.length_map] at c2
   refine awp_skip ?_
   refine awp_seq ?_
   refine awp_region rfl ?_
   refine rwp_det rfl rfl (det_field_lit rfl fd29_0 rfl) ?_
   refine rwp_det rfl rfl (det_load_one rfl one2 rfl (ptr_row 1 rfl) rfl) ?_
   refine rwp_det rfl rfl (det_move rfl rfl) ?_
   refine rwp_det rfl rfl (det_call rfl ok204 (lin_times l.K by_ hr.1 hb) ⟨VLe.refl _, rfl, VLe.refl _, rfl, trivial⟩) ?_
   refine rwp_det rfl rfl (det_move_tup rfl rfl) ?_
   refine rwp_det rfl rfl (det_ex_c rfl rfl rfl) ?_
   refine rwp_det rfl rfl (det_ex_c rfl rfl rfl) ?_
   refine rwp_det rfl rfl (det_assign rfl rfl) ?_
   refine rwp_det rfl rfl (det_assign rfl rfl) ?_
   refine rwp_nil ?_
   refine awp_seq ?_
   refine awp_region rfl ?_
   refine rwp_det rfl rfl (det_move rfl rfl) ?_
   refine rwp_det rfl rfl (det_build rfl zr29 pl29 rfl) ?_
   refine rwp_op rfl rfl (ope_alloc rfl zr29) ?_
   rintro _ _ ⟨b3, rfl, rfl⟩
   refine rwp_weak _ (weak_own 75 2) ?_
   refine rwp_det0 rfl rfl (det_store rfl sz29 rfl rfl rfl (st_row 1 rfl rfl)) ?_
   refine rwp_nil ?_
   refine awp_seq ?_
   refine awp_seq ?_
   refine awp_region rfl ?_
   refine rwp_det rfl rfl (det_field_lit rfl fd29_1 rfl) ?_
   refine rwp_det rfl rfl (det_load_one rfl one27 rfl (ptr_row 3 rfl) rfl) ?_
   refine rwp_det rfl rfl (det_len_slm rfl el27 rfl) ?_
   refine rwp_det rfl rfl (det_move rfl rfl) ?_
   refine rwp_nil ?_
   refine awp_block ?_
   refine awp_weak ⟨[(32, .c _), (7, .c _), (1, .c _), (4, .c _), (8, .c _), (30, .c _), (31, .c _)], [_, _, _]⟩ (Weak.mk [true, true, true, false] ⟨VLe.of_eq rfl, VLe.of_eq rfl, VLe.of_eq rfl, VLe.of_eq rfl, VLe.of_eq rfl, VLe.of_eq rfl, VLe.of_eq rfl, trivial⟩ rfl) ?_
   refine awp_loop_k 2 2 rfl rfl (Nat × Value) (fun ⟨k, sv⟩ => [(32, vI k), (7, vB ((timesT l.K by_).2 && scaleB by_ (l.L.take k)))]) (fun ⟨k, sv⟩ => [E.vec sv 75 2 ((scaleW by_ (l.L.take k)).map Mono.cells), E.row b3 29 [cI (timesT l.K by_).1, .lit sv]]) (fun ⟨k, sv⟩ => k ≤ l.L.length) (fun ⟨k, sv⟩ => l.L.length - k) ⟨⟨0, _⟩, (by omega), Weak.mk [true, true, true] ⟨VLe.refl _, VLe.of_eq (by rw [show scaleB by_ (l.L.take 0) = true from rfl, Bool.and_true]; rfl), VLe.refl _, VLe.refl _, VLe.refl _, VLe.refl _, VLe.refl _, trivial⟩ rfl⟩ ?_
   rintro ⟨k, sv⟩ hk
   show AWP _ _ _ _ _ ⟨[(32, vI k), (7, vB ((timesT l.K by_).2 && scaleB by_ (l.L.take k)))] ++ _, [E.vec sv 75 2 ((scaleW by_ (l.L.take k)).map Mono.cells), E.row b3 29 [cI (timesT l.K by_).1, .lit sv]] ++ _⟩
   refine awp_seq ?_
   refine awp_region rfl ?_
   refine rwp_det rfl rfl (det_lss rfl rfl rfl) ?_
   refine rwp_nil ?_
   refine awp_seq ?_
   refine awp_cond rfl (fun c3 => ?_) (fun c3 => ?_)
   ·try simp only [sx, List.length_map] at c3
    obtain ⟨x, hx⟩ := ex_get l.L k (by omega)
    refine awp_skip ?_
    refine awp_seq ?_
    refine awp_block ?_
    refine awp_seq ?_
    refine awp_region rfl ?_
    refine rwp_det rfl rfl (det_index_sl rfl el27 rfl rfl (by omega) (getm (by assumption))) ?_
    refine rwp_det rfl rfl (det_load_agg rfl agg75 rfl ptr_imm rfl) ?_
    refine rwp_op rfl rfl (ope_alloc rfl zr75) ?_
    rintro _ _ ⟨b5, rfl, rfl⟩
    refine rwp_det0 rfl rfl (det_store rfl sz75 rfl rfl rfl (st_row 0 rfl rfl)) ?_
    refine rwp_nil ?_
    refine awp_seq ?_
    refine awp_region rfl ?_
    refine rwp_det rfl rfl (det_field_lit rfl fd75_1 rfl) ?_
    refine rwp_det rfl rfl (det_load_one rfl one2 rfl (ptr_row 0 rfl) rfl) ?_
    refine rwp_det rfl rfl (det_move rfl rfl) ?_
    refine rwp_det rfl rfl (det_call rfl ok204 (lin_times x.By by_ (hr.2 x (mem_of_get hx)) hb) ⟨VLe.refl _, rfl, VLe.refl _, rfl, trivial⟩) ?_
    refine rwp_det rfl rfl (det_move_tup rfl rfl) ?_
    refine rwp_det rfl rfl (det_ex_c rfl rfl rfl) ?_
    refine rwp_det rfl rfl (det_ex_c rfl rfl rfl) ?_
    refine rwp_det rfl rfl (det_assign rfl rfl) ?_
    refine rwp_det rfl rfl (det_assign rfl rfl) ?_
    refine rwp_nil ?_
    refine awp_seq ?_
    refine awp_region rfl ?_
    refine rwp_det rfl rfl (det_move rfl rfl) ?_
    refine rwp_det rfl rfl (det_move rfl rfl) ?_
    refine rwp_lazy [] rfl rfl rfl rfl gv1 trivial (fun g11_1 => det_move rfl rfl) rfl ?_
    refine rwp_det rfl rfl (det_and rfl rfl rfl (fun h => h) rfl) ?_
    refine rwp_det rfl rfl (det_assign rfl rfl) ?_
    refine rwp_nil ?_
    refine awp_region rfl ?_
    refine rwp_det rfl rfl (det_field_lit rfl fd29_1 rfl) ?_
    refine rwp_det rfl rfl (det_load_one rfl one27 rfl (ptr_row 2 rfl) rfl) ?_
    refine rwp_det rfl rfl (det_field_lit rfl fd75_0 rfl) ?_
    refine rwp_det rfl rfl (det_load_one rfl one9 rfl (ptr_row 0 rfl) rfl) ?_
    refine rwp_det rfl rfl (det_move rfl rfl) ?_
    refine rwp_det rfl rfl (det_build rfl zr75 pl75 rfl) ?_
    refine rwp_det rfl rfl (det_bslice rfl el27 zr75 rfl rfl rfl rfl) ?_
    refine rwp_op rfl rfl (ope_append 1 rfl el27 rfl rfl rfl (by simp only [List.length_map, List.length_append, List.length_cons, List.length_nil, scaleW_len, List.length_take]; omega) (by simp only [List.length_map, List.length_append, List.length_cons, List.length_nil, scaleW_len, List.length_take]; omega)) ?_
    rintro _ _ ⟨sv6, rfl, rfl⟩
    refine rwp_det rfl rfl (det_field_lit rfl fd29_1 rfl) ?_
    refine rwp_det0 rfl rfl (det_store rfl sz27 rfl rfl rfl (st_row 2 rfl rfl)) ?_
    refine rwp_nil ?_
    refine awp_region rfl ?_
    refine rwp_det rfl rfl (det_add_nw rfl rfl rfl ⟨by omega, by omega⟩) ?_
    refine rwp_det rfl rfl (det_move rfl rfl) ?_
    refine rwp_nil ?_
    refine ⟨⟨k + 1, sv6⟩, (by omega), (by show l.L.length - (k + 1) < l.L.length - k; omega), Weak.mk [false, true, true, true] ⟨VLe.refl _, VLe.of_eq (by rw [scaleB_next hx, ← Bool.and_assoc]; rfl), VLe.refl _, VLe.refl _, VLe.refl _, VLe.refl _, VLe.refl _, trivial⟩ (by show _ = [E.vec sv6 _ 2 ((scaleW by_ (l.L.take (k + 1))).map Mono.cells), E.row b3 _ [cI (timesT l.K by_).1, .lit sv6]] ++ _; rw [scaleW_next hx, List.map_append]; rfl)⟩
   ·try simp only [sx, List.length_map] at c3
    rw [take_all (l := l.L) (k := k) (by omega)]
    refine awp_exit ?_
    refine awp_seq ?_
    refine awp_seq ?_
    refine awp_region rfl ?_
    refine rwp_det rfl rfl (det_move rfl rfl) ?_
    refine rwp_det rfl rfl (det_not rfl rfl) ?_
    refine rwp_nil ?_
    refine awp_cond rfl (fun c4 => ?_) (fun c4 => ?_)
    ·try simp only [sx, List.length_map] at c4
     refine awp_seq ?_
     refine awp_region rfl ?_
     refine rwp_det rfl rfl (det_buildN [none, some 2] rfl zr29 pl29 rfl rfl) ?_
     refine rwp_det0 rfl rfl (det_store rfl sz29 rfl rfl rfl (st_row 2 rfl rfl)) ?_
     refine rwp_det rfl rfl (det_assign rfl rfl) ?_
     refine rwp_nil ?_
     refine awp_ret ?_
     repeat (first | refine thenQ_ret ?_ | refine blockQ_ret ?_)
     refine fin2 (rs_cell_agg agg29 rfl (ptr_row 2 rfl) rfl) (rs_c rfl) ?_
     rw [scale_no hl1 c2 c4]; rfl
    ·try simp only [sx, List.length_map] at c4
     refine awp_skip ?_
     refine awp_seq ?_
     refine awp_region rfl ?_
     refine rwp_det rfl rfl (det_load_agg rfl agg29 rfl (ptr_row 1 rfl) rfl) ?_
     refine rwp_det0 rfl rfl (det_store rfl sz29 rfl rfl rfl (st_row 2 rfl rfl)) ?_
     refine rwp_det rfl rfl (det_assign rfl rfl) ?_
     refine rwp_nil ?_
     refine awp_weak _ (weak_freezeM 0 rfl (regs' := [(60, .agg [_, _])]) (μ' := [_, _]) ⟨FLe.agg ⟨.inl rfl, .inr ⟨rfl, rfl⟩, trivial⟩, trivial⟩ ⟨EFle.row (ds := [_, _]) ⟨.inl rfl, .inr ⟨rfl, rfl⟩, trivial⟩, EFle.row (ds := [_, _]) ⟨.inl rfl, .inr ⟨rfl, rfl⟩, trivial⟩, trivial⟩) ?_
     refine awp_ret ?_
     repeat (first | refine thenQ_ret ?_ | refine blockQ_ret ?_)
     refine fin2 (rs_cell_agg agg29 rfl (ptr_row 1 rfl) rfl) (rs_c rfl) ?_
     rw [scale_ok hl1 c2 c4]; rfl

end Go.W
