/-
  Walks: what functions of the program compute. Printed by wip/gen/mk2.py.
  Conditions: none.
-/
import Derived.Test.YticdknfcoinbaaaGreatDoorWR
import Derived.Test.YticdknfcoinbaaaGreatDoorProg17G
import Derived.Test.YticdknfcoinbaaaGreatDoorEngZ
set_option linter.unusedSimpArgs false
set_option linter.unusedVariables false
namespace Go.W
open Go Go.Eng Go.Proofs Go.L41 Go.Br
attribute [local irreducible] AWP RWP TD
theorem sz22 : (Tryz.prog.info? 22).map (·.size) = some 1 := by kernel_rfl
theorem sz23 : (Tryz.prog.info? 23).map (·.size) = some 1 := by kernel_rfl
theorem sz24 : (Tryz.prog.info? 24).map (·.size) = some 1 := by kernel_rfl
theorem us34 : (Tryz.prog.underlying 34).isSome = true := by kernel_rfl
theorem law_ProgramLimits (n kd : Nat) (hn : n < 65536) (hk : kd < 256) :
    Pur cfg 4 [.c (.lit (.int .u16 n)), .c (.lit (.int .u8 kd))] (vB true) := by
 refine con_intro Tryz.func4 rfl Tryz.ntmps4 Tryz.results4 rfl ?_
 intro z hz
 have hw : IntKind.i64.wrap (n : Int) = n := IntWalk.i64_in _ ⟨by omega, by omega⟩
 refine awp_seq ?_
 refine awp_region rfl ?_
 refine rwp_det rfl rfl (det_assign rfl rfl) ?_
 refine rwp_nil ?_
 refine awp_seq ?_
 refine awp_region rfl ?_
 refine rwp_op rfl rfl (ope_allocN [some 1, some 3, some 7, some 22, some 1] rfl zr27 rfl) ?_
 rintro _ _ ⟨b1, rfl, rfl⟩
 refine rwp_nil ?_
 refine awp_seq ?_
 refine awp_region rfl ?_
 refine rwp_det rfl rfl (det_move rfl rfl) ?_
 refine rwp_det rfl rfl (det_conv rfl us34 ik3 rfl) ?_
 refine rwp_det rfl rfl (det_rem rfl rfl rfl (by decide)) ?_
 refine rwp_det rfl rfl (det_assign rfl rfl) ?_
 refine rwp_nil ?_
 refine awp_seq ?_
 refine awp_seq ?_
 refine awp_region rfl ?_
 refine rwp_det rfl rfl (det_move rfl rfl) ?_
 refine rwp_det rfl rfl (det_rem rfl rfl rfl (by decide)) ?_
 refine rwp_nil ?_
 refine awp_block ?_
 refine awp_seq ?_
 refine awp_region rfl ?_
 refine rwp_det rfl rfl (det_eql rfl rfl rfl) ?_
 refine rwp_det rfl rfl (det_assign rfl rfl) ?_
 refine rwp_nil ?_
 refine awp_cond rfl (fun c1 => ?_) (fun c1 => ?_)
 ·have hV := limV (c := [.sl 1 (List.replicate (n % 80) [.lit (.string ⟨#[]⟩)]), .sl 3 [], .sl 7 [], .sl 22 [], .sl 1 []]) (⟨List.replicate (n % 80) (bs []), [], [], [], []⟩ : Pg) (manyS ((n % 80)) (by omega)) (by simp only [Pg.cells, List.map_replicate]; rfl)
  have hR := limR (c := [.sl 1 (List.replicate (n % 80) [.lit (.string ⟨#[]⟩)]), .sl 3 [], .sl 7 [], .sl 22 [], .sl 1 []]) (⟨List.replicate (n % 80) (bs []), [], [], [], []⟩ : Pg) (manyS ((n % 80)) (by omega)) (by simp only [Pg.cells, List.map_replicate]; rfl)
  refine awp_region rfl ?_
  refine rwp_det rfl rfl (det_move rfl rfl) ?_
  refine rwp_det rfl rfl (det_make (n % 80) [none] rfl el22 zr9 rfl rfl rfl (by rw [hw]; rfl) (by rw [hw]; rfl) (by omega) (by omega)) ?_
  refine rwp_det rfl rfl (det_field_lit rfl fd27_0 rfl) ?_
  refine rwp_det0 rfl rfl (det_store rfl sz22 rfl rfl rfl (st_row 0 rfl rfl)) ?_
  refine rwp_nil ?_
  refine awp_seq ?_
  refine awp_region rfl ?_
  refine rwp_det rfl rfl (det_load_agg rfl agg27 rfl (ptr_row 0 rfl) rfl) ?_
  refine rwp_det rfl rfl (det_call rfl ok13 hV ⟨VLe.refl _, rfl, trivial⟩) ?_
  refine rwp_det rfl rfl (det_move_tup rfl rfl) ?_
  refine rwp_det rfl rfl (det_ex_c rfl rfl rfl) ?_
  refine rwp_det rfl rfl (det_ex_c rfl rfl rfl) ?_
  refine rwp_det rfl rfl (det_assign rfl rfl) ?_
  refine rwp_det rfl rfl (det_assign rfl rfl) ?_
  refine rwp_nil ?_
  refine awp_seq ?_
  refine awp_region rfl ?_
  refine rwp_det rfl rfl (det_load_agg rfl agg27 rfl (ptr_row 0 rfl) rfl) ?_
  refine rwp_det rfl rfl (det_call rfl ok14 hR ⟨VLe.refl _, rfl, trivial⟩) ?_
  refine rwp_det rfl rfl (det_move_tup rfl rfl) ?_
  refine rwp_det rfl rfl (det_ex_c rfl rfl rfl) ?_
  refine rwp_det rfl rfl (det_ex_c rfl rfl rfl) ?_
  refine rwp_det rfl rfl (det_assign rfl rfl) ?_
  refine rwp_det rfl rfl (det_assign rfl rfl) ?_
  refine rwp_nil ?_
  refine awp_seq ?_
  refine awp_region rfl ?_
  refine rwp_det rfl rfl (det_move rfl rfl) ?_
  refine rwp_det rfl rfl (det_move rfl rfl) ?_
  refine rwp_det rfl rfl (det_eql rfl rfl rfl) ?_
  refine rwp_det rfl rfl (det_move rfl rfl) ?_
  refine rwp_lazy [] rfl rfl rfl rfl gv1 trivial (fun g17_3 => det_move rfl rfl) rfl ?_
  refine rwp_lazy [] rfl rfl rfl rfl gv1 trivial (fun g17_3 => det_move rfl rfl) rfl ?_
  refine rwp_lazy [(58, _), (59, _)] rfl rfl rfl rfl gv1 ⟨rfl, rfl, rfl, rfl, trivial⟩ (fun g17_3 => det_eql rfl rfl rfl) rfl ?_
  refine rwp_det rfl rfl (det_and rfl rfl rfl (fun h => h) rfl) ?_
  refine rwp_det rfl rfl (det_move rfl rfl) ?_
  refine rwp_lazy [] rfl rfl rfl rfl gv1 trivial (fun g17_8 => det_call rfl ok12 law17_examples trivial) rfl ?_
  refine rwp_det rfl rfl (det_and rfl rfl rfl (fun h => h) rfl) ?_
  refine rwp_det rfl rfl (det_assign rfl rfl) ?_
  refine rwp_nil ?_
  refine awp_ret ?_
  repeat (first | refine thenQ_ret ?_ | refine blockQ_ret ?_)
  refine fin1 (rs_c rfl) ?_
  simp
 ·refine awp_seq ?_
  refine awp_region rfl ?_
  refine rwp_det rfl rfl (det_eql rfl rfl rfl) ?_
  refine rwp_det rfl rfl (det_assign rfl rfl) ?_
  refine rwp_nil ?_
  refine awp_cond rfl (fun c2 => ?_) (fun c2 => ?_)
  ·have hV := limV (c := [.sl 1 [], .sl 3 (List.replicate (n % 300) [.lit (.int .i64 0), .sl 2 [], .lit (.bool false)]), .sl 7 [], .sl 22 [], .sl 1 []]) (⟨[], List.replicate (n % 300) (zCn), [], [], []⟩ : Pg) (manyW ((n % 300)) (by omega)) (by simp only [Pg.cells, List.map_replicate]; rfl)
   have hR := limR (c := [.sl 1 [], .sl 3 (List.replicate (n % 300) [.lit (.int .i64 0), .sl 2 [], .lit (.bool false)]), .sl 7 [], .sl 22 [], .sl 1 []]) (⟨[], List.replicate (n % 300) (zCn), [], [], []⟩ : Pg) (manyW ((n % 300)) (by omega)) (by simp only [Pg.cells, List.map_replicate]; rfl)
   refine awp_seq ?_
   refine awp_region rfl ?_
   refine rwp_det rfl rfl (det_move rfl rfl) ?_
   refine rwp_det rfl rfl (det_conv rfl us34 ik3 rfl) ?_
   refine rwp_det rfl rfl (det_rem rfl rfl rfl (by decide)) ?_
   refine rwp_det rfl rfl (det_assign rfl rfl) ?_
   refine rwp_nil ?_
   refine awp_region rfl ?_
   refine rwp_det rfl rfl (det_move rfl rfl) ?_
   refine rwp_det rfl rfl (det_make (n % 300) [none, some 2, none] rfl el23 zr75 rfl rfl rfl (by rw [hw]; rfl) (by rw [hw]; rfl) (by omega) (by omega)) ?_
   refine rwp_det rfl rfl (det_field_lit rfl fd27_1 rfl) ?_
   refine rwp_det0 rfl rfl (det_store rfl sz23 rfl rfl rfl (st_row 0 rfl rfl)) ?_
   refine rwp_nil ?_
   refine awp_seq ?_
   refine awp_region rfl ?_
   refine rwp_det rfl rfl (det_load_agg rfl agg27 rfl (ptr_row 0 rfl) rfl) ?_
   refine rwp_det rfl rfl (det_call rfl ok13 hV ⟨VLe.refl _, rfl, trivial⟩) ?_
   refine rwp_det rfl rfl (det_move_tup rfl rfl) ?_
   refine rwp_det rfl rfl (det_ex_c rfl rfl rfl) ?_
   refine rwp_det rfl rfl (det_ex_c rfl rfl rfl) ?_
   refine rwp_det rfl rfl (det_assign rfl rfl) ?_
   refine rwp_det rfl rfl (det_assign rfl rfl) ?_
   refine rwp_nil ?_
   refine awp_seq ?_
   refine awp_region rfl ?_
   refine rwp_det rfl rfl (det_load_agg rfl agg27 rfl (ptr_row 0 rfl) rfl) ?_
   refine rwp_det rfl rfl (det_call rfl ok14 hR ⟨VLe.refl _, rfl, trivial⟩) ?_
   refine rwp_det rfl rfl (det_move_tup rfl rfl) ?_
   refine rwp_det rfl rfl (det_ex_c rfl rfl rfl) ?_
   refine rwp_det rfl rfl (det_ex_c rfl rfl rfl) ?_
   refine rwp_det rfl rfl (det_assign rfl rfl) ?_
   refine rwp_det rfl rfl (det_assign rfl rfl) ?_
   refine rwp_nil ?_
   refine awp_seq ?_
   refine awp_region rfl ?_
   refine rwp_det rfl rfl (det_move rfl rfl) ?_
   refine rwp_det rfl rfl (det_move rfl rfl) ?_
   refine rwp_det rfl rfl (det_eql rfl rfl rfl) ?_
   refine rwp_det rfl rfl (det_move rfl rfl) ?_
   refine rwp_lazy [] rfl rfl rfl rfl gv1 trivial (fun g17_3 => det_move rfl rfl) rfl ?_
   refine rwp_lazy [] rfl rfl rfl rfl gv1 trivial (fun g17_3 => det_move rfl rfl) rfl ?_
   refine rwp_lazy [(58, _), (59, _)] rfl rfl rfl rfl gv1 ⟨rfl, rfl, rfl, rfl, trivial⟩ (fun g17_3 => det_eql rfl rfl rfl) rfl ?_
   refine rwp_det rfl rfl (det_and rfl rfl rfl (fun h => h) rfl) ?_
   refine rwp_det rfl rfl (det_move rfl rfl) ?_
   refine rwp_lazy [] rfl rfl rfl rfl gv1 trivial (fun g17_8 => det_call rfl ok12 law17_examples trivial) rfl ?_
   refine rwp_det rfl rfl (det_and rfl rfl rfl (fun h => h) rfl) ?_
   refine rwp_det rfl rfl (det_assign rfl rfl) ?_
   refine rwp_nil ?_
   refine awp_ret ?_
   repeat (first | refine thenQ_ret ?_ | refine blockQ_ret ?_)
   refine fin1 (rs_c rfl) ?_
   simp
  ·refine awp_seq ?_
   refine awp_region rfl ?_
   refine rwp_det rfl rfl (det_eql rfl rfl rfl) ?_
   refine rwp_det rfl rfl (det_assign rfl rfl) ?_
   refine rwp_nil ?_
   refine awp_cond rfl (fun c3 => ?_) (fun c3 => ?_)
   ·have hV := limV (c := [.sl 1 [], .sl 3 [], .sl 7 (List.replicate (n % 80) [.lit (.string ⟨#[]⟩), .lit (.int .i64 0), .lit (.int .i64 0), .lit (.int .i64 0), .lit (.int .i64 0), .lit (.int .i64 0), .sl 2 []]), .sl 22 [], .sl 1 []]) (⟨[], [], List.replicate (n % 80) (zPm), [], []⟩ : Pg) (manyP ((n % 80)) (by omega)) (by simp only [Pg.cells, List.map_replicate]; rfl)
    have hR := limR (c := [.sl 1 [], .sl 3 [], .sl 7 (List.replicate (n % 80) [.lit (.string ⟨#[]⟩), .lit (.int .i64 0), .lit (.int .i64 0), .lit (.int .i64 0), .lit (.int .i64 0), .lit (.int .i64 0), .sl 2 []]), .sl 22 [], .sl 1 []]) (⟨[], [], List.replicate (n % 80) (zPm), [], []⟩ : Pg) (manyP ((n % 80)) (by omega)) (by simp only [Pg.cells, List.map_replicate]; rfl)
    refine awp_region rfl ?_
    refine rwp_det rfl rfl (det_move rfl rfl) ?_
    refine rwp_det rfl rfl (det_make (n % 80) [none, none, none, none, none, none, some 2] rfl el24 zr77 rfl rfl rfl (by rw [hw]; rfl) (by rw [hw]; rfl) (by omega) (by omega)) ?_
    refine rwp_det rfl rfl (det_field_lit rfl fd27_2 rfl) ?_
    refine rwp_det0 rfl rfl (det_store rfl sz24 rfl rfl rfl (st_row 0 rfl rfl)) ?_
    refine rwp_nil ?_
    refine awp_seq ?_
    refine awp_region rfl ?_
    refine rwp_det rfl rfl (det_load_agg rfl agg27 rfl (ptr_row 0 rfl) rfl) ?_
    refine rwp_det rfl rfl (det_call rfl ok13 hV ⟨VLe.refl _, rfl, trivial⟩) ?_
    refine rwp_det rfl rfl (det_move_tup rfl rfl) ?_
    refine rwp_det rfl rfl (det_ex_c rfl rfl rfl) ?_
    refine rwp_det rfl rfl (det_ex_c rfl rfl rfl) ?_
    refine rwp_det rfl rfl (det_assign rfl rfl) ?_
    refine rwp_det rfl rfl (det_assign rfl rfl) ?_
    refine rwp_nil ?_
    refine awp_seq ?_
    refine awp_region rfl ?_
    refine rwp_det rfl rfl (det_load_agg rfl agg27 rfl (ptr_row 0 rfl) rfl) ?_
    refine rwp_det rfl rfl (det_call rfl ok14 hR ⟨VLe.refl _, rfl, trivial⟩) ?_
    refine rwp_det rfl rfl (det_move_tup rfl rfl) ?_
    refine rwp_det rfl rfl (det_ex_c rfl rfl rfl) ?_
    refine rwp_det rfl rfl (det_ex_c rfl rfl rfl) ?_
    refine rwp_det rfl rfl (det_assign rfl rfl) ?_
    refine rwp_det rfl rfl (det_assign rfl rfl) ?_
    refine rwp_nil ?_
    refine awp_seq ?_
    refine awp_region rfl ?_
    refine rwp_det rfl rfl (det_move rfl rfl) ?_
    refine rwp_det rfl rfl (det_move rfl rfl) ?_
    refine rwp_det rfl rfl (det_eql rfl rfl rfl) ?_
    refine rwp_det rfl rfl (det_move rfl rfl) ?_
    refine rwp_lazy [] rfl rfl rfl rfl gv1 trivial (fun g17_3 => det_move rfl rfl) rfl ?_
    refine rwp_lazy [] rfl rfl rfl rfl gv1 trivial (fun g17_3 => det_move rfl rfl) rfl ?_
    refine rwp_lazy [(58, _), (59, _)] rfl rfl rfl rfl gv1 ⟨rfl, rfl, rfl, rfl, trivial⟩ (fun g17_3 => det_eql rfl rfl rfl) rfl ?_
    refine rwp_det rfl rfl (det_and rfl rfl rfl (fun h => h) rfl) ?_
    refine rwp_det rfl rfl (det_move rfl rfl) ?_
    refine rwp_lazy [] rfl rfl rfl rfl gv1 trivial (fun g17_8 => det_call rfl ok12 law17_examples trivial) rfl ?_
    refine rwp_det rfl rfl (det_and rfl rfl rfl (fun h => h) rfl) ?_
    refine rwp_det rfl rfl (det_assign rfl rfl) ?_
    refine rwp_nil ?_
    refine awp_ret ?_
    repeat (first | refine thenQ_ret ?_ | refine blockQ_ret ?_)
    refine fin1 (rs_c rfl) ?_
    simp
   ·refine awp_seq ?_
    refine awp_region rfl ?_
    refine rwp_det rfl rfl (det_eql rfl rfl rfl) ?_
    refine rwp_det rfl rfl (det_assign rfl rfl) ?_
    refine rwp_nil ?_
    refine awp_cond rfl (fun c4 => ?_) (fun c4 => ?_)
    ·have hV := limV (c := [.sl 1 [], .sl 3 [], .sl 7 [], .sl 22 (List.replicate (n % 80) [.lit (.string ⟨#[]⟩), .lit (.int .i64 0), .lit (.int .i64 0), .lit (.int .i64 0), .lit (.int .i64 0), .lit (.int .i64 0), .sl 3 [], .sl 3 [], .lit (.int .i64 0), .lit (.int .i64 0), .lit (.string ⟨#[]⟩), .lit (.int .i64 0), .lit (.int .i64 0), .lit (.int .i64 0), .lit (.int .i64 0), .lit (.int .i64 0), .lit (.int .i64 0), .lit (.int .i64 0), .lit (.int .i64 0), .sl 2 [], .sl 4 [], .sl 13 []]), .sl 1 []]) (⟨[], [], [], List.replicate (n % 80) (zDf), []⟩ : Pg) (manyD ((n % 80)) (by omega)) (by simp only [Pg.cells, List.map_replicate]; rfl)
     have hR := limR (c := [.sl 1 [], .sl 3 [], .sl 7 [], .sl 22 (List.replicate (n % 80) [.lit (.string ⟨#[]⟩), .lit (.int .i64 0), .lit (.int .i64 0), .lit (.int .i64 0), .lit (.int .i64 0), .lit (.int .i64 0), .sl 3 [], .sl 3 [], .lit (.int .i64 0), .lit (.int .i64 0), .lit (.string ⟨#[]⟩), .lit (.int .i64 0), .lit (.int .i64 0), .lit (.int .i64 0), .lit (.int .i64 0), .lit (.int .i64 0), .lit (.int .i64 0), .lit (.int .i64 0), .lit (.int .i64 0), .sl 2 [], .sl 4 [], .sl 13 []]), .sl 1 []]) (⟨[], [], [], List.replicate (n % 80) (zDf), []⟩ : Pg) (manyD ((n % 80)) (by omega)) (by simp only [Pg.cells, List.map_replicate]; rfl)
     refine awp_region rfl ?_
     refine rwp_det rfl rfl (det_move rfl rfl) ?_
     refine rwp_det rfl rfl (det_make (n % 80) [none, none, none, none, none, none, some 3, some 3, none, none, none, none, none, none, none, none, none, none, none, some 2, some 4, some 13] rfl el25 zr63 rfl rfl rfl (by rw [hw]; rfl) (by rw [hw]; rfl) (by omega) (by omega)) ?_
     refine rwp_det rfl rfl (det_field_lit rfl fd27_3 rfl) ?_
     refine rwp_det0 rfl rfl (det_store rfl sz25 rfl rfl rfl (st_row 0 rfl rfl)) ?_
     refine rwp_nil ?_
     refine awp_seq ?_
     refine awp_region rfl ?_
     refine rwp_det rfl rfl (det_load_agg rfl agg27 rfl (ptr_row 0 rfl) rfl) ?_
     refine rwp_det rfl rfl (det_call rfl ok13 hV ⟨VLe.refl _, rfl, trivial⟩) ?_
     refine rwp_det rfl rfl (det_move_tup rfl rfl) ?_
     refine rwp_det rfl rfl (det_ex_c rfl rfl rfl) ?_
     refine rwp_det rfl rfl (det_ex_c rfl rfl rfl) ?_
     refine rwp_det rfl rfl (det_assign rfl rfl) ?_
     refine rwp_det rfl rfl (det_assign rfl rfl) ?_
     refine rwp_nil ?_
     refine awp_seq ?_
     refine awp_region rfl ?_
     refine rwp_det rfl rfl (det_load_agg rfl agg27 rfl (ptr_row 0 rfl) rfl) ?_
     refine rwp_det rfl rfl (det_call rfl ok14 hR ⟨VLe.refl _, rfl, trivial⟩) ?_
     refine rwp_det rfl rfl (det_move_tup rfl rfl) ?_
     refine rwp_det rfl rfl (det_ex_c rfl rfl rfl) ?_
     refine rwp_det rfl rfl (det_ex_c rfl rfl rfl) ?_
     refine rwp_det rfl rfl (det_assign rfl rfl) ?_
     refine rwp_det rfl rfl (det_assign rfl rfl) ?_
     refine rwp_nil ?_
     refine awp_seq ?_
     refine awp_region rfl ?_
     refine rwp_det rfl rfl (det_move rfl rfl) ?_
     refine rwp_det rfl rfl (det_move rfl rfl) ?_
     refine rwp_det rfl rfl (det_eql rfl rfl rfl) ?_
     refine rwp_det rfl rfl (det_move rfl rfl) ?_
     refine rwp_lazy [] rfl rfl rfl rfl gv1 trivial (fun g17_3 => det_move rfl rfl) rfl ?_
     refine rwp_lazy [] rfl rfl rfl rfl gv1 trivial (fun g17_3 => det_move rfl rfl) rfl ?_
     refine rwp_lazy [(58, _), (59, _)] rfl rfl rfl rfl gv1 ⟨rfl, rfl, rfl, rfl, trivial⟩ (fun g17_3 => det_eql rfl rfl rfl) rfl ?_
     refine rwp_det rfl rfl (det_and rfl rfl rfl (fun h => h) rfl) ?_
     refine rwp_det rfl rfl (det_move rfl rfl) ?_
     refine rwp_lazy [] rfl rfl rfl rfl gv1 trivial (fun g17_8 => det_call rfl ok12 law17_examples trivial) rfl ?_
     refine rwp_det rfl rfl (det_and rfl rfl rfl (fun h => h) rfl) ?_
     refine rwp_det rfl rfl (det_assign rfl rfl) ?_
     refine rwp_nil ?_
     refine awp_ret ?_
     repeat (first | refine thenQ_ret ?_ | refine blockQ_ret ?_)
     refine fin1 (rs_c rfl) ?_
     simp
    ·refine awp_seq ?_
     refine awp_region rfl ?_
     refine rwp_det rfl rfl (det_eql rfl rfl rfl) ?_
     refine rwp_det rfl rfl (det_assign rfl rfl) ?_
     refine rwp_nil ?_
     refine awp_cond rfl (fun c5 => ?_) (fun c5 => ?_)
     ·have hV := limV (c := [.sl 1 [], .sl 3 [], .sl 7 [], .sl 22 [], .sl 1 (List.replicate (n % 80) [.lit (.string ⟨#[]⟩)])]) (⟨[], [], [], [], List.replicate (n % 80) (bs [])⟩ : Pg) (manyO ((n % 80)) (by omega)) (by simp only [Pg.cells, List.map_replicate]; rfl)
      have hR := limR (c := [.sl 1 [], .sl 3 [], .sl 7 [], .sl 22 [], .sl 1 (List.replicate (n % 80) [.lit (.string ⟨#[]⟩)])]) (⟨[], [], [], [], List.replicate (n % 80) (bs [])⟩ : Pg) (manyO ((n % 80)) (by omega)) (by simp only [Pg.cells, List.map_replicate]; rfl)
      refine awp_region rfl ?_
      refine rwp_det rfl rfl (det_move rfl rfl) ?_
      refine rwp_det rfl rfl (det_make (n % 80) [none] rfl el22 zr9 rfl rfl rfl (by rw [hw]; rfl) (by rw [hw]; rfl) (by omega) (by omega)) ?_
      refine rwp_det rfl rfl (det_field_lit rfl fd27_4 rfl) ?_
      refine rwp_det0 rfl rfl (det_store rfl sz22 rfl rfl rfl (st_row 0 rfl rfl)) ?_
      refine rwp_nil ?_
      refine awp_seq ?_
      refine awp_region rfl ?_
      refine rwp_det rfl rfl (det_load_agg rfl agg27 rfl (ptr_row 0 rfl) rfl) ?_
      refine rwp_det rfl rfl (det_call rfl ok13 hV ⟨VLe.refl _, rfl, trivial⟩) ?_
      refine rwp_det rfl rfl (det_move_tup rfl rfl) ?_
      refine rwp_det rfl rfl (det_ex_c rfl rfl rfl) ?_
      refine rwp_det rfl rfl (det_ex_c rfl rfl rfl) ?_
      refine rwp_det rfl rfl (det_assign rfl rfl) ?_
      refine rwp_det rfl rfl (det_assign rfl rfl) ?_
      refine rwp_nil ?_
      refine awp_seq ?_
      refine awp_region rfl ?_
      refine rwp_det rfl rfl (det_load_agg rfl agg27 rfl (ptr_row 0 rfl) rfl) ?_
      refine rwp_det rfl rfl (det_call rfl ok14 hR ⟨VLe.refl _, rfl, trivial⟩) ?_
      refine rwp_det rfl rfl (det_move_tup rfl rfl) ?_
      refine rwp_det rfl rfl (det_ex_c rfl rfl rfl) ?_
      refine rwp_det rfl rfl (det_ex_c rfl rfl rfl) ?_
      refine rwp_det rfl rfl (det_assign rfl rfl) ?_
      refine rwp_det rfl rfl (det_assign rfl rfl) ?_
      refine rwp_nil ?_
      refine awp_seq ?_
      refine awp_region rfl ?_
      refine rwp_det rfl rfl (det_move rfl rfl) ?_
      refine rwp_det rfl rfl (det_move rfl rfl) ?_
      refine rwp_det rfl rfl (det_eql rfl rfl rfl) ?_
      refine rwp_det rfl rfl (det_move rfl rfl) ?_
      refine rwp_lazy [] rfl rfl rfl rfl gv1 trivial (fun g17_3 => det_move rfl rfl) rfl ?_
      refine rwp_lazy [] rfl rfl rfl rfl gv1 trivial (fun g17_3 => det_move rfl rfl) rfl ?_
      refine rwp_lazy [(58, _), (59, _)] rfl rfl rfl rfl gv1 ⟨rfl, rfl, rfl, rfl, trivial⟩ (fun g17_3 => det_eql rfl rfl rfl) rfl ?_
      refine rwp_det rfl rfl (det_and rfl rfl rfl (fun h => h) rfl) ?_
      refine rwp_det rfl rfl (det_move rfl rfl) ?_
      refine rwp_lazy [] rfl rfl rfl rfl gv1 trivial (fun g17_8 => det_call rfl ok12 law17_examples trivial) rfl ?_
      refine rwp_det rfl rfl (det_and rfl rfl rfl (fun h => h) rfl) ?_
      refine rwp_det rfl rfl (det_assign rfl rfl) ?_
      refine rwp_nil ?_
      refine awp_ret ?_
      repeat (first | refine thenQ_ret ?_ | refine blockQ_ret ?_)
      refine fin1 (rs_c rfl) ?_
      simp
     ·have hV := limV (c := [.sl 1 [], .sl 3 [], .sl 7 [], .sl 22 [], .sl 1 []]) (⟨[], [], [], [], []⟩ : Pg) many0 (by simp only [Pg.cells, List.map_replicate]; rfl)
      have hR := limR (c := [.sl 1 [], .sl 3 [], .sl 7 [], .sl 22 [], .sl 1 []]) (⟨[], [], [], [], []⟩ : Pg) many0 (by simp only [Pg.cells, List.map_replicate]; rfl)
      refine awp_skip ?_
      refine awp_seq ?_
      refine awp_region rfl ?_
      refine rwp_det rfl rfl (det_load_agg rfl agg27 rfl (ptr_row 0 rfl) rfl) ?_
      refine rwp_det rfl rfl (det_call rfl ok13 hV ⟨VLe.refl _, rfl, trivial⟩) ?_
      refine rwp_det rfl rfl (det_move_tup rfl rfl) ?_
      refine rwp_det rfl rfl (det_ex_c rfl rfl rfl) ?_
      refine rwp_det rfl rfl (det_ex_c rfl rfl rfl) ?_
      refine rwp_det rfl rfl (det_assign rfl rfl) ?_
      refine rwp_det rfl rfl (det_assign rfl rfl) ?_
      refine rwp_nil ?_
      refine awp_seq ?_
      refine awp_region rfl ?_
      refine rwp_det rfl rfl (det_load_agg rfl agg27 rfl (ptr_row 0 rfl) rfl) ?_
      refine rwp_det rfl rfl (det_call rfl ok14 hR ⟨VLe.refl _, rfl, trivial⟩) ?_
      refine rwp_det rfl rfl (det_move_tup rfl rfl) ?_
      refine rwp_det rfl rfl (det_ex_c rfl rfl rfl) ?_
      refine rwp_det rfl rfl (det_ex_c rfl rfl rfl) ?_
      refine rwp_det rfl rfl (det_assign rfl rfl) ?_
      refine rwp_det rfl rfl (det_assign rfl rfl) ?_
      refine rwp_nil ?_
      refine awp_seq ?_
      refine awp_region rfl ?_
      refine rwp_det rfl rfl (det_move rfl rfl) ?_
      refine rwp_det rfl rfl (det_move rfl rfl) ?_
      refine rwp_det rfl rfl (det_eql rfl rfl rfl) ?_
      refine rwp_det rfl rfl (det_move rfl rfl) ?_
      refine rwp_lazy [] rfl rfl rfl rfl gv1 trivial (fun g17_3 => det_move rfl rfl) rfl ?_
      refine rwp_lazy [] rfl rfl rfl rfl gv1 trivial (fun g17_3 => det_move rfl rfl) rfl ?_
      refine rwp_lazy [(58, _), (59, _)] rfl rfl rfl rfl gv1 ⟨rfl, rfl, rfl, rfl, trivial⟩ (fun g17_3 => det_eql rfl rfl rfl) rfl ?_
      refine rwp_det rfl rfl (det_and rfl rfl rfl (fun h => h) rfl) ?_
      refine rwp_det rfl rfl (det_move rfl rfl) ?_
      refine rwp_lazy [] rfl rfl rfl rfl gv1 trivial (fun g17_8 => det_call rfl ok12 law17_examples trivial) rfl ?_
      refine rwp_det rfl rfl (det_and rfl rfl rfl (fun h => h) rfl) ?_
      refine rwp_det rfl rfl (det_assign rfl rfl) ?_
      refine rwp_nil ?_
      refine awp_ret ?_
      repeat (first | refine thenQ_ret ?_ | refine blockQ_ret ?_)
      refine fin1 (rs_c rfl) ?_
      simp

end Go.W
