/-
  Walks: what functions of the program compute. Printed by wip/gen/mk2.py.
  Conditions: none.
-/
import Derived.Test.YtnnkemdiknefaaaGreatDoorWY
set_option linter.unusedSimpArgs false
set_option linter.unusedVariables false
namespace Go.W
open Go Go.Eng Go.Proofs Go.L41 Go.Br
attribute [local irreducible] AWP RWP TD
theorem ok82 : callOk Tryz.prog 82 = true := by kernel_rfl
theorem ok83 : callOk Tryz.prog 83 = true := by kernel_rfl
theorem ok208 : callOk Tryz.prog 208 = true := by kernel_rfl
theorem ok241 : callOk Tryz.prog 241 = true := by kernel_rfl
theorem ref14_wide (x y : Int) (hx : r64 x) (hy : r64 y) :
    Pur cfg 241 [vI x, vI y] (.tup [vI ((x * y) / 18446744073709551616), vUn ((x * y) % 18446744073709551616).toNat]) := by
 refine con_intro Tryz.func241 rfl Tryz.ntmps241 Tryz.results241 rfl ?_
 intro z hz
 have hA := magn_le hx
 have hB := magn_le hy
 obtain ⟨p1, p2, p3, p4⟩ := part_le (a := x.natAbs) (b := y.natAbs) (by omega) (by omega)
 obtain ⟨w1, w2⟩ := wide_lt hx hy
 have hmid : midN x.natAbs y.natAbs < 18446744073709551616 := by unfold midN; omega
 refine awp_seq ?_
 refine awp_region rfl ?_
 refine rwp_det rfl rfl (det_assign rfl rfl) ?_
 refine rwp_det rfl rfl (det_assign rfl rfl) ?_
 refine rwp_nil ?_
 refine awp_seq ?_
 refine awp_region rfl ?_
 refine rwp_det rfl rfl (det_move rfl rfl) ?_
 refine rwp_det rfl rfl (det_lss rfl rfl rfl) ?_
 refine rwp_det rfl rfl (det_move rfl rfl) ?_
 refine rwp_det rfl rfl (det_lss rfl rfl rfl) ?_
 refine rwp_det rfl rfl (det_bneq rfl un4 rfl rfl) ?_
 refine rwp_det rfl rfl (det_assign rfl rfl) ?_
 refine rwp_nil ?_
 refine awp_seq ?_
 refine awp_region rfl ?_
 refine rwp_det rfl rfl (det_move rfl rfl) ?_
 refine rwp_det rfl rfl (det_conv rfl us2 ik222 rfl) ?_
 refine rwp_det rfl rfl (det_move rfl rfl) ?_
 refine rwp_det rfl rfl (det_conv rfl us2 ik222 rfl) ?_
 refine rwp_det rfl rfl (det_assign rfl rfl) ?_
 refine rwp_det rfl rfl (det_assign rfl rfl) ?_
 refine rwp_nil ?_
 refine awp_seq ?_
 refine awp_seq ?_
 refine awp_region rfl ?_
 refine rwp_det rfl rfl (det_move rfl rfl) ?_
 refine rwp_det rfl rfl (det_lss rfl rfl rfl) ?_
 refine rwp_nil ?_
 refine awp_cond rfl (fun c1 => ?_) (fun c1 => ?_)
 ·try simp only [sx, List.length_map] at c1
  refine awp_region rfl ?_
  refine rwp_det rfl rfl (det_move rfl rfl) ?_
  refine rwp_det rfl rfl (det_neg rfl rfl) ?_
  rw [magn_neg hx c1]
  refine rwp_det rfl rfl (det_assign rfl rfl) ?_
  refine rwp_nil ?_
  refine awp_seq ?_
  refine awp_seq ?_
  refine awp_region rfl ?_
  refine rwp_det rfl rfl (det_move rfl rfl) ?_
  refine rwp_det rfl rfl (det_lss rfl rfl rfl) ?_
  refine rwp_nil ?_
  refine awp_cond rfl (fun c2 => ?_) (fun c2 => ?_)
  ·try simp only [sx, List.length_map] at c2
   refine awp_region rfl ?_
   refine rwp_det rfl rfl (det_move rfl rfl) ?_
   refine rwp_det rfl rfl (det_neg rfl rfl) ?_
   rw [magn_neg hy c2]
   refine rwp_det rfl rfl (det_assign rfl rfl) ?_
   refine rwp_nil ?_
   refine awp_seq ?_
   refine awp_region rfl ?_
   refine rwp_det rfl rfl (det_move rfl rfl) ?_
   refine rwp_det rfl rfl (det_ushr rfl rfl rfl ) ?_
   refine rwp_det rfl rfl (det_move rfl rfl) ?_
   refine rwp_det rfl rfl (det_uand rfl rfl rfl (by omega)) ?_
   refine rwp_det rfl rfl (det_move rfl rfl) ?_
   refine rwp_det rfl rfl (det_ushr rfl rfl rfl ) ?_
   refine rwp_det rfl rfl (det_move rfl rfl) ?_
   refine rwp_det rfl rfl (det_uand rfl rfl rfl (by omega)) ?_
   refine rwp_det rfl rfl (det_assign rfl rfl) ?_
   refine rwp_det rfl rfl (det_assign rfl rfl) ?_
   refine rwp_det rfl rfl (det_assign rfl rfl) ?_
   refine rwp_det rfl rfl (det_assign rfl rfl) ?_
   refine rwp_nil ?_
   refine awp_seq ?_
   refine awp_region rfl ?_
   refine rwp_det rfl rfl (det_move rfl rfl) ?_
   refine rwp_det rfl rfl (det_move rfl rfl) ?_
   refine rwp_det rfl rfl (det_umul rfl rfl rfl (by omega)) ?_
   refine rwp_det rfl rfl (det_move rfl rfl) ?_
   refine rwp_det rfl rfl (det_move rfl rfl) ?_
   refine rwp_det rfl rfl (det_umul rfl rfl rfl (by omega)) ?_
   refine rwp_det rfl rfl (det_move rfl rfl) ?_
   refine rwp_det rfl rfl (det_move rfl rfl) ?_
   refine rwp_det rfl rfl (det_umul rfl rfl rfl (by omega)) ?_
   refine rwp_det rfl rfl (det_move rfl rfl) ?_
   refine rwp_det rfl rfl (det_move rfl rfl) ?_
   refine rwp_det rfl rfl (det_umul rfl rfl rfl (by omega)) ?_
   refine rwp_det rfl rfl (det_assign rfl rfl) ?_
   refine rwp_det rfl rfl (det_assign rfl rfl) ?_
   refine rwp_det rfl rfl (det_assign rfl rfl) ?_
   refine rwp_det rfl rfl (det_assign rfl rfl) ?_
   refine rwp_nil ?_
   refine awp_seq ?_
   refine awp_region rfl ?_
   refine rwp_det rfl rfl (det_move rfl rfl) ?_
   refine rwp_det rfl rfl (det_ushr rfl rfl rfl ) ?_
   refine rwp_det rfl rfl (det_move rfl rfl) ?_
   refine rwp_det rfl rfl (det_uand rfl rfl rfl (by omega)) ?_
   refine rwp_det rfl rfl (det_uadd rfl rfl rfl (by omega)) ?_
   refine rwp_det rfl rfl (det_move rfl rfl) ?_
   refine rwp_det rfl rfl (det_uand rfl rfl rfl (by omega)) ?_
   refine rwp_det rfl rfl (det_uadd rfl rfl rfl (by omega)) ?_
   refine rwp_det rfl rfl (det_assign rfl rfl) ?_
   refine rwp_nil ?_
   refine awp_seq ?_
   refine awp_region rfl ?_
   refine rwp_det rfl rfl (det_move rfl rfl) ?_
   refine rwp_det rfl rfl (det_uand rfl rfl rfl (by omega)) ?_
   refine rwp_det rfl rfl (det_move rfl rfl) ?_
   refine rwp_det rfl rfl (det_ushl rfl rfl rfl ) ?_
   refine rwp_det rfl rfl (det_uor rfl rfl rfl ) ?_
   refine rwp_det rfl rfl (det_assign rfl rfl) ?_
   refine rwp_nil ?_
   refine awp_seq ?_
   refine awp_region rfl ?_
   refine rwp_det rfl rfl (det_move rfl rfl) ?_
   refine rwp_det rfl rfl (det_move rfl rfl) ?_
   refine rwp_det rfl rfl (det_ushr rfl rfl rfl ) ?_
   refine rwp_det rfl rfl (det_uadd rfl rfl rfl (by omega)) ?_
   refine rwp_det rfl rfl (det_move rfl rfl) ?_
   refine rwp_det rfl rfl (det_ushr rfl rfl rfl ) ?_
   refine rwp_det rfl rfl (det_uadd rfl rfl rfl (by omega)) ?_
   refine rwp_det rfl rfl (det_move rfl rfl) ?_
   refine rwp_det rfl rfl (det_ushr rfl rfl rfl ) ?_
   refine rwp_det rfl rfl (det_uadd rfl rfl rfl (by unfold wHi at w1; unfold midN at w1; omega)) ?_
   refine rwp_det rfl rfl (det_assign rfl rfl) ?_
   refine rwp_nil ?_
   refine awp_seq ?_
   refine awp_seq ?_
   refine awp_region rfl ?_
   refine rwp_det rfl rfl (det_move rfl rfl) ?_
   refine rwp_nil ?_
   refine awp_cond rfl (fun c3 => ?_) (fun c3 => ?_)
   ·try simp only [sx, List.length_map] at c3
    refine awp_seq ?_
    refine awp_region rfl ?_
    refine rwp_det rfl rfl (det_move rfl rfl) ?_
    refine rwp_det rfl rfl (det_uneg rfl rfl w2) ?_
    refine rwp_det rfl rfl (det_assign rfl rfl) ?_
    refine rwp_nil ?_
    refine awp_seq ?_
    refine awp_region rfl ?_
    refine rwp_det rfl rfl (det_move rfl rfl) ?_
    refine rwp_det rfl rfl (det_unot rfl rfl w1) ?_
    refine rwp_det rfl rfl (det_assign rfl rfl) ?_
    refine rwp_nil ?_
    refine awp_seq ?_
    refine awp_region rfl ?_
    refine rwp_det rfl rfl (det_move rfl rfl) ?_
    refine rwp_det rfl rfl (det_eql rfl rfl rfl) ?_
    refine rwp_nil ?_
    refine awp_cond rfl (fun c4 => ?_) (fun c4 => ?_)
    ·try simp only [sx, List.length_map] at c4
     refine awp_region rfl ?_
     refine rwp_det rfl rfl (det_move rfl rfl) ?_
     refine rwp_det rfl rfl (det_uaddm rfl rfl rfl ) ?_
     refine rwp_det rfl rfl (det_assign rfl rfl) ?_
     refine rwp_nil ?_
     refine awp_seq ?_
     refine awp_region rfl ?_
     refine rwp_det rfl rfl (det_move rfl rfl) ?_
     refine rwp_det rfl rfl (det_conv rfl us222 ik2 rfl) ?_
     refine rwp_det rfl rfl (det_move rfl rfl) ?_
     refine rwp_det rfl rfl (det_assign rfl rfl) ?_
     refine rwp_det rfl rfl (det_assign rfl rfl) ?_
     refine rwp_nil ?_
     refine awp_ret ?_
     repeat (first | refine thenQ_ret ?_ | refine blockQ_ret ?_)
     refine fin2 (rs_c rfl) (rs_c rfl) ?_
     obtain ⟨e1, e2⟩ := wide_neg0 hx hy c3 (by exact Int.ofNat_eq_zero.1 c4)
     rw [← e2, ← e1]; rfl
    ·try simp only [sx, List.length_map] at c4
     refine awp_skip ?_
     refine awp_seq ?_
     refine awp_region rfl ?_
     refine rwp_det rfl rfl (det_move rfl rfl) ?_
     refine rwp_det rfl rfl (det_conv rfl us222 ik2 rfl) ?_
     refine rwp_det rfl rfl (det_move rfl rfl) ?_
     refine rwp_det rfl rfl (det_assign rfl rfl) ?_
     refine rwp_det rfl rfl (det_assign rfl rfl) ?_
     refine rwp_nil ?_
     refine awp_ret ?_
     repeat (first | refine thenQ_ret ?_ | refine blockQ_ret ?_)
     refine fin2 (rs_c rfl) (rs_c rfl) ?_
     obtain ⟨e1, e2⟩ := wide_neg1 hx hy c3 (fun h => c4 (by exact Int.ofNat_eq_zero.2 h))
     rw [← e2, ← e1]; rfl
   ·try simp only [sx, List.length_map] at c3
    refine awp_skip ?_
    refine awp_seq ?_
    refine awp_region rfl ?_
    refine rwp_det rfl rfl (det_move rfl rfl) ?_
    refine rwp_det rfl rfl (det_conv rfl us222 ik2 rfl) ?_
    refine rwp_det rfl rfl (det_move rfl rfl) ?_
    refine rwp_det rfl rfl (det_assign rfl rfl) ?_
    refine rwp_det rfl rfl (det_assign rfl rfl) ?_
    refine rwp_nil ?_
    refine awp_ret ?_
    repeat (first | refine thenQ_ret ?_ | refine blockQ_ret ?_)
    refine fin2 (rs_c rfl) (rs_c rfl) ?_
    obtain ⟨e1, e2⟩ := wide_pos hx hy c3
    rw [← e2, ← e1]; rfl
  ·try simp only [sx, List.length_map] at c2
   rw [magn_pos hy (by omega)]
   refine awp_skip ?_
   refine awp_seq ?_
   refine awp_region rfl ?_
   refine rwp_det rfl rfl (det_move rfl rfl) ?_
   refine rwp_det rfl rfl (det_ushr rfl rfl rfl ) ?_
   refine rwp_det rfl rfl (det_move rfl rfl) ?_
   refine rwp_det rfl rfl (det_uand rfl rfl rfl (by omega)) ?_
   refine rwp_det rfl rfl (det_move rfl rfl) ?_
   refine rwp_det rfl rfl (det_ushr rfl rfl rfl ) ?_
   refine rwp_det rfl rfl (det_move rfl rfl) ?_
   refine rwp_det rfl rfl (det_uand rfl rfl rfl (by omega)) ?_
   refine rwp_det rfl rfl (det_assign rfl rfl) ?_
   refine rwp_det rfl rfl (det_assign rfl rfl) ?_
   refine rwp_det rfl rfl (det_assign rfl rfl) ?_
   refine rwp_det rfl rfl (det_assign rfl rfl) ?_
   refine rwp_nil ?_
   refine awp_seq ?_
   refine awp_region rfl ?_
   refine rwp_det rfl rfl (det_move rfl rfl) ?_
   refine rwp_det rfl rfl (det_move rfl rfl) ?_
   refine rwp_det rfl rfl (det_umul rfl rfl rfl (by omega)) ?_
   refine rwp_det rfl rfl (det_move rfl rfl) ?_
   refine rwp_det rfl rfl (det_move rfl rfl) ?_
   refine rwp_det rfl rfl (det_umul rfl rfl rfl (by omega)) ?_
   refine rwp_det rfl rfl (det_move rfl rfl) ?_
   refine rwp_det rfl rfl (det_move rfl rfl) ?_
   refine rwp_det rfl rfl (det_umul rfl rfl rfl (by omega)) ?_
   refine rwp_det rfl rfl (det_move rfl rfl) ?_
   refine rwp_det rfl rfl (det_move rfl rfl) ?_
   refine rwp_det rfl rfl (det_umul rfl rfl rfl (by omega)) ?_
   refine rwp_det rfl rfl (det_assign rfl rfl) ?_
   refine rwp_det rfl rfl (det_assign rfl rfl) ?_
   refine rwp_det rfl rfl (det_assign rfl rfl) ?_
   refine rwp_det rfl rfl (det_assign rfl rfl) ?_
   refine rwp_nil ?_
   refine awp_seq ?_
   refine awp_region rfl ?_
   refine rwp_det rfl rfl (det_move rfl rfl) ?_
   refine rwp_det rfl rfl (det_ushr rfl rfl rfl ) ?_
   refine rwp_det rfl rfl (det_move rfl rfl) ?_
   refine rwp_det rfl rfl (det_uand rfl rfl rfl (by omega)) ?_
   refine rwp_det rfl rfl (det_uadd rfl rfl rfl (by omega)) ?_
   refine rwp_det rfl rfl (det_move rfl rfl) ?_
   refine rwp_det rfl rfl (det_uand rfl rfl rfl (by omega)) ?_
   refine rwp_det rfl rfl (det_uadd rfl rfl rfl (by omega)) ?_
   refine rwp_det rfl rfl (det_assign rfl rfl) ?_
   refine rwp_nil ?_
   refine awp_seq ?_
   refine awp_region rfl ?_
   refine rwp_det rfl rfl (det_move rfl rfl) ?_
   refine rwp_det rfl rfl (det_uand rfl rfl rfl (by omega)) ?_
   refine rwp_det rfl rfl (det_move rfl rfl) ?_
   refine rwp_det rfl rfl (det_ushl rfl rfl rfl ) ?_
   refine rwp_det rfl rfl (det_uor rfl rfl rfl ) ?_
   refine rwp_det rfl rfl (det_assign rfl rfl) ?_
   refine rwp_nil ?_
   refine awp_seq ?_
   refine awp_region rfl ?_
   refine rwp_det rfl rfl (det_move rfl rfl) ?_
   refine rwp_det rfl rfl (det_move rfl rfl) ?_
   refine rwp_det rfl rfl (det_ushr rfl rfl rfl ) ?_
   refine rwp_det rfl rfl (det_uadd rfl rfl rfl (by omega)) ?_
   refine rwp_det rfl rfl (det_move rfl rfl) ?_
   refine rwp_det rfl rfl (det_ushr rfl rfl rfl ) ?_
   refine rwp_det rfl rfl (det_uadd rfl rfl rfl (by omega)) ?_
   refine rwp_det rfl rfl (det_move rfl rfl) ?_
   refine rwp_det rfl rfl (det_ushr rfl rfl rfl ) ?_
   refine rwp_det rfl rfl (det_uadd rfl rfl rfl (by unfold wHi at w1; unfold midN at w1; omega)) ?_
   refine rwp_det rfl rfl (det_assign rfl rfl) ?_
   refine rwp_nil ?_
   refine awp_seq ?_
   refine awp_seq ?_
   refine awp_region rfl ?_
   refine rwp_det rfl rfl (det_move rfl rfl) ?_
   refine rwp_nil ?_
   refine awp_cond rfl (fun c3 => ?_) (fun c3 => ?_)
   ·try simp only [sx, List.length_map] at c3
    refine awp_seq ?_
    refine awp_region rfl ?_
    refine rwp_det rfl rfl (det_move rfl rfl) ?_
    refine rwp_det rfl rfl (det_uneg rfl rfl w2) ?_
    refine rwp_det rfl rfl (det_assign rfl rfl) ?_
    refine rwp_nil ?_
    refine awp_seq ?_
    refine awp_region rfl ?_
    refine rwp_det rfl rfl (det_move rfl rfl) ?_
    refine rwp_det rfl rfl (det_unot rfl rfl w1) ?_
    refine rwp_det rfl rfl (det_assign rfl rfl) ?_
    refine rwp_nil ?_
    refine awp_seq ?_
    refine awp_region rfl ?_
    refine rwp_det rfl rfl (det_move rfl rfl) ?_
    refine rwp_det rfl rfl (det_eql rfl rfl rfl) ?_
    refine rwp_nil ?_
    refine awp_cond rfl (fun c4 => ?_) (fun c4 => ?_)
    ·try simp only [sx, List.length_map] at c4
     refine awp_region rfl ?_
     refine rwp_det rfl rfl (det_move rfl rfl) ?_
     refine rwp_det rfl rfl (det_uaddm rfl rfl rfl ) ?_
     refine rwp_det rfl rfl (det_assign rfl rfl) ?_
     refine rwp_nil ?_
     refine awp_seq ?_
     refine awp_region rfl ?_
     refine rwp_det rfl rfl (det_move rfl rfl) ?_
     refine rwp_det rfl rfl (det_conv rfl us222 ik2 rfl) ?_
     refine rwp_det rfl rfl (det_move rfl rfl) ?_
     refine rwp_det rfl rfl (det_assign rfl rfl) ?_
     refine rwp_det rfl rfl (det_assign rfl rfl) ?_
     refine rwp_nil ?_
     refine awp_ret ?_
     repeat (first | refine thenQ_ret ?_ | refine blockQ_ret ?_)
     refine fin2 (rs_c rfl) (rs_c rfl) ?_
     obtain ⟨e1, e2⟩ := wide_neg0 hx hy c3 (by exact Int.ofNat_eq_zero.1 c4)
     rw [← e2, ← e1]; rfl
    ·try simp only [sx, List.length_map] at c4
     refine awp_skip ?_
     refine awp_seq ?_
     refine awp_region rfl ?_
     refine rwp_det rfl rfl (det_move rfl rfl) ?_
     refine rwp_det rfl rfl (det_conv rfl us222 ik2 rfl) ?_
     refine rwp_det rfl rfl (det_move rfl rfl) ?_
     refine rwp_det rfl rfl (det_assign rfl rfl) ?_
     refine rwp_det rfl rfl (det_assign rfl rfl) ?_
     refine rwp_nil ?_
     refine awp_ret ?_
     repeat (first | refine thenQ_ret ?_ | refine blockQ_ret ?_)
     refine fin2 (rs_c rfl) (rs_c rfl) ?_
     obtain ⟨e1, e2⟩ := wide_neg1 hx hy c3 (fun h => c4 (by exact Int.ofNat_eq_zero.2 h))
     rw [← e2, ← e1]; rfl
   ·try simp only [sx, List.length_map] at c3
    refine awp_skip ?_
    refine awp_seq ?_
    refine awp_region rfl ?_
    refine rwp_det rfl rfl (det_move rfl rfl) ?_
    refine rwp_det rfl rfl (det_conv rfl us222 ik2 rfl) ?_
    refine rwp_det rfl rfl (det_move rfl rfl) ?_
    refine rwp_det rfl rfl (det_assign rfl rfl) ?_
    refine rwp_det rfl rfl (det_assign rfl rfl) ?_
    refine rwp_nil ?_
    refine awp_ret ?_
    repeat (first | refine thenQ_ret ?_ | refine blockQ_ret ?_)
    refine fin2 (rs_c rfl) (rs_c rfl) ?_
    obtain ⟨e1, e2⟩ := wide_pos hx hy c3
    rw [← e2, ← e1]; rfl
 ·try simp only [sx, List.length_map] at c1
  rw [magn_pos hx (by omega)]
  refine awp_skip ?_
  refine awp_seq ?_
  refine awp_seq ?_
  refine awp_region rfl ?_
  refine rwp_det rfl rfl (det_move rfl rfl) ?_
  refine rwp_det rfl rfl (det_lss rfl rfl rfl) ?_
  refine rwp_nil ?_
  refine awp_cond rfl (fun c2 => ?_) (fun c2 => ?_)
  ·try simp only [sx, List.length_map] at c2
   refine awp_region rfl ?_
   refine rwp_det rfl rfl (det_move rfl rfl) ?_
   refine rwp_det rfl rfl (det_neg rfl rfl) ?_
   rw [magn_neg hy c2]
   refine rwp_det rfl rfl (det_assign rfl rfl) ?_
   refine rwp_nil ?_
   refine awp_seq ?_
   refine awp_region rfl ?_
   refine rwp_det rfl rfl (det_move rfl rfl) ?_
   refine rwp_det rfl rfl (det_ushr rfl rfl rfl ) ?_
   refine rwp_det rfl rfl (det_move rfl rfl) ?_
   refine rwp_det rfl rfl (det_uand rfl rfl rfl (by omega)) ?_
   refine rwp_det rfl rfl (det_move rfl rfl) ?_
   refine rwp_det rfl rfl (det_ushr rfl rfl rfl ) ?_
   refine rwp_det rfl rfl (det_move rfl rfl) ?_
   refine rwp_det rfl rfl (det_uand rfl rfl rfl (by omega)) ?_
   refine rwp_det rfl rfl (det_assign rfl rfl) ?_
   refine rwp_det rfl rfl (det_assign rfl rfl) ?_
   refine rwp_det rfl rfl (det_assign rfl rfl) ?_
   refine rwp_det rfl rfl (det_assign rfl rfl) ?_
   refine rwp_nil ?_
   refine awp_seq ?_
   refine awp_region rfl ?_
   refine rwp_det rfl rfl (det_move rfl rfl) ?_
   refine rwp_det rfl rfl (det_move rfl rfl) ?_
   refine rwp_det rfl rfl (det_umul rfl rfl rfl (by omega)) ?_
   refine rwp_det rfl rfl (det_move rfl rfl) ?_
   refine rwp_det rfl rfl (det_move rfl rfl) ?_
   refine rwp_det rfl rfl (det_umul rfl rfl rfl (by omega)) ?_
   refine rwp_det rfl rfl (det_move rfl rfl) ?_
   refine rwp_det rfl rfl (det_move rfl rfl) ?_
   refine rwp_det rfl rfl (det_umul rfl rfl rfl (by omega)) ?_
   refine rwp_det rfl rfl (det_move rfl rfl) ?_
   refine rwp_det rfl rfl (det_move rfl rfl) ?_
   refine rwp_det rfl rfl (det_umul rfl rfl rfl (by omega)) ?_
   refine rwp_det rfl rfl (det_assign rfl rfl) ?_
   refine rwp_det rfl rfl (det_assign rfl rfl) ?_
   refine rwp_det rfl rfl (det_assign rfl rfl) ?_
   refine rwp_det rfl rfl (det_assign rfl rfl) ?_
   refine rwp_nil ?_
   refine awp_seq ?_
   refine awp_region rfl ?_
   refine rwp_det rfl rfl (det_move rfl rfl) ?_
   refine rwp_det rfl rfl (det_ushr rfl rfl rfl ) ?_
   refine rwp_det rfl rfl (det_move rfl rfl) ?_
   refine rwp_det rfl rfl (det_uand rfl rfl rfl (by omega)) ?_
   refine rwp_det rfl rfl (det_uadd rfl rfl rfl (by omega)) ?_
   refine rwp_det rfl rfl (det_move rfl rfl) ?_
   refine rwp_det rfl rfl (det_uand rfl rfl rfl (by omega)) ?_
   refine rwp_det rfl rfl (det_uadd rfl rfl rfl (by omega)) ?_
   refine rwp_det rfl rfl (det_assign rfl rfl) ?_
   refine rwp_nil ?_
   refine awp_seq ?_
   refine awp_region rfl ?_
   refine rwp_det rfl rfl (det_move rfl rfl) ?_
   refine rwp_det rfl rfl (det_uand rfl rfl rfl (by omega)) ?_
   refine rwp_det rfl rfl (det_move rfl rfl) ?_
   refine rwp_det rfl rfl (det_ushl rfl rfl rfl ) ?_
   refine rwp_det rfl rfl (det_uor rfl rfl rfl ) ?_
   refine rwp_det rfl rfl (det_assign rfl rfl) ?_
   refine rwp_nil ?_
   refine awp_seq ?_
   refine awp_region rfl ?_
   refine rwp_det rfl rfl (det_move rfl rfl) ?_
   refine rwp_det rfl rfl (det_move rfl rfl) ?_
   refine rwp_det rfl rfl (det_ushr rfl rfl rfl ) ?_
   refine rwp_det rfl rfl (det_uadd rfl rfl rfl (by omega)) ?_
   refine rwp_det rfl rfl (det_move rfl rfl) ?_
   refine rwp_det rfl rfl (det_ushr rfl rfl rfl ) ?_
   refine rwp_det rfl rfl (det_uadd rfl rfl rfl (by omega)) ?_
   refine rwp_det rfl rfl (det_move rfl rfl) ?_
   refine rwp_det rfl rfl (det_ushr rfl rfl rfl ) ?_
   refine rwp_det rfl rfl (det_uadd rfl rfl rfl (by unfold wHi at w1; unfold midN at w1; omega)) ?_
   refine rwp_det rfl rfl (det_assign rfl rfl) ?_
   refine rwp_nil ?_
   refine awp_seq ?_
   refine awp_seq ?_
   refine awp_region rfl ?_
   refine rwp_det rfl rfl (det_move rfl rfl) ?_
   refine rwp_nil ?_
   refine awp_cond rfl (fun c3 => ?_) (fun c3 => ?_)
   ·try simp only [sx, List.length_map] at c3
    refine awp_seq ?_
    refine awp_region rfl ?_
    refine rwp_det rfl rfl (det_move rfl rfl) ?_
    refine rwp_det rfl rfl (det_uneg rfl rfl w2) ?_
    refine rwp_det rfl rfl (det_assign rfl rfl) ?_
    refine rwp_nil ?_
    refine awp_seq ?_
    refine awp_region rfl ?_
    refine rwp_det rfl rfl (det_move rfl rfl) ?_
    refine rwp_det rfl rfl (det_unot rfl rfl w1) ?_
    refine rwp_det rfl rfl (det_assign rfl rfl) ?_
    refine rwp_nil ?_
    refine awp_seq ?_
    refine awp_region rfl ?_
    refine rwp_det rfl rfl (det_move rfl rfl) ?_
    refine rwp_det rfl rfl (det_eql rfl rfl rfl) ?_
    refine rwp_nil ?_
    refine awp_cond rfl (fun c4 => ?_) (fun c4 => ?_)
    ·try simp only [sx, List.length_map] at c4
     refine awp_region rfl ?_
     refine rwp_det rfl rfl (det_move rfl rfl) ?_
     refine rwp_det rfl rfl (det_uaddm rfl rfl rfl ) ?_
     refine rwp_det rfl rfl (det_assign rfl rfl) ?_
     refine rwp_nil ?_
     refine awp_seq ?_
     refine awp_region rfl ?_
     refine rwp_det rfl rfl (det_move rfl rfl) ?_
     refine rwp_det rfl rfl (det_conv rfl us222 ik2 rfl) ?_
     refine rwp_det rfl rfl (det_move rfl rfl) ?_
     refine rwp_det rfl rfl (det_assign rfl rfl) ?_
     refine rwp_det rfl rfl (det_assign rfl rfl) ?_
     refine rwp_nil ?_
     refine awp_ret ?_
     repeat (first | refine thenQ_ret ?_ | refine blockQ_ret ?_)
     refine fin2 (rs_c rfl) (rs_c rfl) ?_
     obtain ⟨e1, e2⟩ := wide_neg0 hx hy c3 (by exact Int.ofNat_eq_zero.1 c4)
     rw [← e2, ← e1]; rfl
    ·try simp only [sx, List.length_map] at c4
     refine awp_skip ?_
     refine awp_seq ?_
     refine awp_region rfl ?_
     refine rwp_det rfl rfl (det_move rfl rfl) ?_
     refine rwp_det rfl rfl (det_conv rfl us222 ik2 rfl) ?_
     refine rwp_det rfl rfl (det_move rfl rfl) ?_
     refine rwp_det rfl rfl (det_assign rfl rfl) ?_
     refine rwp_det rfl rfl (det_assign rfl rfl) ?_
     refine rwp_nil ?_
     refine awp_ret ?_
     repeat (first | refine thenQ_ret ?_ | refine blockQ_ret ?_)
     refine fin2 (rs_c rfl) (rs_c rfl) ?_
     obtain ⟨e1, e2⟩ := wide_neg1 hx hy c3 (fun h => c4 (by exact Int.ofNat_eq_zero.2 h))
     rw [← e2, ← e1]; rfl
   ·try simp only [sx, List.length_map] at c3
    refine awp_skip ?_
    refine awp_seq ?_
    refine awp_region rfl ?_
    refine rwp_det rfl rfl (det_move rfl rfl) ?_
    refine rwp_det rfl rfl (det_conv rfl us222 ik2 rfl) ?_
    refine rwp_det rfl rfl (det_move rfl rfl) ?_
    refine rwp_det rfl rfl (det_assign rfl rfl) ?_
    refine rwp_det rfl rfl (det_assign rfl rfl) ?_
    refine rwp_nil ?_
    refine awp_ret ?_
    repeat (first | refine thenQ_ret ?_ | refine blockQ_ret ?_)
    refine fin2 (rs_c rfl) (rs_c rfl) ?_
    obtain ⟨e1, e2⟩ := wide_pos hx hy c3
    rw [← e2, ← e1]; rfl
  ·try simp only [sx, List.length_map] at c2
   rw [magn_pos hy (by omega)]
   refine awp_skip ?_
   refine awp_seq ?_
   refine awp_region rfl ?_
   refine rwp_det rfl rfl (det_move rfl rfl) ?_
   refine rwp_det rfl rfl (det_ushr rfl rfl rfl ) ?_
   refine rwp_det rfl rfl (det_move rfl rfl) ?_
   refine rwp_det rfl rfl (det_uand rfl rfl rfl (by omega)) ?_
   refine rwp_det rfl rfl (det_move rfl rfl) ?_
   refine rwp_det rfl rfl (det_ushr rfl rfl rfl ) ?_
   refine rwp_det rfl rfl (det_move rfl rfl) ?_
   refine rwp_det rfl rfl (det_uand rfl rfl rfl (by omega)) ?_
   refine rwp_det rfl rfl (det_assign rfl rfl) ?_
   refine rwp_det rfl rfl (det_assign rfl rfl) ?_
   refine rwp_det rfl rfl (det_assign rfl rfl) ?_
   refine rwp_det rfl rfl (det_assign rfl rfl) ?_
   refine rwp_nil ?_
   refine awp_seq ?_
   refine awp_region rfl ?_
   refine rwp_det rfl rfl (det_move rfl rfl) ?_
   refine rwp_det rfl rfl (det_move rfl rfl) ?_
   refine rwp_det rfl rfl (det_umul rfl rfl rfl (by omega)) ?_
   refine rwp_det rfl rfl (det_move rfl rfl) ?_
   refine rwp_det rfl rfl (det_move rfl rfl) ?_
   refine rwp_det rfl rfl (det_umul rfl rfl rfl (by omega)) ?_
   refine rwp_det rfl rfl (det_move rfl rfl) ?_
   refine rwp_det rfl rfl (det_move rfl rfl) ?_
   refine rwp_det rfl rfl (det_umul rfl rfl rfl (by omega)) ?_
   refine rwp_det rfl rfl (det_move rfl rfl) ?_
   refine rwp_det rfl rfl (det_move rfl rfl) ?_
   refine rwp_det rfl rfl (det_umul rfl rfl rfl (by omega)) ?_
   refine rwp_det rfl rfl (det_assign rfl rfl) ?_
   refine rwp_det rfl rfl (det_assign rfl rfl) ?_
   refine rwp_det rfl rfl (det_assign rfl rfl) ?_
   refine rwp_det rfl rfl (det_assign rfl rfl) ?_
   refine rwp_nil ?_
   refine awp_seq ?_
   refine awp_region rfl ?_
   refine rwp_det rfl rfl (det_move rfl rfl) ?_
   refine rwp_det rfl rfl (det_ushr rfl rfl rfl ) ?_
   refine rwp_det rfl rfl (det_move rfl rfl) ?_
   refine rwp_det rfl rfl (det_uand rfl rfl rfl (by omega)) ?_
   refine rwp_det rfl rfl (det_uadd rfl rfl rfl (by omega)) ?_
   refine rwp_det rfl rfl (det_move rfl rfl) ?_
   refine rwp_det rfl rfl (det_uand rfl rfl rfl (by omega)) ?_
   refine rwp_det rfl rfl (det_uadd rfl rfl rfl (by omega)) ?_
   refine rwp_det rfl rfl (det_assign rfl rfl) ?_
   refine rwp_nil ?_
   refine awp_seq ?_
   refine awp_region rfl ?_
   refine rwp_det rfl rfl (det_move rfl rfl) ?_
   refine rwp_det rfl rfl (det_uand rfl rfl rfl (by omega)) ?_
   refine rwp_det rfl rfl (det_move rfl rfl) ?_
   refine rwp_det rfl rfl (det_ushl rfl rfl rfl ) ?_
   refine rwp_det rfl rfl (det_uor rfl rfl rfl ) ?_
   refine rwp_det rfl rfl (det_assign rfl rfl) ?_
   refine rwp_nil ?_
   refine awp_seq ?_
   refine awp_region rfl ?_
   refine rwp_det rfl rfl (det_move rfl rfl) ?_
   refine rwp_det rfl rfl (det_move rfl rfl) ?_
   refine rwp_det rfl rfl (det_ushr rfl rfl rfl ) ?_
   refine rwp_det rfl rfl (det_uadd rfl rfl rfl (by omega)) ?_
   refine rwp_det rfl rfl (det_move rfl rfl) ?_
   refine rwp_det rfl rfl (det_ushr rfl rfl rfl ) ?_
   refine rwp_det rfl rfl (det_uadd rfl rfl rfl (by omega)) ?_
   refine rwp_det rfl rfl (det_move rfl rfl) ?_
   refine rwp_det rfl rfl (det_ushr rfl rfl rfl ) ?_
   refine rwp_det rfl rfl (det_uadd rfl rfl rfl (by unfold wHi at w1; unfold midN at w1; omega)) ?_
   refine rwp_det rfl rfl (det_assign rfl rfl) ?_
   refine rwp_nil ?_
   refine awp_seq ?_
   refine awp_seq ?_
   refine awp_region rfl ?_
   refine rwp_det rfl rfl (det_move rfl rfl) ?_
   refine rwp_nil ?_
   refine awp_cond rfl (fun c3 => ?_) (fun c3 => ?_)
   ·try simp only [sx, List.length_map] at c3
    refine awp_seq ?_
    refine awp_region rfl ?_
    refine rwp_det rfl rfl (det_move rfl rfl) ?_
    refine rwp_det rfl rfl (det_uneg rfl rfl w2) ?_
    refine rwp_det rfl rfl (det_assign rfl rfl) ?_
    refine rwp_nil ?_
    refine awp_seq ?_
    refine awp_region rfl ?_
    refine rwp_det rfl rfl (det_move rfl rfl) ?_
    refine rwp_det rfl rfl (det_unot rfl rfl w1) ?_
    refine rwp_det rfl rfl (det_assign rfl rfl) ?_
    refine rwp_nil ?_
    refine awp_seq ?_
    refine awp_region rfl ?_
    refine rwp_det rfl rfl (det_move rfl rfl) ?_
    refine rwp_det rfl rfl (det_eql rfl rfl rfl) ?_
    refine rwp_nil ?_
    refine awp_cond rfl (fun c4 => ?_) (fun c4 => ?_)
    ·try simp only [sx, List.length_map] at c4
     refine awp_region rfl ?_
     refine rwp_det rfl rfl (det_move rfl rfl) ?_
     refine rwp_det rfl rfl (det_uaddm rfl rfl rfl ) ?_
     refine rwp_det rfl rfl (det_assign rfl rfl) ?_
     refine rwp_nil ?_
     refine awp_seq ?_
     refine awp_region rfl ?_
     refine rwp_det rfl rfl (det_move rfl rfl) ?_
     refine rwp_det rfl rfl (det_conv rfl us222 ik2 rfl) ?_
     refine rwp_det rfl rfl (det_move rfl rfl) ?_
     refine rwp_det rfl rfl (det_assign rfl rfl) ?_
     refine rwp_det rfl rfl (det_assign rfl rfl) ?_
     refine rwp_nil ?_
     refine awp_ret ?_
     repeat (first | refine thenQ_ret ?_ | refine blockQ_ret ?_)
     refine fin2 (rs_c rfl) (rs_c rfl) ?_
     obtain ⟨e1, e2⟩ := wide_neg0 hx hy c3 (by exact Int.ofNat_eq_zero.1 c4)
     rw [← e2, ← e1]; rfl
    ·try simp only [sx, List.length_map] at c4
     refine awp_skip ?_
     refine awp_seq ?_
     refine awp_region rfl ?_
     refine rwp_det rfl rfl (det_move rfl rfl) ?_
     refine rwp_det rfl rfl (det_conv rfl us222 ik2 rfl) ?_
     refine rwp_det rfl rfl (det_move rfl rfl) ?_
     refine rwp_det rfl rfl (det_assign rfl rfl) ?_
     refine rwp_det rfl rfl (det_assign rfl rfl) ?_
     refine rwp_nil ?_
     refine awp_ret ?_
     repeat (first | refine thenQ_ret ?_ | refine blockQ_ret ?_)
     refine fin2 (rs_c rfl) (rs_c rfl) ?_
     obtain ⟨e1, e2⟩ := wide_neg1 hx hy c3 (fun h => c4 (by exact Int.ofNat_eq_zero.2 h))
     rw [← e2, ← e1]; rfl
   ·try simp only [sx, List.length_map] at c3
    refine awp_skip ?_
    refine awp_seq ?_
    refine awp_region rfl ?_
    refine rwp_det rfl rfl (det_move rfl rfl) ?_
    refine rwp_det rfl rfl (det_conv rfl us222 ik2 rfl) ?_
    refine rwp_det rfl rfl (det_move rfl rfl) ?_
    refine rwp_det rfl rfl (det_assign rfl rfl) ?_
    refine rwp_det rfl rfl (det_assign rfl rfl) ?_
    refine rwp_nil ?_
    refine awp_ret ?_
    repeat (first | refine thenQ_ret ?_ | refine blockQ_ret ?_)
    refine fin2 (rs_c rfl) (rs_c rfl) ?_
    obtain ⟨e1, e2⟩ := wide_pos hx hy c3
    rw [← e2, ← e1]; rfl

theorem ref14_both (a b c : Int) (ha : r64 a) (hb : r64 b) (hc : r64 c) :
    Pur cfg 208 [vI a, vI b, vI c] (.tup [vI (w64 (a + b * c)), vB (decide (r64 (a + b * c)))]) := by
 refine con_intro Tryz.func208 rfl Tryz.ntmps208 Tryz.results208 rfl ?_
 intro z hz
 obtain ⟨z1, z2⟩ := prod_bd hb hc
 refine awp_seq ?_
 refine awp_region rfl ?_
 refine rwp_det rfl rfl (det_assign rfl rfl) ?_
 refine rwp_det rfl rfl (det_assign rfl rfl) ?_
 refine rwp_nil ?_
 refine awp_seq ?_
 refine awp_region rfl ?_
 refine rwp_det rfl rfl (det_move rfl rfl) ?_
 refine rwp_det rfl rfl (det_move rfl rfl) ?_
 refine rwp_det rfl rfl (det_call rfl ok241 (ref14_wide b c hb hc) ⟨VLe.refl _, rfl, VLe.refl _, rfl, trivial⟩) ?_
 refine rwp_det rfl rfl (det_move_tup rfl rfl) ?_
 refine rwp_det rfl rfl (det_ex_c rfl rfl rfl) ?_
 refine rwp_det rfl rfl (det_ex_c rfl rfl rfl) ?_
 refine rwp_det rfl rfl (det_assign rfl rfl) ?_
 refine rwp_det rfl rfl (det_assign rfl rfl) ?_
 refine rwp_nil ?_
 refine awp_seq ?_
 refine awp_region rfl ?_
 refine rwp_det rfl rfl (det_move rfl rfl) ?_
 refine rwp_det rfl rfl (det_move rfl rfl) ?_
 refine rwp_det rfl rfl (det_conv rfl us2 ik222 rfl) ?_
 refine rwp_det rfl rfl (det_add rfl rfl rfl) ?_
 refine rwp_det rfl rfl (det_assign rfl rfl) ?_
 refine rwp_nil ?_
 refine awp_seq ?_
 refine awp_region rfl ?_
 refine rwp_det rfl rfl (det_assign rfl rfl) ?_
 refine rwp_nil ?_
 refine awp_seq ?_
 refine awp_seq ?_
 refine awp_region rfl ?_
 refine rwp_det rfl rfl (det_move rfl rfl) ?_
 refine rwp_det rfl rfl (det_move rfl rfl) ?_
 refine rwp_det rfl rfl (det_lss rfl rfl rfl) ?_
 refine rwp_nil ?_
 refine awp_cond rfl (fun c1 => ?_) (fun c1 => ?_)
 ·try simp only [sx, List.length_map] at c1
  refine awp_region rfl ?_
  refine rwp_det rfl rfl (det_assign rfl rfl) ?_
  refine rwp_nil ?_
  refine awp_seq ?_
  refine awp_region rfl ?_
  refine rwp_det rfl rfl (det_move rfl rfl) ?_
  refine rwp_det rfl rfl (det_move rfl rfl) ?_
  refine rwp_det rfl rfl (det_add_nw rfl rfl rfl ⟨by omega, by omega⟩) ?_
  refine rwp_det rfl rfl (det_assign rfl rfl) ?_
  refine rwp_nil ?_
  refine awp_seq ?_
  refine awp_seq ?_
  refine awp_region rfl ?_
  refine rwp_det rfl rfl (det_move rfl rfl) ?_
  refine rwp_det rfl rfl (det_lss rfl rfl rfl) ?_
  refine rwp_nil ?_
  refine awp_cond rfl (fun c2 => ?_) (fun c2 => ?_)
  ·try simp only [sx, List.length_map] at c2
   refine awp_region rfl ?_
   refine rwp_det rfl rfl (det_move rfl rfl) ?_
   refine rwp_det rfl rfl (det_sub_nw rfl rfl rfl ⟨by omega, by omega⟩) ?_
   refine rwp_det rfl rfl (det_assign rfl rfl) ?_
   refine rwp_nil ?_
   refine awp_seq ?_
   refine awp_region rfl ?_
   refine rwp_det rfl rfl (det_move rfl rfl) ?_
   refine rwp_det rfl rfl (det_conv rfl us222 ik2 rfl) ?_
   refine rwp_det rfl rfl (det_assign rfl rfl) ?_
   refine rwp_nil ?_
   refine awp_seq ?_
   refine awp_region rfl ?_
   refine rwp_det rfl rfl (det_move rfl rfl) ?_
   refine rwp_det rfl rfl (det_move rfl rfl) ?_
   refine rwp_det rfl rfl (det_eql rfl rfl rfl) ?_
   refine rwp_det rfl rfl (det_move rfl rfl) ?_
   refine rwp_lazy [] rfl rfl rfl rfl gv1 trivial (fun g10_3 => det_move rfl rfl) rfl ?_
   refine rwp_lazy [(40, _)] rfl rfl rfl rfl gv1 ⟨rfl, rfl, trivial⟩ (fun g10_3 => det_geq rfl rfl rfl) rfl ?_
   refine rwp_det rfl rfl (det_and rfl rfl rfl (fun h => h) rfl) ?_
   refine rwp_det rfl rfl (det_move rfl rfl) ?_
   refine rwp_lazy [] rfl rfl rfl rfl gv1 trivial (fun g10_7 => det_move rfl rfl) rfl ?_
   refine rwp_lazy [(44, _)] rfl rfl rfl rfl gv1 ⟨rfl, rfl, trivial⟩ (fun g10_7 => det_eql rfl rfl rfl) rfl ?_
   refine rwp_lazy [(45, _)] rfl rfl rfl rfl gv1 ⟨rfl, rfl, trivial⟩ (fun g10_7 => det_move rfl rfl) rfl ?_
   refine rwp_lazy [] rfl rfl rfl rfl gv2 trivial (fun g10_10 => det_move rfl rfl) rfl ?_
   refine rwp_lazy [(47, _)] rfl rfl rfl rfl gv2 ⟨rfl, rfl, trivial⟩ (fun g10_10 => det_lss rfl rfl rfl) rfl ?_
   refine rwp_lazy [(46, _)] rfl rfl rfl rfl gv1 ⟨rfl, rfl, trivial⟩ (fun g10_7 => det_and rfl rfl rfl (fun h => and_mk (by assumption) h) rfl) rfl ?_
   refine rwp_det rfl rfl (det_or rfl rfl rfl rfl (fun h => (lzf h))) ?_
   refine rwp_det rfl rfl (det_assign rfl rfl) ?_
   refine rwp_det rfl rfl (det_assign rfl rfl) ?_
   refine rwp_nil ?_
   refine awp_ret ?_
   repeat (first | refine thenQ_ret ?_ | refine blockQ_ret ?_)
   refine fin2 (rs_c rfl) (rs_c rfl) ?_
   obtain ⟨S, hS, s0, s1, s2, s3⟩ := both_sum (z := b * c) ha
   rw [← hS, s3] at c1
   rw [← hS]
   clear hS
   unfold r64 at ha
   exact both_fin s0 s1 (by generalize b * c = z at *; omega)
  ·try simp only [sx, List.length_map] at c2
   refine awp_skip ?_
   refine awp_seq ?_
   refine awp_region rfl ?_
   refine rwp_det rfl rfl (det_move rfl rfl) ?_
   refine rwp_det rfl rfl (det_conv rfl us222 ik2 rfl) ?_
   refine rwp_det rfl rfl (det_assign rfl rfl) ?_
   refine rwp_nil ?_
   refine awp_seq ?_
   refine awp_region rfl ?_
   refine rwp_det rfl rfl (det_move rfl rfl) ?_
   refine rwp_det rfl rfl (det_move rfl rfl) ?_
   refine rwp_det rfl rfl (det_eql rfl rfl rfl) ?_
   refine rwp_det rfl rfl (det_move rfl rfl) ?_
   refine rwp_lazy [] rfl rfl rfl rfl gv1 trivial (fun g10_3 => det_move rfl rfl) rfl ?_
   refine rwp_lazy [(40, _)] rfl rfl rfl rfl gv1 ⟨rfl, rfl, trivial⟩ (fun g10_3 => det_geq rfl rfl rfl) rfl ?_
   refine rwp_det rfl rfl (det_and rfl rfl rfl (fun h => h) rfl) ?_
   refine rwp_det rfl rfl (det_move rfl rfl) ?_
   refine rwp_lazy [] rfl rfl rfl rfl gv1 trivial (fun g10_7 => det_move rfl rfl) rfl ?_
   refine rwp_lazy [(44, _)] rfl rfl rfl rfl gv1 ⟨rfl, rfl, trivial⟩ (fun g10_7 => det_eql rfl rfl rfl) rfl ?_
   refine rwp_lazy [(45, _)] rfl rfl rfl rfl gv1 ⟨rfl, rfl, trivial⟩ (fun g10_7 => det_move rfl rfl) rfl ?_
   refine rwp_lazy [] rfl rfl rfl rfl gv2 trivial (fun g10_10 => det_move rfl rfl) rfl ?_
   refine rwp_lazy [(47, _)] rfl rfl rfl rfl gv2 ⟨rfl, rfl, trivial⟩ (fun g10_10 => det_lss rfl rfl rfl) rfl ?_
   refine rwp_lazy [(46, _)] rfl rfl rfl rfl gv1 ⟨rfl, rfl, trivial⟩ (fun g10_7 => det_and rfl rfl rfl (fun h => and_mk (by assumption) h) rfl) rfl ?_
   refine rwp_det rfl rfl (det_or rfl rfl rfl rfl (fun h => (lzf h))) ?_
   refine rwp_det rfl rfl (det_assign rfl rfl) ?_
   refine rwp_det rfl rfl (det_assign rfl rfl) ?_
   refine rwp_nil ?_
   refine awp_ret ?_
   repeat (first | refine thenQ_ret ?_ | refine blockQ_ret ?_)
   refine fin2 (rs_c rfl) (rs_c rfl) ?_
   obtain ⟨S, hS, s0, s1, s2, s3⟩ := both_sum (z := b * c) ha
   rw [← hS, s3] at c1
   rw [← hS]
   clear hS
   unfold r64 at ha
   exact both_fin s0 s1 (by generalize b * c = z at *; omega)
 ·try simp only [sx, List.length_map] at c1
  refine awp_skip ?_
  refine awp_seq ?_
  refine awp_region rfl ?_
  refine rwp_det rfl rfl (det_move rfl rfl) ?_
  refine rwp_det rfl rfl (det_move rfl rfl) ?_
  refine rwp_det rfl rfl (det_add_nw rfl rfl rfl ⟨by omega, by omega⟩) ?_
  refine rwp_det rfl rfl (det_assign rfl rfl) ?_
  refine rwp_nil ?_
  refine awp_seq ?_
  refine awp_seq ?_
  refine awp_region rfl ?_
  refine rwp_det rfl rfl (det_move rfl rfl) ?_
  refine rwp_det rfl rfl (det_lss rfl rfl rfl) ?_
  refine rwp_nil ?_
  refine awp_cond rfl (fun c2 => ?_) (fun c2 => ?_)
  ·try simp only [sx, List.length_map] at c2
   refine awp_region rfl ?_
   refine rwp_det rfl rfl (det_move rfl rfl) ?_
   refine rwp_det rfl rfl (det_sub_nw rfl rfl rfl ⟨by omega, by omega⟩) ?_
   refine rwp_det rfl rfl (det_assign rfl rfl) ?_
   refine rwp_nil ?_
   refine awp_seq ?_
   refine awp_region rfl ?_
   refine rwp_det rfl rfl (det_move rfl rfl) ?_
   refine rwp_det rfl rfl (det_conv rfl us222 ik2 rfl) ?_
   refine rwp_det rfl rfl (det_assign rfl rfl) ?_
   refine rwp_nil ?_
   refine awp_seq ?_
   refine awp_region rfl ?_
   refine rwp_det rfl rfl (det_move rfl rfl) ?_
   refine rwp_det rfl rfl (det_move rfl rfl) ?_
   refine rwp_det rfl rfl (det_eql rfl rfl rfl) ?_
   refine rwp_det rfl rfl (det_move rfl rfl) ?_
   refine rwp_lazy [] rfl rfl rfl rfl gv1 trivial (fun g10_3 => det_move rfl rfl) rfl ?_
   refine rwp_lazy [(40, _)] rfl rfl rfl rfl gv1 ⟨rfl, rfl, trivial⟩ (fun g10_3 => det_geq rfl rfl rfl) rfl ?_
   refine rwp_det rfl rfl (det_and rfl rfl rfl (fun h => h) rfl) ?_
   refine rwp_det rfl rfl (det_move rfl rfl) ?_
   refine rwp_lazy [] rfl rfl rfl rfl gv1 trivial (fun g10_7 => det_move rfl rfl) rfl ?_
   refine rwp_lazy [(44, _)] rfl rfl rfl rfl gv1 ⟨rfl, rfl, trivial⟩ (fun g10_7 => det_eql rfl rfl rfl) rfl ?_
   refine rwp_lazy [(45, _)] rfl rfl rfl rfl gv1 ⟨rfl, rfl, trivial⟩ (fun g10_7 => det_move rfl rfl) rfl ?_
   refine rwp_lazy [] rfl rfl rfl rfl gv2 trivial (fun g10_10 => det_move rfl rfl) rfl ?_
   refine rwp_lazy [(47, _)] rfl rfl rfl rfl gv2 ⟨rfl, rfl, trivial⟩ (fun g10_10 => det_lss rfl rfl rfl) rfl ?_
   refine rwp_lazy [(46, _)] rfl rfl rfl rfl gv1 ⟨rfl, rfl, trivial⟩ (fun g10_7 => det_and rfl rfl rfl (fun h => and_mk (by assumption) h) rfl) rfl ?_
   refine rwp_det rfl rfl (det_or rfl rfl rfl rfl (fun h => (lzf h))) ?_
   refine rwp_det rfl rfl (det_assign rfl rfl) ?_
   refine rwp_det rfl rfl (det_assign rfl rfl) ?_
   refine rwp_nil ?_
   refine awp_ret ?_
   repeat (first | refine thenQ_ret ?_ | refine blockQ_ret ?_)
   refine fin2 (rs_c rfl) (rs_c rfl) ?_
   obtain ⟨S, hS, s0, s1, s2, s3⟩ := both_sum (z := b * c) ha
   rw [← hS, s3] at c1
   rw [← hS]
   clear hS
   unfold r64 at ha
   exact both_fin s0 s1 (by generalize b * c = z at *; omega)
  ·try simp only [sx, List.length_map] at c2
   refine awp_skip ?_
   refine awp_seq ?_
   refine awp_region rfl ?_
   refine rwp_det rfl rfl (det_move rfl rfl) ?_
   refine rwp_det rfl rfl (det_conv rfl us222 ik2 rfl) ?_
   refine rwp_det rfl rfl (det_assign rfl rfl) ?_
   refine rwp_nil ?_
   refine awp_seq ?_
   refine awp_region rfl ?_
   refine rwp_det rfl rfl (det_move rfl rfl) ?_
   refine rwp_det rfl rfl (det_move rfl rfl) ?_
   refine rwp_det rfl rfl (det_eql rfl rfl rfl) ?_
   refine rwp_det rfl rfl (det_move rfl rfl) ?_
   refine rwp_lazy [] rfl rfl rfl rfl gv1 trivial (fun g10_3 => det_move rfl rfl) rfl ?_
   refine rwp_lazy [(40, _)] rfl rfl rfl rfl gv1 ⟨rfl, rfl, trivial⟩ (fun g10_3 => det_geq rfl rfl rfl) rfl ?_
   refine rwp_det rfl rfl (det_and rfl rfl rfl (fun h => h) rfl) ?_
   refine rwp_det rfl rfl (det_move rfl rfl) ?_
   refine rwp_lazy [] rfl rfl rfl rfl gv1 trivial (fun g10_7 => det_move rfl rfl) rfl ?_
   refine rwp_lazy [(44, _)] rfl rfl rfl rfl gv1 ⟨rfl, rfl, trivial⟩ (fun g10_7 => det_eql rfl rfl rfl) rfl ?_
   refine rwp_lazy [(45, _)] rfl rfl rfl rfl gv1 ⟨rfl, rfl, trivial⟩ (fun g10_7 => det_move rfl rfl) rfl ?_
   refine rwp_lazy [] rfl rfl rfl rfl gv2 trivial (fun g10_10 => det_move rfl rfl) rfl ?_
   refine rwp_lazy [(47, _)] rfl rfl rfl rfl gv2 ⟨rfl, rfl, trivial⟩ (fun g10_10 => det_lss rfl rfl rfl) rfl ?_
   refine rwp_lazy [(46, _)] rfl rfl rfl rfl gv1 ⟨rfl, rfl, trivial⟩ (fun g10_7 => det_and rfl rfl rfl (fun h => and_mk (by assumption) h) rfl) rfl ?_
   refine rwp_det rfl rfl (det_or rfl rfl rfl rfl (fun h => (lzf h))) ?_
   refine rwp_det rfl rfl (det_assign rfl rfl) ?_
   refine rwp_det rfl rfl (det_assign rfl rfl) ?_
   refine rwp_nil ?_
   refine awp_ret ?_
   repeat (first | refine thenQ_ret ?_ | refine blockQ_ret ?_)
   refine fin2 (rs_c rfl) (rs_c rfl) ?_
   obtain ⟨S, hS, s0, s1, s2, s3⟩ := both_sum (z := b * c) ha
   rw [← hS, s3] at c1
   rw [← hS]
   clear hS
   unfold r64 at ha
   exact both_fin s0 s1 (by generalize b * c = z at *; omega)

theorem ref14_scales (l : Lf) (by_ : Int) (hl : l.L.length ≤ 4294967296) (hr : l.rng) (hb : r64 by_) :
    Pur cfg 155 [vLin l, vI by_] (vB (decide (r64 (l.K * by_)) && scaleOk by_ l.L)) := by
 refine con_intro Tryz.func155 rfl Tryz.ntmps155 Tryz.results155 rfl ?_
 intro z hz
 have z0 : r64 0 := by unfold r64; omega
 refine awp_seq ?_
 refine awp_region rfl ?_
 refine rwp_op rfl rfl (ope_box rfl rfl) ?_
 rintro _ _ ⟨b1, rfl, rfl⟩
 refine rwp_det rfl rfl (det_assign rfl rfl) ?_
 refine rwp_nil ?_
 refine awp_seq ?_
 refine awp_seq ?_
 refine awp_region rfl ?_
 refine rwp_det rfl rfl (det_field_lit rfl fd29_0 rfl) ?_
 refine rwp_det rfl rfl (det_load_one rfl one2 rfl (ptr_row 0 rfl) rfl) ?_
 refine rwp_det rfl rfl (det_move rfl rfl) ?_
 refine rwp_det rfl rfl (det_call rfl ok208 (ref14_both 0 l.K by_ z0 hr.1 hb) ⟨VLe.refl _, rfl, VLe.refl _, rfl, VLe.refl _, rfl, trivial⟩) ?_
 refine rwp_det rfl rfl (det_move_tup rfl rfl) ?_
 refine rwp_det rfl rfl (det_ex_c rfl rfl rfl) ?_
 refine rwp_det rfl rfl (det_ex_c rfl rfl rfl) ?_
 refine rwp_det rfl rfl (det_assign rfl rfl) ?_
 refine rwp_det rfl rfl (det_assign rfl rfl) ?_
 refine rwp_nil ?_
 refine awp_seq ?_
 refine awp_region rfl ?_
 refine rwp_det rfl rfl (det_move rfl rfl) ?_
 refine rwp_det rfl rfl (det_not rfl rfl) ?_
 refine rwp_nil ?_
 refine awp_cond rfl (fun c1 => ?_) (fun c1 => ?_)
 ·try simp only [sx, List.length_map] at c1
  rw [Int.zero_add] at c1
  refine awp_seq ?_
  refine awp_region rfl ?_
  refine rwp_det rfl rfl (det_assign rfl rfl) ?_
  refine rwp_nil ?_
  refine awp_ret ?_
  repeat (first | refine thenQ_ret ?_ | refine blockQ_ret ?_)
  refine fin1 (rs_c rfl) ?_
  rw [decide_eq_false c1]; rfl
 ·try simp only [sx, List.length_map] at c1
  rw [Int.zero_add] at c1
  refine awp_skip ?_
  refine awp_seq ?_
  refine awp_seq ?_
  refine awp_region rfl ?_
  refine rwp_det rfl rfl (det_assign rfl rfl) ?_
  refine rwp_nil ?_
  refine awp_block ?_
  refine awp_weak ⟨[(7, .c _), (1, .c _), (2, .c _)], [_]⟩ (Weak.mk [true] ⟨VLe.of_eq rfl, VLe.of_eq rfl, VLe.of_eq rfl, trivial⟩ rfl) ?_
  refine awp_loop_k 1 0 rfl rfl (Nat) (fun k => [(7, vI k)]) (fun k => []) (fun k => k ≤ l.L.length ∧ (scaleOk by_ (l.L.take k) = true)) (fun k => l.L.length - k) ⟨0, ⟨by omega, rfl⟩, Weak.mk [true] ⟨VLe.refl _, VLe.refl _, VLe.refl _, trivial⟩ rfl⟩ ?_
  rintro k ⟨hk, hp⟩
  refine awp_seq ?_
  refine awp_seq ?_
  refine awp_region rfl ?_
  refine rwp_det rfl rfl (det_move rfl rfl) ?_
  refine rwp_det rfl rfl (det_field_lit rfl fd29_1 rfl) ?_
  refine rwp_det rfl rfl (det_load_one rfl one27 rfl (ptr_row 0 rfl) rfl) ?_
  refine rwp_det rfl rfl (det_len_slm rfl el27 rfl) ?_
  refine rwp_det rfl rfl (det_lss rfl rfl rfl) ?_
  refine rwp_nil ?_
  refine awp_cond rfl (fun c2 => ?_) (fun c2 => ?_)
  ·try simp only [sx, List.length_map] at c2
   obtain ⟨x, hx⟩ := ex_get l.L k (by omega)
   refine awp_skip ?_
   refine awp_seq ?_
   refine awp_block ?_
   refine awp_seq ?_
   refine awp_region rfl ?_
   refine rwp_det rfl rfl (det_field_lit rfl fd29_1 rfl) ?_
   refine rwp_det rfl rfl (det_load_one rfl one27 rfl (ptr_row 0 rfl) rfl) ?_
   refine rwp_det rfl rfl (det_move rfl rfl) ?_
   refine rwp_det rfl rfl (det_index_sl rfl el27 rfl rfl (by omega) (getm (by assumption))) ?_
   refine rwp_det rfl rfl (det_field_imm rfl fd75_1 rfl) ?_
   refine rwp_det rfl rfl (det_load_one rfl one2 rfl ptr_imm rfl) ?_
   refine rwp_det rfl rfl (det_move rfl rfl) ?_
   refine rwp_det rfl rfl (det_call rfl ok208 (ref14_both 0 x.By by_ z0 (hr.2 x (mem_of_get hx)) hb) ⟨VLe.refl _, rfl, VLe.refl _, rfl, VLe.refl _, rfl, trivial⟩) ?_
   refine rwp_det rfl rfl (det_move_tup rfl rfl) ?_
   refine rwp_det rfl rfl (det_ex_c rfl rfl rfl) ?_
   refine rwp_det rfl rfl (det_ex_c rfl rfl rfl) ?_
   refine rwp_det rfl rfl (det_assign rfl rfl) ?_
   refine rwp_det rfl rfl (det_assign rfl rfl) ?_
   refine rwp_nil ?_
   refine awp_seq ?_
   refine awp_region rfl ?_
   refine rwp_det rfl rfl (det_move rfl rfl) ?_
   refine rwp_det rfl rfl (det_not rfl rfl) ?_
   refine rwp_nil ?_
   refine awp_cond rfl (fun c3 => ?_) (fun c3 => ?_)
   ·try simp only [sx, List.length_map] at c3
    rw [Int.zero_add] at c3
    refine awp_seq ?_
    refine awp_region rfl ?_
    refine rwp_det rfl rfl (det_assign rfl rfl) ?_
    refine rwp_nil ?_
    refine awp_ret ?_
    repeat (first | refine thenQ_ret ?_ | refine blockQ_ret ?_)
    refine fin1 (rs_c rfl) ?_
    rw [scaleOk_no hx c3, Bool.and_false]
   ·try simp only [sx, List.length_map] at c3
    rw [Int.zero_add] at c3
    refine awp_skip ?_
    refine awp_region rfl ?_
    refine rwp_det rfl rfl (det_move rfl rfl) ?_
    refine rwp_det rfl rfl (det_add_nw rfl rfl rfl ⟨by omega, by omega⟩) ?_
    refine rwp_det rfl rfl (det_assign rfl rfl) ?_
    refine rwp_nil ?_
    refine ⟨k + 1, ⟨by omega, scaleOk_next hx hp c3⟩, (by omega), Weak.mk [true] ⟨VLe.refl _, VLe.refl _, VLe.refl _, trivial⟩ rfl⟩
  ·try simp only [sx, List.length_map] at c2
   refine awp_exit ?_
   refine awp_seq ?_
   refine awp_region rfl ?_
   refine rwp_det rfl rfl (det_assign rfl rfl) ?_
   refine rwp_nil ?_
   refine awp_ret ?_
   repeat (first | refine thenQ_ret ?_ | refine blockQ_ret ?_)
   refine fin1 (rs_c rfl) ?_
   rw [take_all (by omega)] at hp
   rw [hp, decide_eq_true c1]; rfl

theorem expr_Substitute_1 (l : Lf) (s : ByteArray) (u : Lf) (hl : l.L.length ≤ 4294967296) (ht : u.L.length ≤ 4294967296) (hrl : l.rng) (hrt : u.rng) :
    Pur cfg 82 [vLin l, .c (.iptr [cS s]), .c (.iptr u.cells)] (.tup [vLin (substP l s u).1, vI (substP l s u).2]) := by
 refine con_intro Tryz.func82 rfl Tryz.ntmps82 Tryz.results82 rfl ?_
 intro z hz
 refine awp_seq ?_
 refine awp_region rfl ?_
 refine rwp_op rfl rfl (ope_box rfl rfl) ?_
 rintro _ _ ⟨b1, rfl, rfl⟩
 refine rwp_op rfl rfl (ope_allocN [none, some 2] rfl zr29 rfl) ?_
 rintro _ _ ⟨b2, rfl, rfl⟩
 refine rwp_det rfl rfl (det_assign rfl rfl) ?_
 refine rwp_nil ?_
 refine awp_seq ?_
 refine awp_region rfl ?_
 refine rwp_det rfl rfl (det_load_agg rfl agg29 rfl (ptr_row 1 rfl) rfl) ?_
 refine rwp_det rfl rfl (det_load_one rfl one9 rfl ptr_imm rfl) ?_
 refine rwp_det rfl rfl (det_load_agg rfl agg29 rfl ptr_imm rfl) ?_
 refine rwp_det rfl rfl (det_call rfl ok83 (lin_Substitute l s u hl ht hrl hrt) ⟨VLe.refl _, rfl, VLe.refl _, rfl, VLe.refl _, rfl, trivial⟩) ?_
 refine rwp_det rfl rfl (det_ex_agg rfl rfl rfl) ?_
 refine rwp_det rfl rfl (det_ex_c rfl rfl rfl) ?_
 refine rwp_det0 rfl rfl (det_store rfl sz29 rfl rfl rfl (st_row 0 rfl rfl)) ?_
 refine rwp_det rfl rfl (det_assign rfl rfl) ?_
 refine rwp_nil ?_
 refine awp_ret ?_
 repeat (first | refine thenQ_ret ?_ | refine blockQ_ret ?_)
 refine fin2 (rs_cell_agg agg29 rfl (ptr_row 0 rfl) rfl) (rs_c rfl) ?_
 exact rfl

theorem expr_Substitute (e : Ex) (s : ByteArray) (u : Lf) (he : e.wt ≤ 4294967296) (hP : e.allF Lf.rng) (ht : u.L.length ≤ 4294967296) (hrt : u.rng) :
    Pur cfg 24 [vE e, vS s, vLin u] (.tup [vE (outE (mEx (fun l => substP l s u) e)), vI (errE (mEx (fun l => substP l s u) e))]) := by
 refine con_intro Tryz.func24 rfl Tryz.ntmps24 Tryz.results24 rfl ?_
 intro z hz
 refine awp_seq ?_
 refine awp_region rfl ?_
 refine rwp_op rfl rfl (ope_box rfl rfl) ?_
 rintro _ _ ⟨b1, rfl, rfl⟩
 refine rwp_op rfl rfl (ope_box rfl rfl) ?_
 rintro _ _ ⟨b2, rfl, rfl⟩
 refine rwp_op rfl rfl (ope_box rfl rfl) ?_
 rintro _ _ ⟨b3, rfl, rfl⟩
 refine rwp_op rfl rfl (ope_allocN [none, none, none, none, none, none, none, none, none, none, some 2, some 4, some 13] rfl zr33 rfl) ?_
 rintro _ _ ⟨b4, rfl, rfl⟩
 refine rwp_det rfl rfl (det_assign rfl rfl) ?_
 refine rwp_nil ?_
 refine awp_seq ?_
 refine awp_region rfl ?_
 refine rwp_det rfl rfl (det_load_agg rfl agg33 rfl (ptr_row 3 rfl) rfl) ?_
 refine rwp_det rfl rfl (det_func rfl rfl rfl rfl rfl) ?_
 refine rwp_weak _ (weak_freeze_row 2 rfl 9 (.c (.fn _ _ [_, _])) (PLe.fn ⟨.inr ⟨rfl, rfl⟩, .inl rfl, trivial⟩)) ?_
 refine rwp_weak _ (weak_freeze_row 1 rfl 9 (.c (.fn _ _ [_, _])) (PLe.fn ⟨.inl rfl, .inr ⟨rfl, rfl⟩, trivial⟩)) ?_
 refine rwp_det rfl rfl (det_call rfl ok81 (mapForms_con (fun l => substP l s u) _ Lf.rng (fun l hr hl => FnPur.of_pur (first := []) (cap := [.iptr [cS s], .iptr u.cells]) ok82 (expr_Substitute_1 l s u hl ht hr hrt)) e hP he) ⟨VLe.refl _, rfl, VLe.refl _, rfl, trivial⟩) ?_
 refine rwp_det rfl rfl (det_ex_agg rfl rfl rfl) ?_
 refine rwp_det rfl rfl (det_ex_c rfl rfl rfl) ?_
 refine rwp_det0 rfl rfl (det_store rfl sz33 rfl rfl rfl (st_row 0 rfl rfl)) ?_
 refine rwp_det rfl rfl (det_assign rfl rfl) ?_
 refine rwp_nil ?_
 refine awp_ret ?_
 repeat (first | refine thenQ_ret ?_ | refine blockQ_ret ?_)
 refine fin2 (rs_cell_agg agg33 rfl (ptr_row 0 rfl) rfl) (rs_c rfl) ?_
 exact rfl

end Go.W
