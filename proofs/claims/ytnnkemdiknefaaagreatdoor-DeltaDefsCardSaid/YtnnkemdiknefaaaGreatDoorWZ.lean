/-
  Walks: what functions of the program compute. Printed by wip/gen/mk2.py.
  Conditions: none.
-/
import Derived.Test.YtnnkemdiknefaaaGreatDoorWY
set_option linter.unusedSimpArgs false
set_option linter.unusedVariables false
namespace Go.W
open Go Go.Eng Go.Proofs Go.L41 Go.Br
attribute [local irreducible] AWP RWP TD
theorem ok82 : callOk Tryz.prog 82 = true := by kernel_rfl
theorem ok83 : callOk Tryz.prog 83 = true := by kernel_rfl
theorem ok208 : callOk Tryz.prog 208 = true := by kernel_rfl
theorem ok241 : callOk Tryz.prog 241 = true := by kernel_rfl
theorem ref14_wide (x y : Int) (hx : r64 x) (hy : r64 y) :
    Pur cfg 241 [vI x, vI y] (.tup [vI ((x * y) / 18446744073709551616), vUn ((x * y) % 18446744073709551616).toNat]) := by
 refine zZ Tryz.func241 rfl Tryz.ntmps241 Tryz.results241 rfl ?_
 intro z hz
 have hA := magn_le hx
 have hB := magn_le hy
 obtain ⟨p1, p2, p3, p4⟩ := part_le (a := x.natAbs) (b := y.natAbs) (by omega) (by omega)
 obtain ⟨w1, w2⟩ := wide_lt hx hy
 have hmid : midN x.natAbs y.natAbs < 18446744073709551616 := by unfold midN; omega
 refine zE ?_
 refine zB rfl ?_
 refine zA rfl rfl (zC rfl rfl) ?_
 refine zA rfl rfl (zC rfl rfl) ?_
 refine zH ?_
 refine zE ?_
 refine zB rfl ?_
 refine zA rfl rfl (zF rfl rfl) ?_
 refine zA rfl rfl (qS rfl rfl rfl) ?_
 refine zA rfl rfl (zF rfl rfl) ?_
 refine zA rfl rfl (qS rfl rfl rfl) ?_
 refine zA rfl rfl (det_bneq rfl un4 rfl rfl) ?_
 refine zA rfl rfl (zC rfl rfl) ?_
 refine zH ?_
 refine zE ?_
 refine zB rfl ?_
 refine zA rfl rfl (zF rfl rfl) ?_
 refine zA rfl rfl (yU rfl us2 ik222 rfl) ?_
 refine zA rfl rfl (zF rfl rfl) ?_
 refine zA rfl rfl (yU rfl us2 ik222 rfl) ?_
 refine zA rfl rfl (zC rfl rfl) ?_
 refine zA rfl rfl (zC rfl rfl) ?_
 refine zH ?_
 refine zE ?_
 refine zE ?_
 refine zB rfl ?_
 refine zA rfl rfl (zF rfl rfl) ?_
 refine zA rfl rfl (qS rfl rfl rfl) ?_
 refine zH ?_
 refine zR rfl (fun c1 => ?_) (fun c1 => ?_)
 ·try simp only [sx, List.length_map] at c1
  refine zB rfl ?_
  refine zA rfl rfl (zF rfl rfl) ?_
  refine zA rfl rfl (det_neg rfl rfl) ?_
  rw [magn_neg hx c1]
  refine zA rfl rfl (zC rfl rfl) ?_
  refine zH ?_
  refine zE ?_
  refine zE ?_
  refine zB rfl ?_
  refine zA rfl rfl (zF rfl rfl) ?_
  refine zA rfl rfl (qS rfl rfl rfl) ?_
  refine zH ?_
  refine zR rfl (fun c2 => ?_) (fun c2 => ?_)
  ·try simp only [sx, List.length_map] at c2
   refine zB rfl ?_
   refine zA rfl rfl (zF rfl rfl) ?_
   refine zA rfl rfl (det_neg rfl rfl) ?_
   rw [magn_neg hy c2]
   refine zA rfl rfl (zC rfl rfl) ?_
   refine zH ?_
   refine zE ?_
   refine zB rfl ?_
   refine zA rfl rfl (zF rfl rfl) ?_
   refine zA rfl rfl (yR rfl rfl rfl ) ?_
   refine zA rfl rfl (zF rfl rfl) ?_
   refine zA rfl rfl (kC rfl rfl rfl (by omega)) ?_
   refine zA rfl rfl (zF rfl rfl) ?_
   refine zA rfl rfl (yR rfl rfl rfl ) ?_
   refine zA rfl rfl (zF rfl rfl) ?_
   refine zA rfl rfl (kC rfl rfl rfl (by omega)) ?_
   refine zA rfl rfl (zC rfl rfl) ?_
   refine zA rfl rfl (zC rfl rfl) ?_
   refine zA rfl rfl (zC rfl rfl) ?_
   refine zA rfl rfl (zC rfl rfl) ?_
   refine zH ?_
   refine zE ?_
   refine zB rfl ?_
   refine zA rfl rfl (zF rfl rfl) ?_
   refine zA rfl rfl (zF rfl rfl) ?_
   refine zA rfl rfl (kP rfl rfl rfl (by omega)) ?_
   refine zA rfl rfl (zF rfl rfl) ?_
   refine zA rfl rfl (zF rfl rfl) ?_
   refine zA rfl rfl (kP rfl rfl rfl (by omega)) ?_
   refine zA rfl rfl (zF rfl rfl) ?_
   refine zA rfl rfl (zF rfl rfl) ?_
   refine zA rfl rfl (kP rfl rfl rfl (by omega)) ?_
   refine zA rfl rfl (zF rfl rfl) ?_
   refine zA rfl rfl (zF rfl rfl) ?_
   refine zA rfl rfl (kP rfl rfl rfl (by omega)) ?_
   refine zA rfl rfl (zC rfl rfl) ?_
   refine zA rfl rfl (zC rfl rfl) ?_
   refine zA rfl rfl (zC rfl rfl) ?_
   refine zA rfl rfl (zC rfl rfl) ?_
   refine zH ?_
   refine zE ?_
   refine zB rfl ?_
   refine zA rfl rfl (zF rfl rfl) ?_
   refine zA rfl rfl (yR rfl rfl rfl ) ?_
   refine zA rfl rfl (zF rfl rfl) ?_
   refine zA rfl rfl (kC rfl rfl rfl (by omega)) ?_
   refine zA rfl rfl (kF rfl rfl rfl (by omega)) ?_
   refine zA rfl rfl (zF rfl rfl) ?_
   refine zA rfl rfl (kC rfl rfl rfl (by omega)) ?_
   refine zA rfl rfl (kF rfl rfl rfl (by omega)) ?_
   refine zA rfl rfl (zC rfl rfl) ?_
   refine zH ?_
   refine zE ?_
   refine zB rfl ?_
   refine zA rfl rfl (zF rfl rfl) ?_
   refine zA rfl rfl (kC rfl rfl rfl (by omega)) ?_
   refine zA rfl rfl (zF rfl rfl) ?_
   refine zA rfl rfl (det_ushl rfl rfl rfl ) ?_
   refine zA rfl rfl (det_uor rfl rfl rfl ) ?_
   refine zA rfl rfl (zC rfl rfl) ?_
   refine zH ?_
   refine zE ?_
   refine zB rfl ?_
   refine zA rfl rfl (zF rfl rfl) ?_
   refine zA rfl rfl (zF rfl rfl) ?_
   refine zA rfl rfl (yR rfl rfl rfl ) ?_
   refine zA rfl rfl (kF rfl rfl rfl (by omega)) ?_
   refine zA rfl rfl (zF rfl rfl) ?_
   refine zA rfl rfl (yR rfl rfl rfl ) ?_
   refine zA rfl rfl (kF rfl rfl rfl (by omega)) ?_
   refine zA rfl rfl (zF rfl rfl) ?_
   refine zA rfl rfl (yR rfl rfl rfl ) ?_
   refine zA rfl rfl (kF rfl rfl rfl (by unfold wHi at w1; unfold midN at w1; omega)) ?_
   refine zA rfl rfl (zC rfl rfl) ?_
   refine zH ?_
   refine zE ?_
   refine zE ?_
   refine zB rfl ?_
   refine zA rfl rfl (zF rfl rfl) ?_
   refine zH ?_
   refine zR rfl (fun c3 => ?_) (fun c3 => ?_)
   ·try simp only [sx, List.length_map] at c3
    refine zE ?_
    refine zB rfl ?_
    refine zA rfl rfl (zF rfl rfl) ?_
    refine zA rfl rfl (det_uneg rfl rfl w2) ?_
    refine zA rfl rfl (zC rfl rfl) ?_
    refine zH ?_
    refine zE ?_
    refine zB rfl ?_
    refine zA rfl rfl (zF rfl rfl) ?_
    refine zA rfl rfl (det_unot rfl rfl w1) ?_
    refine zA rfl rfl (zC rfl rfl) ?_
    refine zH ?_
    refine zE ?_
    refine zB rfl ?_
    refine zA rfl rfl (zF rfl rfl) ?_
    refine zA rfl rfl (qJ rfl rfl rfl) ?_
    refine zH ?_
    refine zR rfl (fun c4 => ?_) (fun c4 => ?_)
    ·try simp only [sx, List.length_map] at c4
     refine zB rfl ?_
     refine zA rfl rfl (zF rfl rfl) ?_
     refine zA rfl rfl (det_uaddm rfl rfl rfl ) ?_
     refine zA rfl rfl (zC rfl rfl) ?_
     refine zH ?_
     refine zE ?_
     refine zB rfl ?_
     refine zA rfl rfl (zF rfl rfl) ?_
     refine zA rfl rfl (yU rfl us222 ik2 rfl) ?_
     refine zA rfl rfl (zF rfl rfl) ?_
     refine zA rfl rfl (zC rfl rfl) ?_
     refine zA rfl rfl (zC rfl rfl) ?_
     refine zH ?_
     refine zS ?_
     repeat (first | refine zO ?_ | refine zM ?_)
     refine fin2 (rs_c rfl) (rs_c rfl) ?_
     obtain ⟨e1, e2⟩ := wide_neg0 hx hy c3 (by exact Int.ofNat_eq_zero.1 c4)
     rw [← e2, ← e1]; rfl
    ·try simp only [sx, List.length_map] at c4
     refine zT ?_
     refine zE ?_
     refine zB rfl ?_
     refine zA rfl rfl (zF rfl rfl) ?_
     refine zA rfl rfl (yU rfl us222 ik2 rfl) ?_
     refine zA rfl rfl (zF rfl rfl) ?_
     refine zA rfl rfl (zC rfl rfl) ?_
     refine zA rfl rfl (zC rfl rfl) ?_
     refine zH ?_
     refine zS ?_
     repeat (first | refine zO ?_ | refine zM ?_)
     refine fin2 (rs_c rfl) (rs_c rfl) ?_
     obtain ⟨e1, e2⟩ := wide_neg1 hx hy c3 (fun h => c4 (by exact Int.ofNat_eq_zero.2 h))
     rw [← e2, ← e1]; rfl
   ·try simp only [sx, List.length_map] at c3
    refine zT ?_
    refine zE ?_
    refine zB rfl ?_
    refine zA rfl rfl (zF rfl rfl) ?_
    refine zA rfl rfl (yU rfl us222 ik2 rfl) ?_
    refine zA rfl rfl (zF rfl rfl) ?_
    refine zA rfl rfl (zC rfl rfl) ?_
    refine zA rfl rfl (zC rfl rfl) ?_
    refine zH ?_
    refine zS ?_
    repeat (first | refine zO ?_ | refine zM ?_)
    refine fin2 (rs_c rfl) (rs_c rfl) ?_
    obtain ⟨e1, e2⟩ := wide_pos hx hy c3
    rw [← e2, ← e1]; rfl
  ·try simp only [sx, List.length_map] at c2
   rw [magn_pos hy (by omega)]
   refine zT ?_
   refine zE ?_
   refine zB rfl ?_
   refine zA rfl rfl (zF rfl rfl) ?_
   refine zA rfl rfl (yR rfl rfl rfl ) ?_
   refine zA rfl rfl (zF rfl rfl) ?_
   refine zA rfl rfl (kC rfl rfl rfl (by omega)) ?_
   refine zA rfl rfl (zF rfl rfl) ?_
   refine zA rfl rfl (yR rfl rfl rfl ) ?_
   refine zA rfl rfl (zF rfl rfl) ?_
   refine zA rfl rfl (kC rfl rfl rfl (by omega)) ?_
   refine zA rfl rfl (zC rfl rfl) ?_
   refine zA rfl rfl (zC rfl rfl) ?_
   refine zA rfl rfl (zC rfl rfl) ?_
   refine zA rfl rfl (zC rfl rfl) ?_
   refine zH ?_
   refine zE ?_
   refine zB rfl ?_
   refine zA rfl rfl (zF rfl rfl) ?_
   refine zA rfl rfl (zF rfl rfl) ?_
   refine zA rfl rfl (kP rfl rfl rfl (by omega)) ?_
   refine zA rfl rfl (zF rfl rfl) ?_
   refine zA rfl rfl (zF rfl rfl) ?_
   refine zA rfl rfl (kP rfl rfl rfl (by omega)) ?_
   refine zA rfl rfl (zF rfl rfl) ?_
   refine zA rfl rfl (zF rfl rfl) ?_
   refine zA rfl rfl (kP rfl rfl rfl (by omega)) ?_
   refine zA rfl rfl (zF rfl rfl) ?_
   refine zA rfl rfl (zF rfl rfl) ?_
   refine zA rfl rfl (kP rfl rfl rfl (by omega)) ?_
   refine zA rfl rfl (zC rfl rfl) ?_
   refine zA rfl rfl (zC rfl rfl) ?_
   refine zA rfl rfl (zC rfl rfl) ?_
   refine zA rfl rfl (zC rfl rfl) ?_
   refine zH ?_
   refine zE ?_
   refine zB rfl ?_
   refine zA rfl rfl (zF rfl rfl) ?_
   refine zA rfl rfl (yR rfl rfl rfl ) ?_
   refine zA rfl rfl (zF rfl rfl) ?_
   refine zA rfl rfl (kC rfl rfl rfl (by omega)) ?_
   refine zA rfl rfl (kF rfl rfl rfl (by omega)) ?_
   refine zA rfl rfl (zF rfl rfl) ?_
   refine zA rfl rfl (kC rfl rfl rfl (by omega)) ?_
   refine zA rfl rfl (kF rfl rfl rfl (by omega)) ?_
   refine zA rfl rfl (zC rfl rfl) ?_
   refine zH ?_
   refine zE ?_
   refine zB rfl ?_
   refine zA rfl rfl (zF rfl rfl) ?_
   refine zA rfl rfl (kC rfl rfl rfl (by omega)) ?_
   refine zA rfl rfl (zF rfl rfl) ?_
   refine zA rfl rfl (det_ushl rfl rfl rfl ) ?_
   refine zA rfl rfl (det_uor rfl rfl rfl ) ?_
   refine zA rfl rfl (zC rfl rfl) ?_
   refine zH ?_
   refine zE ?_
   refine zB rfl ?_
   refine zA rfl rfl (zF rfl rfl) ?_
   refine zA rfl rfl (zF rfl rfl) ?_
   refine zA rfl rfl (yR rfl rfl rfl ) ?_
   refine zA rfl rfl (kF rfl rfl rfl (by omega)) ?_
   refine zA rfl rfl (zF rfl rfl) ?_
   refine zA rfl rfl (yR rfl rfl rfl ) ?_
   refine zA rfl rfl (kF rfl rfl rfl (by omega)) ?_
   refine zA rfl rfl (zF rfl rfl) ?_
   refine zA rfl rfl (yR rfl rfl rfl ) ?_
   refine zA rfl rfl (kF rfl rfl rfl (by unfold wHi at w1; unfold midN at w1; omega)) ?_
   refine zA rfl rfl (zC rfl rfl) ?_
   refine zH ?_
   refine zE ?_
   refine zE ?_
   refine zB rfl ?_
   refine zA rfl rfl (zF rfl rfl) ?_
   refine zH ?_
   refine zR rfl (fun c3 => ?_) (fun c3 => ?_)
   ·try simp only [sx, List.length_map] at c3
    refine zE ?_
    refine zB rfl ?_
    refine zA rfl rfl (zF rfl rfl) ?_
    refine zA rfl rfl (det_uneg rfl rfl w2) ?_
    refine zA rfl rfl (zC rfl rfl) ?_
    refine zH ?_
    refine zE ?_
    refine zB rfl ?_
    refine zA rfl rfl (zF rfl rfl) ?_
    refine zA rfl rfl (det_unot rfl rfl w1) ?_
    refine zA rfl rfl (zC rfl rfl) ?_
    refine zH ?_
    refine zE ?_
    refine zB rfl ?_
    refine zA rfl rfl (zF rfl rfl) ?_
    refine zA rfl rfl (qJ rfl rfl rfl) ?_
    refine zH ?_
    refine zR rfl (fun c4 => ?_) (fun c4 => ?_)
    ·try simp only [sx, List.length_map] at c4
     refine zB rfl ?_
     refine zA rfl rfl (zF rfl rfl) ?_
     refine zA rfl rfl (det_uaddm rfl rfl rfl ) ?_
     refine zA rfl rfl (zC rfl rfl) ?_
     refine zH ?_
     refine zE ?_
     refine zB rfl ?_
     refine zA rfl rfl (zF rfl rfl) ?_
     refine zA rfl rfl (yU rfl us222 ik2 rfl) ?_
     refine zA rfl rfl (zF rfl rfl) ?_
     refine zA rfl rfl (zC rfl rfl) ?_
     refine zA rfl rfl (zC rfl rfl) ?_
     refine zH ?_
     refine zS ?_
     repeat (first | refine zO ?_ | refine zM ?_)
     refine fin2 (rs_c rfl) (rs_c rfl) ?_
     obtain ⟨e1, e2⟩ := wide_neg0 hx hy c3 (by exact Int.ofNat_eq_zero.1 c4)
     rw [← e2, ← e1]; rfl
    ·try simp only [sx, List.length_map] at c4
     refine zT ?_
     refine zE ?_
     refine zB rfl ?_
     refine zA rfl rfl (zF rfl rfl) ?_
     refine zA rfl rfl (yU rfl us222 ik2 rfl) ?_
     refine zA rfl rfl (zF rfl rfl) ?_
     refine zA rfl rfl (zC rfl rfl) ?_
     refine zA rfl rfl (zC rfl rfl) ?_
     refine zH ?_
     refine zS ?_
     repeat (first | refine zO ?_ | refine zM ?_)
     refine fin2 (rs_c rfl) (rs_c rfl) ?_
     obtain ⟨e1, e2⟩ := wide_neg1 hx hy c3 (fun h => c4 (by exact Int.ofNat_eq_zero.2 h))
     rw [← e2, ← e1]; rfl
   ·try simp only [sx, List.length_map] at c3
    refine zT ?_
    refine zE ?_
    refine zB rfl ?_
    refine zA rfl rfl (zF rfl rfl) ?_
    refine zA rfl rfl (yU rfl us222 ik2 rfl) ?_
    refine zA rfl rfl (zF rfl rfl) ?_
    refine zA rfl rfl (zC rfl rfl) ?_
    refine zA rfl rfl (zC rfl rfl) ?_
    refine zH ?_
    refine zS ?_
    repeat (first | refine zO ?_ | refine zM ?_)
    refine fin2 (rs_c rfl) (rs_c rfl) ?_
    obtain ⟨e1, e2⟩ := wide_pos hx hy c3
    rw [← e2, ← e1]; rfl
 ·try simp only [sx, List.length_map] at c1
  rw [magn_pos hx (by omega)]
  refine zT ?_
  refine zE ?_
  refine zE ?_
  refine zB rfl ?_
  refine zA rfl rfl (zF rfl rfl) ?_
  refine zA rfl rfl (qS rfl rfl rfl) ?_
  refine zH ?_
  refine zR rfl (fun c2 => ?_) (fun c2 => ?_)
  ·try simp only [sx, List.length_map] at c2
   refine zB rfl ?_
   refine zA rfl rfl (zF rfl rfl) ?_
   refine zA rfl rfl (det_neg rfl rfl) ?_
   rw [magn_neg hy c2]
   refine zA rfl rfl (zC rfl rfl) ?_
   refine zH ?_
   refine zE ?_
   refine zB rfl ?_
   refine zA rfl rfl (zF rfl rfl) ?_
   refine zA rfl rfl (yR rfl rfl rfl ) ?_
   refine zA rfl rfl (zF rfl rfl) ?_
   refine zA rfl rfl (kC rfl rfl rfl (by omega)) ?_
   refine zA rfl rfl (zF rfl rfl) ?_
   refine zA rfl rfl (yR rfl rfl rfl ) ?_
   refine zA rfl rfl (zF rfl rfl) ?_
   refine zA rfl rfl (kC rfl rfl rfl (by omega)) ?_
   refine zA rfl rfl (zC rfl rfl) ?_
   refine zA rfl rfl (zC rfl rfl) ?_
   refine zA rfl rfl (zC rfl rfl) ?_
   refine zA rfl rfl (zC rfl rfl) ?_
   refine zH ?_
   refine zE ?_
   refine zB rfl ?_
   refine zA rfl rfl (zF rfl rfl) ?_
   refine zA rfl rfl (zF rfl rfl) ?_
   refine zA rfl rfl (kP rfl rfl rfl (by omega)) ?_
   refine zA rfl rfl (zF rfl rfl) ?_
   refine zA rfl rfl (zF rfl rfl) ?_
   refine zA rfl rfl (kP rfl rfl rfl (by omega)) ?_
   refine zA rfl rfl (zF rfl rfl) ?_
   refine zA rfl rfl (zF rfl rfl) ?_
   refine zA rfl rfl (kP rfl rfl rfl (by omega)) ?_
   refine zA rfl rfl (zF rfl rfl) ?_
   refine zA rfl rfl (zF rfl rfl) ?_
   refine zA rfl rfl (kP rfl rfl rfl (by omega)) ?_
   refine zA rfl rfl (zC rfl rfl) ?_
   refine zA rfl rfl (zC rfl rfl) ?_
   refine zA rfl rfl (zC rfl rfl) ?_
   refine zA rfl rfl (zC rfl rfl) ?_
   refine zH ?_
   refine zE ?_
   refine zB rfl ?_
   refine zA rfl rfl (zF rfl rfl) ?_
   refine zA rfl rfl (yR rfl rfl rfl ) ?_
   refine zA rfl rfl (zF rfl rfl) ?_
   refine zA rfl rfl (kC rfl rfl rfl (by omega)) ?_
   refine zA rfl rfl (kF rfl rfl rfl (by omega)) ?_
   refine zA rfl rfl (zF rfl rfl) ?_
   refine zA rfl rfl (kC rfl rfl rfl (by omega)) ?_
   refine zA rfl rfl (kF rfl rfl rfl (by omega)) ?_
   refine zA rfl rfl (zC rfl rfl) ?_
   refine zH ?_
   refine zE ?_
   refine zB rfl ?_
   refine zA rfl rfl (zF rfl rfl) ?_
   refine zA rfl rfl (kC rfl rfl rfl (by omega)) ?_
   refine zA rfl rfl (zF rfl rfl) ?_
   refine zA rfl rfl (det_ushl rfl rfl rfl ) ?_
   refine zA rfl rfl (det_uor rfl rfl rfl ) ?_
   refine zA rfl rfl (zC rfl rfl) ?_
   refine zH ?_
   refine zE ?_
   refine zB rfl ?_
   refine zA rfl rfl (zF rfl rfl) ?_
   refine zA rfl rfl (zF rfl rfl) ?_
   refine zA rfl rfl (yR rfl rfl rfl ) ?_
   refine zA rfl rfl (kF rfl rfl rfl (by omega)) ?_
   refine zA rfl rfl (zF rfl rfl) ?_
   refine zA rfl rfl (yR rfl rfl rfl ) ?_
   refine zA rfl rfl (kF rfl rfl rfl (by omega)) ?_
   refine zA rfl rfl (zF rfl rfl) ?_
   refine zA rfl rfl (yR rfl rfl rfl ) ?_
   refine zA rfl rfl (kF rfl rfl rfl (by unfold wHi at w1; unfold midN at w1; omega)) ?_
   refine zA rfl rfl (zC rfl rfl) ?_
   refine zH ?_
   refine zE ?_
   refine zE ?_
   refine zB rfl ?_
   refine zA rfl rfl (zF rfl rfl) ?_
   refine zH ?_
   refine zR rfl (fun c3 => ?_) (fun c3 => ?_)
   ·try simp only [sx, List.length_map] at c3
    refine zE ?_
    refine zB rfl ?_
    refine zA rfl rfl (zF rfl rfl) ?_
    refine zA rfl rfl (det_uneg rfl rfl w2) ?_
    refine zA rfl rfl (zC rfl rfl) ?_
    refine zH ?_
    refine zE ?_
    refine zB rfl ?_
    refine zA rfl rfl (zF rfl rfl) ?_
    refine zA rfl rfl (det_unot rfl rfl w1) ?_
    refine zA rfl rfl (zC rfl rfl) ?_
    refine zH ?_
    refine zE ?_
    refine zB rfl ?_
    refine zA rfl rfl (zF rfl rfl) ?_
    refine zA rfl rfl (qJ rfl rfl rfl) ?_
    refine zH ?_
    refine zR rfl (fun c4 => ?_) (fun c4 => ?_)
    ·try simp only [sx, List.length_map] at c4
     refine zB rfl ?_
     refine zA rfl rfl (zF rfl rfl) ?_
     refine zA rfl rfl (det_uaddm rfl rfl rfl ) ?_
     refine zA rfl rfl (zC rfl rfl) ?_
     refine zH ?_
     refine zE ?_
     refine zB rfl ?_
     refine zA rfl rfl (zF rfl rfl) ?_
     refine zA rfl rfl (yU rfl us222 ik2 rfl) ?_
     refine zA rfl rfl (zF rfl rfl) ?_
     refine zA rfl rfl (zC rfl rfl) ?_
     refine zA rfl rfl (zC rfl rfl) ?_
     refine zH ?_
     refine zS ?_
     repeat (first | refine zO ?_ | refine zM ?_)
     refine fin2 (rs_c rfl) (rs_c rfl) ?_
     obtain ⟨e1, e2⟩ := wide_neg0 hx hy c3 (by exact Int.ofNat_eq_zero.1 c4)
     rw [← e2, ← e1]; rfl
    ·try simp only [sx, List.length_map] at c4
     refine zT ?_
     refine zE ?_
     refine zB rfl ?_
     refine zA rfl rfl (zF rfl rfl) ?_
     refine zA rfl rfl (yU rfl us222 ik2 rfl) ?_
     refine zA rfl rfl (zF rfl rfl) ?_
     refine zA rfl rfl (zC rfl rfl) ?_
     refine zA rfl rfl (zC rfl rfl) ?_
     refine zH ?_
     refine zS ?_
     repeat (first | refine zO ?_ | refine zM ?_)
     refine fin2 (rs_c rfl) (rs_c rfl) ?_
     obtain ⟨e1, e2⟩ := wide_neg1 hx hy c3 (fun h => c4 (by exact Int.ofNat_eq_zero.2 h))
     rw [← e2, ← e1]; rfl
   ·try simp only [sx, List.length_map] at c3
    refine zT ?_
    refine zE ?_
    refine zB rfl ?_
    refine zA rfl rfl (zF rfl rfl) ?_
    refine zA rfl rfl (yU rfl us222 ik2 rfl) ?_
    refine zA rfl rfl (zF rfl rfl) ?_
    refine zA rfl rfl (zC rfl rfl) ?_
    refine zA rfl rfl (zC rfl rfl) ?_
    refine zH ?_
    refine zS ?_
    repeat (first | refine zO ?_ | refine zM ?_)
    refine fin2 (rs_c rfl) (rs_c rfl) ?_
    obtain ⟨e1, e2⟩ := wide_pos hx hy c3
    rw [← e2, ← e1]; rfl
  ·try simp only [sx, List.length_map] at c2
   rw [magn_pos hy (by omega)]
   refine zT ?_
   refine zE ?_
   refine zB rfl ?_
   refine zA rfl rfl (zF rfl rfl) ?_
   refine zA rfl rfl (yR rfl rfl rfl ) ?_
   refine zA rfl rfl (zF rfl rfl) ?_
   refine zA rfl rfl (kC rfl rfl rfl (by omega)) ?_
   refine zA rfl rfl (zF rfl rfl) ?_
   refine zA rfl rfl (yR rfl rfl rfl ) ?_
   refine zA rfl rfl (zF rfl rfl) ?_
   refine zA rfl rfl (kC rfl rfl rfl (by omega)) ?_
   refine zA rfl rfl (zC rfl rfl) ?_
   refine zA rfl rfl (zC rfl rfl) ?_
   refine zA rfl rfl (zC rfl rfl) ?_
   refine zA rfl rfl (zC rfl rfl) ?_
   refine zH ?_
   refine zE ?_
   refine zB rfl ?_
   refine zA rfl rfl (zF rfl rfl) ?_
   refine zA rfl rfl (zF rfl rfl) ?_
   refine zA rfl rfl (kP rfl rfl rfl (by omega)) ?_
   refine zA rfl rfl (zF rfl rfl) ?_
   refine zA rfl rfl (zF rfl rfl) ?_
   refine zA rfl rfl (kP rfl rfl rfl (by omega)) ?_
   refine zA rfl rfl (zF rfl rfl) ?_
   refine zA rfl rfl (zF rfl rfl) ?_
   refine zA rfl rfl (kP rfl rfl rfl (by omega)) ?_
   refine zA rfl rfl (zF rfl rfl) ?_
   refine zA rfl rfl (zF rfl rfl) ?_
   refine zA rfl rfl (kP rfl rfl rfl (by omega)) ?_
   refine zA rfl rfl (zC rfl rfl) ?_
   refine zA rfl rfl (zC rfl rfl) ?_
   refine zA rfl rfl (zC rfl rfl) ?_
   refine zA rfl rfl (zC rfl rfl) ?_
   refine zH ?_
   refine zE ?_
   refine zB rfl ?_
   refine zA rfl rfl (zF rfl rfl) ?_
   refine zA rfl rfl (yR rfl rfl rfl ) ?_
   refine zA rfl rfl (zF rfl rfl) ?_
   refine zA rfl rfl (kC rfl rfl rfl (by omega)) ?_
   refine zA rfl rfl (kF rfl rfl rfl (by omega)) ?_
   refine zA rfl rfl (zF rfl rfl) ?_
   refine zA rfl rfl (kC rfl rfl rfl (by omega)) ?_
   refine zA rfl rfl (kF rfl rfl rfl (by omega)) ?_
   refine zA rfl rfl (zC rfl rfl) ?_
   refine zH ?_
   refine zE ?_
   refine zB rfl ?_
   refine zA rfl rfl (zF rfl rfl) ?_
   refine zA rfl rfl (kC rfl rfl rfl (by omega)) ?_
   refine zA rfl rfl (zF rfl rfl) ?_
   refine zA rfl rfl (det_ushl rfl rfl rfl ) ?_
   refine zA rfl rfl (det_uor rfl rfl rfl ) ?_
   refine zA rfl rfl (zC rfl rfl) ?_
   refine zH ?_
   refine zE ?_
   refine zB rfl ?_
   refine zA rfl rfl (zF rfl rfl) ?_
   refine zA rfl rfl (zF rfl rfl) ?_
   refine zA rfl rfl (yR rfl rfl rfl ) ?_
   refine zA rfl rfl (kF rfl rfl rfl (by omega)) ?_
   refine zA rfl rfl (zF rfl rfl) ?_
   refine zA rfl rfl (yR rfl rfl rfl ) ?_
   refine zA rfl rfl (kF rfl rfl rfl (by omega)) ?_
   refine zA rfl rfl (zF rfl rfl) ?_
   refine zA rfl rfl (yR rfl rfl rfl ) ?_
   refine zA rfl rfl (kF rfl rfl rfl (by unfold wHi at w1; unfold midN at w1; omega)) ?_
   refine zA rfl rfl (zC rfl rfl) ?_
   refine zH ?_
   refine zE ?_
   refine zE ?_
   refine zB rfl ?_
   refine zA rfl rfl (zF rfl rfl) ?_
   refine zH ?_
   refine zR rfl (fun c3 => ?_) (fun c3 => ?_)
   ·try simp only [sx, List.length_map] at c3
    refine zE ?_
    refine zB rfl ?_
    refine zA rfl rfl (zF rfl rfl) ?_
    refine zA rfl rfl (det_uneg rfl rfl w2) ?_
    refine zA rfl rfl (zC rfl rfl) ?_
    refine zH ?_
    refine zE ?_
    refine zB rfl ?_
    refine zA rfl rfl (zF rfl rfl) ?_
    refine zA rfl rfl (det_unot rfl rfl w1) ?_
    refine zA rfl rfl (zC rfl rfl) ?_
    refine zH ?_
    refine zE ?_
    refine zB rfl ?_
    refine zA rfl rfl (zF rfl rfl) ?_
    refine zA rfl rfl (qJ rfl rfl rfl) ?_
    refine zH ?_
    refine zR rfl (fun c4 => ?_) (fun c4 => ?_)
    ·try simp only [sx, List.length_map] at c4
     refine zB rfl ?_
     refine zA rfl rfl (zF rfl rfl) ?_
     refine zA rfl rfl (det_uaddm rfl rfl rfl ) ?_
     refine zA rfl rfl (zC rfl rfl) ?_
     refine zH ?_
     refine zE ?_
     refine zB rfl ?_
     refine zA rfl rfl (zF rfl rfl) ?_
     refine zA rfl rfl (yU rfl us222 ik2 rfl) ?_
     refine zA rfl rfl (zF rfl rfl) ?_
     refine zA rfl rfl (zC rfl rfl) ?_
     refine zA rfl rfl (zC rfl rfl) ?_
     refine zH ?_
     refine zS ?_
     repeat (first | refine zO ?_ | refine zM ?_)
     refine fin2 (rs_c rfl) (rs_c rfl) ?_
     obtain ⟨e1, e2⟩ := wide_neg0 hx hy c3 (by exact Int.ofNat_eq_zero.1 c4)
     rw [← e2, ← e1]; rfl
    ·try simp only [sx, List.length_map] at c4
     refine zT ?_
     refine zE ?_
     refine zB rfl ?_
     refine zA rfl rfl (zF rfl rfl) ?_
     refine zA rfl rfl (yU rfl us222 ik2 rfl) ?_
     refine zA rfl rfl (zF rfl rfl) ?_
     refine zA rfl rfl (zC rfl rfl) ?_
     refine zA rfl rfl (zC rfl rfl) ?_
     refine zH ?_
     refine zS ?_
     repeat (first | refine zO ?_ | refine zM ?_)
     refine fin2 (rs_c rfl) (rs_c rfl) ?_
     obtain ⟨e1, e2⟩ := wide_neg1 hx hy c3 (fun h => c4 (by exact Int.ofNat_eq_zero.2 h))
     rw [← e2, ← e1]; rfl
   ·try simp only [sx, List.length_map] at c3
    refine zT ?_
    refine zE ?_
    refine zB rfl ?_
    refine zA rfl rfl (zF rfl rfl) ?_
    refine zA rfl rfl (yU rfl us222 ik2 rfl) ?_
    refine zA rfl rfl (zF rfl rfl) ?_
    refine zA rfl rfl (zC rfl rfl) ?_
    refine zA rfl rfl (zC rfl rfl) ?_
    refine zH ?_
    refine zS ?_
    repeat (first | refine zO ?_ | refine zM ?_)
    refine fin2 (rs_c rfl) (rs_c rfl) ?_
    obtain ⟨e1, e2⟩ := wide_pos hx hy c3
    rw [← e2, ← e1]; rfl

theorem ref14_both (a b c : Int) (ha : r64 a) (hb : r64 b) (hc : r64 c) :
    Pur cfg 208 [vI a, vI b, vI c] (.tup [vI (w64 (a + b * c)), vB (decide (r64 (a + b * c)))]) := by
 refine zZ Tryz.func208 rfl Tryz.ntmps208 Tryz.results208 rfl ?_
 intro z hz
 obtain ⟨z1, z2⟩ := prod_bd hb hc
 refine zE ?_
 refine zB rfl ?_
 refine zA rfl rfl (zC rfl rfl) ?_
 refine zA rfl rfl (zC rfl rfl) ?_
 refine zH ?_
 refine zE ?_
 refine zB rfl ?_
 refine zA rfl rfl (zF rfl rfl) ?_
 refine zA rfl rfl (zF rfl rfl) ?_
 refine zA rfl rfl (zW rfl ok241 (ref14_wide b c hb hc) ⟨VLe.refl _, rfl, VLe.refl _, rfl, trivial⟩) ?_
 refine zA rfl rfl (qT rfl rfl) ?_
 refine zA rfl rfl (qX rfl rfl rfl) ?_
 refine zA rfl rfl (qX rfl rfl rfl) ?_
 refine zA rfl rfl (zC rfl rfl) ?_
 refine zA rfl rfl (zC rfl rfl) ?_
 refine zH ?_
 refine zE ?_
 refine zB rfl ?_
 refine zA rfl rfl (zF rfl rfl) ?_
 refine zA rfl rfl (zF rfl rfl) ?_
 refine zA rfl rfl (yU rfl us2 ik222 rfl) ?_
 refine zA rfl rfl (det_add rfl rfl rfl) ?_
 refine zA rfl rfl (zC rfl rfl) ?_
 refine zH ?_
 refine zE ?_
 refine zB rfl ?_
 refine zA rfl rfl (zC rfl rfl) ?_
 refine zH ?_
 refine zE ?_
 refine zE ?_
 refine zB rfl ?_
 refine zA rfl rfl (zF rfl rfl) ?_
 refine zA rfl rfl (zF rfl rfl) ?_
 refine zA rfl rfl (qS rfl rfl rfl) ?_
 refine zH ?_
 refine zR rfl (fun c1 => ?_) (fun c1 => ?_)
 ·try simp only [sx, List.length_map] at c1
  refine zB rfl ?_
  refine zA rfl rfl (zC rfl rfl) ?_
  refine zH ?_
  refine zE ?_
  refine zB rfl ?_
  refine zA rfl rfl (zF rfl rfl) ?_
  refine zA rfl rfl (zF rfl rfl) ?_
  refine zA rfl rfl (qL rfl rfl rfl ⟨by omega, by omega⟩) ?_
  refine zA rfl rfl (zC rfl rfl) ?_
  refine zH ?_
  refine zE ?_
  refine zE ?_
  refine zB rfl ?_
  refine zA rfl rfl (zF rfl rfl) ?_
  refine zA rfl rfl (qS rfl rfl rfl) ?_
  refine zH ?_
  refine zR rfl (fun c2 => ?_) (fun c2 => ?_)
  ·try simp only [sx, List.length_map] at c2
   refine zB rfl ?_
   refine zA rfl rfl (zF rfl rfl) ?_
   refine zA rfl rfl (kA rfl rfl rfl ⟨by omega, by omega⟩) ?_
   refine zA rfl rfl (zC rfl rfl) ?_
   refine zH ?_
   refine zE ?_
   refine zB rfl ?_
   refine zA rfl rfl (zF rfl rfl) ?_
   refine zA rfl rfl (yU rfl us222 ik2 rfl) ?_
   refine zA rfl rfl (zC rfl rfl) ?_
   refine zH ?_
   refine zE ?_
   refine zB rfl ?_
   refine zA rfl rfl (zF rfl rfl) ?_
   refine zA rfl rfl (zF rfl rfl) ?_
   refine zA rfl rfl (qJ rfl rfl rfl) ?_
   refine zA rfl rfl (zF rfl rfl) ?_
   refine zN [] rfl rfl rfl rfl gv1 trivial (fun g10_3 => zF rfl rfl) rfl ?_
   refine zN [(40, _)] rfl rfl rfl rfl gv1 ⟨rfl, rfl, trivial⟩ (fun g10_3 => kR rfl rfl rfl) rfl ?_
   refine zA rfl rfl (qM rfl rfl rfl (fun h => h) rfl) ?_
   refine zA rfl rfl (zF rfl rfl) ?_
   refine zN [] rfl rfl rfl rfl gv1 trivial (fun g10_7 => zF rfl rfl) rfl ?_
   refine zN [(44, _)] rfl rfl rfl rfl gv1 ⟨rfl, rfl, trivial⟩ (fun g10_7 => qJ rfl rfl rfl) rfl ?_
   refine zN [(45, _)] rfl rfl rfl rfl gv1 ⟨rfl, rfl, trivial⟩ (fun g10_7 => zF rfl rfl) rfl ?_
   refine zN [] rfl rfl rfl rfl gv2 trivial (fun g10_10 => zF rfl rfl) rfl ?_
   refine zN [(47, _)] rfl rfl rfl rfl gv2 ⟨rfl, rfl, trivial⟩ (fun g10_10 => qS rfl rfl rfl) rfl ?_
   refine zN [(46, _)] rfl rfl rfl rfl gv1 ⟨rfl, rfl, trivial⟩ (fun g10_7 => qM rfl rfl rfl (fun h => yQ (by assumption) h) rfl) rfl ?_
   refine zA rfl rfl (yD rfl rfl rfl rfl (fun h => (lzf h))) ?_
   refine zA rfl rfl (zC rfl rfl) ?_
   refine zA rfl rfl (zC rfl rfl) ?_
   refine zH ?_
   refine zS ?_
   repeat (first | refine zO ?_ | refine zM ?_)
   refine fin2 (rs_c rfl) (rs_c rfl) ?_
   obtain ⟨S, hS, s0, s1, s2, s3⟩ := both_sum (z := b * c) ha
   rw [← hS, s3] at c1
   rw [← hS]
   clear hS
   unfold r64 at ha
   exact both_fin s0 s1 (by generalize b * c = z at *; omega)
  ·try simp only [sx, List.length_map] at c2
   refine zT ?_
   refine zE ?_
   refine zB rfl ?_
   refine zA rfl rfl (zF rfl rfl) ?_
   refine zA rfl rfl (yU rfl us222 ik2 rfl) ?_
   refine zA rfl rfl (zC rfl rfl) ?_
   refine zH ?_
   refine zE ?_
   refine zB rfl ?_
   refine zA rfl rfl (zF rfl rfl) ?_
   refine zA rfl rfl (zF rfl rfl) ?_
   refine zA rfl rfl (qJ rfl rfl rfl) ?_
   refine zA rfl rfl (zF rfl rfl) ?_
   refine zN [] rfl rfl rfl rfl gv1 trivial (fun g10_3 => zF rfl rfl) rfl ?_
   refine zN [(40, _)] rfl rfl rfl rfl gv1 ⟨rfl, rfl, trivial⟩ (fun g10_3 => kR rfl rfl rfl) rfl ?_
   refine zA rfl rfl (qM rfl rfl rfl (fun h => h) rfl) ?_
   refine zA rfl rfl (zF rfl rfl) ?_
   refine zN [] rfl rfl rfl rfl gv1 trivial (fun g10_7 => zF rfl rfl) rfl ?_
   refine zN [(44, _)] rfl rfl rfl rfl gv1 ⟨rfl, rfl, trivial⟩ (fun g10_7 => qJ rfl rfl rfl) rfl ?_
   refine zN [(45, _)] rfl rfl rfl rfl gv1 ⟨rfl, rfl, trivial⟩ (fun g10_7 => zF rfl rfl) rfl ?_
   refine zN [] rfl rfl rfl rfl gv2 trivial (fun g10_10 => zF rfl rfl) rfl ?_
   refine zN [(47, _)] rfl rfl rfl rfl gv2 ⟨rfl, rfl, trivial⟩ (fun g10_10 => qS rfl rfl rfl) rfl ?_
   refine zN [(46, _)] rfl rfl rfl rfl gv1 ⟨rfl, rfl, trivial⟩ (fun g10_7 => qM rfl rfl rfl (fun h => yQ (by assumption) h) rfl) rfl ?_
   refine zA rfl rfl (yD rfl rfl rfl rfl (fun h => (lzf h))) ?_
   refine zA rfl rfl (zC rfl rfl) ?_
   refine zA rfl rfl (zC rfl rfl) ?_
   refine zH ?_
   refine zS ?_
   repeat (first | refine zO ?_ | refine zM ?_)
   refine fin2 (rs_c rfl) (rs_c rfl) ?_
   obtain ⟨S, hS, s0, s1, s2, s3⟩ := both_sum (z := b * c) ha
   rw [← hS, s3] at c1
   rw [← hS]
   clear hS
   unfold r64 at ha
   exact both_fin s0 s1 (by generalize b * c = z at *; omega)
 ·try simp only [sx, List.length_map] at c1
  refine zT ?_
  refine zE ?_
  refine zB rfl ?_
  refine zA rfl rfl (zF rfl rfl) ?_
  refine zA rfl rfl (zF rfl rfl) ?_
  refine zA rfl rfl (qL rfl rfl rfl ⟨by omega, by omega⟩) ?_
  refine zA rfl rfl (zC rfl rfl) ?_
  refine zH ?_
  refine zE ?_
  refine zE ?_
  refine zB rfl ?_
  refine zA rfl rfl (zF rfl rfl) ?_
  refine zA rfl rfl (qS rfl rfl rfl) ?_
  refine zH ?_
  refine zR rfl (fun c2 => ?_) (fun c2 => ?_)
  ·try simp only [sx, List.length_map] at c2
   refine zB rfl ?_
   refine zA rfl rfl (zF rfl rfl) ?_
   refine zA rfl rfl (kA rfl rfl rfl ⟨by omega, by omega⟩) ?_
   refine zA rfl rfl (zC rfl rfl) ?_
   refine zH ?_
   refine zE ?_
   refine zB rfl ?_
   refine zA rfl rfl (zF rfl rfl) ?_
   refine zA rfl rfl (yU rfl us222 ik2 rfl) ?_
   refine zA rfl rfl (zC rfl rfl) ?_
   refine zH ?_
   refine zE ?_
   refine zB rfl ?_
   refine zA rfl rfl (zF rfl rfl) ?_
   refine zA rfl rfl (zF rfl rfl) ?_
   refine zA rfl rfl (qJ rfl rfl rfl) ?_
   refine zA rfl rfl (zF rfl rfl) ?_
   refine zN [] rfl rfl rfl rfl gv1 trivial (fun g10_3 => zF rfl rfl) rfl ?_
   refine zN [(40, _)] rfl rfl rfl rfl gv1 ⟨rfl, rfl, trivial⟩ (fun g10_3 => kR rfl rfl rfl) rfl ?_
   refine zA rfl rfl (qM rfl rfl rfl (fun h => h) rfl) ?_
   refine zA rfl rfl (zF rfl rfl) ?_
   refine zN [] rfl rfl rfl rfl gv1 trivial (fun g10_7 => zF rfl rfl) rfl ?_
   refine zN [(44, _)] rfl rfl rfl rfl gv1 ⟨rfl, rfl, trivial⟩ (fun g10_7 => qJ rfl rfl rfl) rfl ?_
   refine zN [(45, _)] rfl rfl rfl rfl gv1 ⟨rfl, rfl, trivial⟩ (fun g10_7 => zF rfl rfl) rfl ?_
   refine zN [] rfl rfl rfl rfl gv2 trivial (fun g10_10 => zF rfl rfl) rfl ?_
   refine zN [(47, _)] rfl rfl rfl rfl gv2 ⟨rfl, rfl, trivial⟩ (fun g10_10 => qS rfl rfl rfl) rfl ?_
   refine zN [(46, _)] rfl rfl rfl rfl gv1 ⟨rfl, rfl, trivial⟩ (fun g10_7 => qM rfl rfl rfl (fun h => yQ (by assumption) h) rfl) rfl ?_
   refine zA rfl rfl (yD rfl rfl rfl rfl (fun h => (lzf h))) ?_
   refine zA rfl rfl (zC rfl rfl) ?_
   refine zA rfl rfl (zC rfl rfl) ?_
   refine zH ?_
   refine zS ?_
   repeat (first | refine zO ?_ | refine zM ?_)
   refine fin2 (rs_c rfl) (rs_c rfl) ?_
   obtain ⟨S, hS, s0, s1, s2, s3⟩ := both_sum (z := b * c) ha
   rw [← hS, s3] at c1
   rw [← hS]
   clear hS
   unfold r64 at ha
   exact both_fin s0 s1 (by generalize b * c = z at *; omega)
  ·try simp only [sx, List.length_map] at c2
   refine zT ?_
   refine zE ?_
   refine zB rfl ?_
   refine zA rfl rfl (zF rfl rfl) ?_
   refine zA rfl rfl (yU rfl us222 ik2 rfl) ?_
   refine zA rfl rfl (zC rfl rfl) ?_
   refine zH ?_
   refine zE ?_
   refine zB rfl ?_
   refine zA rfl rfl (zF rfl rfl) ?_
   refine zA rfl rfl (zF rfl rfl) ?_
   refine zA rfl rfl (qJ rfl rfl rfl) ?_
   refine zA rfl rfl (zF rfl rfl) ?_
   refine zN [] rfl rfl rfl rfl gv1 trivial (fun g10_3 => zF rfl rfl) rfl ?_
   refine zN [(40, _)] rfl rfl rfl rfl gv1 ⟨rfl, rfl, trivial⟩ (fun g10_3 => kR rfl rfl rfl) rfl ?_
   refine zA rfl rfl (qM rfl rfl rfl (fun h => h) rfl) ?_
   refine zA rfl rfl (zF rfl rfl) ?_
   refine zN [] rfl rfl rfl rfl gv1 trivial (fun g10_7 => zF rfl rfl) rfl ?_
   refine zN [(44, _)] rfl rfl rfl rfl gv1 ⟨rfl, rfl, trivial⟩ (fun g10_7 => qJ rfl rfl rfl) rfl ?_
   refine zN [(45, _)] rfl rfl rfl rfl gv1 ⟨rfl, rfl, trivial⟩ (fun g10_7 => zF rfl rfl) rfl ?_
   refine zN [] rfl rfl rfl rfl gv2 trivial (fun g10_10 => zF rfl rfl) rfl ?_
   refine zN [(47, _)] rfl rfl rfl rfl gv2 ⟨rfl, rfl, trivial⟩ (fun g10_10 => qS rfl rfl rfl) rfl ?_
   refine zN [(46, _)] rfl rfl rfl rfl gv1 ⟨rfl, rfl, trivial⟩ (fun g10_7 => qM rfl rfl rfl (fun h => yQ (by assumption) h) rfl) rfl ?_
   refine zA rfl rfl (yD rfl rfl rfl rfl (fun h => (lzf h))) ?_
   refine zA rfl rfl (zC rfl rfl) ?_
   refine zA rfl rfl (zC rfl rfl) ?_
   refine zH ?_
   refine zS ?_
   repeat (first | refine zO ?_ | refine zM ?_)
   refine fin2 (rs_c rfl) (rs_c rfl) ?_
   obtain ⟨S, hS, s0, s1, s2, s3⟩ := both_sum (z := b * c) ha
   rw [← hS, s3] at c1
   rw [← hS]
   clear hS
   unfold r64 at ha
   exact both_fin s0 s1 (by generalize b * c = z at *; omega)

theorem ref14_scales (l : Lf) (by_ : Int) (hl : l.L.length ≤ 4294967296) (hr : l.rng) (hb : r64 by_) :
    Pur cfg 155 [vLin l, vI by_] (vB (decide (r64 (l.K * by_)) && scaleOk by_ l.L)) := by
 refine zZ Tryz.func155 rfl Tryz.ntmps155 Tryz.results155 rfl ?_
 intro z hz
 have z0 : r64 0 := by unfold r64; omega
 refine zE ?_
 refine zB rfl ?_
 refine qC rfl rfl (qN rfl rfl) ?_
 rintro _ _ ⟨b1, rfl, rfl⟩
 refine zA rfl rfl (zC rfl rfl) ?_
 refine zH ?_
 refine zE ?_
 refine zE ?_
 refine zB rfl ?_
 refine zA rfl rfl (zJ rfl fd29_0 rfl) ?_
 refine zA rfl rfl (zK rfl one2 rfl (zP 0 rfl) rfl) ?_
 refine zA rfl rfl (zF rfl rfl) ?_
 refine zA rfl rfl (zW rfl ok208 (ref14_both 0 l.K by_ z0 hr.1 hb) ⟨VLe.refl _, rfl, VLe.refl _, rfl, VLe.refl _, rfl, trivial⟩) ?_
 refine zA rfl rfl (qT rfl rfl) ?_
 refine zA rfl rfl (qX rfl rfl rfl) ?_
 refine zA rfl rfl (qX rfl rfl rfl) ?_
 refine zA rfl rfl (zC rfl rfl) ?_
 refine zA rfl rfl (zC rfl rfl) ?_
 refine zH ?_
 refine zE ?_
 refine zB rfl ?_
 refine zA rfl rfl (zF rfl rfl) ?_
 refine zA rfl rfl (qY rfl rfl) ?_
 refine zH ?_
 refine zR rfl (fun c1 => ?_) (fun c1 => ?_)
 ·try simp only [sx, List.length_map] at c1
  rw [Int.zero_add] at c1
  refine zE ?_
  refine zB rfl ?_
  refine zA rfl rfl (zC rfl rfl) ?_
  refine zH ?_
  refine zS ?_
  repeat (first | refine zO ?_ | refine zM ?_)
  refine fin1 (rs_c rfl) ?_
  rw [decide_eq_false c1]; rfl
 ·try simp only [sx, List.length_map] at c1
  rw [Int.zero_add] at c1
  refine zT ?_
  refine zE ?_
  refine zE ?_
  refine zB rfl ?_
  refine zA rfl rfl (zC rfl rfl) ?_
  refine zH ?_
  refine qA ?_
  refine qQ ⟨[(7, .c _), (1, .c _), (2, .c _)], [_]⟩ (Weak.mk [true] ⟨VLe.of_eq rfl, VLe.of_eq rfl, VLe.of_eq rfl, trivial⟩ rfl) ?_
  refine qR 1 0 rfl rfl (Nat) (fun k => [(7, vI k)]) (fun k => []) (fun k => k ≤ l.L.length ∧ (scaleOk by_ (l.L.take k) = true)) (fun k => l.L.length - k) ⟨0, ⟨by omega, rfl⟩, Weak.mk [true] ⟨VLe.refl _, VLe.refl _, VLe.refl _, trivial⟩ rfl⟩ ?_
  rintro k ⟨hk, hp⟩
  refine zE ?_
  refine zE ?_
  refine zB rfl ?_
  refine zA rfl rfl (zF rfl rfl) ?_
  refine zA rfl rfl (zJ rfl yI rfl) ?_
  refine zA rfl rfl (zK rfl kH rfl (zP 0 rfl) rfl) ?_
  refine zA rfl rfl (qB rfl el27 rfl) ?_
  refine zA rfl rfl (qS rfl rfl rfl) ?_
  refine zH ?_
  refine zR rfl (fun c2 => ?_) (fun c2 => ?_)
  ·try simp only [sx, List.length_map] at c2
   obtain ⟨x, hx⟩ := yL l.L k (by omega)
   refine zT ?_
   refine zE ?_
   refine qA ?_
   refine zE ?_
   refine zB rfl ?_
   refine zA rfl rfl (zJ rfl yI rfl) ?_
   refine zA rfl rfl (zK rfl kH rfl (zP 0 rfl) rfl) ?_
   refine zA rfl rfl (zF rfl rfl) ?_
   refine zA rfl rfl (zX rfl el27 rfl rfl (by omega) (getm (by assumption))) ?_
   refine zA rfl rfl (qG rfl fd75_1 rfl) ?_
   refine zA rfl rfl (zK rfl one2 rfl qK rfl) ?_
   refine zA rfl rfl (zF rfl rfl) ?_
   refine zA rfl rfl (zW rfl ok208 (ref14_both 0 x.By by_ z0 (hr.2 x (qF hx)) hb) ⟨VLe.refl _, rfl, VLe.refl _, rfl, VLe.refl _, rfl, trivial⟩) ?_
   refine zA rfl rfl (qT rfl rfl) ?_
   refine zA rfl rfl (qX rfl rfl rfl) ?_
   refine zA rfl rfl (qX rfl rfl rfl) ?_
   refine zA rfl rfl (zC rfl rfl) ?_
   refine zA rfl rfl (zC rfl rfl) ?_
   refine zH ?_
   refine zE ?_
   refine zB rfl ?_
   refine zA rfl rfl (zF rfl rfl) ?_
   refine zA rfl rfl (qY rfl rfl) ?_
   refine zH ?_
   refine zR rfl (fun c3 => ?_) (fun c3 => ?_)
   ·try simp only [sx, List.length_map] at c3
    rw [Int.zero_add] at c3
    refine zE ?_
    refine zB rfl ?_
    refine zA rfl rfl (zC rfl rfl) ?_
    refine zH ?_
    refine zS ?_
    repeat (first | refine zO ?_ | refine zM ?_)
    refine fin1 (rs_c rfl) ?_
    rw [scaleOk_no hx c3, Bool.and_false]
   ·try simp only [sx, List.length_map] at c3
    rw [Int.zero_add] at c3
    refine zT ?_
    refine zB rfl ?_
    refine zA rfl rfl (zF rfl rfl) ?_
    refine zA rfl rfl (qL rfl rfl rfl ⟨by omega, by omega⟩) ?_
    refine zA rfl rfl (zC rfl rfl) ?_
    refine zH ?_
    refine ⟨k + 1, ⟨by omega, scaleOk_next hx hp c3⟩, (by omega), Weak.mk [true] ⟨VLe.refl _, VLe.refl _, VLe.refl _, trivial⟩ rfl⟩
  ·try simp only [sx, List.length_map] at c2
   refine qU ?_
   refine zE ?_
   refine zB rfl ?_
   refine zA rfl rfl (zC rfl rfl) ?_
   refine zH ?_
   refine zS ?_
   repeat (first | refine zO ?_ | refine zM ?_)
   refine fin1 (rs_c rfl) ?_
   rw [kJ (by omega)] at hp
   rw [hp, decide_eq_true c1]; rfl

theorem expr_Substitute_1 (l : Lf) (s : ByteArray) (u : Lf) (hl : l.L.length ≤ 4294967296) (ht : u.L.length ≤ 4294967296) (hrl : l.rng) (hrt : u.rng) :
    Pur cfg 82 [vLin l, .c (.iptr [cS s]), .c (.iptr u.cells)] (.tup [vLin (substP l s u).1, vI (substP l s u).2]) := by
 refine zZ Tryz.func82 rfl Tryz.ntmps82 Tryz.results82 rfl ?_
 intro z hz
 refine zE ?_
 refine zB rfl ?_
 refine qC rfl rfl (qN rfl rfl) ?_
 rintro _ _ ⟨b1, rfl, rfl⟩
 refine qC rfl rfl (qH [none, some 2] rfl zr29 rfl) ?_
 rintro _ _ ⟨b2, rfl, rfl⟩
 refine zA rfl rfl (zC rfl rfl) ?_
 refine zH ?_
 refine zE ?_
 refine zB rfl ?_
 refine zA rfl rfl (zQ rfl yB rfl (zP 1 rfl) rfl) ?_
 refine zA rfl rfl (zK rfl one9 rfl qK rfl) ?_
 refine zA rfl rfl (zQ rfl yB rfl qK rfl) ?_
 refine zA rfl rfl (zW rfl ok83 (lin_Substitute l s u hl ht hrl hrt) ⟨VLe.refl _, rfl, VLe.refl _, rfl, VLe.refl _, rfl, trivial⟩) ?_
 refine zA rfl rfl (yH rfl rfl rfl) ?_
 refine zA rfl rfl (qX rfl rfl rfl) ?_
 refine zY rfl rfl (zU rfl sz29 rfl rfl rfl (qI 0 rfl rfl)) ?_
 refine zA rfl rfl (zC rfl rfl) ?_
 refine zH ?_
 refine zS ?_
 repeat (first | refine zO ?_ | refine zM ?_)
 refine fin2 (qD yB rfl (zP 0 rfl) rfl) (rs_c rfl) ?_
 exact rfl

theorem expr_Substitute (e : Ex) (s : ByteArray) (u : Lf) (he : e.wt ≤ 4294967296) (hP : e.allF Lf.rng) (ht : u.L.length ≤ 4294967296) (hrt : u.rng) :
    Pur cfg 24 [vE e, vS s, vLin u] (.tup [vE (outE (mEx (fun l => substP l s u) e)), vI (errE (mEx (fun l => substP l s u) e))]) := by
 refine zZ Tryz.func24 rfl Tryz.ntmps24 Tryz.results24 rfl ?_
 intro z hz
 refine zE ?_
 refine zB rfl ?_
 refine qC rfl rfl (qN rfl rfl) ?_
 rintro _ _ ⟨b1, rfl, rfl⟩
 refine qC rfl rfl (qN rfl rfl) ?_
 rintro _ _ ⟨b2, rfl, rfl⟩
 refine qC rfl rfl (qN rfl rfl) ?_
 rintro _ _ ⟨b3, rfl, rfl⟩
 refine qC rfl rfl (qH [none, none, none, none, none, none, none, none, none, none, some 2, some 4, some 13] rfl zr33 rfl) ?_
 rintro _ _ ⟨b4, rfl, rfl⟩
 refine zA rfl rfl (zC rfl rfl) ?_
 refine zH ?_
 refine zE ?_
 refine zB rfl ?_
 refine zA rfl rfl (zQ rfl yA rfl (zP 3 rfl) rfl) ?_
 refine zA rfl rfl (det_func rfl rfl rfl rfl rfl) ?_
 refine yN _ (yP 2 rfl 9 (.c (.fn _ _ [_, _])) (PLe.fn ⟨.inr ⟨rfl, rfl⟩, .inl rfl, trivial⟩)) ?_
 refine yN _ (yP 1 rfl 9 (.c (.fn _ _ [_, _])) (PLe.fn ⟨.inl rfl, .inr ⟨rfl, rfl⟩, trivial⟩)) ?_
 refine zA rfl rfl (zW rfl ok81 (mapForms_con (fun l => substP l s u) _ Lf.rng (fun l hr hl => FnPur.of_pur (first := []) (cap := [.iptr [cS s], .iptr u.cells]) ok82 (expr_Substitute_1 l s u hl ht hr hrt)) e hP he) ⟨VLe.refl _, rfl, VLe.refl _, rfl, trivial⟩) ?_
 refine zA rfl rfl (yH rfl rfl rfl) ?_
 refine zA rfl rfl (qX rfl rfl rfl) ?_
 refine zY rfl rfl (zU rfl sz33 rfl rfl rfl (qI 0 rfl rfl)) ?_
 refine zA rfl rfl (zC rfl rfl) ?_
 refine zH ?_
 refine zS ?_
 repeat (first | refine zO ?_ | refine zM ?_)
 refine fin2 (qD yA rfl (zP 0 rfl) rfl) (rs_c rfl) ?_
 exact rfl

end Go.W
