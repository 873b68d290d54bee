/-
  Walks: what functions of the program compute. Printed by wip/gen/mk2.py.
  Conditions: none.
-/
import Derived.Test.YtdbflnlalkfeeaaGreatDoorWY
set_option maxRecDepth 10000
namespace Go.W
open Go Go.Eng Go.Proofs Go.L41 Go.Br
attribute [local irreducible] AWP RWP TD finQ
theorem ok203 : callOk Tryz.prog 203 = true:= by kernel_rfl
theorem ok241 : callOk Tryz.prog 241 = true:= by kernel_rfl
theorem ref14_wide (x y : Int) (hx : r64 x) (hy : r64 y) :
    Pur cfg 241 [vI x,vI y] (.tup [vI ((x * y) / 18446744073709551616),vUn ((x * y) % 18446744073709551616).toNat]):= by
 refine zV Tryz.func241 rfl Tryz.ntmps241 Tryz.results241 rfl ?_
 intro z hz
 have hA := zLg hx
 have hB := zLg hy
 obtain ⟨p1,p2,p3,p4⟩ := part_le (a := x.natAbs) (b := y.natAbs) (by omega) (by omega)
 obtain ⟨w1,w2⟩ := wide_lt hx hy
 have hmid : midN x.natAbs y.natAbs < 18446744073709551616:= by unfold midN; omega
 refine sReg rfl<|rMv rfl<|rMv rfl<|zB<|sReg rfl<|rMv rfl<|zA rfl rfl (qL rfl rfl rfl)<|rMv rfl<|zA rfl rfl (qL rfl rfl rfl)<|zA rfl rfl (det_bneq rfl un4 rfl rfl)<|rMv rfl<|zB<|sReg rfl<|rMv rfl<|zA rfl rfl (kB rfl us2 ik215 rfl)<|rMv rfl<|zA rfl rfl (kB rfl us2 ik215 rfl)<|rMv rfl<|rMv rfl<|zB<|zJ<|sReg rfl<|rMv rfl<|zA rfl rfl (qL rfl rfl rfl)<|zB<|zG rfl (fun c1 => ?_) (fun c1 => ?_)
 ·try simp only [sx] at c1
  refine zR rfl<|rMv rfl<|zA rfl rfl (zGq rfl rfl) ?_
  rw [zMw hx c1]
  refine rMv rfl<|zB<|zJ<|sReg rfl<|rMv rfl<|zA rfl rfl (qL rfl rfl rfl)<|zB<|zG rfl (fun c2 => ?_) (fun c2 => ?_)
  ·try simp only [sx] at c2
   refine zR rfl<|rMv rfl<|zA rfl rfl (zGq rfl rfl) ?_
   rw [zMw hy c2]
   refine rMv rfl<|zB<|sReg rfl<|rMv rfl<|zA rfl rfl (yZ rfl rfl rfl )<|rMv rfl<|zA rfl rfl (kK rfl rfl rfl (by omega))<|rMv rfl<|zA rfl rfl (yZ rfl rfl rfl )<|rMv rfl<|zA rfl rfl (kK rfl rfl rfl (by omega))<|rMv rfl<|rMv rfl<|rMv rfl<|rMv rfl<|zB<|sReg rfl<|rMv rfl<|rMv rfl<|zA rfl rfl (kX rfl rfl rfl (by omega))<|rMv rfl<|rMv rfl<|zA rfl rfl (kX rfl rfl rfl (by omega))<|rMv rfl<|rMv rfl<|zA rfl rfl (kX rfl rfl rfl (by omega))<|rMv rfl<|rMv rfl<|zA rfl rfl (kX rfl rfl rfl (by omega))<|rMv rfl<|rMv rfl<|rMv rfl<|rMv rfl<|zB<|sReg rfl<|rMv rfl<|zA rfl rfl (yZ rfl rfl rfl )<|rMv rfl<|zA rfl rfl (kK rfl rfl rfl (by omega))<|zA rfl rfl (kL rfl rfl rfl (by omega))<|rMv rfl<|zA rfl rfl (kK rfl rfl rfl (by omega))<|zA rfl rfl (kL rfl rfl rfl (by omega))<|rMv rfl<|zB<|sReg rfl<|rMv rfl<|zA rfl rfl (kK rfl rfl rfl (by omega))<|rMv rfl<|zA rfl rfl (zNb rfl rfl rfl )<|zA rfl rfl (det_uor rfl rfl rfl )<|rMv rfl<|zB<|sReg rfl<|rMv rfl<|rMv rfl<|zA rfl rfl (yZ rfl rfl rfl )<|zA rfl rfl (kL rfl rfl rfl (by omega))<|rMv rfl<|zA rfl rfl (yZ rfl rfl rfl )<|zA rfl rfl (kL rfl rfl rfl (by omega)) ?_
   refine rMv rfl<|zA rfl rfl (yZ rfl rfl rfl )<|zA rfl rfl (kL rfl rfl rfl (by unfold wHi at w1; unfold midN at w1; omega))<|rMv rfl<|zB<|zJ<|sReg rfl<|rMv rfl<|zB<|zG rfl (fun c3 => ?_) (fun c3 => ?_)
   ·try simp only [sx] at c3
    refine sReg rfl<|rMv rfl<|zA rfl rfl (zNd rfl rfl w2)<|rMv rfl<|zB<|sReg rfl<|rMv rfl<|zA rfl rfl (zNc rfl rfl w1)<|rMv rfl<|zB<|sReg rfl<|rMv rfl<|zA rfl rfl (qJ rfl rfl rfl)<|zB<|zG rfl (fun c4 => ?_) (fun c4 => ?_)
    ·try simp only [sx] at c4
     refine zR rfl<|rMv rfl<|zA rfl rfl (zJy rfl rfl rfl )<|rMv rfl<|zB<|sReg rfl<|rMv rfl<|zA rfl rfl (kB rfl zFh ik2 rfl)<|rMv rfl<|rMv rfl<|rMv rfl<|zB<|zH<|fin2 (rs_c rfl) (rs_c rfl) ?_
     obtain ⟨e1,e2⟩ := zIs hx hy c3 (by exact Int.ofNat_eq_zero.1 c4)
     rw [← e2,← e1]; rfl
    ·try simp only [sx] at c4
     refine zK<|sReg rfl<|rMv rfl<|zA rfl rfl (kB rfl zFh ik2 rfl)<|rMv rfl<|rMv rfl<|rMv rfl<|zB<|zH<|fin2 (rs_c rfl) (rs_c rfl) ?_
     obtain ⟨e1,e2⟩ := zIr hx hy c3 (fun h => c4 (by exact Int.ofNat_eq_zero.2 h))
     rw [← e2,← e1]; rfl
   ·try simp only [sx] at c3
    refine zK<|sReg rfl<|rMv rfl<|zA rfl rfl (kB rfl zFh ik2 rfl)<|rMv rfl<|rMv rfl<|rMv rfl<|zB<|zH<|fin2 (rs_c rfl) (rs_c rfl) ?_
    obtain ⟨e1,e2⟩ := zMn hx hy c3
    rw [← e2,← e1]; rfl
  ·try simp only [sx] at c2
   rw [zMv hy (by omega)]
   refine zK<|sReg rfl<|rMv rfl<|zA rfl rfl (yZ rfl rfl rfl )<|rMv rfl<|zA rfl rfl (kK rfl rfl rfl (by omega))<|rMv rfl<|zA rfl rfl (yZ rfl rfl rfl )<|rMv rfl<|zA rfl rfl (kK rfl rfl rfl (by omega))<|rMv rfl<|rMv rfl<|rMv rfl<|rMv rfl<|zB<|sReg rfl<|rMv rfl<|rMv rfl<|zA rfl rfl (kX rfl rfl rfl (by omega))<|rMv rfl<|rMv rfl<|zA rfl rfl (kX rfl rfl rfl (by omega))<|rMv rfl<|rMv rfl<|zA rfl rfl (kX rfl rfl rfl (by omega))<|rMv rfl<|rMv rfl<|zA rfl rfl (kX rfl rfl rfl (by omega))<|rMv rfl<|rMv rfl<|rMv rfl<|rMv rfl<|zB<|sReg rfl<|rMv rfl<|zA rfl rfl (yZ rfl rfl rfl )<|rMv rfl<|zA rfl rfl (kK rfl rfl rfl (by omega))<|zA rfl rfl (kL rfl rfl rfl (by omega))<|rMv rfl<|zA rfl rfl (kK rfl rfl rfl (by omega))<|zA rfl rfl (kL rfl rfl rfl (by omega))<|rMv rfl<|zB<|sReg rfl<|rMv rfl<|zA rfl rfl (kK rfl rfl rfl (by omega))<|rMv rfl<|zA rfl rfl (zNb rfl rfl rfl )<|zA rfl rfl (det_uor rfl rfl rfl )<|rMv rfl<|zB<|sReg rfl<|rMv rfl<|rMv rfl<|zA rfl rfl (yZ rfl rfl rfl )<|zA rfl rfl (kL rfl rfl rfl (by omega))<|rMv rfl<|zA rfl rfl (yZ rfl rfl rfl )<|zA rfl rfl (kL rfl rfl rfl (by omega))<|rMv rfl ?_
   refine zA rfl rfl (yZ rfl rfl rfl )<|zA rfl rfl (kL rfl rfl rfl (by unfold wHi at w1; unfold midN at w1; omega))<|rMv rfl<|zB<|zJ<|sReg rfl<|rMv rfl<|zB<|zG rfl (fun c3 => ?_) (fun c3 => ?_)
   ·try simp only [sx] at c3
    refine sReg rfl<|rMv rfl<|zA rfl rfl (zNd rfl rfl w2)<|rMv rfl<|zB<|sReg rfl<|rMv rfl<|zA rfl rfl (zNc rfl rfl w1)<|rMv rfl<|zB<|sReg rfl<|rMv rfl<|zA rfl rfl (qJ rfl rfl rfl)<|zB<|zG rfl (fun c4 => ?_) (fun c4 => ?_)
    ·try simp only [sx] at c4
     refine zR rfl<|rMv rfl<|zA rfl rfl (zJy rfl rfl rfl )<|rMv rfl<|zB<|sReg rfl<|rMv rfl<|zA rfl rfl (kB rfl zFh ik2 rfl)<|rMv rfl<|rMv rfl<|rMv rfl<|zB<|zH<|fin2 (rs_c rfl) (rs_c rfl) ?_
     obtain ⟨e1,e2⟩ := zIs hx hy c3 (by exact Int.ofNat_eq_zero.1 c4)
     rw [← e2,← e1]; rfl
    ·try simp only [sx] at c4
     refine zK<|sReg rfl<|rMv rfl<|zA rfl rfl (kB rfl zFh ik2 rfl)<|rMv rfl<|rMv rfl<|rMv rfl<|zB<|zH<|fin2 (rs_c rfl) (rs_c rfl) ?_
     obtain ⟨e1,e2⟩ := zIr hx hy c3 (fun h => c4 (by exact Int.ofNat_eq_zero.2 h))
     rw [← e2,← e1]; rfl
   ·try simp only [sx] at c3
    refine zK<|sReg rfl<|rMv rfl<|zA rfl rfl (kB rfl zFh ik2 rfl)<|rMv rfl<|rMv rfl<|rMv rfl<|zB<|zH<|fin2 (rs_c rfl) (rs_c rfl) ?_
    obtain ⟨e1,e2⟩ := zMn hx hy c3
    rw [← e2,← e1]; rfl
 ·try simp only [sx] at c1
  rw [zMv hx (by omega)]
  refine zK<|zJ<|sReg rfl<|rMv rfl<|zA rfl rfl (qL rfl rfl rfl)<|zB<|zG rfl (fun c2 => ?_) (fun c2 => ?_)
  ·try simp only [sx] at c2
   refine zR rfl<|rMv rfl<|zA rfl rfl (zGq rfl rfl) ?_
   rw [zMw hy c2]
   refine rMv rfl<|zB<|sReg rfl<|rMv rfl<|zA rfl rfl (yZ rfl rfl rfl )<|rMv rfl<|zA rfl rfl (kK rfl rfl rfl (by omega))<|rMv rfl<|zA rfl rfl (yZ rfl rfl rfl )<|rMv rfl<|zA rfl rfl (kK rfl rfl rfl (by omega))<|rMv rfl<|rMv rfl<|rMv rfl<|rMv rfl<|zB<|sReg rfl<|rMv rfl<|rMv rfl<|zA rfl rfl (kX rfl rfl rfl (by omega))<|rMv rfl<|rMv rfl<|zA rfl rfl (kX rfl rfl rfl (by omega))<|rMv rfl<|rMv rfl<|zA rfl rfl (kX rfl rfl rfl (by omega))<|rMv rfl<|rMv rfl<|zA rfl rfl (kX rfl rfl rfl (by omega))<|rMv rfl<|rMv rfl<|rMv rfl<|rMv rfl<|zB<|sReg rfl<|rMv rfl<|zA rfl rfl (yZ rfl rfl rfl )<|rMv rfl<|zA rfl rfl (kK rfl rfl rfl (by omega))<|zA rfl rfl (kL rfl rfl rfl (by omega))<|rMv rfl<|zA rfl rfl (kK rfl rfl rfl (by omega))<|zA rfl rfl (kL rfl rfl rfl (by omega))<|rMv rfl<|zB<|sReg rfl<|rMv rfl<|zA rfl rfl (kK rfl rfl rfl (by omega))<|rMv rfl<|zA rfl rfl (zNb rfl rfl rfl )<|zA rfl rfl (det_uor rfl rfl rfl )<|rMv rfl<|zB<|sReg rfl<|rMv rfl<|rMv rfl<|zA rfl rfl (yZ rfl rfl rfl )<|zA rfl rfl (kL rfl rfl rfl (by omega))<|rMv rfl<|zA rfl rfl (yZ rfl rfl rfl )<|zA rfl rfl (kL rfl rfl rfl (by omega)) ?_
   refine rMv rfl<|zA rfl rfl (yZ rfl rfl rfl )<|zA rfl rfl (kL rfl rfl rfl (by unfold wHi at w1; unfold midN at w1; omega))<|rMv rfl<|zB<|zJ<|sReg rfl<|rMv rfl<|zB<|zG rfl (fun c3 => ?_) (fun c3 => ?_)
   ·try simp only [sx] at c3
    refine sReg rfl<|rMv rfl<|zA rfl rfl (zNd rfl rfl w2)<|rMv rfl<|zB<|sReg rfl<|rMv rfl<|zA rfl rfl (zNc rfl rfl w1)<|rMv rfl<|zB<|sReg rfl<|rMv rfl<|zA rfl rfl (qJ rfl rfl rfl)<|zB<|zG rfl (fun c4 => ?_) (fun c4 => ?_)
    ·try simp only [sx] at c4
     refine zR rfl<|rMv rfl<|zA rfl rfl (zJy rfl rfl rfl )<|rMv rfl<|zB<|sReg rfl<|rMv rfl<|zA rfl rfl (kB rfl zFh ik2 rfl)<|rMv rfl<|rMv rfl<|rMv rfl<|zB<|zH<|fin2 (rs_c rfl) (rs_c rfl) ?_
     obtain ⟨e1,e2⟩ := zIs hx hy c3 (by exact Int.ofNat_eq_zero.1 c4)
     rw [← e2,← e1]; rfl
    ·try simp only [sx] at c4
     refine zK<|sReg rfl<|rMv rfl<|zA rfl rfl (kB rfl zFh ik2 rfl)<|rMv rfl<|rMv rfl<|rMv rfl<|zB<|zH<|fin2 (rs_c rfl) (rs_c rfl) ?_
     obtain ⟨e1,e2⟩ := zIr hx hy c3 (fun h => c4 (by exact Int.ofNat_eq_zero.2 h))
     rw [← e2,← e1]; rfl
   ·try simp only [sx] at c3
    refine zK<|sReg rfl<|rMv rfl<|zA rfl rfl (kB rfl zFh ik2 rfl)<|rMv rfl<|rMv rfl<|rMv rfl<|zB<|zH<|fin2 (rs_c rfl) (rs_c rfl) ?_
    obtain ⟨e1,e2⟩ := zMn hx hy c3
    rw [← e2,← e1]; rfl
  ·try simp only [sx] at c2
   rw [zMv hy (by omega)]
   refine zK<|sReg rfl<|rMv rfl<|zA rfl rfl (yZ rfl rfl rfl )<|rMv rfl<|zA rfl rfl (kK rfl rfl rfl (by omega))<|rMv rfl<|zA rfl rfl (yZ rfl rfl rfl )<|rMv rfl<|zA rfl rfl (kK rfl rfl rfl (by omega))<|rMv rfl<|rMv rfl<|rMv rfl<|rMv rfl<|zB<|sReg rfl<|rMv rfl<|rMv rfl<|zA rfl rfl (kX rfl rfl rfl (by omega))<|rMv rfl<|rMv rfl<|zA rfl rfl (kX rfl rfl rfl (by omega))<|rMv rfl<|rMv rfl<|zA rfl rfl (kX rfl rfl rfl (by omega))<|rMv rfl<|rMv rfl<|zA rfl rfl (kX rfl rfl rfl (by omega))<|rMv rfl<|rMv rfl<|rMv rfl<|rMv rfl<|zB<|sReg rfl<|rMv rfl<|zA rfl rfl (yZ rfl rfl rfl )<|rMv rfl<|zA rfl rfl (kK rfl rfl rfl (by omega))<|zA rfl rfl (kL rfl rfl rfl (by omega))<|rMv rfl<|zA rfl rfl (kK rfl rfl rfl (by omega))<|zA rfl rfl (kL rfl rfl rfl (by omega))<|rMv rfl<|zB<|sReg rfl<|rMv rfl<|zA rfl rfl (kK rfl rfl rfl (by omega))<|rMv rfl<|zA rfl rfl (zNb rfl rfl rfl )<|zA rfl rfl (det_uor rfl rfl rfl )<|rMv rfl<|zB<|sReg rfl<|rMv rfl<|rMv rfl<|zA rfl rfl (yZ rfl rfl rfl )<|zA rfl rfl (kL rfl rfl rfl (by omega))<|rMv rfl<|zA rfl rfl (yZ rfl rfl rfl )<|zA rfl rfl (kL rfl rfl rfl (by omega))<|rMv rfl ?_
   refine zA rfl rfl (yZ rfl rfl rfl )<|zA rfl rfl (kL rfl rfl rfl (by unfold wHi at w1; unfold midN at w1; omega))<|rMv rfl<|zB<|zJ<|sReg rfl<|rMv rfl<|zB<|zG rfl (fun c3 => ?_) (fun c3 => ?_)
   ·try simp only [sx] at c3
    refine sReg rfl<|rMv rfl<|zA rfl rfl (zNd rfl rfl w2)<|rMv rfl<|zB<|sReg rfl<|rMv rfl<|zA rfl rfl (zNc rfl rfl w1)<|rMv rfl<|zB<|sReg rfl<|rMv rfl<|zA rfl rfl (qJ rfl rfl rfl)<|zB<|zG rfl (fun c4 => ?_) (fun c4 => ?_)
    ·try simp only [sx] at c4
     refine zR rfl<|rMv rfl<|zA rfl rfl (zJy rfl rfl rfl )<|rMv rfl<|zB<|sReg rfl<|rMv rfl<|zA rfl rfl (kB rfl zFh ik2 rfl)<|rMv rfl<|rMv rfl<|rMv rfl<|zB<|zH<|fin2 (rs_c rfl) (rs_c rfl) ?_
     obtain ⟨e1,e2⟩ := zIs hx hy c3 (by exact Int.ofNat_eq_zero.1 c4)
     rw [← e2,← e1]; rfl
    ·try simp only [sx] at c4
     refine zK<|sReg rfl<|rMv rfl<|zA rfl rfl (kB rfl zFh ik2 rfl)<|rMv rfl<|rMv rfl<|rMv rfl<|zB<|zH<|fin2 (rs_c rfl) (rs_c rfl) ?_
     obtain ⟨e1,e2⟩ := zIr hx hy c3 (fun h => c4 (by exact Int.ofNat_eq_zero.2 h))
     rw [← e2,← e1]; rfl
   ·try simp only [sx] at c3
    refine zK<|sReg rfl<|rMv rfl<|zA rfl rfl (kB rfl zFh ik2 rfl)<|rMv rfl<|rMv rfl<|rMv rfl<|zB<|zH<|fin2 (rs_c rfl) (rs_c rfl) ?_
    obtain ⟨e1,e2⟩ := zMn hx hy c3
    rw [← e2,← e1]; rfl
theorem zCl (a b c : Int) (ha : r64 a) (hb : r64 b) (hc : r64 c) :
    Pur cfg 203 [vI a,vI b,vI c] (.tup [vI (w64 (a + b * c)),vB (decide (r64 (a + b * c)))]):= by
 refine zV Tryz.func203 rfl Tryz.ntmps203 Tryz.results203 rfl ?_
 intro z hz
 obtain ⟨z1,z2⟩ := prod_bd hb hc
 refine sReg rfl<|rMv rfl<|rMv rfl<|zB<|sReg rfl<|rMv rfl<|rMv rfl<|zA rfl rfl (zQ rfl ok241 (ref14_wide b c hb hc) ⟨VLe.refl _,rfl,VLe.refl _,rfl,trivial⟩)<|zA rfl rfl (qK rfl rfl)<|zA rfl rfl (qN rfl rfl rfl)<|zA rfl rfl (qN rfl rfl rfl)<|rMv rfl<|rMv rfl<|zB<|sReg rfl<|rMv rfl<|rMv rfl<|zA rfl rfl (kB rfl us2 ik215 rfl)<|zA rfl rfl (zQc rfl rfl rfl)<|rMv rfl<|zB<|sReg rfl<|rMv rfl<|zB<|zJ<|sReg rfl<|rMv rfl<|rMv rfl<|zA rfl rfl (qL rfl rfl rfl)<|zB<|zG rfl (fun c1 => ?_) (fun c1 => ?_)
 ·try simp only [sx] at c1
  refine zR rfl<|rMv rfl<|zB<|sReg rfl<|rMv rfl<|rMv rfl<|zA rfl rfl (qC rfl rfl rfl ⟨by omega,by omega⟩)<|rMv rfl<|zB<|zJ<|sReg rfl<|rMv rfl<|zA rfl rfl (qL rfl rfl rfl)<|zB<|zG rfl (fun c2 => ?_) (fun c2 => ?_)
  ·try simp only [sx] at c2
   refine zR rfl<|rMv rfl<|zA rfl rfl (yD rfl rfl rfl ⟨by omega,by omega⟩)<|rMv rfl<|zB<|sReg rfl<|rMv rfl<|zA rfl rfl (kB rfl zFh ik2 rfl)<|rMv rfl<|zB<|sReg rfl<|rMv rfl<|rMv rfl<|zA rfl rfl (qJ rfl rfl rfl)<|rMv rfl<|rLz [] rfl gv1 trivial (fun g10_3 => zN rfl rfl) rfl<|rLz [(40,_)] rfl gv1 ⟨rfl,rfl,trivial⟩ (fun g10_3 => kZ rfl rfl rfl) rfl<|zA rfl rfl (qP rfl rfl rfl (fun h => h) rfl)<|rMv rfl<|rLz [] rfl gv1 trivial (fun g10_7 => zN rfl rfl) rfl<|rLz [(44,_)] rfl gv1 ⟨rfl,rfl,trivial⟩ (fun g10_7 => qJ rfl rfl rfl) rfl<|rLz [(45,_)] rfl gv1 ⟨rfl,rfl,trivial⟩ (fun g10_7 => zN rfl rfl) rfl<|rLz [] rfl gv2 trivial (fun g10_10 => zN rfl rfl) rfl<|rLz [(47,_)] rfl gv2 ⟨rfl,rfl,trivial⟩ (fun g10_10 => qL rfl rfl rfl) rfl<|rLz [(46,_)] rfl gv1 ⟨rfl,rfl,trivial⟩ (fun g10_7 => qP rfl rfl rfl (fun h => kF (by assumption) h) rfl) rfl<|zA rfl rfl (yP rfl rfl rfl rfl (fun h => (lzf h)))<|rMv rfl<|rMv rfl<|zB<|zH<|fin2 (rs_c rfl) (rs_c rfl) ?_
   obtain ⟨S,hS,s0,s1,s2,s3⟩ := zNi (z := b * c) ha
   rw [← hS,s3] at c1
   rw [← hS]
   clear hS
   unfold r64 at ha
   exact zNj s0 s1 (by generalize b * c = z at *; omega)
  ·try simp only [sx] at c2
   refine zK<|sReg rfl<|rMv rfl<|zA rfl rfl (kB rfl zFh ik2 rfl)<|rMv rfl<|zB<|sReg rfl<|rMv rfl<|rMv rfl<|zA rfl rfl (qJ rfl rfl rfl)<|rMv rfl<|rLz [] rfl gv1 trivial (fun g10_3 => zN rfl rfl) rfl<|rLz [(40,_)] rfl gv1 ⟨rfl,rfl,trivial⟩ (fun g10_3 => kZ rfl rfl rfl) rfl<|zA rfl rfl (qP rfl rfl rfl (fun h => h) rfl)<|rMv rfl<|rLz [] rfl gv1 trivial (fun g10_7 => zN rfl rfl) rfl<|rLz [(44,_)] rfl gv1 ⟨rfl,rfl,trivial⟩ (fun g10_7 => qJ rfl rfl rfl) rfl<|rLz [(45,_)] rfl gv1 ⟨rfl,rfl,trivial⟩ (fun g10_7 => zN rfl rfl) rfl<|rLz [] rfl gv2 trivial (fun g10_10 => zN rfl rfl) rfl<|rLz [(47,_)] rfl gv2 ⟨rfl,rfl,trivial⟩ (fun g10_10 => qL rfl rfl rfl) rfl<|rLz [(46,_)] rfl gv1 ⟨rfl,rfl,trivial⟩ (fun g10_7 => qP rfl rfl rfl (fun h => kF (by assumption) h) rfl) rfl<|zA rfl rfl (yP rfl rfl rfl rfl (fun h => (lzf h)))<|rMv rfl<|rMv rfl<|zB<|zH<|fin2 (rs_c rfl) (rs_c rfl) ?_
   obtain ⟨S,hS,s0,s1,s2,s3⟩ := zNi (z := b * c) ha
   rw [← hS,s3] at c1
   rw [← hS]
   clear hS
   unfold r64 at ha
   exact zNj s0 s1 (by generalize b * c = z at *; omega)
 ·try simp only [sx] at c1
  refine zK<|sReg rfl<|rMv rfl<|rMv rfl<|zA rfl rfl (qC rfl rfl rfl ⟨by omega,by omega⟩)<|rMv rfl<|zB<|zJ<|sReg rfl<|rMv rfl<|zA rfl rfl (qL rfl rfl rfl)<|zB<|zG rfl (fun c2 => ?_) (fun c2 => ?_)
  ·try simp only [sx] at c2
   refine zR rfl<|rMv rfl<|zA rfl rfl (yD rfl rfl rfl ⟨by omega,by omega⟩)<|rMv rfl<|zB<|sReg rfl<|rMv rfl<|zA rfl rfl (kB rfl zFh ik2 rfl)<|rMv rfl<|zB<|sReg rfl<|rMv rfl<|rMv rfl<|zA rfl rfl (qJ rfl rfl rfl)<|rMv rfl<|rLz [] rfl gv1 trivial (fun g10_3 => zN rfl rfl) rfl<|rLz [(40,_)] rfl gv1 ⟨rfl,rfl,trivial⟩ (fun g10_3 => kZ rfl rfl rfl) rfl<|zA rfl rfl (qP rfl rfl rfl (fun h => h) rfl)<|rMv rfl<|rLz [] rfl gv1 trivial (fun g10_7 => zN rfl rfl) rfl<|rLz [(44,_)] rfl gv1 ⟨rfl,rfl,trivial⟩ (fun g10_7 => qJ rfl rfl rfl) rfl<|rLz [(45,_)] rfl gv1 ⟨rfl,rfl,trivial⟩ (fun g10_7 => zN rfl rfl) rfl<|rLz [] rfl gv2 trivial (fun g10_10 => zN rfl rfl) rfl<|rLz [(47,_)] rfl gv2 ⟨rfl,rfl,trivial⟩ (fun g10_10 => qL rfl rfl rfl) rfl<|rLz [(46,_)] rfl gv1 ⟨rfl,rfl,trivial⟩ (fun g10_7 => qP rfl rfl rfl (fun h => kF (by assumption) h) rfl) rfl<|zA rfl rfl (yP rfl rfl rfl rfl (fun h => (lzf h)))<|rMv rfl<|rMv rfl<|zB<|zH<|fin2 (rs_c rfl) (rs_c rfl) ?_
   obtain ⟨S,hS,s0,s1,s2,s3⟩ := zNi (z := b * c) ha
   rw [← hS,s3] at c1
   rw [← hS]
   clear hS
   unfold r64 at ha
   exact zNj s0 s1 (by generalize b * c = z at *; omega)
  ·try simp only [sx] at c2
   refine zK<|sReg rfl<|rMv rfl<|zA rfl rfl (kB rfl zFh ik2 rfl)<|rMv rfl<|zB<|sReg rfl<|rMv rfl<|rMv rfl<|zA rfl rfl (qJ rfl rfl rfl)<|rMv rfl<|rLz [] rfl gv1 trivial (fun g10_3 => zN rfl rfl) rfl<|rLz [(40,_)] rfl gv1 ⟨rfl,rfl,trivial⟩ (fun g10_3 => kZ rfl rfl rfl) rfl<|zA rfl rfl (qP rfl rfl rfl (fun h => h) rfl)<|rMv rfl<|rLz [] rfl gv1 trivial (fun g10_7 => zN rfl rfl) rfl<|rLz [(44,_)] rfl gv1 ⟨rfl,rfl,trivial⟩ (fun g10_7 => qJ rfl rfl rfl) rfl<|rLz [(45,_)] rfl gv1 ⟨rfl,rfl,trivial⟩ (fun g10_7 => zN rfl rfl) rfl<|rLz [] rfl gv2 trivial (fun g10_10 => zN rfl rfl) rfl<|rLz [(47,_)] rfl gv2 ⟨rfl,rfl,trivial⟩ (fun g10_10 => qL rfl rfl rfl) rfl<|rLz [(46,_)] rfl gv1 ⟨rfl,rfl,trivial⟩ (fun g10_7 => qP rfl rfl rfl (fun h => kF (by assumption) h) rfl) rfl<|zA rfl rfl (yP rfl rfl rfl rfl (fun h => (lzf h)))<|rMv rfl<|rMv rfl<|zB<|zH<|fin2 (rs_c rfl) (rs_c rfl) ?_
   obtain ⟨S,hS,s0,s1,s2,s3⟩ := zNi (z := b * c) ha
   rw [← hS,s3] at c1
   rw [← hS]
   clear hS
   unfold r64 at ha
   exact zNj s0 s1 (by generalize b * c = z at *; omega)
theorem ref14_scales (l : Lf) (by_ : Int) (hl : l.L.length ≤ 4294967296) (hr : l.rng) (hb : r64 by_) :
    Pur cfg 182 [vLin l,vI by_] (vB (decide (r64 (l.K * by_)) && scaleOk by_ l.L)):= by
 refine zV Tryz.func182 rfl Tryz.ntmps182 Tryz.results182 rfl ?_
 intro z hz
 have z0 : r64 0:= by unfold r64; omega
 refine sReg rfl<|zY rfl rfl (qM rfl rfl) ?_
 rintro _ _ ⟨b1,rfl,rfl⟩
 refine rMv rfl<|zB<|zJ<|sReg rfl<|zA rfl rfl (zC rfl zCj rfl)<|zA rfl rfl (zD rfl one2 rfl (zE 0 rfl) rfl)<|rMv rfl<|zA rfl rfl (zQ rfl ok203 (zCl 0 l.K by_ z0 hr.1 hb) ⟨VLe.refl _,rfl,VLe.refl _,rfl,VLe.refl _,rfl,trivial⟩)<|zA rfl rfl (qK rfl rfl)<|zA rfl rfl (qN rfl rfl rfl)<|zA rfl rfl (qN rfl rfl rfl)<|rMv rfl<|rMv rfl<|zB<|sReg rfl<|rMv rfl<|zA rfl rfl (yA rfl rfl)<|zB<|zG rfl (fun c1 => ?_) (fun c1 => ?_)
 ·try simp only [sx] at c1
  rw [Int.zero_add] at c1
  refine sReg rfl<|rMv rfl<|zB<|zH<|fin1 (rs_c rfl) ?_
  rw [decide_eq_false c1]; rfl
 ·try simp only [sx] at c1
  rw [Int.zero_add] at c1
  refine zK<|zJ<|sReg rfl<|rMv rfl<|zB<|zU<|zX ⟨[(7,.c _),(1,.c _),(2,.c _)],[_]⟩ (Weak.mk [true] ⟨VLe.of_eq rfl,VLe.of_eq rfl,VLe.of_eq rfl,trivial⟩ rfl)<|qI 1 0 rfl rfl (Nat) (fun k => [(7,vI k)]) (fun k => []) (fun k => k ≤ l.L.length ∧ (scaleOk by_ (l.L.take k) = true)) (fun k => l.L.length - k) ⟨0,⟨by omega,rfl⟩,Weak.mk [true] ⟨VLe.refl _,VLe.refl _,VLe.refl _,trivial⟩ rfl⟩ ?_
  rintro k ⟨hk,hp⟩
  refine zJ<|sReg rfl<|rMv rfl<|zA rfl rfl (zC rfl yM rfl)<|zA rfl rfl (zD rfl kQ rfl (zE 0 rfl) rfl)<|zA rfl rfl (zT rfl el47 rfl)<|zA rfl rfl (qL rfl rfl rfl)<|zB<|zG rfl (fun c2 => ?_) (fun c2 => ?_)
  ·try simp only [sx] at c2
   obtain ⟨x,hx⟩ := qZ l.L k (by omega)
   refine zK<|zJ<|zU<|sReg rfl<|zA rfl rfl (zC rfl yM rfl)<|zA rfl rfl (zD rfl kQ rfl (zE 0 rfl) rfl)<|rMv rfl<|zA rfl rfl (zP rfl el47 rfl rfl (by omega) (getm (by assumption)))<|zA rfl rfl (zZ rfl zAz rfl)<|zA rfl rfl (zD rfl one2 rfl qA rfl)<|rMv rfl<|zA rfl rfl (zQ rfl ok203 (zCl 0 x.By by_ z0 (hr.2 x (qB hx)) hb) ⟨VLe.refl _,rfl,VLe.refl _,rfl,VLe.refl _,rfl,trivial⟩)<|zA rfl rfl (qK rfl rfl)<|zA rfl rfl (qN rfl rfl rfl)<|zA rfl rfl (qN rfl rfl rfl)<|rMv rfl<|rMv rfl<|zB<|sReg rfl<|rMv rfl<|zA rfl rfl (yA rfl rfl)<|zB<|zG rfl (fun c3 => ?_) (fun c3 => ?_)
   ·try simp only [sx] at c3
    rw [Int.zero_add] at c3
    refine sReg rfl<|rMv rfl<|zB<|zH<|fin1 (rs_c rfl) ?_
    rw [scaleOk_no hx c3,Bool.and_false]
   ·try simp only [sx] at c3
    rw [Int.zero_add] at c3
    refine zK<|zR rfl<|rMv rfl<|zA rfl rfl (qC rfl rfl rfl ⟨by omega,by omega⟩)<|rMv rfl<|zB ?_
    refine ⟨k + 1,⟨by omega,scaleOk_next hx hp c3⟩,(by omega),Weak.mk [true] ⟨VLe.refl _,VLe.refl _,VLe.refl _,trivial⟩ rfl⟩
  ·try simp only [sx] at c2
   refine qO<|sReg rfl<|rMv rfl<|zB<|zH<|fin1 (rs_c rfl) ?_
   rw [yN (by omega)] at hp
   rw [hp,decide_eq_true c1]; rfl
end Go.W
