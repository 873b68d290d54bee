/-
  Walks: what functions of the program compute. Printed by wip/gen/mk2.py.
  Conditions: none.
-/
import Derived.Test.YtdbflnlalkfeeaaGreatDoorWA
set_option maxRecDepth 10000
namespace Go.W
open Go Go.Eng Go.Proofs Go.L41 Go.Br
attribute [local irreducible] AWP RWP TD finQ
theorem yH : aggT Tryz.prog 40 = some 5:= by kernel_rfl
theorem agg46 : aggT Tryz.prog 46 = some 2:= by kernel_rfl
theorem zDx : fieldT Tryz.prog 40 0 = some (0,3):= by kernel_rfl
theorem zIj : fieldT Tryz.prog 40 1 = some (1,3):= by kernel_rfl
theorem zRe : fieldT Tryz.prog 40 2 = some (2,3):= by kernel_rfl
theorem zRd : fieldT Tryz.prog 40 3 = some (3,3):= by kernel_rfl
theorem zRc : fieldT Tryz.prog 40 4 = some (4,3):= by kernel_rfl
theorem zDw : fieldT Tryz.prog 46 0 = some (0,2):= by kernel_rfl
theorem zFp : fieldT Tryz.prog 46 1 = some (1,2):= by kernel_rfl
theorem fl40 : flatK Tryz.prog 40 = some [.int,.int,.int,.int,.int]:= by kernel_rfl
theorem ik213 : intT Tryz.prog 213 = some .u64:= by kernel_rfl
theorem ik215 : intT Tryz.prog 215 = some .u64:= by kernel_rfl
theorem ok123 : callOk Tryz.prog 123 = true:= by kernel_rfl
theorem ok159 : callOk Tryz.prog 159 = true:= by kernel_rfl
theorem ok160 : callOk Tryz.prog 160 = true:= by kernel_rfl
theorem ok291 : callOk Tryz.prog 291 = true:= by kernel_rfl
theorem ok292 : callOk Tryz.prog 292 = true:= by kernel_rfl
theorem ok293 : callOk Tryz.prog 293 = true:= by kernel_rfl
theorem ok296 : callOk Tryz.prog 296 = true:= by kernel_rfl
theorem ok298 : callOk Tryz.prog 298 = true:= by kernel_rfl
theorem ok299 : callOk Tryz.prog 299 = true:= by kernel_rfl
theorem ok300 : callOk Tryz.prog 300 = true:= by kernel_rfl
theorem ok301 : callOk Tryz.prog 301 = true:= by kernel_rfl
theorem ok302 : callOk Tryz.prog 302 = true:= by kernel_rfl
theorem ok303 : callOk Tryz.prog 303 = true:= by kernel_rfl
theorem one3 : oneT Tryz.prog 3 = true:= by kernel_rfl
theorem pl40 : placesT Tryz.prog 40 = some [(0,1),(1,1),(2,1),(3,1),(4,1)]:= by kernel_rfl
theorem us2 : (Tryz.prog.underlying 2).isSome = true:= by kernel_rfl
theorem us3 : (Tryz.prog.underlying 3).isSome = true:= by kernel_rfl
theorem zr40 : zeroT Tryz.prog 40 = some [(Value.int IntKind.i64 0),(Value.int IntKind.i64 0),(Value.int IntKind.i64 0),(Value.int IntKind.i64 0),(Value.int IntKind.i64 0)]:= by kernel_rfl
theorem zOu (t : Ty) :
    Pur cfg 159 [vTy t] (vB (plainT t)):= by
 refine zV Tryz.func159 rfl Tryz.ntmps159 Tryz.results159 rfl ?_
 intro z hz
 refine sReg rfl<|qA rfl rfl (qL rfl rfl) ?_
 rintro _ _ ⟨b1,rfl,rfl⟩
 refine rMv rfl<|zB<|sReg rfl<|zA rfl (zG rfl yH rfl (zF 0 rfl) rfl)<|zA rfl (zC rfl zDx rfl)<|zA rfl (zD rfl one3 rfl (zF 0 rfl) rfl)<|zA rfl (qV rfl zr40 pl40 rfl)<|zA rfl (zOc rfl fl40 rfl rfl rfl)<|rMv rfl<|zB<|zI<|zQ rfl ?_
 exact congrArg vB (plainT_eq t)
theorem zBl (t : Ty) :
    Pur cfg 160 [vTy t] (vI (bif fixOk t then 0 else 10)):= by
 refine zV Tryz.func160 rfl Tryz.ntmps160 Tryz.results160 rfl ?_
 intro z hz
 refine sReg rfl<|qA rfl rfl (qL rfl rfl) ?_
 rintro _ _ ⟨b1,rfl,rfl⟩
 refine rMv rfl<|zB<|sReg rfl<|zA rfl (zC rfl zRd rfl)<|zA rfl (zD rfl one3 rfl (zF 0 rfl) rfl)<|zA rfl (kZ rfl rfl rfl)<|rMv rfl<|rLz [] rfl gv1 trivial (fun g1_3 => zC rfl zRd rfl) rfl<|rLz [(8,_)] rfl gv1 ⟨rfl,rfl,trivial⟩ (fun g1_3 => zD rfl one3 rfl (zF 0 rfl) rfl) rfl<|rLz [(9,_)] rfl gv1 ⟨rfl,rfl,trivial⟩ (fun g1_3 => kY rfl rfl rfl) rfl<|zA rfl (qK rfl rfl rfl (fun h => h) rfl)<|rMv rfl<|rLz [] rfl gv1 trivial (fun g1_8 => zC rfl zRc rfl) rfl<|rLz [(13,_)] rfl gv1 ⟨rfl,rfl,trivial⟩ (fun g1_8 => zD rfl one3 rfl (zF 0 rfl) rfl) rfl<|rLz [(14,_)] rfl gv1 ⟨rfl,rfl,trivial⟩ (fun g1_8 => qF rfl rfl rfl) rfl<|rLz [(15,_)] rfl gv1 ⟨rfl,rfl,trivial⟩ (fun g1_8 => zN rfl rfl) rfl<|rLz [] rfl gv2 trivial (fun g1_12 => zC rfl zRc rfl) rfl<|rLz [(17,_)] rfl gv2 ⟨rfl,rfl,trivial⟩ (fun g1_12 => zD rfl one3 rfl (zF 0 rfl) rfl) rfl<|rLz [(18,_)] rfl gv2 ⟨rfl,rfl,trivial⟩ (fun g1_12 => qF rfl rfl rfl) rfl<|rLz [(16,_)] rfl gv1 ⟨rfl,rfl,trivial⟩ (fun g1_8 => yB rfl rfl rfl rfl (fun h => yV (by assumption) (lzf h))) rfl<|zA rfl (qK rfl rfl rfl (fun h => h) rfl)<|rMv rfl<|zB<|zK<|sReg rfl<|zA rfl (zC rfl zDx rfl)<|zA rfl (zD rfl one3 rfl (zF 0 rfl) rfl)<|zA rfl (qR rfl rfl rfl)<|rMv rfl<|rLz [] rfl gv1 trivial (fun g2_3 => zC rfl zIj rfl) rfl<|rLz [(26,_)] rfl gv1 ⟨rfl,rfl,trivial⟩ (fun g2_3 => zD rfl one3 rfl (zF 0 rfl) rfl) rfl<|rLz [(27,_)] rfl gv1 ⟨rfl,rfl,trivial⟩ (fun g2_3 => qM rfl rfl rfl) rfl<|zA rfl (yB rfl rfl rfl rfl (fun h => (lzf h)))<|rMv rfl<|rLz [] rfl gv1 trivial (fun g2_8 => zC rfl zIj rfl) rfl<|rLz [(31,_)] rfl gv1 ⟨rfl,rfl,trivial⟩ (fun g2_8 => zD rfl one3 rfl (zF 0 rfl) rfl) rfl<|rLz [(32,_)] rfl gv1 ⟨rfl,rfl,trivial⟩ (fun g2_8 => yA rfl rfl rfl) rfl<|zA rfl (yB rfl rfl rfl rfl (fun h => (lzf h)))<|rMv rfl<|rLz [] rfl gv1 trivial (fun g2_13 => zC rfl zRe rfl) rfl<|rLz [(36,_)] rfl gv1 ⟨rfl,rfl,trivial⟩ (fun g2_13 => zD rfl one3 rfl (zF 0 rfl) rfl) rfl<|rLz [(37,_)] rfl gv1 ⟨rfl,rfl,trivial⟩ (fun g2_13 => qM rfl rfl rfl) rfl<|zA rfl (yB rfl rfl rfl rfl (fun h => (lzf h)))<|rMv rfl<|rLz [] rfl gv1 trivial (fun g2_18 => zC rfl zRe rfl) rfl<|rLz [(41,_)] rfl gv1 ⟨rfl,rfl,trivial⟩ (fun g2_18 => zD rfl one3 rfl (zF 0 rfl) rfl) rfl<|rLz [(42,_)] rfl gv1 ⟨rfl,rfl,trivial⟩ (fun g2_18 => yA rfl rfl rfl) rfl<|zA rfl (yB rfl rfl rfl rfl (fun h => (lzf h)))<|rMv rfl<|rLz [] rfl gv1 trivial (fun g2_23 => zN rfl rfl) rfl<|rLz [(46,_)] rfl gv1 ⟨rfl,rfl,trivial⟩ (fun g2_23 => qT rfl rfl) rfl<|zA rfl (yB rfl rfl rfl rfl (fun h => (lzf h)))<|zB<|zH rfl (fun c1 => ?_) (fun c1 => ?_)
 ·refine sReg rfl<|rMv rfl<|zB<|zI<|zQ rfl ?_
  rw [show fixOk t = false from fix_no c1]; rfl
 ·refine zJ<|sReg rfl<|rMv rfl<|zB<|zI<|zQ rfl ?_
  rw [show fixOk t = true from fix_yes c1]; rfl
theorem zBh (t : Ty) :
    Pur cfg 123 [vTy t] (vI (tyErr t)):= by
 refine zV Tryz.func123 rfl Tryz.ntmps123 Tryz.results123 rfl ?_
 intro z hz
 refine sReg rfl<|qA rfl rfl (qL rfl rfl) ?_
 rintro _ _ ⟨b1,rfl,rfl⟩
 refine rMv rfl<|zB<|zK<|sReg rfl<|zA rfl (zC rfl zDx rfl)<|zA rfl (zD rfl one3 rfl (zF 0 rfl) rfl)<|zB<|zS<|zK<|sReg rfl<|zA rfl (qF rfl rfl rfl)<|rMv rfl<|zB<|zH rfl (fun c1 => ?_) (fun c1 => ?_)
 ·try simp only [sx] at c1
  refine zJ<|zH rfl (fun c2 => ?_) (fun c2 => ?_)
  ·try simp only [sx] at c2
   refine sReg rfl<|zA rfl (zG rfl yH rfl (zF 0 rfl) rfl)<|zA rfl (zP rfl ok159 (zOu _) ⟨zE,rfl,trivial⟩)<|zB<|zH rfl (fun c3 => ?_) (fun c3 => ?_)
   ·try simp only [sx] at c3
    refine sReg rfl<|rMv rfl<|zB<|zI<|zQ rfl ?_
    exact congrArg vI (by first | (exfalso; omega) | (rw [tyErr,tyk1 (by omega),c3]; rfl) | (rw [tyErr,zAm (by omega),fxz c5]; rfl) | (rw [tyErr,zAm (by omega),fxn c5]; rfl) | (rw [tyErr,tyk0 (by omega) (by omega) (by omega)]; rfl))
   ·try simp only [sx] at c3
    refine zJ<|sReg rfl<|rMv rfl<|zB<|zI<|zQ rfl ?_
    exact congrArg vI (by first | (exfalso; omega) | (rw [tyErr,tyk1 (by omega),c3]; rfl) | (rw [tyErr,zAm (by omega),fxz c5]; rfl) | (rw [tyErr,zAm (by omega),fxn c5]; rfl) | (rw [tyErr,tyk0 (by omega) (by omega) (by omega)]; rfl))
  ·try simp only [sx] at c2
   refine sReg rfl<|zA rfl (qF rfl rfl rfl)<|rMv rfl<|zB<|zH rfl (fun c4 => ?_) (fun c4 => ?_)
   ·try simp only [sx] at c4
    refine sReg rfl<|zA rfl (zG rfl yH rfl (zF 0 rfl) rfl)<|zA rfl (zP rfl ok160 (zBl _) ⟨zE,rfl,trivial⟩)<|zA rfl (qF rfl rfl rfl)<|zB<|zH rfl (fun c5 => ?_) (fun c5 => ?_)
    ·try simp only [sx] at c5
     refine sReg rfl<|rMv rfl<|zB<|zI<|zQ rfl ?_
     exact congrArg vI (by first | (exfalso; omega) | (rw [tyErr,tyk1 (by omega),c3]; rfl) | (rw [tyErr,zAm (by omega),fxz c5]; rfl) | (rw [tyErr,zAm (by omega),fxn c5]; rfl) | (rw [tyErr,tyk0 (by omega) (by omega) (by omega)]; rfl))
    ·try simp only [sx] at c5
     refine zJ<|sReg rfl<|rMv rfl<|zB<|zI<|zQ rfl ?_
     exact congrArg vI (by first | (exfalso; omega) | (rw [tyErr,tyk1 (by omega),c3]; rfl) | (rw [tyErr,zAm (by omega),fxz c5]; rfl) | (rw [tyErr,zAm (by omega),fxn c5]; rfl) | (rw [tyErr,tyk0 (by omega) (by omega) (by omega)]; rfl))
   ·try simp only [sx] at c4
    refine zJ<|sReg rfl<|rMv rfl<|zB<|zI<|zQ rfl ?_
    exact congrArg vI (by first | (exfalso; omega) | (rw [tyErr,tyk1 (by omega),c3]; rfl) | (rw [tyErr,zAm (by omega),fxz c5]; rfl) | (rw [tyErr,zAm (by omega),fxn c5]; rfl) | (rw [tyErr,tyk0 (by omega) (by omega) (by omega)]; rfl))
 ·try simp only [sx] at c1
  refine zU rfl<|zA rfl (qF rfl rfl rfl)<|rMv rfl<|zB<|zH rfl (fun c2 => ?_) (fun c2 => ?_)
  ·try simp only [sx] at c2
   refine sReg rfl<|zA rfl (zG rfl yH rfl (zF 0 rfl) rfl)<|zA rfl (zP rfl ok159 (zOu _) ⟨zE,rfl,trivial⟩)<|zB<|zH rfl (fun c3 => ?_) (fun c3 => ?_)
   ·try simp only [sx] at c3
    refine sReg rfl<|rMv rfl<|zB<|zI<|zQ rfl ?_
    exact congrArg vI (by first | (exfalso; omega) | (rw [tyErr,tyk1 (by omega),c3]; rfl) | (rw [tyErr,zAm (by omega),fxz c5]; rfl) | (rw [tyErr,zAm (by omega),fxn c5]; rfl) | (rw [tyErr,tyk0 (by omega) (by omega) (by omega)]; rfl))
   ·try simp only [sx] at c3
    refine zJ<|sReg rfl<|rMv rfl<|zB<|zI<|zQ rfl ?_
    exact congrArg vI (by first | (exfalso; omega) | (rw [tyErr,tyk1 (by omega),c3]; rfl) | (rw [tyErr,zAm (by omega),fxz c5]; rfl) | (rw [tyErr,zAm (by omega),fxn c5]; rfl) | (rw [tyErr,tyk0 (by omega) (by omega) (by omega)]; rfl))
  ·try simp only [sx] at c2
   refine sReg rfl<|zA rfl (qF rfl rfl rfl)<|rMv rfl<|zB<|zH rfl (fun c4 => ?_) (fun c4 => ?_)
   ·try simp only [sx] at c4
    refine sReg rfl<|zA rfl (zG rfl yH rfl (zF 0 rfl) rfl)<|zA rfl (zP rfl ok160 (zBl _) ⟨zE,rfl,trivial⟩)<|zA rfl (qF rfl rfl rfl)<|zB<|zH rfl (fun c5 => ?_) (fun c5 => ?_)
    ·try simp only [sx] at c5
     refine sReg rfl<|rMv rfl<|zB<|zI<|zQ rfl ?_
     exact congrArg vI (by first | (exfalso; omega) | (rw [tyErr,tyk1 (by omega),c3]; rfl) | (rw [tyErr,zAm (by omega),fxz c5]; rfl) | (rw [tyErr,zAm (by omega),fxn c5]; rfl) | (rw [tyErr,tyk0 (by omega) (by omega) (by omega)]; rfl))
    ·try simp only [sx] at c5
     refine zJ<|sReg rfl<|rMv rfl<|zB<|zI<|zQ rfl ?_
     exact congrArg vI (by first | (exfalso; omega) | (rw [tyErr,tyk1 (by omega),c3]; rfl) | (rw [tyErr,zAm (by omega),fxz c5]; rfl) | (rw [tyErr,zAm (by omega),fxn c5]; rfl) | (rw [tyErr,tyk0 (by omega) (by omega) (by omega)]; rfl))
   ·try simp only [sx] at c4
    refine zJ<|sReg rfl<|rMv rfl<|zB<|zI<|zQ rfl ?_
    exact congrArg vI (by first | (exfalso; omega) | (rw [tyErr,tyk1 (by omega),c3]; rfl) | (rw [tyErr,zAm (by omega),fxz c5]; rfl) | (rw [tyErr,zAm (by omega),fxn c5]; rfl) | (rw [tyErr,tyk0 (by omega) (by omega) (by omega)]; rfl))
theorem base_Type (t : Ty) :
    Pur cfg 113 [vTy t] (vB (tyOk t)):= by
 refine zV Tryz.func113 rfl Tryz.ntmps113 Tryz.results113 rfl ?_
 intro z hz
 refine sReg rfl<|qA rfl rfl (qL rfl rfl) ?_
 rintro _ _ ⟨b1,rfl,rfl⟩
 refine rMv rfl<|zB<|zK<|sReg rfl<|zA rfl (zC rfl zDx rfl)<|zA rfl (zD rfl one3 rfl (zF 0 rfl) rfl)<|zA rfl (qF rfl rfl rfl)<|rMv rfl<|rLz [] rfl gv1 trivial (fun g1_3 => zC rfl zDx rfl) rfl<|rLz [(7,_)] rfl gv1 ⟨rfl,rfl,trivial⟩ (fun g1_3 => zD rfl one3 rfl (zF 0 rfl) rfl) rfl<|rLz [(8,_)] rfl gv1 ⟨rfl,rfl,trivial⟩ (fun g1_3 => qF rfl rfl rfl) rfl<|zA rfl (yB rfl rfl rfl rfl (fun h => (lzf h)))<|zB<|zH rfl (fun c1 => ?_) (fun c1 => ?_)
 ·refine sReg rfl<|zA rfl (zC rfl zIj rfl)<|zA rfl (zD rfl one3 rfl (zF 0 rfl) rfl)<|zA rfl (qF rfl rfl rfl)<|rMv rfl<|rLz [] rfl gv1 trivial (fun g2_3 => zC rfl zRe rfl) rfl<|rLz [(15,_)] rfl gv1 ⟨rfl,rfl,trivial⟩ (fun g2_3 => zD rfl one3 rfl (zF 0 rfl) rfl) rfl<|rLz [(16,_)] rfl gv1 ⟨rfl,rfl,trivial⟩ (fun g2_3 => qF rfl rfl rfl) rfl<|zA rfl (qK rfl rfl rfl (fun h => h) rfl)<|rMv rfl<|rLz [] rfl gv1 trivial (fun g2_8 => zC rfl zRd rfl) rfl<|rLz [(20,_)] rfl gv1 ⟨rfl,rfl,trivial⟩ (fun g2_8 => zD rfl one3 rfl (zF 0 rfl) rfl) rfl<|rLz [(21,_)] rfl gv1 ⟨rfl,rfl,trivial⟩ (fun g2_8 => qF rfl rfl rfl) rfl<|zA rfl (qK rfl rfl rfl (fun h => h) rfl)<|rMv rfl<|rLz [] rfl gv1 trivial (fun g2_13 => zC rfl zRc rfl) rfl<|rLz [(25,_)] rfl gv1 ⟨rfl,rfl,trivial⟩ (fun g2_13 => zD rfl one3 rfl (zF 0 rfl) rfl) rfl<|rLz [(26,_)] rfl gv1 ⟨rfl,rfl,trivial⟩ (fun g2_13 => qF rfl rfl rfl) rfl<|zA rfl (qK rfl rfl rfl (fun h => h) rfl)<|rMv rfl<|zB<|zI<|zQ rfl ?_
  exact congrArg vB (type1 c1)
 ·refine zJ<|sReg rfl<|zA rfl (zC rfl zDx rfl)<|zA rfl (zD rfl one3 rfl (zF 0 rfl) rfl)<|zA rfl (qF rfl rfl rfl)<|rMv rfl<|rLz [] rfl gv1 trivial (fun g3_3 => zC rfl zIj rfl) rfl<|rLz [(33,_)] rfl gv1 ⟨rfl,rfl,trivial⟩ (fun g3_3 => zD rfl one3 rfl (zF 0 rfl) rfl) rfl<|rLz [(34,_)] rfl gv1 ⟨rfl,rfl,trivial⟩ (fun g3_3 => kZ rfl rfl rfl) rfl<|zA rfl (qK rfl rfl rfl (fun h => h) rfl)<|rMv rfl<|rLz [] rfl gv1 trivial (fun g3_8 => zC rfl zIj rfl) rfl<|rLz [(38,_)] rfl gv1 ⟨rfl,rfl,trivial⟩ (fun g3_8 => zD rfl one3 rfl (zF 0 rfl) rfl) rfl<|rLz [(39,_)] rfl gv1 ⟨rfl,rfl,trivial⟩ (fun g3_8 => kY rfl rfl rfl) rfl<|zA rfl (qK rfl rfl rfl (fun h => h) rfl)<|rMv rfl<|rLz [] rfl gv1 trivial (fun g3_13 => zC rfl zRe rfl) rfl<|rLz [(43,_)] rfl gv1 ⟨rfl,rfl,trivial⟩ (fun g3_13 => zD rfl one3 rfl (zF 0 rfl) rfl) rfl<|rLz [(44,_)] rfl gv1 ⟨rfl,rfl,trivial⟩ (fun g3_13 => kZ rfl rfl rfl) rfl<|zA rfl (qK rfl rfl rfl (fun h => h) rfl)<|rMv rfl<|rLz [] rfl gv1 trivial (fun g3_18 => zC rfl zRe rfl) rfl<|rLz [(48,_)] rfl gv1 ⟨rfl,rfl,trivial⟩ (fun g3_18 => zD rfl one3 rfl (zF 0 rfl) rfl) rfl<|rLz [(49,_)] rfl gv1 ⟨rfl,rfl,trivial⟩ (fun g3_18 => kY rfl rfl rfl) rfl<|zA rfl (qK rfl rfl rfl (fun h => h) rfl)<|rMv rfl<|rLz [] rfl gv1 trivial (fun g3_23 => zC rfl zRd rfl) rfl<|rLz [(53,_)] rfl gv1 ⟨rfl,rfl,trivial⟩ (fun g3_23 => zD rfl one3 rfl (zF 0 rfl) rfl) rfl<|rLz [(54,_)] rfl gv1 ⟨rfl,rfl,trivial⟩ (fun g3_23 => kZ rfl rfl rfl) rfl<|zA rfl (qK rfl rfl rfl (fun h => h) rfl)<|rMv rfl<|rLz [] rfl gv1 trivial (fun g3_28 => zC rfl zRd rfl) rfl<|rLz [(58,_)] rfl gv1 ⟨rfl,rfl,trivial⟩ (fun g3_28 => zD rfl one3 rfl (zF 0 rfl) rfl) rfl<|rLz [(59,_)] rfl gv1 ⟨rfl,rfl,trivial⟩ (fun g3_28 => kY rfl rfl rfl) rfl<|zA rfl (qK rfl rfl rfl (fun h => h) rfl)<|rMv rfl<|rLz [] rfl gv1 trivial (fun g3_33 => zC rfl zRc rfl) rfl<|rLz [(63,_)] rfl gv1 ⟨rfl,rfl,trivial⟩ (fun g3_33 => zD rfl one3 rfl (zF 0 rfl) rfl) rfl<|rLz [(64,_)] rfl gv1 ⟨rfl,rfl,trivial⟩ (fun g3_33 => qF rfl rfl rfl) rfl<|rLz [(65,_)] rfl gv1 ⟨rfl,rfl,trivial⟩ (fun g3_33 => zN rfl rfl) rfl<|rLz [] rfl gv2 trivial (fun g3_37 => zC rfl zRc rfl) rfl<|rLz [(67,_)] rfl gv2 ⟨rfl,rfl,trivial⟩ (fun g3_37 => zD rfl one3 rfl (zF 0 rfl) rfl) rfl<|rLz [(68,_)] rfl gv2 ⟨rfl,rfl,trivial⟩ (fun g3_37 => qF rfl rfl rfl) rfl<|rLz [(66,_)] rfl gv1 ⟨rfl,rfl,trivial⟩ (fun g3_33 => yB rfl rfl rfl rfl (fun h => yV (by assumption) (lzf h))) rfl<|zA rfl (qK rfl rfl rfl (fun h => h) rfl)<|rMv rfl<|zB<|zI<|zQ rfl ?_
  exact congrArg vB (type2 c1)
theorem zPm (b : Int) :
    Pur cfg 303 [vI b] (vB (decide (2 ≤ b) && decide (b ≤ 31))):= by
 refine zV Tryz.func303 rfl Tryz.ntmps303 Tryz.results303 rfl ?_
 intro z hz
 refine sReg rfl<|rMv rfl<|zB<|sReg rfl<|rMv rfl<|zA rfl (kZ rfl rfl rfl)<|rMv rfl<|rLz [] rfl gv1 trivial (fun g1_2 => zN rfl rfl) rfl<|rLz [(6,_)] rfl gv1 ⟨rfl,rfl,trivial⟩ (fun g1_2 => kY rfl rfl rfl) rfl<|zA rfl (qK rfl rfl rfl (fun h => h) rfl)<|rMv rfl<|zB<|zI<|zQ rfl ?_
 exact rfl
theorem round_MinInt (b : Int) (h1 : 2 ≤ b) (h2 : b ≤ 31) :
    Pur cfg 298 [vI b] (vI (-half b)):= by
 refine zV Tryz.func298 rfl Tryz.ntmps298 Tryz.results298 rfl ?_
 intro z hz
 refine sReg rfl<|rMv rfl<|zB<|zK<|sReg rfl<|rMv rfl<|zA rfl (zP rfl ok303 (zPm _) ⟨zE,rfl,trivial⟩)<|zA rfl (qT rfl rfl)<|zB<|zH rfl (fun c1 => ?_) (fun c1 => ?_)
 ·try simp only [sx] at c1
  exact absurd c1 (by omega)
 ·try simp only [sx] at c1
  refine zJ<|sReg rfl<|rMv rfl<|zA rfl (yD rfl rfl rfl ⟨by omega,by omega⟩)<|zA rfl (zAz rfl us3 ik213 rfl)<|zA rfl (det_shl rfl rfl rfl (by rw [zHh (by omega)]; omega))<|zA rfl (zMf rfl rfl)<|rMv rfl<|zB<|zI<|zQ rfl ?_
  exact congrArg vI (min_eq h1 h2)
theorem round_MaxInt (b : Int) (h1 : 2 ≤ b) (h2 : b ≤ 31) :
    Pur cfg 299 [vI b] (vI (half b - 1)):= by
 refine zV Tryz.func299 rfl Tryz.ntmps299 Tryz.results299 rfl ?_
 intro z hz
 refine sReg rfl<|rMv rfl<|zB<|zK<|sReg rfl<|rMv rfl<|zA rfl (zP rfl ok303 (zPm _) ⟨zE,rfl,trivial⟩)<|zA rfl (qT rfl rfl)<|zB<|zH rfl (fun c1 => ?_) (fun c1 => ?_)
 ·try simp only [sx] at c1
  exact absurd c1 (by omega)
 ·try simp only [sx] at c1
  refine zJ<|sReg rfl<|rMv rfl<|zA rfl (yD rfl rfl rfl ⟨by omega,by omega⟩)<|zA rfl (zAz rfl us3 ik213 rfl)<|zA rfl (det_shl rfl rfl rfl (by rw [zHh (by omega)]; omega))<|zA rfl (det_sub rfl rfl rfl)<|rMv rfl<|zB<|zI<|zQ rfl ?_
  exact congrArg vI (max_eq h1 h2)
theorem fixed_Valid (t : Ty) (v : Vl) :
    Pur cfg 291 [vTy t,vVal v] (vB (fixOk t && (decide (v.D = 1) && decide (-half t.Bits ≤ v.N) && decide (v.N < half t.Bits)))):= by
 refine zV Tryz.func291 rfl Tryz.ntmps291 Tryz.results291 rfl ?_
 intro z hz
 refine sReg rfl<|qA rfl rfl (qL rfl rfl) ?_
 rintro _ _ ⟨b1,rfl,rfl⟩
 refine qA rfl rfl (qL rfl rfl) ?_
 rintro _ _ ⟨b2,rfl,rfl⟩
 refine rMv rfl<|zB<|zK<|yC 25 mixed (by kernel_rfl) rfl rfl<|zM rfl rfl (zG rfl yH rfl (zF 1 rfl) rfl)<|zM rfl rfl (zP rfl ok160 (zBl _) ⟨zE,rfl,trivial⟩)<|zM rfl rfl (qF rfl rfl rfl)<|zM rfl rfl (zN rfl rfl)<|qJ [] rfl rfl rfl rfl gv1 trivial (fun g1_3 => zC rfl zFp rfl) rfl<|qJ [(9,_)] rfl rfl rfl rfl gv1 ⟨rfl,rfl,trivial⟩ (fun g1_3 => zD rfl one2 rfl (zF 0 rfl) rfl) rfl<|qJ [(10,_)] rfl rfl rfl rfl gv1 ⟨rfl,rfl,trivial⟩ (fun g1_3 => qF rfl rfl rfl) rfl<|zM rfl rfl (qK rfl rfl rfl (fun h => h) rfl)<|zM rfl rfl (zN rfl rfl)<|qJ [] rfl rfl rfl rfl gv1 trivial (fun g1_8 => zC rfl zDw rfl) rfl<|qJ [(14,_)] rfl rfl rfl rfl gv1 ⟨rfl,rfl,trivial⟩ (fun g1_8 => zD rfl one2 rfl (zF 0 rfl) rfl) rfl<|qJ [] rfl rfl rfl rfl gv1 trivial (fun g1_8 => zC rfl zIj rfl) rfl<|qJ [(16,_)] rfl rfl rfl rfl gv1 ⟨rfl,rfl,trivial⟩ (fun g1_8 => zD rfl one3 rfl (zF 1 rfl) rfl) rfl<|qJ [(17,_)] rfl rfl rfl rfl gv1 ⟨rfl,rfl,trivial⟩ (fun g1_8 => zP rfl ok298 (round_MinInt _ (fixB (fxa g1_8)).1 (fixB (fxa g1_8)).2) ⟨zE,rfl,trivial⟩) rfl<|qJ [(15,_),(18,_)] rfl rfl rfl rfl gv1 ⟨rfl,rfl,rfl,rfl,trivial⟩ (fun g1_8 => kZ rfl rfl rfl) rfl<|zM rfl rfl (qK rfl rfl rfl (fun h => h) rfl)<|zM rfl rfl (zN rfl rfl)<|qJ [] rfl rfl rfl rfl gv1 trivial (fun g1_16 => zC rfl zDw rfl) rfl<|qJ [(22,_)] rfl rfl rfl rfl gv1 ⟨rfl,rfl,trivial⟩ (fun g1_16 => zD rfl one2 rfl (zF 0 rfl) rfl) rfl<|qJ [] rfl rfl rfl rfl gv1 trivial (fun g1_16 => zC rfl zIj rfl) rfl<|qJ [(24,_)] rfl rfl rfl rfl gv1 ⟨rfl,rfl,trivial⟩ (fun g1_16 => zD rfl one3 rfl (zF 1 rfl) rfl) rfl<|qJ [(25,_)] rfl rfl rfl rfl gv1 ⟨rfl,rfl,trivial⟩ (fun g1_16 => zP rfl ok299 (round_MaxInt _ (fixB (fxb g1_16)).1 (fixB (fxb g1_16)).2) ⟨zE,rfl,trivial⟩) rfl<|qJ [(23,_),(26,_)] rfl rfl rfl rfl gv1 ⟨rfl,rfl,rfl,rfl,trivial⟩ (fun g1_16 => kY rfl rfl rfl) rfl<|zM rfl rfl (qK rfl rfl rfl (fun h => h) rfl)<|zM rfl rfl (yG rfl rfl)<|kA<|zB<|zI<|zQ rfl ?_
 exact congrArg vB (fixV t v)
theorem value_whole (n : Int) :
    Pur cfg 292 [vI n] (vB (num31 n)):= by
 refine zV Tryz.func292 rfl Tryz.ntmps292 Tryz.results292 rfl ?_
 intro z hz
 refine sReg rfl<|rMv rfl<|zB<|sReg rfl<|rMv rfl<|zA rfl (kZ rfl rfl rfl)<|rMv rfl<|rLz [] rfl gv1 trivial (fun g1_2 => zN rfl rfl) rfl<|rLz [(6,_)] rfl gv1 ⟨rfl,rfl,trivial⟩ (fun g1_2 => kY rfl rfl rfl) rfl<|zA rfl (qK rfl rfl rfl (fun h => h) rfl)<|rMv rfl<|zB<|zI<|zQ rfl ?_
 exact rfl
theorem frac_inRange (n : Int) :
    Pur cfg 300 [vI n] (vB (num31 n)):= by
 refine zV Tryz.func300 rfl Tryz.ntmps300 Tryz.results300 rfl ?_
 intro z hz
 refine sReg rfl<|rMv rfl<|zB<|sReg rfl<|rMv rfl<|zA rfl (kZ rfl rfl rfl)<|rMv rfl<|rLz [] rfl gv1 trivial (fun g1_2 => zN rfl rfl) rfl<|rLz [(6,_)] rfl gv1 ⟨rfl,rfl,trivial⟩ (fun g1_2 => kY rfl rfl rfl) rfl<|zA rfl (qK rfl rfl rfl (fun h => h) rfl)<|rMv rfl<|zB<|zI<|zQ rfl ?_
 exact rfl
theorem frac_magnitude (n : Int) (hn : -9223372036854775808 ≤ n) (hm : n ≤ 9223372036854775807) :
    Pur cfg 302 [vI n] (vU64 n.natAbs):= by
 refine zV Tryz.func302 rfl Tryz.ntmps302 Tryz.results302 rfl ?_
 intro z hz
 refine sReg rfl<|rMv rfl<|zB<|zK<|sReg rfl<|rMv rfl<|zA rfl (qM rfl rfl rfl)<|zB<|zH rfl (fun c1 => ?_) (fun c1 => ?_)
 ·try simp only [sx] at c1
  refine sReg rfl<|rMv rfl<|zA rfl (zAz rfl us2 ik215 rfl)<|zA rfl (zMf rfl rfl)<|rMv rfl<|zB<|zI<|zQ rfl ?_
  exact congrArg vU64 (mag_neg c1 hn)
 ·try simp only [sx] at c1
  refine zJ<|sReg rfl<|rMv rfl<|zA rfl (zAz rfl us2 ik215 rfl)<|rMv rfl<|zB<|zI<|zQ rfl ?_
  exact congrArg vU64 (mag_pos (by omega) hm)
theorem frac_gcd (a b : Nat) :
    Pur cfg 301 [vU64 a,vU64 b] (vU64 (Nat.gcd a b)):= by
 refine zV Tryz.func301 rfl Tryz.ntmps301 Tryz.results301 rfl ?_
 intro z hz
 refine sReg rfl<|rMv rfl<|zB<|zK<|zS<|zY ⟨[(0,.c _),(1,.c _)],[]⟩ (Weak.mk [] ⟨zE,zE,trivial⟩ rfl)<|qI 2 0 rfl rfl (Nat × Nat) (fun ⟨x,y⟩ => [(0,vU64 x),(1,vU64 y)]) (fun ⟨x,y⟩ => []) (fun ⟨x,y⟩ => Nat.gcd a b = Nat.gcd x y) (fun ⟨x,y⟩ => y) ⟨⟨a,b⟩,rfl,Weak.mk [] ⟨zE,zE,trivial⟩ rfl⟩ ?_
 rintro ⟨x,y⟩ hg
 refine zK<|sReg rfl<|rMv rfl<|zA rfl (qR rfl rfl rfl)<|zB<|zH rfl (fun c1 => ?_) (fun c1 => ?_)
 ·try simp only [sx] at c1
  refine zJ<|zS<|yC 6 mixed (by kernel_rfl) rfl rfl<|zM rfl rfl (zN rfl rfl)<|zM rfl rfl (zN rfl rfl)<|zM rfl rfl (zN rfl rfl)<|zM rfl rfl (det_rem rfl rfl rfl (by omega))<|zM rfl rfl (yG rfl rfl)<|zM rfl rfl (yG rfl rfl)<|kA<|zB ?_
  refine ⟨⟨y,x % y⟩,(by rw [hg]; exact gcd_step (by omega)),(Nat.mod_lt _ (by omega)),Weak.mk [] ⟨zE,VLe.of_eq (congrArg vU64 (Int.ofNat_tmod x y).symm),trivial⟩ rfl⟩
 ·try simp only [sx] at c1
  refine qN<|sReg rfl<|rMv rfl<|rMv rfl<|zB<|zI<|zQ rfl ?_
  exact congrArg vU64 (by rw [hg,show y = 0 by omega,Nat.gcd_zero_right])
theorem base_gcd (a b : Nat) :
    Pur cfg 296 [vI a,vI b] (vI (Nat.gcd a b)):= by
 refine zV Tryz.func296 rfl Tryz.ntmps296 Tryz.results296 rfl ?_
 intro z hz
 refine sReg rfl<|rMv rfl<|zB<|zK<|zS<|zY ⟨[(0,.c _),(1,.c _)],[]⟩ (Weak.mk [] ⟨zE,zE,trivial⟩ rfl)<|qI 2 0 rfl rfl (Nat × Nat) (fun ⟨x,y⟩ => [(0,vI x),(1,vI y)]) (fun ⟨x,y⟩ => []) (fun ⟨x,y⟩ => Nat.gcd a b = Nat.gcd x y) (fun ⟨x,y⟩ => y) ⟨⟨a,b⟩,rfl,Weak.mk [] ⟨zE,zE,trivial⟩ rfl⟩ ?_
 rintro ⟨x,y⟩ hg
 refine zK<|sReg rfl<|rMv rfl<|zA rfl (qR rfl rfl rfl)<|zB<|zH rfl (fun c1 => ?_) (fun c1 => ?_)
 ·try simp only [sx] at c1
  refine zJ<|zS<|yC 6 mixed (by kernel_rfl) rfl rfl<|zM rfl rfl (zN rfl rfl)<|zM rfl rfl (zN rfl rfl)<|zM rfl rfl (zN rfl rfl)<|zM rfl rfl (det_rem rfl rfl rfl (by omega))<|zM rfl rfl (yG rfl rfl)<|zM rfl rfl (yG rfl rfl)<|kA<|zB ?_
  refine ⟨⟨y,x % y⟩,(by rw [hg]; exact gcd_step (by omega)),(Nat.mod_lt _ (by omega)),Weak.mk [] ⟨zE,VLe.of_eq (congrArg vI (Int.ofNat_tmod x y).symm),trivial⟩ rfl⟩
 ·try simp only [sx] at c1
  refine qN<|sReg rfl<|rMv rfl<|rMv rfl<|zB<|zI<|zQ rfl ?_
  exact congrArg vI (by rw [hg,show y = 0 by omega,Nat.gcd_zero_right])
theorem frac_Valid (v : Vl) :
    Pur cfg 293 [vVal v] (vB (decide (1 ≤ v.D) && decide (v.D ≤ 2147483647) && num31 v.N && decide (Int.gcd v.N v.D = 1))):= by
 refine zV Tryz.func293 rfl Tryz.ntmps293 Tryz.results293 rfl ?_
 intro z hz
 refine sReg rfl<|qA rfl rfl (qL rfl rfl) ?_
 rintro _ _ ⟨b1,rfl,rfl⟩
 refine rMv rfl<|zB<|zK<|yC 24 mixed (by kernel_rfl) rfl rfl<|zM rfl rfl (zC rfl zFp rfl)<|zM rfl rfl (zD rfl one2 rfl (zF 0 rfl) rfl)<|zM rfl rfl (kZ rfl rfl rfl)<|zM rfl rfl (zN rfl rfl)<|qJ [] rfl rfl rfl rfl gv1 trivial (fun g1_3 => zC rfl zFp rfl) rfl<|qJ [(7,_)] rfl rfl rfl rfl gv1 ⟨rfl,rfl,trivial⟩ (fun g1_3 => zD rfl one2 rfl (zF 0 rfl) rfl) rfl<|qJ [(8,_)] rfl rfl rfl rfl gv1 ⟨rfl,rfl,trivial⟩ (fun g1_3 => kY rfl rfl rfl) rfl<|zM rfl rfl (qK rfl rfl rfl (fun h => h) rfl)<|zM rfl rfl (zN rfl rfl)<|qJ [] rfl rfl rfl rfl gv1 trivial (fun g1_8 => zC rfl zDw rfl) rfl<|qJ [(12,_)] rfl rfl rfl rfl gv1 ⟨rfl,rfl,trivial⟩ (fun g1_8 => zD rfl one2 rfl (zF 0 rfl) rfl) rfl<|qJ [(13,_)] rfl rfl rfl rfl gv1 ⟨rfl,rfl,trivial⟩ (fun g1_8 => zP rfl ok300 (frac_inRange _) ⟨zE,rfl,trivial⟩) rfl<|zM rfl rfl (qK rfl rfl rfl (fun h => h) rfl)<|zM rfl rfl (zN rfl rfl)<|qJ [] rfl rfl rfl rfl gv1 trivial (fun g1_13 => zC rfl zDw rfl) rfl<|qJ [(17,_)] rfl rfl rfl rfl gv1 ⟨rfl,rfl,trivial⟩ (fun g1_13 => zD rfl one2 rfl (zF 0 rfl) rfl) rfl<|qJ [(18,_)] rfl rfl rfl rfl gv1 ⟨rfl,rfl,trivial⟩ (fun g1_13 => zP rfl ok302 (frac_magnitude v.N (frV g1_13).2.2.1 (frV g1_13).2.2.2) ⟨zE,rfl,trivial⟩) rfl<|qJ [] rfl rfl rfl rfl gv1 trivial (fun g1_13 => zC rfl zFp rfl) rfl<|qJ [(20,_)] rfl rfl rfl rfl gv1 ⟨rfl,rfl,trivial⟩ (fun g1_13 => zD rfl one2 rfl (zF 0 rfl) rfl) rfl<|qJ [(21,_)] rfl rfl rfl rfl gv1 ⟨rfl,rfl,trivial⟩ (fun g1_13 => zAz rfl us2 ik215 rfl) rfl<|qJ [(19,_),(22,_)] rfl rfl rfl rfl gv1 ⟨rfl,rfl,rfl,rfl,trivial⟩ (fun g1_13 => zP rfl ok301 (show Pur cfg 301 [vU64 v.N.natAbs,vU64 (IntKind.u64.wrap v.D)] (vU64 (Nat.gcd v.N.natAbs v.D.natAbs)) from by rw [u64_D (frV g1_13).1 (frV g1_13).2.1]; exact frac_gcd _ _) ⟨zE,rfl,zE,rfl,trivial⟩) rfl<|qJ [(23,_)] rfl rfl rfl rfl gv1 ⟨rfl,rfl,trivial⟩ (fun g1_13 => qF rfl rfl rfl) rfl<|zM rfl rfl (qK rfl rfl rfl (fun h => h) rfl)<|zM rfl rfl (yG rfl rfl)<|kA<|zB<|zI<|zQ rfl ?_
 exact congrArg vB (by rw [show (decide (((Nat.gcd v.N.natAbs v.D.natAbs : Nat) : Int) = 1)) = decide (Int.gcd v.N v.D = 1) from decide_eq_decide.2 (by unfold Int.gcd; omega)])
theorem value_Valid (t : Ty) (v : Vl) :
    Pur cfg 264 [vTy t,vVal v] (vB (tyOk t && valOk t v)):= by
 refine zV Tryz.func264 rfl Tryz.ntmps264 Tryz.results264 rfl ?_
 intro z hz
 refine sReg rfl<|qA rfl rfl (qL rfl rfl) ?_
 rintro _ _ ⟨b1,rfl,rfl⟩
 refine qA rfl rfl (qL rfl rfl) ?_
 rintro _ _ ⟨b2,rfl,rfl⟩
 refine rMv rfl<|zB<|zK<|sReg rfl<|zA rfl (zG rfl yH rfl (zF 1 rfl) rfl)<|zA rfl (zP rfl ok123 (zBh _) ⟨zE,rfl,trivial⟩)<|zA rfl (qR rfl rfl rfl)<|zB<|zH rfl (fun c1 => ?_) (fun c1 => ?_)
 ·try simp only [sx] at c1
  have ht : tyOk t = false := tyErr_ne c1
  refine sReg rfl<|rMv rfl<|zB<|zI<|zQ rfl ?_
  rw [ht]; rfl
 ·try simp only [sx] at c1
  have ht : tyOk t = true := zHj c1
  refine zJ<|zK<|sReg rfl<|zA rfl (zC rfl zDx rfl)<|zA rfl (zD rfl one3 rfl (zF 1 rfl) rfl)<|zB<|zS<|sReg rfl<|zA rfl (qF rfl rfl rfl)<|rMv rfl<|zB<|zH rfl (fun c2 => ?_) (fun c2 => ?_)
  ·try simp only [sx] at c2
   refine sReg rfl<|zA rfl (zG rfl yH rfl (zF 1 rfl) rfl)<|zA rfl (zG rfl agg46 rfl (zF 0 rfl) rfl)<|zA rfl (zP rfl ok291 (fixed_Valid _ _) ⟨zE,rfl,zE,rfl,trivial⟩)<|rMv rfl<|zB<|zI<|zQ rfl ?_
   exact congrArg vB (by rw [ht,valOk,c2,← zAm c2,ht]; rfl)
  ·try simp only [sx] at c2
   refine sReg rfl<|zA rfl (qF rfl rfl rfl)<|rMv rfl<|zB<|zH rfl (fun c3 => ?_) (fun c3 => ?_)
   ·try simp only [sx] at c3
    refine sReg rfl<|zA rfl (zC rfl zFp rfl)<|zA rfl (zD rfl one2 rfl (zF 0 rfl) rfl)<|zA rfl (qF rfl rfl rfl)<|rMv rfl<|rLz [] rfl gv1 trivial (fun g7_3 => zC rfl zDw rfl) rfl<|rLz [(21,_)] rfl gv1 ⟨rfl,rfl,trivial⟩ (fun g7_3 => zD rfl one2 rfl (zF 0 rfl) rfl) rfl<|rLz [(22,_)] rfl gv1 ⟨rfl,rfl,trivial⟩ (fun g7_3 => zP rfl ok292 (value_whole _) ⟨zE,rfl,trivial⟩) rfl<|zA rfl (qK rfl rfl rfl (fun h => h) rfl)<|rMv rfl<|zB<|zI<|zQ rfl ?_
    exact congrArg vB (by rw [ht,valOk,yM c2,c3]; rfl)
   ·try simp only [sx] at c3
    refine zJ<|sReg rfl<|zA rfl (zG rfl agg46 rfl (zF 0 rfl) rfl)<|zA rfl (zP rfl ok293 (frac_Valid _) ⟨zE,rfl,trivial⟩)<|rMv rfl<|zB<|zI<|zQ rfl ?_
    exact congrArg vB (by rw [ht,valOk,yM c2,yM c3]; rfl)
theorem base_Val (t : Ty) (v : Vl) (ht : tyOk t = true) :
    Pur cfg 280 [vTy t,vVal v] (vB (valOk t v)):= by
 refine zV Tryz.func280 rfl Tryz.ntmps280 Tryz.results280 rfl ?_
 intro z hz
 refine sReg rfl<|qA rfl rfl (qL rfl rfl) ?_
 rintro _ _ ⟨b1,rfl,rfl⟩
 refine qA rfl rfl (qL rfl rfl) ?_
 rintro _ _ ⟨b2,rfl,rfl⟩
 refine rMv rfl<|zB<|zK<|sReg rfl<|zA rfl (zC rfl zDx rfl)<|zA rfl (zD rfl one3 rfl (zF 1 rfl) rfl)<|zA rfl (qF rfl rfl rfl)<|zB<|zH rfl (fun c1 => ?_) (fun c1 => ?_)
 ·try simp only [sx] at c1
  obtain ⟨b1,b2⟩ := fixB (by rw [← zAm c1]; exact ht)
  refine sReg rfl<|zA rfl (zC rfl zIj rfl)<|zA rfl (zD rfl one3 rfl (zF 1 rfl) rfl)<|zA rfl (yD rfl rfl rfl ⟨by omega,by omega⟩)<|zA rfl (det_shl rfl rfl rfl (by omega))<|rMv rfl<|zB<|sReg rfl<|zA rfl (zC rfl zFp rfl)<|zA rfl (zD rfl one2 rfl (zF 0 rfl) rfl)<|zA rfl (qF rfl rfl rfl)<|rMv rfl<|rLz [] rfl gv1 trivial (fun g3_3 => zC rfl zDw rfl) rfl<|rLz [(17,_)] rfl gv1 ⟨rfl,rfl,trivial⟩ (fun g3_3 => zD rfl one2 rfl (zF 0 rfl) rfl) rfl<|rLz [] rfl gv1 trivial (fun g3_3 => zN rfl rfl) rfl<|rLz [(19,_)] rfl gv1 ⟨rfl,rfl,trivial⟩ (fun g3_3 => zMf rfl rfl) rfl<|rLz [(18,_),(20,_)] rfl gv1 ⟨rfl,rfl,rfl,rfl,trivial⟩ (fun g3_3 => kZ rfl rfl rfl) rfl<|zA rfl (qK rfl rfl rfl (fun h => h) rfl)<|rMv rfl<|rLz [] rfl gv1 trivial (fun g3_10 => zC rfl zDw rfl) rfl<|rLz [(24,_)] rfl gv1 ⟨rfl,rfl,trivial⟩ (fun g3_10 => zD rfl one2 rfl (zF 0 rfl) rfl) rfl<|rLz [] rfl gv1 trivial (fun g3_10 => zN rfl rfl) rfl<|rLz [(25,_),(26,_)] rfl gv1 ⟨rfl,rfl,rfl,rfl,trivial⟩ (fun g3_10 => qM rfl rfl rfl) rfl<|zA rfl (qK rfl rfl rfl (fun h => h) rfl)<|rMv rfl<|zB<|zI<|zQ rfl ?_
  exact congrArg vB (valfix c1 b1 b2)
 ·try simp only [sx] at c1
  refine zJ<|zK<|sReg rfl<|zA rfl (zC rfl zDw rfl)<|zA rfl (zD rfl one2 rfl (zF 0 rfl) rfl)<|zA rfl (yA rfl rfl rfl)<|rMv rfl<|rLz [] rfl gv1 trivial (fun g4_3 => zC rfl zDw rfl) rfl<|rLz [(33,_)] rfl gv1 ⟨rfl,rfl,trivial⟩ (fun g4_3 => zD rfl one2 rfl (zF 0 rfl) rfl) rfl<|rLz [(34,_)] rfl gv1 ⟨rfl,rfl,trivial⟩ (fun g4_3 => qM rfl rfl rfl) rfl<|zA rfl (yB rfl rfl rfl rfl (fun h => (lzf h)))<|rMv rfl<|rLz [] rfl gv1 trivial (fun g4_8 => zC rfl zFp rfl) rfl<|rLz [(38,_)] rfl gv1 ⟨rfl,rfl,trivial⟩ (fun g4_8 => zD rfl one2 rfl (zF 0 rfl) rfl) rfl<|rLz [(39,_)] rfl gv1 ⟨rfl,rfl,trivial⟩ (fun g4_8 => qM rfl rfl rfl) rfl<|zA rfl (yB rfl rfl rfl rfl (fun h => (lzf h)))<|rMv rfl<|rLz [] rfl gv1 trivial (fun g4_13 => zC rfl zFp rfl) rfl<|rLz [(43,_)] rfl gv1 ⟨rfl,rfl,trivial⟩ (fun g4_13 => zD rfl one2 rfl (zF 0 rfl) rfl) rfl<|rLz [(44,_)] rfl gv1 ⟨rfl,rfl,trivial⟩ (fun g4_13 => yA rfl rfl rfl) rfl<|zA rfl (yB rfl rfl rfl rfl (fun h => (lzf h)))<|zB<|zH rfl (fun c2 => ?_) (fun c2 => ?_)
  ·refine sReg rfl<|rMv rfl<|zB<|zI<|zQ rfl ?_
   exact congrArg vB (val_out c1 c2).symm
  ·obtain ⟨hN1,hN2,hD1,hD2⟩ := val_in c2
   refine zJ<|zK<|sReg rfl<|zA rfl (zC rfl zDx rfl)<|zA rfl (zD rfl one3 rfl (zF 1 rfl) rfl)<|zA rfl (qF rfl rfl rfl)<|zB<|zH rfl (fun c3 => ?_) (fun c3 => ?_)
   ·try simp only [sx] at c3
    refine sReg rfl<|zA rfl (zC rfl zFp rfl)<|zA rfl (zD rfl one2 rfl (zF 0 rfl) rfl)<|zA rfl (qF rfl rfl rfl)<|rMv rfl<|zB<|zI<|zQ rfl ?_
    exact congrArg vB (by rw [valOk,yM c1,c3]; simp [num31,hN1,hN2])
   ·try simp only [sx] at c3
    refine zJ<|sReg rfl<|zA rfl (zC rfl zDw rfl)<|zA rfl (zD rfl one2 rfl (zF 0 rfl) rfl)<|zA rfl (zC rfl zDw rfl)<|zA rfl (zD rfl one2 rfl (zF 0 rfl) rfl)<|zA rfl (zMf rfl rfl)<|zA rfl (zJb rfl rfl rfl)<|zA rfl (zC rfl zFp rfl)<|zA rfl (zD rfl one2 rfl (zF 0 rfl) rfl)<|zA rfl (zP rfl ok296 (show Pur cfg 296 [vI (max v.N (IntKind.i64.wrap (-v.N))),vI v.D] (vI (Int.gcd v.N v.D)) from by rw [max_abs hN1 hN2,show v.D = (v.D.natAbs : Int) by omega]; exact base_gcd _ _) ⟨zE,rfl,zE,rfl,trivial⟩)<|zA rfl (qF rfl rfl rfl)<|rMv rfl<|zB<|zI<|zQ rfl ?_
    exact congrArg vB (by rw [valOk,yM c1,yM c3]; simp [num31,hN1,hN2,hD1,hD2]; omega)
end Go.W
