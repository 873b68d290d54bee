/-
  Walks: what functions of the program compute. Printed by wip/gen/mk2.py.
  Conditions: none.
-/
import Derived.Test.YtdbflnlalkfeeaaGreatDoorWB
set_option maxRecDepth 10000
namespace Go.W
open Go Go.Eng Go.Proofs Go.L41 Go.Br
attribute [local irreducible] AWP RWP TD finQ
theorem kG : aggT Tryz.prog 49 = some 2:= by kernel_rfl
theorem yS : aggT Tryz.prog 52 = some 13:= by kernel_rfl
theorem el50 : elemT Tryz.prog 50 = some (52,13,160):= by kernel_rfl
theorem wE : elemT Tryz.prog 112 = some (49,2,32):= by kernel_rfl
theorem kN : fieldT Tryz.prog 52 0 = some (0,3):= by kernel_rfl
theorem zCs : fieldT Tryz.prog 52 1 = some (1,9):= by kernel_rfl
theorem zGz : fieldT Tryz.prog 52 2 = some (2,46):= by kernel_rfl
theorem zCr : fieldT Tryz.prog 52 3 = some (4,40):= by kernel_rfl
theorem zCq : fieldT Tryz.prog 52 4 = some (9,49):= by kernel_rfl
theorem kE : fieldT Tryz.prog 52 5 = some (11,44):= by kernel_rfl
theorem kW : fieldT Tryz.prog 52 6 = some (12,50):= by kernel_rfl
theorem zAd : fieldT Tryz.prog 114 0 = some (0,49):= by kernel_rfl
theorem zAr : fieldT Tryz.prog 114 1 = some (2,9):= by kernel_rfl
theorem kH : fieldT Tryz.prog 114 2 = some (3,112):= by kernel_rfl
theorem fl46 : flatK Tryz.prog 46 = some [.int,.int]:= by kernel_rfl
theorem ok66 : callOk Tryz.prog 66 = true:= by kernel_rfl
theorem ok113 : callOk Tryz.prog 113 = true:= by kernel_rfl
theorem ok153 : callOk Tryz.prog 153 = true:= by kernel_rfl
theorem ok164 : callOk Tryz.prog 164 = true:= by kernel_rfl
theorem ok181 : callOk Tryz.prog 181 = true:= by kernel_rfl
theorem ok213 : callOk Tryz.prog 213 = true:= by kernel_rfl
theorem ok214 : callOk Tryz.prog 214 = true:= by kernel_rfl
theorem ok215 : callOk Tryz.prog 215 = true:= by kernel_rfl
theorem ok251 : callOk Tryz.prog 251 = true:= by kernel_rfl
theorem ok252 : callOk Tryz.prog 252 = true:= by kernel_rfl
theorem ok253 : callOk Tryz.prog 253 = true:= by kernel_rfl
theorem ok254 : callOk Tryz.prog 254 = true:= by kernel_rfl
theorem ok255 : callOk Tryz.prog 255 = true:= by kernel_rfl
theorem ok256 : callOk Tryz.prog 256 = true:= by kernel_rfl
theorem ok257 : callOk Tryz.prog 257 = true:= by kernel_rfl
theorem ok259 : callOk Tryz.prog 259 = true:= by kernel_rfl
theorem ok278 : callOk Tryz.prog 278 = true:= by kernel_rfl
theorem ok279 : callOk Tryz.prog 279 = true:= by kernel_rfl
theorem ok280 : callOk Tryz.prog 280 = true:= by kernel_rfl
theorem ok283 : callOk Tryz.prog 283 = true:= by kernel_rfl
theorem ok284 : callOk Tryz.prog 284 = true:= by kernel_rfl
theorem ok285 : callOk Tryz.prog 285 = true:= by kernel_rfl
theorem ok286 : callOk Tryz.prog 286 = true:= by kernel_rfl
theorem ok287 : callOk Tryz.prog 287 = true:= by kernel_rfl
theorem ok288 : callOk Tryz.prog 288 = true:= by kernel_rfl
theorem ok289 : callOk Tryz.prog 289 = true:= by kernel_rfl
theorem ok290 : callOk Tryz.prog 290 = true:= by kernel_rfl
theorem kM : oneT Tryz.prog 44 = true:= by kernel_rfl
theorem zAt : oneT Tryz.prog 50 = true:= by kernel_rfl
theorem wJ : oneT Tryz.prog 112 = true:= by kernel_rfl
theorem pl46 : placesT Tryz.prog 46 = some [(0,1),(1,1)]:= by kernel_rfl
theorem sz52 : (Tryz.prog.info? 52).map (·.size) = some 13:= by kernel_rfl
theorem sz114 : (Tryz.prog.info? 114).map (·.size) = some 4:= by kernel_rfl
theorem un4 : Tryz.prog.underlying 4 = some .bool:= by kernel_rfl
theorem zr46 : zeroT Tryz.prog 46 = some [(Value.int IntKind.i64 0),(Value.int IntKind.i64 0)]:= by kernel_rfl
theorem zr52 : zeroT Tryz.prog 52 = some [(Value.int IntKind.i64 0),(Value.string (ByteArray.mk #[])),(Value.int IntKind.i64 0),(Value.int IntKind.i64 0),(Value.int IntKind.i64 0),(Value.int IntKind.i64 0),(Value.int IntKind.i64 0),(Value.int IntKind.i64 0),(Value.int IntKind.i64 0),(Value.int IntKind.i64 0),(Value.slice none 0 0),(Value.slice none 0 0),(Value.slice none 0 0)]:= by kernel_rfl
theorem zJe : zeroT Tryz.prog 114 = some [(Value.int IntKind.i64 0),(Value.slice none 0 0),(Value.string (ByteArray.mk #[])),(Value.slice none 0 0)]:= by kernel_rfl
theorem expr_operands (op : Int) :
    Pur cfg 288 [vI op] (vI (nArgs op)):= by
 refine zV Tryz.func288 rfl Tryz.ntmps288 Tryz.results288 rfl ?_
 intro z hz
 refine sReg rfl<|rMv rfl<|zB<|zK<|sReg rfl<|rMv rfl<|zB<|zS<|zK<|sReg rfl<|zA rfl (qF rfl rfl rfl)<|rMv rfl<|zB<|zH rfl (fun c1 => ?_) (fun c1 => ?_)
 ·try simp only [sx] at c1
  refine zJ<|zH rfl (fun c3 => ?_) (fun c3 => ?_)
  ·try simp only [sx] at c3
   refine sReg rfl<|rMv rfl<|zB<|zI<|zQ rfl ?_
   exact congrArg vI (by unfold nArgs; (repeat' split) <;> omega)
  ·try simp only [sx] at c3
   refine zK<|sReg rfl<|zA rfl (qF rfl rfl rfl)<|rMv rfl<|zB<|zH rfl (fun c4 => ?_) (fun c4 => ?_)
   ·try simp only [sx] at c4
    refine zJ<|zH rfl (fun c6 => ?_) (fun c6 => ?_)
    ·try simp only [sx] at c6
     refine sReg rfl<|rMv rfl<|zB<|zI<|zQ rfl ?_
     exact congrArg vI (by unfold nArgs; (repeat' split) <;> omega)
    ·try simp only [sx] at c6
     refine sReg rfl<|zA rfl (qF rfl rfl rfl)<|rMv rfl<|zB<|zH rfl (fun c7 => ?_) (fun c7 => ?_)
     ·try simp only [sx] at c7
      refine sReg rfl<|rMv rfl<|zB<|zI<|zQ rfl ?_
      exact congrArg vI (by unfold nArgs; (repeat' split) <;> omega)
     ·try simp only [sx] at c7
      refine zJ<|sReg rfl<|rMv rfl<|zB<|zI<|zQ rfl ?_
      exact congrArg vI (by unfold nArgs; (repeat' split) <;> omega)
   ·try simp only [sx] at c4
    refine sReg rfl<|zA rfl (qF rfl rfl rfl)<|rMv rfl<|zB<|zH rfl (fun c5 => ?_) (fun c5 => ?_)
    ·try simp only [sx] at c5
     refine zJ<|zH rfl (fun c6 => ?_) (fun c6 => ?_)
     ·try simp only [sx] at c6
      refine sReg rfl<|rMv rfl<|zB<|zI<|zQ rfl ?_
      exact congrArg vI (by unfold nArgs; (repeat' split) <;> omega)
     ·try simp only [sx] at c6
      refine sReg rfl<|zA rfl (qF rfl rfl rfl)<|rMv rfl<|zB<|zH rfl (fun c7 => ?_) (fun c7 => ?_)
      ·try simp only [sx] at c7
       refine sReg rfl<|rMv rfl<|zB<|zI<|zQ rfl ?_
       exact congrArg vI (by unfold nArgs; (repeat' split) <;> omega)
      ·try simp only [sx] at c7
       refine zJ<|sReg rfl<|rMv rfl<|zB<|zI<|zQ rfl ?_
       exact congrArg vI (by unfold nArgs; (repeat' split) <;> omega)
    ·try simp only [sx] at c5
     refine zU rfl<|zA rfl (qF rfl rfl rfl)<|rMv rfl<|zB<|zH rfl (fun c6 => ?_) (fun c6 => ?_)
     ·try simp only [sx] at c6
      refine sReg rfl<|rMv rfl<|zB<|zI<|zQ rfl ?_
      exact congrArg vI (by unfold nArgs; (repeat' split) <;> omega)
     ·try simp only [sx] at c6
      refine sReg rfl<|zA rfl (qF rfl rfl rfl)<|rMv rfl<|zB<|zH rfl (fun c7 => ?_) (fun c7 => ?_)
      ·try simp only [sx] at c7
       refine sReg rfl<|rMv rfl<|zB<|zI<|zQ rfl ?_
       exact congrArg vI (by unfold nArgs; (repeat' split) <;> omega)
      ·try simp only [sx] at c7
       refine zJ<|sReg rfl<|rMv rfl<|zB<|zI<|zQ rfl ?_
       exact congrArg vI (by unfold nArgs; (repeat' split) <;> omega)
 ·try simp only [sx] at c1
  refine sReg rfl<|zA rfl (qF rfl rfl rfl)<|rMv rfl<|zB<|zH rfl (fun c2 => ?_) (fun c2 => ?_)
  ·try simp only [sx] at c2
   refine zJ<|zH rfl (fun c3 => ?_) (fun c3 => ?_)
   ·try simp only [sx] at c3
    refine sReg rfl<|rMv rfl<|zB<|zI<|zQ rfl ?_
    exact congrArg vI (by unfold nArgs; (repeat' split) <;> omega)
   ·try simp only [sx] at c3
    refine zK<|sReg rfl<|zA rfl (qF rfl rfl rfl)<|rMv rfl<|zB<|zH rfl (fun c4 => ?_) (fun c4 => ?_)
    ·try simp only [sx] at c4
     refine zJ<|zH rfl (fun c6 => ?_) (fun c6 => ?_)
     ·try simp only [sx] at c6
      refine sReg rfl<|rMv rfl<|zB<|zI<|zQ rfl ?_
      exact congrArg vI (by unfold nArgs; (repeat' split) <;> omega)
     ·try simp only [sx] at c6
      refine sReg rfl<|zA rfl (qF rfl rfl rfl)<|rMv rfl<|zB<|zH rfl (fun c7 => ?_) (fun c7 => ?_)
      ·try simp only [sx] at c7
       refine sReg rfl<|rMv rfl<|zB<|zI<|zQ rfl ?_
       exact congrArg vI (by unfold nArgs; (repeat' split) <;> omega)
      ·try simp only [sx] at c7
       refine zJ<|sReg rfl<|rMv rfl<|zB<|zI<|zQ rfl ?_
       exact congrArg vI (by unfold nArgs; (repeat' split) <;> omega)
    ·try simp only [sx] at c4
     refine sReg rfl<|zA rfl (qF rfl rfl rfl)<|rMv rfl<|zB<|zH rfl (fun c5 => ?_) (fun c5 => ?_)
     ·try simp only [sx] at c5
      refine zJ<|zH rfl (fun c6 => ?_) (fun c6 => ?_)
      ·try simp only [sx] at c6
       refine sReg rfl<|rMv rfl<|zB<|zI<|zQ rfl ?_
       exact congrArg vI (by unfold nArgs; (repeat' split) <;> omega)
      ·try simp only [sx] at c6
       refine sReg rfl<|zA rfl (qF rfl rfl rfl)<|rMv rfl<|zB<|zH rfl (fun c7 => ?_) (fun c7 => ?_)
       ·try simp only [sx] at c7
        refine sReg rfl<|rMv rfl<|zB<|zI<|zQ rfl ?_
        exact congrArg vI (by unfold nArgs; (repeat' split) <;> omega)
       ·try simp only [sx] at c7
        refine zJ<|sReg rfl<|rMv rfl<|zB<|zI<|zQ rfl ?_
        exact congrArg vI (by unfold nArgs; (repeat' split) <;> omega)
     ·try simp only [sx] at c5
      refine zU rfl<|zA rfl (qF rfl rfl rfl)<|rMv rfl<|zB<|zH rfl (fun c6 => ?_) (fun c6 => ?_)
      ·try simp only [sx] at c6
       refine sReg rfl<|rMv rfl<|zB<|zI<|zQ rfl ?_
       exact congrArg vI (by unfold nArgs; (repeat' split) <;> omega)
      ·try simp only [sx] at c6
       refine sReg rfl<|zA rfl (qF rfl rfl rfl)<|rMv rfl<|zB<|zH rfl (fun c7 => ?_) (fun c7 => ?_)
       ·try simp only [sx] at c7
        refine sReg rfl<|rMv rfl<|zB<|zI<|zQ rfl ?_
        exact congrArg vI (by unfold nArgs; (repeat' split) <;> omega)
       ·try simp only [sx] at c7
        refine zJ<|sReg rfl<|rMv rfl<|zB<|zI<|zQ rfl ?_
        exact congrArg vI (by unfold nArgs; (repeat' split) <;> omega)
  ·try simp only [sx] at c2
   refine zU rfl<|zA rfl (qF rfl rfl rfl)<|rMv rfl<|zB<|zH rfl (fun c3 => ?_) (fun c3 => ?_)
   ·try simp only [sx] at c3
    refine sReg rfl<|rMv rfl<|zB<|zI<|zQ rfl ?_
    exact congrArg vI (by unfold nArgs; (repeat' split) <;> omega)
   ·try simp only [sx] at c3
    refine zK<|sReg rfl<|zA rfl (qF rfl rfl rfl)<|rMv rfl<|zB<|zH rfl (fun c4 => ?_) (fun c4 => ?_)
    ·try simp only [sx] at c4
     refine zJ<|zH rfl (fun c6 => ?_) (fun c6 => ?_)
     ·try simp only [sx] at c6
      refine sReg rfl<|rMv rfl<|zB<|zI<|zQ rfl ?_
      exact congrArg vI (by unfold nArgs; (repeat' split) <;> omega)
     ·try simp only [sx] at c6
      refine sReg rfl<|zA rfl (qF rfl rfl rfl)<|rMv rfl<|zB<|zH rfl (fun c7 => ?_) (fun c7 => ?_)
      ·try simp only [sx] at c7
       refine sReg rfl<|rMv rfl<|zB<|zI<|zQ rfl ?_
       exact congrArg vI (by unfold nArgs; (repeat' split) <;> omega)
      ·try simp only [sx] at c7
       refine zJ<|sReg rfl<|rMv rfl<|zB<|zI<|zQ rfl ?_
       exact congrArg vI (by unfold nArgs; (repeat' split) <;> omega)
    ·try simp only [sx] at c4
     refine sReg rfl<|zA rfl (qF rfl rfl rfl)<|rMv rfl<|zB<|zH rfl (fun c5 => ?_) (fun c5 => ?_)
     ·try simp only [sx] at c5
      refine zJ<|zH rfl (fun c6 => ?_) (fun c6 => ?_)
      ·try simp only [sx] at c6
       refine sReg rfl<|rMv rfl<|zB<|zI<|zQ rfl ?_
       exact congrArg vI (by unfold nArgs; (repeat' split) <;> omega)
      ·try simp only [sx] at c6
       refine sReg rfl<|zA rfl (qF rfl rfl rfl)<|rMv rfl<|zB<|zH rfl (fun c7 => ?_) (fun c7 => ?_)
       ·try simp only [sx] at c7
        refine sReg rfl<|rMv rfl<|zB<|zI<|zQ rfl ?_
        exact congrArg vI (by unfold nArgs; (repeat' split) <;> omega)
       ·try simp only [sx] at c7
        refine zJ<|sReg rfl<|rMv rfl<|zB<|zI<|zQ rfl ?_
        exact congrArg vI (by unfold nArgs; (repeat' split) <;> omega)
     ·try simp only [sx] at c5
      refine zU rfl<|zA rfl (qF rfl rfl rfl)<|rMv rfl<|zB<|zH rfl (fun c6 => ?_) (fun c6 => ?_)
      ·try simp only [sx] at c6
       refine sReg rfl<|rMv rfl<|zB<|zI<|zQ rfl ?_
       exact congrArg vI (by unfold nArgs; (repeat' split) <;> omega)
      ·try simp only [sx] at c6
       refine sReg rfl<|zA rfl (qF rfl rfl rfl)<|rMv rfl<|zB<|zH rfl (fun c7 => ?_) (fun c7 => ?_)
       ·try simp only [sx] at c7
        refine sReg rfl<|rMv rfl<|zB<|zI<|zQ rfl ?_
        exact congrArg vI (by unfold nArgs; (repeat' split) <;> omega)
       ·try simp only [sx] at c7
        refine zJ<|sReg rfl<|rMv rfl<|zB<|zI<|zQ rfl ?_
        exact congrArg vI (by unfold nArgs; (repeat' split) <;> omega)
theorem kJ (e : Ex) :
    Pur cfg 164 [vE e] (vB (isCond e)):= by
 refine zV Tryz.func164 rfl Tryz.ntmps164 Tryz.results164 rfl ?_
 intro z hz
 refine sReg rfl<|qA rfl rfl (qL rfl rfl) ?_
 rintro _ _ ⟨b1,rfl,rfl⟩
 refine rMv rfl<|zB<|sReg rfl<|zA rfl (zC rfl kN rfl)<|zA rfl (zD rfl one3 rfl (zF 0 rfl) rfl)<|zA rfl (kY rfl rfl rfl)<|rMv rfl<|rLz [] rfl gv1 trivial (fun g1_3 => zC rfl kN rfl) rfl<|rLz [(7,_)] rfl gv1 ⟨rfl,rfl,trivial⟩ (fun g1_3 => zD rfl one3 rfl (zF 0 rfl) rfl) rfl<|rLz [(8,_)] rfl gv1 ⟨rfl,rfl,trivial⟩ (fun g1_3 => kY rfl rfl rfl) rfl<|zA rfl (qK rfl rfl rfl (fun h => h) rfl)<|rMv rfl<|zB<|zI<|zQ rfl ?_
 exact rfl
theorem zMk (op : Int) :
    Pur cfg 278 [vI op] (vI (nArgs op)):= by
 refine zV Tryz.func278 rfl Tryz.ntmps278 Tryz.results278 rfl ?_
 intro z hz
 refine sReg rfl<|rMv rfl<|zB<|zK<|sReg rfl<|rMv rfl<|zB<|zS<|zK<|sReg rfl<|zA rfl (qF rfl rfl rfl)<|rMv rfl<|zB<|zH rfl (fun c1 => ?_) (fun c1 => ?_)
 ·try simp only [sx] at c1
  refine zJ<|zH rfl (fun c3 => ?_) (fun c3 => ?_)
  ·try simp only [sx] at c3
   refine sReg rfl<|rMv rfl<|zB<|zI<|zQ rfl ?_
   exact congrArg vI (by unfold nArgs; (repeat' split) <;> omega)
  ·try simp only [sx] at c3
   refine zK<|sReg rfl<|zA rfl (qF rfl rfl rfl)<|rMv rfl<|zB<|zH rfl (fun c4 => ?_) (fun c4 => ?_)
   ·try simp only [sx] at c4
    refine zJ<|zH rfl (fun c6 => ?_) (fun c6 => ?_)
    ·try simp only [sx] at c6
     refine sReg rfl<|rMv rfl<|zB<|zI<|zQ rfl ?_
     exact congrArg vI (by unfold nArgs; (repeat' split) <;> omega)
    ·try simp only [sx] at c6
     refine sReg rfl<|zA rfl (qF rfl rfl rfl)<|rMv rfl<|zB<|zH rfl (fun c7 => ?_) (fun c7 => ?_)
     ·try simp only [sx] at c7
      refine sReg rfl<|rMv rfl<|zB<|zI<|zQ rfl ?_
      exact congrArg vI (by unfold nArgs; (repeat' split) <;> omega)
     ·try simp only [sx] at c7
      refine zJ<|sReg rfl<|rMv rfl<|zB<|zI<|zQ rfl ?_
      exact congrArg vI (by unfold nArgs; (repeat' split) <;> omega)
   ·try simp only [sx] at c4
    refine sReg rfl<|zA rfl (qF rfl rfl rfl)<|rMv rfl<|zB<|zH rfl (fun c5 => ?_) (fun c5 => ?_)
    ·try simp only [sx] at c5
     refine zJ<|zH rfl (fun c6 => ?_) (fun c6 => ?_)
     ·try simp only [sx] at c6
      refine sReg rfl<|rMv rfl<|zB<|zI<|zQ rfl ?_
      exact congrArg vI (by unfold nArgs; (repeat' split) <;> omega)
     ·try simp only [sx] at c6
      refine sReg rfl<|zA rfl (qF rfl rfl rfl)<|rMv rfl<|zB<|zH rfl (fun c7 => ?_) (fun c7 => ?_)
      ·try simp only [sx] at c7
       refine sReg rfl<|rMv rfl<|zB<|zI<|zQ rfl ?_
       exact congrArg vI (by unfold nArgs; (repeat' split) <;> omega)
      ·try simp only [sx] at c7
       refine zJ<|sReg rfl<|rMv rfl<|zB<|zI<|zQ rfl ?_
       exact congrArg vI (by unfold nArgs; (repeat' split) <;> omega)
    ·try simp only [sx] at c5
     refine zU rfl<|zA rfl (qF rfl rfl rfl)<|rMv rfl<|zB<|zH rfl (fun c6 => ?_) (fun c6 => ?_)
     ·try simp only [sx] at c6
      refine sReg rfl<|rMv rfl<|zB<|zI<|zQ rfl ?_
      exact congrArg vI (by unfold nArgs; (repeat' split) <;> omega)
     ·try simp only [sx] at c6
      refine sReg rfl<|zA rfl (qF rfl rfl rfl)<|rMv rfl<|zB<|zH rfl (fun c7 => ?_) (fun c7 => ?_)
      ·try simp only [sx] at c7
       refine sReg rfl<|rMv rfl<|zB<|zI<|zQ rfl ?_
       exact congrArg vI (by unfold nArgs; (repeat' split) <;> omega)
      ·try simp only [sx] at c7
       refine zJ<|sReg rfl<|rMv rfl<|zB<|zI<|zQ rfl ?_
       exact congrArg vI (by unfold nArgs; (repeat' split) <;> omega)
 ·try simp only [sx] at c1
  refine sReg rfl<|zA rfl (qF rfl rfl rfl)<|rMv rfl<|zB<|zH rfl (fun c2 => ?_) (fun c2 => ?_)
  ·try simp only [sx] at c2
   refine zJ<|zH rfl (fun c3 => ?_) (fun c3 => ?_)
   ·try simp only [sx] at c3
    refine sReg rfl<|rMv rfl<|zB<|zI<|zQ rfl ?_
    exact congrArg vI (by unfold nArgs; (repeat' split) <;> omega)
   ·try simp only [sx] at c3
    refine zK<|sReg rfl<|zA rfl (qF rfl rfl rfl)<|rMv rfl<|zB<|zH rfl (fun c4 => ?_) (fun c4 => ?_)
    ·try simp only [sx] at c4
     refine zJ<|zH rfl (fun c6 => ?_) (fun c6 => ?_)
     ·try simp only [sx] at c6
      refine sReg rfl<|rMv rfl<|zB<|zI<|zQ rfl ?_
      exact congrArg vI (by unfold nArgs; (repeat' split) <;> omega)
     ·try simp only [sx] at c6
      refine sReg rfl<|zA rfl (qF rfl rfl rfl)<|rMv rfl<|zB<|zH rfl (fun c7 => ?_) (fun c7 => ?_)
      ·try simp only [sx] at c7
       refine sReg rfl<|rMv rfl<|zB<|zI<|zQ rfl ?_
       exact congrArg vI (by unfold nArgs; (repeat' split) <;> omega)
      ·try simp only [sx] at c7
       refine zJ<|sReg rfl<|rMv rfl<|zB<|zI<|zQ rfl ?_
       exact congrArg vI (by unfold nArgs; (repeat' split) <;> omega)
    ·try simp only [sx] at c4
     refine sReg rfl<|zA rfl (qF rfl rfl rfl)<|rMv rfl<|zB<|zH rfl (fun c5 => ?_) (fun c5 => ?_)
     ·try simp only [sx] at c5
      refine zJ<|zH rfl (fun c6 => ?_) (fun c6 => ?_)
      ·try simp only [sx] at c6
       refine sReg rfl<|rMv rfl<|zB<|zI<|zQ rfl ?_
       exact congrArg vI (by unfold nArgs; (repeat' split) <;> omega)
      ·try simp only [sx] at c6
       refine sReg rfl<|zA rfl (qF rfl rfl rfl)<|rMv rfl<|zB<|zH rfl (fun c7 => ?_) (fun c7 => ?_)
       ·try simp only [sx] at c7
        refine sReg rfl<|rMv rfl<|zB<|zI<|zQ rfl ?_
        exact congrArg vI (by unfold nArgs; (repeat' split) <;> omega)
       ·try simp only [sx] at c7
        refine zJ<|sReg rfl<|rMv rfl<|zB<|zI<|zQ rfl ?_
        exact congrArg vI (by unfold nArgs; (repeat' split) <;> omega)
     ·try simp only [sx] at c5
      refine zU rfl<|zA rfl (qF rfl rfl rfl)<|rMv rfl<|zB<|zH rfl (fun c6 => ?_) (fun c6 => ?_)
      ·try simp only [sx] at c6
       refine sReg rfl<|rMv rfl<|zB<|zI<|zQ rfl ?_
       exact congrArg vI (by unfold nArgs; (repeat' split) <;> omega)
      ·try simp only [sx] at c6
       refine sReg rfl<|zA rfl (qF rfl rfl rfl)<|rMv rfl<|zB<|zH rfl (fun c7 => ?_) (fun c7 => ?_)
       ·try simp only [sx] at c7
        refine sReg rfl<|rMv rfl<|zB<|zI<|zQ rfl ?_
        exact congrArg vI (by unfold nArgs; (repeat' split) <;> omega)
       ·try simp only [sx] at c7
        refine zJ<|sReg rfl<|rMv rfl<|zB<|zI<|zQ rfl ?_
        exact congrArg vI (by unfold nArgs; (repeat' split) <;> omega)
  ·try simp only [sx] at c2
   refine zU rfl<|zA rfl (qF rfl rfl rfl)<|rMv rfl<|zB<|zH rfl (fun c3 => ?_) (fun c3 => ?_)
   ·try simp only [sx] at c3
    refine sReg rfl<|rMv rfl<|zB<|zI<|zQ rfl ?_
    exact congrArg vI (by unfold nArgs; (repeat' split) <;> omega)
   ·try simp only [sx] at c3
    refine zK<|sReg rfl<|zA rfl (qF rfl rfl rfl)<|rMv rfl<|zB<|zH rfl (fun c4 => ?_) (fun c4 => ?_)
    ·try simp only [sx] at c4
     refine zJ<|zH rfl (fun c6 => ?_) (fun c6 => ?_)
     ·try simp only [sx] at c6
      refine sReg rfl<|rMv rfl<|zB<|zI<|zQ rfl ?_
      exact congrArg vI (by unfold nArgs; (repeat' split) <;> omega)
     ·try simp only [sx] at c6
      refine sReg rfl<|zA rfl (qF rfl rfl rfl)<|rMv rfl<|zB<|zH rfl (fun c7 => ?_) (fun c7 => ?_)
      ·try simp only [sx] at c7
       refine sReg rfl<|rMv rfl<|zB<|zI<|zQ rfl ?_
       exact congrArg vI (by unfold nArgs; (repeat' split) <;> omega)
      ·try simp only [sx] at c7
       refine zJ<|sReg rfl<|rMv rfl<|zB<|zI<|zQ rfl ?_
       exact congrArg vI (by unfold nArgs; (repeat' split) <;> omega)
    ·try simp only [sx] at c4
     refine sReg rfl<|zA rfl (qF rfl rfl rfl)<|rMv rfl<|zB<|zH rfl (fun c5 => ?_) (fun c5 => ?_)
     ·try simp only [sx] at c5
      refine zJ<|zH rfl (fun c6 => ?_) (fun c6 => ?_)
      ·try simp only [sx] at c6
       refine sReg rfl<|rMv rfl<|zB<|zI<|zQ rfl ?_
       exact congrArg vI (by unfold nArgs; (repeat' split) <;> omega)
      ·try simp only [sx] at c6
       refine sReg rfl<|zA rfl (qF rfl rfl rfl)<|rMv rfl<|zB<|zH rfl (fun c7 => ?_) (fun c7 => ?_)
       ·try simp only [sx] at c7
        refine sReg rfl<|rMv rfl<|zB<|zI<|zQ rfl ?_
        exact congrArg vI (by unfold nArgs; (repeat' split) <;> omega)
       ·try simp only [sx] at c7
        refine zJ<|sReg rfl<|rMv rfl<|zB<|zI<|zQ rfl ?_
        exact congrArg vI (by unfold nArgs; (repeat' split) <;> omega)
     ·try simp only [sx] at c5
      refine zU rfl<|zA rfl (qF rfl rfl rfl)<|rMv rfl<|zB<|zH rfl (fun c6 => ?_) (fun c6 => ?_)
      ·try simp only [sx] at c6
       refine sReg rfl<|rMv rfl<|zB<|zI<|zQ rfl ?_
       exact congrArg vI (by unfold nArgs; (repeat' split) <;> omega)
      ·try simp only [sx] at c6
       refine sReg rfl<|zA rfl (qF rfl rfl rfl)<|rMv rfl<|zB<|zH rfl (fun c7 => ?_) (fun c7 => ?_)
       ·try simp only [sx] at c7
        refine sReg rfl<|rMv rfl<|zB<|zI<|zQ rfl ?_
        exact congrArg vI (by unfold nArgs; (repeat' split) <;> omega)
       ·try simp only [sx] at c7
        refine zJ<|sReg rfl<|rMv rfl<|zB<|zI<|zQ rfl ?_
        exact congrArg vI (by unfold nArgs; (repeat' split) <;> omega)
theorem kF (e : Ex) :
    Pur cfg 153 [vE e] (vB (isCond e)):= by
 refine zV Tryz.func153 rfl Tryz.ntmps153 Tryz.results153 rfl ?_
 intro z hz
 refine sReg rfl<|qA rfl rfl (qL rfl rfl) ?_
 rintro _ _ ⟨b1,rfl,rfl⟩
 refine rMv rfl<|zB<|sReg rfl<|zA rfl (zC rfl kN rfl)<|zA rfl (zD rfl one3 rfl (zF 0 rfl) rfl)<|zA rfl (kZ rfl rfl rfl)<|rMv rfl<|rLz [] rfl gv1 trivial (fun g1_3 => zC rfl kN rfl) rfl<|rLz [(7,_)] rfl gv1 ⟨rfl,rfl,trivial⟩ (fun g1_3 => zD rfl one3 rfl (zF 0 rfl) rfl) rfl<|rLz [(8,_)] rfl gv1 ⟨rfl,rfl,trivial⟩ (fun g1_3 => kY rfl rfl rfl) rfl<|zA rfl (qK rfl rfl rfl (fun h => h) rfl)<|rMv rfl<|zB<|zI<|zQ rfl ?_
 exact rfl
theorem zFt (op i : Int) :
    Pur cfg 290 [vI op,vI i] (vB (wantC op i)):= by
 refine zV Tryz.func290 rfl Tryz.ntmps290 Tryz.results290 rfl ?_
 intro z hz
 refine sReg rfl<|rMv rfl<|zB<|zK<|sReg rfl<|rMv rfl<|zB<|zS<|zK<|sReg rfl<|zA rfl (qF rfl rfl rfl)<|rMv rfl<|zB<|zH rfl (fun c1 => ?_) (fun c1 => ?_)
 ·try simp only [sx] at c1
  refine zJ<|zH rfl (fun c3 => ?_) (fun c3 => ?_)
  ·try simp only [sx] at c3
   refine sReg rfl<|rMv rfl<|zB<|zI<|zQ rfl ?_
   exact congrArg vB (by unfold wantC; first | (exfalso; omega) | (simp [*]; done) | (rw [Bool.eq_iff_iff]; simp only [Bool.or_eq_true,Bool.and_eq_true,decide_eq_true_eq]; omega))
  ·try simp only [sx] at c3
   refine zJ<|sReg rfl<|rMv rfl<|zA rfl (qF rfl rfl rfl)<|rMv rfl<|rLz [] rfl gv1 trivial (fun g6_2 => zN rfl rfl) rfl<|rLz [(13,_)] rfl gv1 ⟨rfl,rfl,trivial⟩ (fun g6_2 => qF rfl rfl rfl) rfl<|zA rfl (qK rfl rfl rfl (fun h => h) rfl)<|rMv rfl<|zB<|zI<|zQ rfl ?_
   exact congrArg vB (by unfold wantC; first | (exfalso; omega) | (simp [*]; done) | (rw [Bool.eq_iff_iff]; simp only [Bool.or_eq_true,Bool.and_eq_true,decide_eq_true_eq]; omega))
 ·try simp only [sx] at c1
  refine sReg rfl<|zA rfl (qF rfl rfl rfl)<|rMv rfl<|zB<|zH rfl (fun c2 => ?_) (fun c2 => ?_)
  ·try simp only [sx] at c2
   refine zJ<|zH rfl (fun c3 => ?_) (fun c3 => ?_)
   ·try simp only [sx] at c3
    refine sReg rfl<|rMv rfl<|zB<|zI<|zQ rfl ?_
    exact congrArg vB (by unfold wantC; first | (exfalso; omega) | (simp [*]; done) | (rw [Bool.eq_iff_iff]; simp only [Bool.or_eq_true,Bool.and_eq_true,decide_eq_true_eq]; omega))
   ·try simp only [sx] at c3
    refine zJ<|sReg rfl<|rMv rfl<|zA rfl (qF rfl rfl rfl)<|rMv rfl<|rLz [] rfl gv1 trivial (fun g6_2 => zN rfl rfl) rfl<|rLz [(13,_)] rfl gv1 ⟨rfl,rfl,trivial⟩ (fun g6_2 => qF rfl rfl rfl) rfl<|zA rfl (qK rfl rfl rfl (fun h => h) rfl)<|rMv rfl<|zB<|zI<|zQ rfl ?_
    exact congrArg vB (by unfold wantC; first | (exfalso; omega) | (simp [*]; done) | (rw [Bool.eq_iff_iff]; simp only [Bool.or_eq_true,Bool.and_eq_true,decide_eq_true_eq]; omega))
  ·try simp only [sx] at c2
   refine zU rfl<|zA rfl (qF rfl rfl rfl)<|rMv rfl<|zB<|zH rfl (fun c3 => ?_) (fun c3 => ?_)
   ·try simp only [sx] at c3
    refine sReg rfl<|rMv rfl<|zB<|zI<|zQ rfl ?_
    exact congrArg vB (by unfold wantC; first | (exfalso; omega) | (simp [*]; done) | (rw [Bool.eq_iff_iff]; simp only [Bool.or_eq_true,Bool.and_eq_true,decide_eq_true_eq]; omega))
   ·try simp only [sx] at c3
    refine zJ<|sReg rfl<|rMv rfl<|zA rfl (qF rfl rfl rfl)<|rMv rfl<|rLz [] rfl gv1 trivial (fun g6_2 => zN rfl rfl) rfl<|rLz [(13,_)] rfl gv1 ⟨rfl,rfl,trivial⟩ (fun g6_2 => qF rfl rfl rfl) rfl<|zA rfl (qK rfl rfl rfl (fun h => h) rfl)<|rMv rfl<|zB<|zI<|zQ rfl ?_
    exact congrArg vB (by unfold wantC; first | (exfalso; omega) | (simp [*]; done) | (rw [Bool.eq_iff_iff]; simp only [Bool.or_eq_true,Bool.and_eq_true,decide_eq_true_eq]; omega))
theorem ref14_wants (op i : Int) :
    Pur cfg 279 [vI op,vI i] (vB (wantC op i)):= by
 refine zV Tryz.func279 rfl Tryz.ntmps279 Tryz.results279 rfl ?_
 intro z hz
 refine sReg rfl<|rMv rfl<|zB<|sReg rfl<|rMv rfl<|zA rfl (qF rfl rfl rfl)<|rMv rfl<|rLz [] rfl gv1 trivial (fun g1_2 => zN rfl rfl) rfl<|rLz [(8,_)] rfl gv1 ⟨rfl,rfl,trivial⟩ (fun g1_2 => qF rfl rfl rfl) rfl<|zA rfl (qK rfl rfl rfl (fun h => h) rfl)<|rMv rfl<|rLz [] rfl gv1 trivial (fun g1_6 => zN rfl rfl) rfl<|rLz [(12,_)] rfl gv1 ⟨rfl,rfl,trivial⟩ (fun g1_6 => qF rfl rfl rfl) rfl<|zA rfl (yB rfl rfl rfl rfl (fun h => (lzf h)))<|rMv rfl<|rLz [] rfl gv1 trivial (fun g1_10 => zN rfl rfl) rfl<|rLz [(16,_)] rfl gv1 ⟨rfl,rfl,trivial⟩ (fun g1_10 => qF rfl rfl rfl) rfl<|zA rfl (yB rfl rfl rfl rfl (fun h => (lzf h)))<|rMv rfl<|rLz [] rfl gv1 trivial (fun g1_14 => zN rfl rfl) rfl<|rLz [(20,_)] rfl gv1 ⟨rfl,rfl,trivial⟩ (fun g1_14 => qF rfl rfl rfl) rfl<|zA rfl (yB rfl rfl rfl rfl (fun h => (lzf h)))<|rMv rfl<|zB<|zI<|zQ rfl ?_
 exact rfl
theorem zRg (l : Lf) :
    Pur cfg 283 [vLin l] (vB (zeroL l)):= by
 refine zV Tryz.func283 rfl Tryz.ntmps283 Tryz.results283 rfl ?_
 intro z hz
 refine sReg rfl<|qA rfl rfl (qL rfl rfl) ?_
 rintro _ _ ⟨b1,rfl,rfl⟩
 refine rMv rfl<|zB<|sReg rfl<|zA rfl (zC rfl zDc rfl)<|zA rfl (zD rfl one2 rfl (zF 0 rfl) rfl)<|zA rfl (qF rfl rfl rfl)<|rMv rfl<|rLz [] rfl gv1 trivial (fun g1_3 => zC rfl kO rfl) rfl<|rLz [(7,_)] rfl gv1 ⟨rfl,rfl,trivial⟩ (fun g1_3 => zD rfl wZ rfl (zF 0 rfl) rfl) rfl<|rLz [(8,_)] rfl gv1 ⟨rfl,rfl,trivial⟩ (fun g1_3 => zR rfl el47 rfl) rfl<|rLz [(9,_)] rfl gv1 ⟨rfl,rfl,trivial⟩ (fun g1_3 => qF rfl rfl rfl) rfl<|zA rfl (qK rfl rfl rfl (fun h => h) rfl)<|rMv rfl<|zB<|zI<|zQ rfl ?_
 exact rfl
theorem zRf (x : Ix) :
    Pur cfg 286 [vIndex x] (vB (wellIx x)):= by
 refine zV Tryz.func286 rfl Tryz.ntmps286 Tryz.results286 rfl ?_
 intro z hz
 refine sReg rfl<|qA rfl rfl (qL rfl rfl) ?_
 rintro _ _ ⟨b1,rfl,rfl⟩
 refine rMv rfl<|zB<|zK<|sReg rfl<|zA rfl (zC rfl zAr rfl)<|zA rfl (zD rfl one9 rfl (zF 0 rfl) rfl)<|zA rfl (yP rfl rfl rfl)<|zB<|zH rfl (fun c1 => ?_) (fun c1 => ?_)
 ·try simp only [sx] at c1
  refine sReg rfl<|zA rfl (zC rfl kH rfl)<|zA rfl (zD rfl wJ rfl (zF 0 rfl) rfl)<|zA rfl (zR rfl wE rfl)<|zA rfl (qF rfl rfl rfl)<|rMv rfl<|zB<|zI<|zQ rfl ?_
  rw [wellIx,kX c1]; rfl
 ·try simp only [sx] at c1
  refine zJ<|sReg rfl<|zA rfl (zC rfl zAd rfl)<|zA rfl (zG rfl kG rfl (zF 0 rfl) rfl)<|zA rfl (zP rfl ok283 (zRg x.Lin) ⟨zE,rfl,trivial⟩)<|rMv rfl<|zB<|zI<|zQ rfl ?_
  rw [wellIx,yM c1]; rfl
theorem expr_syntax_1 (x : Ix) :
    Pur cfg 285 [vIndex x] (vB (!wellIx x)):= by
 refine zV Tryz.func285 rfl Tryz.ntmps285 Tryz.results285 rfl ?_
 intro z hz
 refine sReg rfl<|qA rfl rfl (qL rfl rfl) ?_
 rintro _ _ ⟨b1,rfl,rfl⟩
 refine rMv rfl<|zB<|sReg rfl<|zA rfl (zG rfl zCv rfl (zF 0 rfl) rfl)<|zA rfl (zP rfl ok286 (zRf x) ⟨zE,rfl,trivial⟩)<|zA rfl (qT rfl rfl)<|rMv rfl<|zB<|zI<|zQ rfl ?_
 exact rfl
theorem expr_names_1 (x : Ix) :
    Pur cfg 287 [vIndex x] (vB (!nmIx x)):= by
 refine zV Tryz.func287 rfl Tryz.ntmps287 Tryz.results287 rfl ?_
 intro z hz
 refine sReg rfl<|qA rfl rfl (qL rfl rfl) ?_
 rintro _ _ ⟨b1,rfl,rfl⟩
 refine rMv rfl<|zB<|sReg rfl<|zA rfl (zC rfl zAr rfl)<|zA rfl (zD rfl one9 rfl (zF 0 rfl) rfl)<|zA rfl (zCd rfl rfl rfl)<|rMv rfl<|rLz [] rfl gv1 trivial (fun g1_3 => zC rfl zAr rfl) rfl<|rLz [(7,_)] rfl gv1 ⟨rfl,rfl,trivial⟩ (fun g1_3 => zD rfl one9 rfl (zF 0 rfl) rfl) rfl<|rLz [(8,_)] rfl gv1 ⟨rfl,rfl,trivial⟩ (fun g1_3 => zP rfl ok66 (zDb _) ⟨zE,rfl,trivial⟩) rfl<|rLz [(9,_)] rfl gv1 ⟨rfl,rfl,trivial⟩ (fun g1_3 => qT rfl rfl) rfl<|zA rfl (qK rfl rfl rfl (fun h => h) rfl)<|rMv rfl<|zB<|zI<|zQ rfl ?_
 exact congrArg vB (by unfold nmIx; simp)
theorem expr_rank_1 (x : Ix) :
    Pur cfg 289 [vIndex x] (vB (!rkIx x)):= by
 refine zV Tryz.func289 rfl Tryz.ntmps289 Tryz.results289 rfl ?_
 intro z hz
 refine sReg rfl<|qA rfl rfl (qL rfl rfl) ?_
 rintro _ _ ⟨b1,rfl,rfl⟩
 refine rMv rfl<|zB<|sReg rfl<|zA rfl (zC rfl kH rfl)<|zA rfl (zD rfl wJ rfl (zF 0 rfl) rfl)<|zA rfl (zR rfl wE rfl)<|zA rfl (yA rfl rfl rfl)<|rMv rfl<|zB<|zI<|zQ rfl ?_
 exact congrArg vB (by unfold rkIx; simp)
theorem expr_syntax (e : Ex) (he : e.wt ≤ 6000000000000) :
    Pur cfg 260 [vE e] (vB (synOk e)):= by
 refine zV Tryz.func260 rfl Tryz.ntmps260 Tryz.results260 rfl ?_
 intro z hz
 obtain ⟨hL,hI,hA⟩ := e.parts he
 refine sReg rfl<|qA rfl rfl (qL rfl rfl) ?_
 rintro _ _ ⟨b1,rfl,rfl⟩
 refine rMv rfl<|zB<|zK<|yC 13 mixed (by kernel_rfl) rfl rfl<|zM rfl rfl (zC rfl kN rfl)<|zM rfl rfl (zD rfl one3 rfl (zF 0 rfl) rfl)<|zM rfl rfl (qF rfl rfl rfl)<|zM rfl rfl (zC rfl kN rfl)<|zM rfl rfl (zD rfl one3 rfl (zF 0 rfl) rfl)<|zM rfl rfl (qF rfl rfl rfl)<|zM rfl rfl (zN rfl rfl)<|qJ [] rfl rfl rfl rfl gv1 trivial (fun g1_6 => zC rfl kN rfl) rfl<|qJ [(14,_)] rfl rfl rfl rfl gv1 ⟨rfl,rfl,trivial⟩ (fun g1_6 => zD rfl one3 rfl (zF 0 rfl) rfl) rfl<|qJ [(15,_)] rfl rfl rfl rfl gv1 ⟨rfl,rfl,trivial⟩ (fun g1_6 => qF rfl rfl rfl) rfl<|zM rfl rfl (yB rfl rfl rfl rfl (fun h => (lzf h)))<|zM rfl rfl (yG rfl rfl)<|zM rfl rfl (yG rfl rfl)<|kA<|zB<|zK<|yC 8 mixed (by kernel_rfl) rfl rfl<|zM rfl rfl (zC rfl kN rfl)<|zM rfl rfl (zD rfl one3 rfl (zF 0 rfl) rfl)<|zM rfl rfl (qF rfl rfl rfl)<|zM rfl rfl (zC rfl kN rfl)<|zM rfl rfl (zD rfl one3 rfl (zF 0 rfl) rfl)<|zM rfl rfl (qF rfl rfl rfl)<|zM rfl rfl (yG rfl rfl)<|zM rfl rfl (yG rfl rfl)<|kA<|zB<|zK<|zS<|sReg rfl<|zA rfl (zC rfl kN rfl)<|zA rfl (zD rfl one3 rfl (zF 0 rfl) rfl)<|zA rfl (qM rfl rfl rfl)<|rMv rfl<|rLz [] rfl gv1 trivial (fun g3_3 => zC rfl kN rfl) rfl<|rLz [(29,_)] rfl gv1 ⟨rfl,rfl,trivial⟩ (fun g3_3 => zD rfl one3 rfl (zF 0 rfl) rfl) rfl<|rLz [(30,_)] rfl gv1 ⟨rfl,rfl,trivial⟩ (fun g3_3 => yA rfl rfl rfl) rfl<|zA rfl (yB rfl rfl rfl rfl (fun h => (lzf h)))<|rMv rfl<|zB<|zH rfl (fun c1 => ?_) (fun c1 => ?_)
 ·refine sReg rfl<|rMv rfl<|zB<|zI<|zQ rfl ?_
  exact congrArg vB (by simp only [synOk,c1,Bool.not_true,Bool.not_false,Bool.true_and,Bool.and_true,Bool.false_and,Bool.and_false])
 ·refine sReg rfl<|rMv rfl<|zA rfl (qT rfl rfl)<|rMv rfl<|rLz [] rfl gv1 trivial (fun g5_2 => zC rfl zGz rfl) rfl<|rLz [(37,_)] rfl gv1 ⟨rfl,rfl,trivial⟩ (fun g5_2 => zG rfl agg46 rfl (zF 0 rfl) rfl) rfl<|rLz [] rfl gv1 trivial (fun g5_2 => qV rfl zr46 pl46 rfl) rfl<|rLz [(38,_),(39,_)] rfl gv1 ⟨rfl,rfl,rfl,rfl,trivial⟩ (fun g5_2 => wV rfl fl46 rfl rfl rfl) rfl<|zA rfl (qK rfl rfl rfl (fun h => h) rfl)<|rMv rfl<|zB<|zH rfl (fun c2 => ?_) (fun c2 => ?_)
  ·have c2 : (!decide (e.Op = 1) && !val0 e.Val) = true := c2
   refine sReg rfl<|rMv rfl<|zB<|zI<|zQ rfl ?_
   exact congrArg vB (by simp only [synOk,c2,Bool.not_true,Bool.not_false,Bool.true_and,Bool.and_true,Bool.false_and,Bool.and_false])
  ·have c2 : (!decide (e.Op = 1) && !val0 e.Val) = false := c2
   refine sReg rfl<|rMv rfl<|zA rfl (qT rfl rfl)<|rMv rfl<|rLz [] rfl gv1 trivial (fun g7_2 => zC rfl zCr rfl) rfl<|rLz [(46,_)] rfl gv1 ⟨rfl,rfl,trivial⟩ (fun g7_2 => zG rfl yH rfl (zF 0 rfl) rfl) rfl<|rLz [] rfl gv1 trivial (fun g7_2 => qV rfl zr40 pl40 rfl) rfl<|rLz [(47,_),(48,_)] rfl gv1 ⟨rfl,rfl,rfl,rfl,trivial⟩ (fun g7_2 => wV rfl fl40 rfl rfl rfl) rfl<|zA rfl (qK rfl rfl rfl (fun h => h) rfl)<|rMv rfl<|zB<|zH rfl (fun c3 => ?_) (fun c3 => ?_)
   ·have c3 : (!(decide (e.Op = 1) || decide (e.Op = 12)) && !ty0 e.Ty) = true := c3
    refine sReg rfl<|rMv rfl<|zB<|zI<|zQ rfl ?_
    exact congrArg vB (by simp only [synOk,c3,Bool.not_true,Bool.not_false,Bool.true_and,Bool.and_true,Bool.false_and,Bool.and_false])
   ·have c3 : (!(decide (e.Op = 1) || decide (e.Op = 12)) && !ty0 e.Ty) = false := c3
    refine sReg rfl<|rMv rfl<|zA rfl (qT rfl rfl)<|rMv rfl<|rLz [] rfl gv1 trivial (fun g9_2 => zC rfl zCq rfl) rfl<|rLz [(55,_)] rfl gv1 ⟨rfl,rfl,trivial⟩ (fun g9_2 => zG rfl kG rfl (zF 0 rfl) rfl) rfl<|rLz [(56,_)] rfl gv1 ⟨rfl,rfl,trivial⟩ (fun g9_2 => zP rfl ok283 (zRg e.Lin) ⟨zE,rfl,trivial⟩) rfl<|rLz [(57,_)] rfl gv1 ⟨rfl,rfl,trivial⟩ (fun g9_2 => qT rfl rfl) rfl<|zA rfl (qK rfl rfl rfl (fun h => h) rfl)<|rMv rfl<|zB<|zH rfl (fun c4 => ?_) (fun c4 => ?_)
    ·refine sReg rfl<|rMv rfl<|zB<|zI<|zQ rfl ?_
     exact congrArg vB (by simp only [synOk,c4,Bool.not_true,Bool.not_false,Bool.true_and,Bool.and_true,Bool.false_and,Bool.and_false])
    ·refine sReg rfl<|rMv rfl<|zA rfl (qT rfl rfl)<|rMv rfl<|rLz [] rfl gv1 trivial (fun g11_2 => zC rfl zCs rfl) rfl<|rLz [(64,_)] rfl gv1 ⟨rfl,rfl,trivial⟩ (fun g11_2 => zD rfl one9 rfl (zF 0 rfl) rfl) rfl<|rLz [(65,_)] rfl gv1 ⟨rfl,rfl,trivial⟩ (fun g11_2 => zCd rfl rfl rfl) rfl<|rLz [(66,_)] rfl gv1 ⟨rfl,rfl,trivial⟩ (fun g11_2 => zN rfl rfl) rfl<|rLz [] rfl gv2 trivial (fun g11_6 => zC rfl kE rfl) rfl<|rLz [(68,_)] rfl gv2 ⟨rfl,rfl,trivial⟩ (fun g11_6 => zD rfl kM rfl (zF 0 rfl) rfl) rfl<|rLz [(69,_)] rfl gv2 ⟨rfl,rfl,trivial⟩ (fun g11_6 => zR rfl el44 rfl) rfl<|rLz [(70,_)] rfl gv2 ⟨rfl,rfl,trivial⟩ (fun g11_6 => yA rfl rfl rfl) rfl<|rLz [(67,_)] rfl gv1 ⟨rfl,rfl,trivial⟩ (fun g11_2 => yB rfl rfl rfl rfl (fun h => yV (by assumption) (lzf h))) rfl<|zA rfl (qK rfl rfl rfl (fun h => h) rfl)<|rMv rfl<|zB<|zH rfl (fun c5 => ?_) (fun c5 => ?_)
     ·refine sReg rfl<|rMv rfl<|zB<|zI<|zQ rfl ?_
      exact congrArg vB (by simp only [synOk,c5,Bool.not_true,Bool.not_false,Bool.true_and,Bool.and_true,Bool.false_and,Bool.and_false])
     ·refine zJ<|sReg rfl<|zA rfl (zC rfl kE rfl)<|zA rfl (zD rfl kM rfl (zF 0 rfl) rfl)<|zA rfl (zP rfl ok284 (wS e.Idx _ (fun x => !wellIx x) hI (fun x _ => FnPur.of_pur (first := []) (cap := []) ok285 (expr_syntax_1 x))) ⟨zE,rfl,zE,rfl,trivial⟩)<|zA rfl (qT rfl rfl)<|rMv rfl<|zB<|zI<|zQ rfl ?_
      exact congrArg vB (by rw [zGj]; simp only [synOk,c1,c2,c3,c4,c5,Bool.not_true,Bool.not_false,Bool.true_and,Bool.and_true,Bool.false_and,Bool.and_false])
theorem expr_names (e : Ex) (he : e.wt ≤ 6000000000000) :
    Pur cfg 261 [vE e] (vB (namesE e)):= by
 refine zV Tryz.func261 rfl Tryz.ntmps261 Tryz.results261 rfl ?_
 intro z hz
 obtain ⟨hL,hI,hA⟩ := e.parts he
 refine sReg rfl<|qA rfl rfl (qL rfl rfl) ?_
 rintro _ _ ⟨b1,rfl,rfl⟩
 refine rMv rfl<|zB<|zK<|sReg rfl<|zA rfl (zC rfl kN rfl)<|zA rfl (zD rfl one3 rfl (zF 0 rfl) rfl)<|zA rfl (qF rfl rfl rfl)<|rMv rfl<|rLz [] rfl gv1 trivial (fun g1_3 => zC rfl zCs rfl) rfl<|rLz [(7,_)] rfl gv1 ⟨rfl,rfl,trivial⟩ (fun g1_3 => zD rfl one9 rfl (zF 0 rfl) rfl) rfl<|rLz [(8,_)] rfl gv1 ⟨rfl,rfl,trivial⟩ (fun g1_3 => zP rfl ok66 (zDb _) ⟨zE,rfl,trivial⟩) rfl<|rLz [(9,_)] rfl gv1 ⟨rfl,rfl,trivial⟩ (fun g1_3 => qT rfl rfl) rfl<|zA rfl (qK rfl rfl rfl (fun h => h) rfl)<|zB<|zH rfl (fun c1 => ?_) (fun c1 => ?_)
 ·refine sReg rfl<|rMv rfl<|zB<|zI<|zQ rfl ?_
  exact congrArg vB (by simp only [namesE,c1,Bool.not_true,Bool.false_and])
 ·refine zJ<|sReg rfl<|zA rfl (zC rfl kE rfl)<|zA rfl (zD rfl kM rfl (zF 0 rfl) rfl)<|zA rfl (zP rfl ok284 (wS e.Idx _ (fun x => !nmIx x) hI (fun x _ => FnPur.of_pur (first := []) (cap := []) ok287 (expr_names_1 x))) ⟨zE,rfl,zE,rfl,trivial⟩)<|zA rfl (qT rfl rfl)<|rMv rfl<|zB<|zI<|zQ rfl ?_
  exact congrArg vB (by rw [zGj]; simp only [namesE,c1,Bool.not_false,Bool.true_and])
theorem expr_rank (e : Ex) (he : e.wt ≤ 6000000000000) :
    Pur cfg 262 [vE e] (vB (rankE e)):= by
 refine zV Tryz.func262 rfl Tryz.ntmps262 Tryz.results262 rfl ?_
 intro z hz
 obtain ⟨hL,hI,hA⟩ := e.parts he
 refine sReg rfl<|qA rfl rfl (qL rfl rfl) ?_
 rintro _ _ ⟨b1,rfl,rfl⟩
 refine rMv rfl<|zB<|zK<|zK<|yC 13 mixed (by kernel_rfl) rfl rfl<|zM rfl rfl (zC rfl kW rfl)<|zM rfl rfl (zD rfl zAt rfl (zF 0 rfl) rfl)<|zM rfl rfl (zR rfl el50 rfl)<|zM rfl rfl (zC rfl kN rfl)<|zM rfl rfl (zD rfl one3 rfl (zF 0 rfl) rfl)<|zM rfl rfl (zP rfl ok288 (expr_operands _) ⟨zE,rfl,trivial⟩)<|zM rfl rfl (qR rfl rfl rfl)<|zM rfl rfl (zN rfl rfl)<|qJ [] rfl rfl rfl rfl gv1 trivial (fun g1_7 => zC rfl kE rfl) rfl<|qJ [(11,_)] rfl rfl rfl rfl gv1 ⟨rfl,rfl,trivial⟩ (fun g1_7 => zD rfl kM rfl (zF 0 rfl) rfl) rfl<|qJ [(12,_)] rfl rfl rfl rfl gv1 ⟨rfl,rfl,trivial⟩ (fun g1_7 => zR rfl el44 rfl) rfl<|qJ [(13,_)] rfl rfl rfl rfl gv1 ⟨rfl,rfl,trivial⟩ (fun g1_7 => yA rfl rfl rfl) rfl<|zM rfl rfl (yB rfl rfl rfl rfl (fun h => (lzf h)))<|kA<|zB<|zH rfl (fun c1 => ?_) (fun c1 => ?_)
 ·refine sReg rfl<|rMv rfl<|zB<|zI<|zQ rfl ?_
  exact congrArg vB (by simp only [rankE,c1,Bool.not_true,Bool.false_and])
 ·refine zJ<|sReg rfl<|zA rfl (zC rfl kE rfl)<|zA rfl (zD rfl kM rfl (zF 0 rfl) rfl)<|zA rfl (zP rfl ok284 (wS e.Idx _ (fun x => !rkIx x) hI (fun x _ => FnPur.of_pur (first := []) (cap := []) ok289 (expr_rank_1 x))) ⟨zE,rfl,zE,rfl,trivial⟩)<|zA rfl (qT rfl rfl)<|rMv rfl<|zB<|zI<|zQ rfl ?_
  exact congrArg vB (by rw [zGj]; simp only [rankE,c1,Bool.not_false,Bool.true_and])
theorem expr_types (e : Ex) (he : e.wt ≤ 6000000000000) :
    Pur cfg 263 [vE e] (vB (typesE e)):= by
 refine zV Tryz.func263 rfl Tryz.ntmps263 Tryz.results263 rfl ?_
 intro z hz
 obtain ⟨hL,hI,hA⟩ := e.parts he
 refine sReg rfl<|qA rfl rfl (qL rfl rfl) ?_
 rintro _ _ ⟨b1,rfl,rfl⟩
 refine rMv rfl<|zB<|zK<|sReg rfl<|zA rfl (zC rfl kN rfl)<|zA rfl (zD rfl one3 rfl (zF 0 rfl) rfl)<|zA rfl (qF rfl rfl rfl)<|rMv rfl<|rLz [] rfl gv1 trivial (fun g1_3 => zC rfl kN rfl) rfl<|rLz [(9,_)] rfl gv1 ⟨rfl,rfl,trivial⟩ (fun g1_3 => zD rfl one3 rfl (zF 0 rfl) rfl) rfl<|rLz [(10,_)] rfl gv1 ⟨rfl,rfl,trivial⟩ (fun g1_3 => qF rfl rfl rfl) rfl<|zA rfl (yB rfl rfl rfl rfl (fun h => (lzf h)))<|rMv rfl<|rLz [] rfl gv1 trivial (fun g1_8 => zC rfl zCr rfl) rfl<|rLz [(14,_)] rfl gv1 ⟨rfl,rfl,trivial⟩ (fun g1_8 => zG rfl yH rfl (zF 0 rfl) rfl) rfl<|rLz [(15,_)] rfl gv1 ⟨rfl,rfl,trivial⟩ (fun g1_8 => zP rfl ok123 (zBh _) ⟨zE,rfl,trivial⟩) rfl<|rLz [(16,_)] rfl gv1 ⟨rfl,rfl,trivial⟩ (fun g1_8 => qR rfl rfl rfl) rfl<|zA rfl (qK rfl rfl rfl (fun h => h) rfl)<|zB<|zH rfl (fun c1 => ?_) (fun c1 => ?_)
 ·rw [tyErr_dec] at c1
  refine sReg rfl<|rMv rfl<|zB<|zI<|zQ rfl ?_
  exact congrArg vB (by simp only [typesE,c1,Bool.not_true,Bool.false_and])
 ·rw [tyErr_dec] at c1
  refine zJ<|zK<|sReg rfl<|zA rfl (zC rfl kW rfl)<|zA rfl (zD rfl zAt rfl (zF 0 rfl) rfl)<|zA rfl (zR rfl el50 rfl)<|rMv rfl<|zB<|zS<|zY ⟨[(22,.c _),(1,.c _),(20,.c _),(21,.c _)],[_]⟩ (Weak.mk [true] ⟨zE,zE,zE,zE,trivial⟩ rfl)<|qI 1 0 rfl rfl (Nat) (fun k => [(22,vI k)]) (fun k => []) (fun k => k ≤ e.Args.length ∧ (condsOk e.Op 0 e.Args = condsOk e.Op k (e.Args.drop k))) (fun k => e.Args.length - k) ⟨0,⟨by omega,rfl⟩,Weak.mk [true] ⟨zE,zE,zE,zE,trivial⟩ rfl⟩ ?_
  rintro k ⟨hk,hp⟩
  refine sReg rfl<|zA rfl (qM rfl rfl rfl)<|zB<|zK<|zH rfl (fun c2 => ?_) (fun c2 => ?_)
  ·try simp only [sx] at c2
   obtain ⟨a,ha⟩ := qX e.Args k (by omega)
   refine zJ<|zK<|zS<|sReg rfl<|rMv rfl<|zA rfl (zO rfl el50 rfl rfl (by omega) (zEy (by assumption)))<|zA rfl (zG rfl yS rfl qC rfl)<|qA rfl rfl (qO [none,none,none,none,none,none,none,none,none,none,some 2,some 4,some 13] rfl zr52 rfl) ?_
   rintro _ _ ⟨b2,rfl,rfl⟩
   refine rMv rfl<|zX rfl rfl (zT rfl sz52 rfl rfl rfl (qH 0 rfl rfl))<|zB<|zK<|yC 7 mixed (by kernel_rfl) rfl rfl<|zM rfl rfl (zG rfl yS rfl (zF 0 rfl) rfl)<|zM rfl rfl (zP rfl ok164 (kJ a) ⟨zE,rfl,trivial⟩)<|zM rfl rfl (zC rfl kN rfl)<|zM rfl rfl (zD rfl one3 rfl (zF 1 rfl) rfl)<|zM rfl rfl (zN rfl rfl)<|zM rfl rfl (zP rfl ok290 (zFt _ _) ⟨zE,rfl,zE,rfl,trivial⟩)<|zM rfl rfl (det_bneq rfl un4 rfl rfl)<|kA<|zB<|zH rfl (fun c3 => ?_) (fun c3 => ?_)
   ·refine sReg rfl<|rMv rfl<|zB<|zI<|zQ rfl ?_
    exact congrArg vB (by simp only [typesE,c1,Bool.not_false,Bool.true_and]; rw [hp,qS ha,condsOk,show (isCond a == wantC e.Op k) = false by simpa using c3,Bool.false_and])
   ·refine zJ<|zU rfl<|zA rfl (qB rfl rfl rfl ⟨by omega,by omega⟩)<|rMv rfl<|zB ?_
    refine ⟨k + 1,⟨by omega,(by rw [hp,qS ha,condsOk,show (isCond a == wantC e.Op k) = true by simpa using c3,Bool.true_and]; rfl)⟩,(by omega),Weak.mk [false,true] ⟨zE,zE,zE,zE,trivial⟩ rfl⟩
  ·try simp only [sx] at c2
   refine qN<|sReg rfl<|rMv rfl<|zB<|zI<|zQ rfl ?_
   exact congrArg vB (by simp only [typesE,c1,Bool.not_false,Bool.true_and]; rw [hp,yT (by omega)]; rfl)
theorem ref14_typed (e : Ex) (he : e.wt ≤ 6000000000000) :
    Pur cfg 256 [vE e] (vB (typesE e)):= by
 refine zV Tryz.func256 rfl Tryz.ntmps256 Tryz.results256 rfl ?_
 intro z hz
 obtain ⟨hL,hI,hA⟩ := e.parts he
 refine sReg rfl<|qA rfl rfl (qL rfl rfl) ?_
 rintro _ _ ⟨b1,rfl,rfl⟩
 refine rMv rfl<|zB<|zK<|sReg rfl<|zA rfl (zC rfl kN rfl)<|zA rfl (zD rfl one3 rfl (zF 0 rfl) rfl)<|zA rfl (qF rfl rfl rfl)<|rMv rfl<|rLz [] rfl gv1 trivial (fun g1_3 => zC rfl kN rfl) rfl<|rLz [(8,_)] rfl gv1 ⟨rfl,rfl,trivial⟩ (fun g1_3 => zD rfl one3 rfl (zF 0 rfl) rfl) rfl<|rLz [(9,_)] rfl gv1 ⟨rfl,rfl,trivial⟩ (fun g1_3 => qF rfl rfl rfl) rfl<|zA rfl (yB rfl rfl rfl rfl (fun h => (lzf h)))<|rMv rfl<|rLz [] rfl gv1 trivial (fun g1_8 => zC rfl zCr rfl) rfl<|rLz [(13,_)] rfl gv1 ⟨rfl,rfl,trivial⟩ (fun g1_8 => zG rfl yH rfl (zF 0 rfl) rfl) rfl<|rLz [(14,_)] rfl gv1 ⟨rfl,rfl,trivial⟩ (fun g1_8 => zP rfl ok113 (base_Type _) ⟨zE,rfl,trivial⟩) rfl<|rLz [(15,_)] rfl gv1 ⟨rfl,rfl,trivial⟩ (fun g1_8 => qT rfl rfl) rfl<|zA rfl (qK rfl rfl rfl (fun h => h) rfl)<|zB<|zH rfl (fun c1 => ?_) (fun c1 => ?_)
 ·refine sReg rfl<|rMv rfl<|zB<|zI<|zQ rfl ?_
  exact congrArg vB (by simp only [typesE,c1,Bool.not_true,Bool.false_and])
 ·refine zJ<|zK<|sReg rfl<|rMv rfl<|zB<|zS<|zY ⟨[(3,.c _),(1,.c _)],[_]⟩ (Weak.mk [true] ⟨zE,zE,trivial⟩ rfl)<|qI 1 0 rfl rfl (Nat) (fun k => [(3,vI k)]) (fun k => []) (fun k => k ≤ e.Args.length ∧ (condsOk e.Op 0 e.Args = condsOk e.Op k (e.Args.drop k))) (fun k => e.Args.length - k) ⟨0,⟨by omega,rfl⟩,Weak.mk [true] ⟨zE,zE,trivial⟩ rfl⟩ ?_
  rintro k ⟨hk,hp⟩
  refine zK<|sReg rfl<|rMv rfl<|zA rfl (zC rfl kW rfl)<|zA rfl (zD rfl zAt rfl (zF 0 rfl) rfl)<|zA rfl (zR rfl el50 rfl)<|zA rfl (qM rfl rfl rfl)<|zB<|zH rfl (fun c2 => ?_) (fun c2 => ?_)
  ·try simp only [sx] at c2
   obtain ⟨a,ha⟩ := qX e.Args k (by omega)
   refine zJ<|zK<|zS<|zK<|yC 11 mixed (by kernel_rfl) rfl rfl<|zM rfl rfl (zC rfl kW rfl)<|zM rfl rfl (zD rfl zAt rfl (zF 0 rfl) rfl)<|zM rfl rfl (zN rfl rfl)<|zM rfl rfl (zO rfl el50 rfl rfl (by omega) (zEy (by assumption)))<|zM rfl rfl (zG rfl yS rfl qC rfl)<|zM rfl rfl (zP rfl ok153 (kF a) ⟨zE,rfl,trivial⟩)<|zM rfl rfl (zC rfl kN rfl)<|zM rfl rfl (zD rfl one3 rfl (zF 0 rfl) rfl)<|zM rfl rfl (zN rfl rfl)<|zM rfl rfl (zP rfl ok279 (ref14_wants _ _) ⟨zE,rfl,zE,rfl,trivial⟩)<|zM rfl rfl (det_bneq rfl un4 rfl rfl)<|kA<|zB<|zH rfl (fun c3 => ?_) (fun c3 => ?_)
   ·refine sReg rfl<|rMv rfl<|zB<|zI<|zQ rfl ?_
    exact congrArg vB (by simp only [typesE,c1,Bool.not_false,Bool.true_and]; rw [hp,qS ha,condsOk,show (isCond a == wantC e.Op k) = false by simpa using c3,Bool.false_and])
   ·refine zJ<|zU rfl<|rMv rfl<|zA rfl (qB rfl rfl rfl ⟨by omega,by omega⟩)<|rMv rfl<|zB ?_
    refine ⟨k + 1,⟨by omega,(by rw [hp,qS ha,condsOk,show (isCond a == wantC e.Op k) = true by simpa using c3,Bool.true_and]; rfl)⟩,(by omega),Weak.mk [true] ⟨zE,zE,trivial⟩ rfl⟩
  ·try simp only [sx] at c2
   refine qN<|sReg rfl<|rMv rfl<|zB<|zI<|zQ rfl ?_
   exact congrArg vB (by simp only [typesE,c1,Bool.not_false,Bool.true_and]; rw [hp,yT (by omega)]; rfl)
theorem ref14_plain (e : Ex) (he : e.wt ≤ 6000000000000) :
    Pur cfg 253 [vE e] (vB (synOk e)):= by
 refine zV Tryz.func253 rfl Tryz.ntmps253 Tryz.results253 rfl ?_
 intro z hz
 obtain ⟨hL,hI,hA⟩ := e.parts he
 refine sReg rfl<|qA rfl rfl (qL rfl rfl) ?_
 rintro _ _ ⟨b1,rfl,rfl⟩
 refine rMv rfl<|zB<|zK<|sReg rfl<|zA rfl (zC rfl kN rfl)<|zA rfl (zD rfl one3 rfl (zF 0 rfl) rfl)<|zA rfl (qM rfl rfl rfl)<|rMv rfl<|rLz [] rfl gv1 trivial (fun g1_3 => zC rfl kN rfl) rfl<|rLz [(9,_)] rfl gv1 ⟨rfl,rfl,trivial⟩ (fun g1_3 => zD rfl one3 rfl (zF 0 rfl) rfl) rfl<|rLz [(10,_)] rfl gv1 ⟨rfl,rfl,trivial⟩ (fun g1_3 => yA rfl rfl rfl) rfl<|zA rfl (yB rfl rfl rfl rfl (fun h => (lzf h)))<|zB<|zH rfl (fun c1 => ?_) (fun c1 => ?_)
 ·refine sReg rfl<|rMv rfl<|zB<|zI<|zQ rfl ?_
  exact congrArg vB (by simp only [synOk,c1,Bool.not_true,Bool.false_and])
 ·refine zJ<|zK<|sReg rfl<|zA rfl (zC rfl kN rfl)<|zA rfl (zD rfl one3 rfl (zF 0 rfl) rfl)<|zA rfl (qR rfl rfl rfl)<|rMv rfl<|rLz [] rfl gv1 trivial (fun g3_3 => zC rfl zGz rfl) rfl<|rLz [(17,_)] rfl gv1 ⟨rfl,rfl,trivial⟩ (fun g3_3 => zG rfl agg46 rfl (zF 0 rfl) rfl) rfl<|rLz [] rfl gv1 trivial (fun g3_3 => qV rfl zr46 pl46 rfl) rfl<|rLz [(18,_),(19,_)] rfl gv1 ⟨rfl,rfl,rfl,rfl,trivial⟩ (fun g3_3 => wV rfl fl46 rfl rfl rfl) rfl<|zA rfl (qK rfl rfl rfl (fun h => h) rfl)<|rMv rfl<|rLz [] rfl gv1 trivial (fun g3_9 => zC rfl kN rfl) rfl<|rLz [(23,_)] rfl gv1 ⟨rfl,rfl,trivial⟩ (fun g3_9 => zD rfl one3 rfl (zF 0 rfl) rfl) rfl<|rLz [(24,_)] rfl gv1 ⟨rfl,rfl,trivial⟩ (fun g3_9 => qR rfl rfl rfl) rfl<|rLz [(25,_)] rfl gv1 ⟨rfl,rfl,trivial⟩ (fun g3_9 => zN rfl rfl) rfl<|rLz [] rfl gv2 trivial (fun g3_13 => zC rfl kN rfl) rfl<|rLz [(27,_)] rfl gv2 ⟨rfl,rfl,trivial⟩ (fun g3_13 => zD rfl one3 rfl (zF 0 rfl) rfl) rfl<|rLz [(28,_)] rfl gv2 ⟨rfl,rfl,trivial⟩ (fun g3_13 => qR rfl rfl rfl) rfl<|rLz [(26,_)] rfl gv1 ⟨rfl,rfl,trivial⟩ (fun g3_9 => qK rfl rfl rfl (fun h => yV (by assumption) h) rfl) rfl<|rLz [(30,_)] rfl gv1 ⟨rfl,rfl,trivial⟩ (fun g3_9 => zN rfl rfl) rfl<|rLz [] rfl gv2 trivial (fun g3_18 => zC rfl zCr rfl) rfl<|rLz [(32,_)] rfl gv2 ⟨rfl,rfl,trivial⟩ (fun g3_18 => zG rfl yH rfl (zF 0 rfl) rfl) rfl<|rLz [] rfl gv2 trivial (fun g3_18 => qV rfl zr40 pl40 rfl) rfl<|rLz [(33,_),(34,_)] rfl gv2 ⟨rfl,rfl,rfl,rfl,trivial⟩ (fun g3_18 => wV rfl fl40 rfl rfl rfl) rfl<|rLz [(31,_)] rfl gv1 ⟨rfl,rfl,trivial⟩ (fun g3_9 => qK rfl rfl rfl (fun h => yV (by assumption) h) rfl) rfl<|zA rfl (yB rfl rfl rfl rfl (fun h => (lzf h)))<|zB<|zH rfl (fun c2 => ?_) (fun c2 => ?_)
  ·have h2 := plain2 (e := e) c2
   refine sReg rfl<|rMv rfl<|zB<|zI<|zQ rfl ?_
   exact congrArg vB (syn2 h2)
  ·have h2 := plain2 (e := e) c2
   refine zJ<|zK<|sReg rfl<|zA rfl (zC rfl kN rfl)<|zA rfl (zD rfl one3 rfl (zF 0 rfl) rfl)<|zA rfl (qR rfl rfl rfl)<|rMv rfl<|rLz [] rfl gv1 trivial (fun g5_3 => zC rfl zCq rfl) rfl<|rLz [(42,_)] rfl gv1 ⟨rfl,rfl,trivial⟩ (fun g5_3 => zC rfl zDc rfl) rfl<|rLz [(43,_)] rfl gv1 ⟨rfl,rfl,trivial⟩ (fun g5_3 => zD rfl one2 rfl (zF 0 rfl) rfl) rfl<|rLz [(44,_)] rfl gv1 ⟨rfl,rfl,trivial⟩ (fun g5_3 => qR rfl rfl rfl) rfl<|rLz [(45,_)] rfl gv1 ⟨rfl,rfl,trivial⟩ (fun g5_3 => zN rfl rfl) rfl<|rLz [] rfl gv2 trivial (fun g5_8 => zC rfl zCq rfl) rfl<|rLz [(47,_)] rfl gv2 ⟨rfl,rfl,trivial⟩ (fun g5_8 => zC rfl kO rfl) rfl<|rLz [(48,_)] rfl gv2 ⟨rfl,rfl,trivial⟩ (fun g5_8 => zD rfl wZ rfl (zF 0 rfl) rfl) rfl<|rLz [(49,_)] rfl gv2 ⟨rfl,rfl,trivial⟩ (fun g5_8 => zR rfl el47 rfl) rfl<|rLz [(50,_)] rfl gv2 ⟨rfl,rfl,trivial⟩ (fun g5_8 => yA rfl rfl rfl) rfl<|rLz [(46,_)] rfl gv1 ⟨rfl,rfl,trivial⟩ (fun g5_3 => yB rfl rfl rfl rfl (fun h => yV (by assumption) (lzf h))) rfl<|zA rfl (qK rfl rfl rfl (fun h => h) rfl)<|rMv rfl<|rLz [] rfl gv1 trivial (fun g5_16 => zC rfl kN rfl) rfl<|rLz [(55,_)] rfl gv1 ⟨rfl,rfl,trivial⟩ (fun g5_16 => zD rfl one3 rfl (zF 0 rfl) rfl) rfl<|rLz [(56,_)] rfl gv1 ⟨rfl,rfl,trivial⟩ (fun g5_16 => qR rfl rfl rfl) rfl<|rLz [(57,_)] rfl gv1 ⟨rfl,rfl,trivial⟩ (fun g5_16 => zN rfl rfl) rfl<|rLz [] rfl gv2 trivial (fun g5_20 => zC rfl zCs rfl) rfl<|rLz [(59,_)] rfl gv2 ⟨rfl,rfl,trivial⟩ (fun g5_20 => zD rfl one9 rfl (zF 0 rfl) rfl) rfl<|rLz [(60,_)] rfl gv2 ⟨rfl,rfl,trivial⟩ (fun g5_20 => zCd rfl rfl rfl) rfl<|rLz [(61,_)] rfl gv2 ⟨rfl,rfl,trivial⟩ (fun g5_20 => zN rfl rfl) rfl<|rLz [] rfl gv2 trivial (fun g5_24 => zC rfl kE rfl) rfl<|rLz [(63,_)] rfl gv2 ⟨rfl,rfl,trivial⟩ (fun g5_24 => zD rfl kM rfl (zF 0 rfl) rfl) rfl<|rLz [(64,_)] rfl gv2 ⟨rfl,rfl,trivial⟩ (fun g5_24 => zR rfl el44 rfl) rfl<|rLz [(65,_)] rfl gv2 ⟨rfl,rfl,trivial⟩ (fun g5_24 => yA rfl rfl rfl) rfl<|rLz [(62,_)] rfl gv2 ⟨rfl,rfl,trivial⟩ (fun g5_20 => yB rfl rfl rfl rfl (fun h => yV (by assumption) (lzf h))) rfl<|rLz [(58,_)] rfl gv1 ⟨rfl,rfl,trivial⟩ (fun g5_16 => qK rfl rfl rfl (fun h => yV (by assumption) h) rfl) rfl<|zA rfl (yB rfl rfl rfl rfl (fun h => (lzf h)))<|zB<|zH rfl (fun c3 => ?_) (fun c3 => ?_)
   ·have h3 := plain3 (e := e) c3
    refine sReg rfl<|rMv rfl<|zB<|zI<|zQ rfl ?_
    exact congrArg vB (syn3 h3)
   ·have h3 := plain3 (e := e) c3
    refine zJ<|zK<|sReg rfl<|rMv rfl<|zB<|zS<|zY ⟨[(3,.c _),(1,.c _)],[_]⟩ (Weak.mk [true] ⟨zE,zE,trivial⟩ rfl)<|qI 1 0 rfl rfl (Nat) (fun k => [(3,vI k)]) (fun k => []) (fun k => k ≤ e.Idx.length ∧ (e.Idx.all wellIx = (e.Idx.drop k).all wellIx)) (fun k => e.Idx.length - k) ⟨0,⟨by omega,rfl⟩,Weak.mk [true] ⟨zE,zE,trivial⟩ rfl⟩ ?_
    rintro k ⟨hk,hp⟩
    refine zK<|sReg rfl<|rMv rfl<|zA rfl (zC rfl kE rfl)<|zA rfl (zD rfl kM rfl (zF 0 rfl) rfl)<|zA rfl (zR rfl el44 rfl)<|zA rfl (qM rfl rfl rfl)<|zB<|zH rfl (fun c4 => ?_) (fun c4 => ?_)
    ·try simp only [sx] at c4
     obtain ⟨x,hx⟩ := qX e.Idx k (by omega)
     refine zJ<|zK<|zS<|sReg rfl<|zA rfl (zC rfl kE rfl)<|zA rfl (zD rfl kM rfl (zF 0 rfl) rfl)<|rMv rfl<|zA rfl (zO rfl el44 rfl rfl (by omega) (getm (by assumption)))<|zA rfl (zG rfl zCv rfl qC rfl)<|qA rfl rfl (qO [none,some 2,none,some 2] rfl zJe rfl) ?_
     rintro _ _ ⟨b2,rfl,rfl⟩
     refine zX rfl rfl (zT rfl sz114 rfl rfl rfl (qH 0 rfl rfl))<|zB<|sReg rfl<|zA rfl (zC rfl zAr rfl)<|zA rfl (zD rfl one9 rfl (zF 0 rfl) rfl)<|zA rfl (yP rfl rfl rfl)<|rMv rfl<|rLz [] rfl gv1 trivial (fun g11_3 => zC rfl kH rfl) rfl<|rLz [(86,_)] rfl gv1 ⟨rfl,rfl,trivial⟩ (fun g11_3 => zD rfl wJ rfl (zF 0 rfl) rfl) rfl<|rLz [(87,_)] rfl gv1 ⟨rfl,rfl,trivial⟩ (fun g11_3 => zR rfl wE rfl) rfl<|rLz [(88,_)] rfl gv1 ⟨rfl,rfl,trivial⟩ (fun g11_3 => yA rfl rfl rfl) rfl<|zA rfl (qK rfl rfl rfl (fun h => h) rfl)<|rMv rfl<|rLz [] rfl gv1 trivial (fun g11_9 => zC rfl zAr rfl) rfl<|rLz [(92,_)] rfl gv1 ⟨rfl,rfl,trivial⟩ (fun g11_9 => zD rfl one9 rfl (zF 0 rfl) rfl) rfl<|rLz [(93,_)] rfl gv1 ⟨rfl,rfl,trivial⟩ (fun g11_9 => zCd rfl rfl rfl) rfl<|rLz [(94,_)] rfl gv1 ⟨rfl,rfl,trivial⟩ (fun g11_9 => zN rfl rfl) rfl<|rLz [] rfl gv2 trivial (fun g11_13 => zC rfl zAd rfl) rfl<|rLz [(96,_)] rfl gv2 ⟨rfl,rfl,trivial⟩ (fun g11_13 => zC rfl zDc rfl) rfl<|rLz [(97,_)] rfl gv2 ⟨rfl,rfl,trivial⟩ (fun g11_13 => zD rfl one2 rfl (zF 0 rfl) rfl) rfl<|rLz [(98,_)] rfl gv2 ⟨rfl,rfl,trivial⟩ (fun g11_13 => qR rfl rfl rfl) rfl<|rLz [(99,_)] rfl gv2 ⟨rfl,rfl,trivial⟩ (fun g11_13 => zN rfl rfl) rfl<|rLz [] rfl gv2 trivial (fun g11_18 => zC rfl zAd rfl) rfl<|rLz [(101,_)] rfl gv2 ⟨rfl,rfl,trivial⟩ (fun g11_18 => zC rfl kO rfl) rfl<|rLz [(102,_)] rfl gv2 ⟨rfl,rfl,trivial⟩ (fun g11_18 => zD rfl wZ rfl (zF 0 rfl) rfl) rfl<|rLz [(103,_)] rfl gv2 ⟨rfl,rfl,trivial⟩ (fun g11_18 => zR rfl el47 rfl) rfl<|rLz [(104,_)] rfl gv2 ⟨rfl,rfl,trivial⟩ (fun g11_18 => yA rfl rfl rfl) rfl<|rLz [(100,_)] rfl gv2 ⟨rfl,rfl,trivial⟩ (fun g11_13 => yB rfl rfl rfl rfl (fun h => yV (by assumption) (lzf h))) rfl<|rLz [(95,_)] rfl gv1 ⟨rfl,rfl,trivial⟩ (fun g11_9 => qK rfl rfl rfl (fun h => yV (by assumption) h) rfl) rfl<|zA rfl (yB rfl rfl rfl rfl (fun h => (lzf h)))<|zB<|zH rfl (fun c5 => ?_) (fun c5 => ?_)
     ·have h5 := well_dec (x := x) c5
      refine sReg rfl<|rMv rfl<|zB<|zI<|zQ rfl ?_
      exact congrArg vB (by rw [synOk,zIk hx (p := wellIx) (by simpa using h5)]; simp)
     ·have h5 := well_dec (x := x) c5
      refine zJ<|zU rfl<|rMv rfl<|zA rfl (qB rfl rfl rfl ⟨by omega,by omega⟩)<|rMv rfl<|zB ?_
      refine ⟨k + 1,⟨by omega,zOm hx hp (by simpa using h5)⟩,(by omega),Weak.mk [false,true] ⟨zE,zE,trivial⟩ rfl⟩
    ·try simp only [sx] at c4
     refine qN<|sReg rfl<|rMv rfl<|zB<|zI<|zQ rfl ?_
     exact congrArg vB (syn5 c1 h2 h3 (all_end hp (by omega)))
theorem ref14_named (e : Ex) (he : e.wt ≤ 6000000000000) :
    Pur cfg 254 [vE e] (vB (namesE e)):= by
 refine zV Tryz.func254 rfl Tryz.ntmps254 Tryz.results254 rfl ?_
 intro z hz
 obtain ⟨hL,hI,hA⟩ := e.parts he
 refine sReg rfl<|qA rfl rfl (qL rfl rfl) ?_
 rintro _ _ ⟨b1,rfl,rfl⟩
 refine rMv rfl<|zB<|zK<|sReg rfl<|zA rfl (zC rfl kN rfl)<|zA rfl (zD rfl one3 rfl (zF 0 rfl) rfl)<|zA rfl (qF rfl rfl rfl)<|rMv rfl<|rLz [] rfl gv1 trivial (fun g1_3 => zC rfl zCs rfl) rfl<|rLz [(8,_)] rfl gv1 ⟨rfl,rfl,trivial⟩ (fun g1_3 => zD rfl one9 rfl (zF 0 rfl) rfl) rfl<|rLz [(9,_)] rfl gv1 ⟨rfl,rfl,trivial⟩ (fun g1_3 => zP rfl ok50 (zEa _) ⟨zE,rfl,trivial⟩) rfl<|rLz [(10,_)] rfl gv1 ⟨rfl,rfl,trivial⟩ (fun g1_3 => qT rfl rfl) rfl<|zA rfl (qK rfl rfl rfl (fun h => h) rfl)<|zB<|zH rfl (fun c1 => ?_) (fun c1 => ?_)
 ·refine sReg rfl<|rMv rfl<|zB<|zI<|zQ rfl ?_
  exact congrArg vB (by simp only [namesE,c1,Bool.not_true,Bool.false_and])
 ·refine zJ<|zK<|sReg rfl<|rMv rfl<|zB<|zS<|zY ⟨[(3,.c _),(1,.c _)],[_]⟩ (Weak.mk [true] ⟨zE,zE,trivial⟩ rfl)<|qI 1 0 rfl rfl (Nat) (fun k => [(3,vI k)]) (fun k => []) (fun k => k ≤ e.Idx.length ∧ (e.Idx.all nmIx = (e.Idx.drop k).all nmIx)) (fun k => e.Idx.length - k) ⟨0,⟨by omega,rfl⟩,Weak.mk [true] ⟨zE,zE,trivial⟩ rfl⟩ ?_
  rintro k ⟨hk,hp⟩
  refine zK<|sReg rfl<|rMv rfl<|zA rfl (zC rfl kE rfl)<|zA rfl (zD rfl kM rfl (zF 0 rfl) rfl)<|zA rfl (zR rfl el44 rfl)<|zA rfl (qM rfl rfl rfl)<|zB<|zH rfl (fun c2 => ?_) (fun c2 => ?_)
  ·try simp only [sx] at c2
   obtain ⟨x,hx⟩ := qX e.Idx k (by omega)
   refine zJ<|zK<|zS<|sReg rfl<|zA rfl (zC rfl kE rfl)<|zA rfl (zD rfl kM rfl (zF 0 rfl) rfl)<|rMv rfl<|zA rfl (zO rfl el44 rfl rfl (by omega) (getm (by assumption)))<|zA rfl (zZ rfl zAr rfl)<|zA rfl (zD rfl one9 rfl qC rfl)<|zA rfl (zCd rfl rfl rfl)<|rMv rfl<|rLz [] rfl gv1 trivial (fun g6_7 => zC rfl kE rfl) rfl<|rLz [(28,_)] rfl gv1 ⟨rfl,rfl,trivial⟩ (fun g6_7 => zD rfl kM rfl (zF 0 rfl) rfl) rfl<|rLz [] rfl gv1 trivial (fun g6_7 => zN rfl rfl) rfl<|rLz [(29,_),(30,_)] rfl gv1 ⟨rfl,rfl,rfl,rfl,trivial⟩ (fun g6_7 => zO rfl el44 rfl rfl (by omega) (getm (by assumption))) rfl<|rLz [(31,_)] rfl gv1 ⟨rfl,rfl,trivial⟩ (fun g6_7 => zZ rfl zAr rfl) rfl<|rLz [(32,_)] rfl gv1 ⟨rfl,rfl,trivial⟩ (fun g6_7 => zD rfl one9 rfl qC rfl) rfl<|rLz [(33,_)] rfl gv1 ⟨rfl,rfl,trivial⟩ (fun g6_7 => zP rfl ok50 (zEa _) ⟨zE,rfl,trivial⟩) rfl<|rLz [(34,_)] rfl gv1 ⟨rfl,rfl,trivial⟩ (fun g6_7 => qT rfl rfl) rfl<|zA rfl (qK rfl rfl rfl (fun h => h) rfl)<|zB<|zH rfl (fun c3 => ?_) (fun c3 => ?_)
   ·refine sReg rfl<|rMv rfl<|zB<|zI<|zQ rfl ?_
    exact congrArg vB (by rw [namesE,zIk hx (p := nmIx) (by unfold nmIx; rw [c3]; rfl)]; simp)
   ·refine zJ<|zU rfl<|rMv rfl<|zA rfl (qB rfl rfl rfl ⟨by omega,by omega⟩)<|rMv rfl<|zB ?_
    refine ⟨k + 1,⟨by omega,zOm hx hp (by unfold nmIx; rw [c3]; rfl)⟩,(by omega),Weak.mk [true] ⟨zE,zE,trivial⟩ rfl⟩
  ·try simp only [sx] at c2
   refine qN<|sReg rfl<|rMv rfl<|zB<|zI<|zQ rfl ?_
   exact congrArg vB (by rw [namesE,c1,all_end hp (by omega)]; rfl)
theorem ref14_ranked (e : Ex) (he : e.wt ≤ 6000000000000) :
    Pur cfg 255 [vE e] (vB (rankE e)):= by
 refine zV Tryz.func255 rfl Tryz.ntmps255 Tryz.results255 rfl ?_
 intro z hz
 obtain ⟨hL,hI,hA⟩ := e.parts he
 refine sReg rfl<|qA rfl rfl (qL rfl rfl) ?_
 rintro _ _ ⟨b1,rfl,rfl⟩
 refine rMv rfl<|zB<|zK<|zK<|yC 13 mixed (by kernel_rfl) rfl rfl<|zM rfl rfl (zC rfl kW rfl)<|zM rfl rfl (zD rfl zAt rfl (zF 0 rfl) rfl)<|zM rfl rfl (zR rfl el50 rfl)<|zM rfl rfl (zC rfl kN rfl)<|zM rfl rfl (zD rfl one3 rfl (zF 0 rfl) rfl)<|zM rfl rfl (zP rfl ok278 (zMk _) ⟨zE,rfl,trivial⟩)<|zM rfl rfl (qR rfl rfl rfl)<|zM rfl rfl (zN rfl rfl)<|qJ [] rfl rfl rfl rfl gv1 trivial (fun g1_7 => zC rfl kE rfl) rfl<|qJ [(12,_)] rfl rfl rfl rfl gv1 ⟨rfl,rfl,trivial⟩ (fun g1_7 => zD rfl kM rfl (zF 0 rfl) rfl) rfl<|qJ [(13,_)] rfl rfl rfl rfl gv1 ⟨rfl,rfl,trivial⟩ (fun g1_7 => zR rfl el44 rfl) rfl<|qJ [(14,_)] rfl rfl rfl rfl gv1 ⟨rfl,rfl,trivial⟩ (fun g1_7 => yA rfl rfl rfl) rfl<|zM rfl rfl (yB rfl rfl rfl rfl (fun h => (lzf h)))<|kA<|zB<|zH rfl (fun c1 => ?_) (fun c1 => ?_)
 ·refine sReg rfl<|rMv rfl<|zB<|zI<|zQ rfl ?_
  exact congrArg vB (by simp only [rankE,c1,Bool.not_true,Bool.false_and])
 ·refine zJ<|zK<|sReg rfl<|rMv rfl<|zB<|zS<|zY ⟨[(3,.c _),(1,.c _)],[_]⟩ (Weak.mk [true] ⟨zE,zE,trivial⟩ rfl)<|qI 1 0 rfl rfl (Nat) (fun k => [(3,vI k)]) (fun k => []) (fun k => k ≤ e.Idx.length ∧ (e.Idx.all rkIx = (e.Idx.drop k).all rkIx)) (fun k => e.Idx.length - k) ⟨0,⟨by omega,rfl⟩,Weak.mk [true] ⟨zE,zE,trivial⟩ rfl⟩ ?_
  rintro k ⟨hk,hp⟩
  refine zK<|sReg rfl<|rMv rfl<|zA rfl (zC rfl kE rfl)<|zA rfl (zD rfl kM rfl (zF 0 rfl) rfl)<|zA rfl (zR rfl el44 rfl)<|zA rfl (qM rfl rfl rfl)<|zB<|zH rfl (fun c2 => ?_) (fun c2 => ?_)
  ·try simp only [sx] at c2
   obtain ⟨x,hx⟩ := qX e.Idx k (by omega)
   refine zJ<|zK<|zS<|sReg rfl<|zA rfl (zC rfl kE rfl)<|zA rfl (zD rfl kM rfl (zF 0 rfl) rfl)<|rMv rfl<|zA rfl (zO rfl el44 rfl rfl (by omega) (getm (by assumption)))<|zA rfl (zZ rfl kH rfl)<|zA rfl (zD rfl wJ rfl qC rfl)<|zA rfl (zR rfl wE rfl)<|zA rfl (yA rfl rfl rfl)<|zB<|zH rfl (fun c3 => ?_) (fun c3 => ?_)
   ·refine sReg rfl<|rMv rfl<|zB<|zI<|zQ rfl ?_
    exact congrArg vB (by rw [rankE,zIk hx (p := rkIx) (by unfold rkIx; rw [c3]; rfl)]; simp)
   ·refine zJ<|zU rfl<|rMv rfl<|zA rfl (qB rfl rfl rfl ⟨by omega,by omega⟩)<|rMv rfl<|zB ?_
    refine ⟨k + 1,⟨by omega,zOm hx hp (by unfold rkIx; rw [c3]; rfl)⟩,(by omega),Weak.mk [true] ⟨zE,zE,trivial⟩ rfl⟩
  ·try simp only [sx] at c2
   refine qN<|sReg rfl<|rMv rfl<|zB<|zI<|zQ rfl ?_
   exact congrArg vB (by rw [rankE,c1,all_end hp (by omega)]; rfl)
theorem ref14_formed (e : Ex) (he : e.wt ≤ 6000000000000) (hty : e.Op = 1 → tyOk e.Ty = true) :
    Pur cfg 257 [vE e] (vB (formOk e)):= by
 refine zV Tryz.func257 rfl Tryz.ntmps257 Tryz.results257 rfl ?_
 intro z hz
 obtain ⟨hL,hI,hA⟩ := e.parts he
 refine sReg rfl<|qA rfl rfl (qL rfl rfl) ?_
 rintro _ _ ⟨b1,rfl,rfl⟩
 refine rMv rfl<|zB<|zK<|sReg rfl<|zA rfl (zC rfl kN rfl)<|zA rfl (zD rfl one3 rfl (zF 0 rfl) rfl)<|zA rfl (qF rfl rfl rfl)<|rMv rfl<|rLz [] rfl gv1 trivial (fun g1_3 => zC rfl zCr rfl) rfl<|rLz [(9,_)] rfl gv1 ⟨rfl,rfl,trivial⟩ (fun g1_3 => zG rfl yH rfl (zF 0 rfl) rfl) rfl<|rLz [] rfl gv1 trivial (fun g1_3 => zC rfl zGz rfl) rfl<|rLz [(11,_)] rfl gv1 ⟨rfl,rfl,trivial⟩ (fun g1_3 => zG rfl agg46 rfl (zF 0 rfl) rfl) rfl<|rLz [(10,_),(12,_)] rfl gv1 ⟨rfl,rfl,rfl,rfl,trivial⟩ (fun g1_3 => zP rfl ok280 (base_Val e.Ty e.Val (hty (by simp only [Lz,cond_true,cond_false,Bool.and_eq_true,Bool.or_eq_true,Bool.not_eq_true',Bool.not_eq_false',Bool.or_eq_false_iff,Bool.and_eq_false_iff,decide_eq_true_eq,decide_eq_false_iff_not,Bool.not_eq_true,Bool.not_eq_false] at g1_3; exact g1_3))) ⟨zE,rfl,zE,rfl,trivial⟩) rfl<|rLz [(13,_)] rfl gv1 ⟨rfl,rfl,trivial⟩ (fun g1_3 => qT rfl rfl) rfl<|zA rfl (qK rfl rfl rfl (fun h => h) rfl)<|rMv rfl<|rLz [] rfl gv1 trivial (fun g1_11 => zC rfl zCq rfl) rfl<|rLz [(17,_)] rfl gv1 ⟨rfl,rfl,trivial⟩ (fun g1_11 => zG rfl kG rfl (zF 0 rfl) rfl) rfl<|rLz [(18,_)] rfl gv1 ⟨rfl,rfl,trivial⟩ (fun g1_11 => zP rfl ok181 (zFg e.Lin hL) ⟨zE,rfl,trivial⟩) rfl<|rLz [(19,_)] rfl gv1 ⟨rfl,rfl,trivial⟩ (fun g1_11 => qT rfl rfl) rfl<|zA rfl (yB rfl rfl rfl rfl (fun h => (lzf h)))<|zB<|zH rfl (fun c1 => ?_) (fun c1 => ?_)
 ·refine sReg rfl<|rMv rfl<|zB<|zI<|zQ rfl ?_
  exact congrArg vB (form_no c1)
 ·refine zJ<|zK<|sReg rfl<|rMv rfl<|zB<|zS<|zY ⟨[(3,.c _),(1,.c _)],[_]⟩ (Weak.mk [true] ⟨zE,zE,trivial⟩ rfl)<|qI 1 0 rfl rfl (Nat) (fun k => [(3,vI k)]) (fun k => []) (fun k => k ≤ e.Idx.length ∧ ((formsL e).all linOk = ((e.Idx.drop k).flatMap fun x => x.Lin :: x.At).all linOk)) (fun k => e.Idx.length - k) ⟨0,⟨by omega,form_start c1⟩,Weak.mk [true] ⟨zE,zE,trivial⟩ rfl⟩ ?_
  rintro k ⟨hk,hp⟩
  refine zK<|sReg rfl<|rMv rfl<|zA rfl (zC rfl kE rfl)<|zA rfl (zD rfl kM rfl (zF 0 rfl) rfl)<|zA rfl (zR rfl el44 rfl)<|zA rfl (qM rfl rfl rfl)<|zB<|zH rfl (fun c2 => ?_) (fun c2 => ?_)
  ·try simp only [sx] at c2
   obtain ⟨x,hx⟩ := qX e.Idx k (by omega)
   have hxw := Ex.idx_wt (qE hx)
   refine zJ<|zK<|zS<|zK<|sReg rfl<|zA rfl (zC rfl kE rfl)<|zA rfl (zD rfl kM rfl (zF 0 rfl) rfl)<|rMv rfl<|zA rfl (zO rfl el44 rfl rfl (by omega) (getm (by assumption)))<|zA rfl (zZ rfl zAd rfl)<|zA rfl (zG rfl kG rfl qC rfl)<|zA rfl (zP rfl ok181 (zFg x.Lin (by omega)) ⟨zE,rfl,trivial⟩)<|zA rfl (qT rfl rfl)<|zB<|zH rfl (fun c3 => ?_) (fun c3 => ?_)
   ·try simp only [sx] at c3
    refine sReg rfl<|rMv rfl<|zB<|zI<|zQ rfl ?_
    exact congrArg vB (form_no2 hp (by rw [qS hx,List.flatMap_cons,List.all_append,List.all_cons,c3]; rfl))
   ·try simp only [sx] at c3
    refine zJ<|sReg rfl<|rMv rfl<|zB<|zS<|zY ⟨[(4,.c _),(1,.c _),(3,.c _)],[_]⟩ (Weak.mk [true] ⟨zE,zE,zE,trivial⟩ rfl)<|qI 1 0 rfl rfl (Nat) (fun j => [(4,vI j)]) (fun j => []) (fun j => j ≤ x.At.length ∧ (x.At.all linOk = (x.At.drop j).all linOk)) (fun j => x.At.length - j) ⟨0,⟨by omega,rfl⟩,Weak.mk [true] ⟨zE,zE,zE,trivial⟩ rfl⟩ ?_
    rintro j ⟨hj,hq⟩
    refine zK<|sReg rfl<|rMv rfl<|zA rfl (zC rfl kE rfl)<|zA rfl (zD rfl kM rfl (zF 0 rfl) rfl)<|rMv rfl<|zA rfl (zO rfl el44 rfl rfl (by omega) (getm (by assumption)))<|zA rfl (zZ rfl kH rfl)<|zA rfl (zD rfl wJ rfl qC rfl)<|zA rfl (zR rfl wE rfl)<|zA rfl (qM rfl rfl rfl)<|zB<|zH rfl (fun c4 => ?_) (fun c4 => ?_)
    ·try simp only [sx] at c4
     obtain ⟨l,hl⟩ := qX x.At j (by omega)
     have hlw := zAh (qE hl)
     refine zJ<|zK<|zS<|sReg rfl<|zA rfl (zC rfl kE rfl)<|zA rfl (zD rfl kM rfl (zF 0 rfl) rfl)<|rMv rfl<|zA rfl (zO rfl el44 rfl rfl (by omega) (getm (by assumption)))<|zA rfl (zZ rfl kH rfl)<|zA rfl (zD rfl wJ rfl qC rfl)<|rMv rfl<|zA rfl (zO rfl wE rfl rfl (by omega) (getm (by assumption)))<|zA rfl (zG rfl kG rfl qC rfl)<|zA rfl (zP rfl ok181 (zFg l (by omega)) ⟨zE,rfl,trivial⟩)<|zA rfl (qT rfl rfl)<|zB<|zH rfl (fun c5 => ?_) (fun c5 => ?_)
     ·try simp only [sx] at c5
      refine sReg rfl<|rMv rfl<|zB<|zI<|zQ rfl ?_
      exact congrArg vB (form_no2 hp (by rw [qS hx,List.flatMap_cons,List.all_append,List.all_cons,zIk hl (p := linOk) c5]; simp))
     ·try simp only [sx] at c5
      refine zJ<|zU rfl<|rMv rfl<|zA rfl (qB rfl rfl rfl ⟨by omega,by omega⟩)<|rMv rfl<|zB ?_
      refine ⟨j + 1,⟨by omega,zOm hl hq c5⟩,(by omega),Weak.mk [true] ⟨zE,zE,zE,trivial⟩ rfl⟩
    ·try simp only [sx] at c4
     refine qN<|zU rfl<|rMv rfl<|zA rfl (qB rfl rfl rfl ⟨by omega,by omega⟩)<|rMv rfl<|zB ?_
     refine ⟨k + 1,⟨by omega,(by rw [hp,qS hx,List.flatMap_cons,List.all_append,List.all_cons,c3,all_end hq (by omega)]; rfl)⟩,(by omega),Weak.mk [true] ⟨zE,zE,trivial⟩ rfl⟩
  ·try simp only [sx] at c2
   refine qN<|sReg rfl<|rMv rfl<|zB<|zI<|zQ rfl ?_
   exact congrArg vB (form_yes c1 (by rw [hp,yT (by omega)]; rfl))
theorem zPt (e : Ex) (ih : ∀ a,a ∈ e.Args → a.wt ≤ 6000000000000 → Pur cfg 215 [vE a] (vI (partE a))) (he : e.wt ≤ 6000000000000) :
    Pur cfg 215 [vE e] (vI (partE e)):= by
 refine zV Tryz.func215 rfl Tryz.ntmps215 Tryz.results215 rfl ?_
 intro z hz
 obtain ⟨hL,hI,hA⟩ := e.parts he
 refine sReg rfl<|qA rfl rfl (qL rfl rfl) ?_
 rintro _ _ ⟨b1,rfl,rfl⟩
 refine rMv rfl<|zB<|zK<|zS<|sReg rfl<|zA rfl (zG rfl yS rfl (zF 0 rfl) rfl)<|zA rfl (zP rfl ok253 (ref14_plain e he) ⟨zE,rfl,trivial⟩)<|zA rfl (qT rfl rfl)<|rMv rfl<|zB<|zH rfl (fun c1 => ?_) (fun c1 => ?_)
 ·try simp only [sx] at c1
  refine sReg rfl<|rMv rfl<|zB<|zI<|zQ rfl ?_
  exact congrArg vI (by rw [zCx,show nodeErr e = 5 by simp only [nodeErr,c1]; rfl]; rfl)
 ·try simp only [sx] at c1
  refine sReg rfl<|zA rfl (zG rfl yS rfl (zF 0 rfl) rfl)<|zA rfl (zP rfl ok254 (ref14_named e he) ⟨zE,rfl,trivial⟩)<|zA rfl (qT rfl rfl)<|rMv rfl<|zB<|zH rfl (fun c2 => ?_) (fun c2 => ?_)
  ·try simp only [sx] at c2
   refine sReg rfl<|rMv rfl<|zB<|zI<|zQ rfl ?_
   exact congrArg vI (by rw [zCx,show nodeErr e = 7 by simp only [nodeErr,c1,c2]; rfl]; rfl)
  ·try simp only [sx] at c2
   refine sReg rfl<|zA rfl (zG rfl yS rfl (zF 0 rfl) rfl)<|zA rfl (zP rfl ok255 (ref14_ranked e he) ⟨zE,rfl,trivial⟩)<|zA rfl (qT rfl rfl)<|rMv rfl<|zB<|zH rfl (fun c3 => ?_) (fun c3 => ?_)
   ·try simp only [sx] at c3
    refine sReg rfl<|rMv rfl<|zB<|zI<|zQ rfl ?_
    exact congrArg vI (by rw [zCx,show nodeErr e = 11 by simp only [nodeErr,c1,c2,c3]; rfl]; rfl)
   ·try simp only [sx] at c3
    refine sReg rfl<|zA rfl (zG rfl yS rfl (zF 0 rfl) rfl)<|zA rfl (zP rfl ok256 (ref14_typed e he) ⟨zE,rfl,trivial⟩)<|zA rfl (qT rfl rfl)<|rMv rfl<|zB<|zH rfl (fun c4 => ?_) (fun c4 => ?_)
    ·try simp only [sx] at c4
     refine sReg rfl<|rMv rfl<|zB<|zI<|zQ rfl ?_
     exact congrArg vI (by rw [zCx,show nodeErr e = 10 by simp only [nodeErr,c1,c2,c3,c4]; rfl]; rfl)
    ·try simp only [sx] at c4
     refine sReg rfl<|zA rfl (zG rfl yS rfl (zF 0 rfl) rfl)<|zA rfl (zP rfl ok257 (ref14_formed e he (types_ty c4)) ⟨zE,rfl,trivial⟩)<|zA rfl (qT rfl rfl)<|rMv rfl<|zB<|zH rfl (fun c5 => ?_) (fun c5 => ?_)
     ·try simp only [sx] at c5
      refine sReg rfl<|rMv rfl<|zB<|zI<|zQ rfl ?_
      exact congrArg vI (by rw [zCx,show nodeErr e = 1 by simp only [nodeErr,c1,c2,c3,c4,c5]; rfl]; rfl)
     ·try simp only [sx] at c5
      have hn : nodeErr e = 0:= by simp only [nodeErr,c1,c2,c3,c4,c5]; rfl
      refine zJ<|zK<|sReg rfl<|rMv rfl<|zB<|zS<|zY ⟨[(3,.c _),(1,.c _)],[_]⟩ (Weak.mk [true] ⟨zE,zE,trivial⟩ rfl)<|qI 1 0 rfl rfl (Nat) (fun k => [(3,vI k)]) (fun k => []) (fun k => k ≤ e.Args.length ∧ (partL e.Args = partL (e.Args.drop k))) (fun k => e.Args.length - k) ⟨0,⟨by omega,rfl⟩,Weak.mk [true] ⟨zE,zE,trivial⟩ rfl⟩ ?_
      rintro k ⟨hk,hp⟩
      refine zK<|sReg rfl<|rMv rfl<|zA rfl (zC rfl kW rfl)<|zA rfl (zD rfl zAt rfl (zF 0 rfl) rfl)<|zA rfl (zR rfl el50 rfl)<|zA rfl (qM rfl rfl rfl)<|zB<|zH rfl (fun c6 => ?_) (fun c6 => ?_)
      ·try simp only [sx] at c6
       obtain ⟨a,ha⟩ := qX e.Args k (by omega)
       refine zJ<|zK<|zS<|sReg rfl<|zA rfl (zC rfl kW rfl)<|zA rfl (zD rfl zAt rfl (zF 0 rfl) rfl)<|rMv rfl<|zA rfl (zO rfl el50 rfl rfl (by omega) (zEy (by assumption)))<|zA rfl (zG rfl yS rfl qC rfl)<|zA rfl (zP rfl ok215 (ih a (qE ha) (by have := Ex.arg_wt (qE ha); omega)) ⟨zE,rfl,trivial⟩)<|rMv rfl<|zB<|sReg rfl<|rMv rfl<|zA rfl (qR rfl rfl rfl)<|zB<|zH rfl (fun c7 => ?_) (fun c7 => ?_)
       ·try simp only [sx] at c7
        refine sReg rfl<|rMv rfl<|rMv rfl<|zB<|zI<|zQ rfl ?_
        exact congrArg vI (by rw [zCx e,hn,kX rfl,cond_true,hp,qS ha,zLn,yM c7]; rfl)
       ·try simp only [sx] at c7
        refine zJ<|zU rfl<|rMv rfl<|zA rfl (qB rfl rfl rfl ⟨by omega,by omega⟩)<|rMv rfl<|zB ?_
        refine ⟨k + 1,⟨by omega,(by rw [hp,qS ha,zLn,kX c7]; rfl)⟩,(by omega),Weak.mk [true] ⟨zE,zE,trivial⟩ rfl⟩
      ·try simp only [sx] at c6
       refine qN<|sReg rfl<|rMv rfl<|zB<|zI<|zQ rfl ?_
       exact congrArg vI (by rw [zCx,hn,kX rfl,cond_true,hp,yT (by omega)]; rfl)
theorem ref14_part (e : Ex) (he : e.wt ≤ 6000000000000) : Pur cfg 215 [vE e] (vI (partE e)):= by
  induction e using Ex.ind with
  | _ e ih => exact zPt e ih he
theorem zHc (n : Nat) (ih : n ≠ 0 → ∀ (a : Ex) (l : Int),a.wt ≤ 6000000000000 → l = n → Pur cfg 259 [vE a,vI l] (vI (depT (n - 1) a))) (hn : n ≤ 100) (e : Ex) (l : Int) (he : e.wt ≤ 6000000000000) (hl : l = n + 1) :
    Pur cfg 259 [vE e,vI l] (vI (depT n e)):= by
 refine zV Tryz.func259 rfl Tryz.ntmps259 Tryz.results259 rfl ?_
 intro z hz
 obtain ⟨hL,hI,hA⟩ := e.parts he
 refine sReg rfl<|qA rfl rfl (qL rfl rfl) ?_
 rintro _ _ ⟨b1,rfl,rfl⟩
 refine rMv rfl<|zB<|zK<|sReg rfl<|rMv rfl<|zA rfl (kY rfl rfl rfl)<|zB<|zH rfl (fun c1 => ?_) (fun c1 => ?_)
 ·try simp only [sx] at c1
  obtain rfl : n = 0:= by omega
  refine sReg rfl<|rMv rfl<|rMv rfl<|zB<|zI<|zQ rfl ?_
  exact congrArg vI (by rw [hl]; rfl)
 ·try simp only [sx] at c1
  obtain ⟨m,rfl⟩ : ∃ m,n = m + 1 := ⟨n - 1,by omega⟩
  refine zJ<|sReg rfl<|rMv rfl<|zB<|zK<|sReg rfl<|zA rfl (zC rfl kW rfl)<|zA rfl (zD rfl zAt rfl (zF 0 rfl) rfl)<|zA rfl (zR rfl el50 rfl)<|rMv rfl<|zB<|zS<|zY ⟨[(14,.c _),(5,.c _),(1,.c _),(12,.c _),(13,.c _)],[]⟩ (Weak.mk [false] ⟨zE,zE,zE,zE,zE,trivial⟩ rfl)<|qI 2 0 rfl rfl (Nat × Int) (fun ⟨k,d⟩ => [(14,vI k),(5,vI d)]) (fun ⟨k,d⟩ => []) (fun ⟨k,d⟩ => k ≤ e.Args.length ∧ (1 ≤ d) ∧ (d ≤ m + 2) ∧ (depT (m + 1) e = depF (depT m) d (e.Args.drop k))) (fun ⟨k,d⟩ => e.Args.length - k) ⟨⟨0,1⟩,⟨by omega,by omega,by omega,rfl⟩,Weak.mk [] ⟨zE,VLe.of_eq (rfl),zE,zE,zE,trivial⟩ rfl⟩ ?_
  rintro ⟨k,d⟩ ⟨hk,hd1,hd2,hd3⟩
  show AWP _ _ _ _ _ ⟨[(14,vI k),(5,vI d)] ++ _,[] ++ _⟩
  refine sReg rfl<|zA rfl (qM rfl rfl rfl)<|zB<|zK<|zH rfl (fun c2 => ?_) (fun c2 => ?_)
  ·try simp only [sx] at c2
   obtain ⟨a,ha⟩ := qX e.Args k (by omega)
   have hda := depT_le m a
   refine zJ<|zK<|zS<|sReg rfl<|zA rfl (zO rfl el50 rfl rfl (by omega) (zEy (by assumption)))<|zA rfl (zG rfl yS rfl qC rfl)<|qA rfl rfl (qO [none,none,none,none,none,none,none,none,none,none,some 2,some 4,some 13] rfl zr52 rfl) ?_
   rintro _ _ ⟨b2,rfl,rfl⟩
   refine zX rfl rfl (zT rfl sz52 rfl rfl rfl (qH 0 rfl rfl))<|zB<|zU rfl<|rMv rfl<|zA rfl (zG rfl yS rfl (zF 0 rfl) rfl)<|rMv rfl<|zA rfl (yD rfl rfl rfl ⟨by omega,by omega⟩)<|zA rfl (zP rfl ok259 (show Pur cfg 259 [vE a,vI (l - 1)] (vI (depT m a)) from ih (by omega) a _ (by have := Ex.arg_wt (qE ha); omega) (by omega)) ⟨zE,rfl,zE,rfl,trivial⟩)<|zA rfl (qB rfl rfl rfl ⟨by omega,by omega⟩)<|zA rfl (zJb rfl rfl rfl)<|rMv rfl<|zB<|zU rfl<|zA rfl (qB rfl rfl rfl ⟨by omega,by omega⟩)<|rMv rfl<|zB ?_
   refine ⟨⟨k + 1,max d (1 + depT m a)⟩,⟨by omega,by omega,by omega,by rw [hd3,qS ha,depF]⟩,(by show e.Args.length - (k + 1) < e.Args.length - k; omega),Weak.mk [false] ⟨zE,zE,zE,zE,zE,trivial⟩ rfl⟩
  ·try simp only [sx] at c2
   refine qN<|sReg rfl<|rMv rfl<|rMv rfl<|zB<|zI<|zQ rfl ?_
   exact congrArg vI (by rw [hd3,yT (by omega)]; rfl)
theorem expr_depth (n : Nat) (e : Ex) (l : Int) (hn : n ≤ 100) (he : e.wt ≤ 6000000000000) (hl : l = n + 1) : Pur cfg 259 [vE e,vI l] (vI (depT n e)):= by
  induction n generalizing e l with
  | zero => exact zHc 0 (fun h => absurd rfl h) hn e l he hl
  | succ n ih => exact zHc (n + 1) (fun _ a l h1 h2 => ih a l (by omega) h1 (by omega)) hn e l he hl
theorem zFm (n : Nat) (ih : n ≠ 0 → ∀ (a : Ex) (l : Int),a.wt ≤ 6000000000000 → l = n → Pur cfg 251 [vE a,vI l] (vI (depT (n - 1) a))) (hn : n ≤ 100) (e : Ex) (l : Int) (he : e.wt ≤ 6000000000000) (hl : l = n + 1) :
    Pur cfg 251 [vE e,vI l] (vI (depT n e)):= by
 refine zV Tryz.func251 rfl Tryz.ntmps251 Tryz.results251 rfl ?_
 intro z hz
 obtain ⟨hL,hI,hA⟩ := e.parts he
 refine sReg rfl<|qA rfl rfl (qL rfl rfl) ?_
 rintro _ _ ⟨b1,rfl,rfl⟩
 refine rMv rfl<|zB<|sReg rfl<|rMv rfl<|zB<|zK<|sReg rfl<|rMv rfl<|zB<|zS<|zY ⟨[(6,.c _),(5,.c _),(1,.c _),(2,.c _)],[_]⟩ (Weak.mk [true] ⟨zE,zE,zE,zE,trivial⟩ rfl)<|qI 2 0 rfl rfl (Nat × Int) (fun ⟨k,d⟩ => [(6,vI k),(5,vI d)]) (fun ⟨k,d⟩ => []) (fun ⟨k,d⟩ => k ≤ e.Args.length ∧ (1 ≤ d) ∧ (d ≤ n + 1) ∧ (n ≠ 0 → depT n e = depF (depT (n - 1)) d (e.Args.drop k)) ∧ (n = 0 → d = 1)) (fun ⟨k,d⟩ => e.Args.length - k) ⟨⟨0,1⟩,⟨by omega,by omega,by omega,fun h0 => dep_start h0,fun _ => rfl⟩,Weak.mk [true] ⟨zE,VLe.of_eq (rfl),zE,zE,trivial⟩ rfl⟩ ?_
 rintro ⟨k,d⟩ ⟨hk,hd1,hd2,hd3,hd4⟩
 show AWP _ _ _ _ _ ⟨[(6,vI k),(5,vI d)] ++ _,[] ++ _⟩
 refine zK<|sReg rfl<|rMv rfl<|zA rfl (zC rfl kW rfl)<|zA rfl (zD rfl zAt rfl (zF 0 rfl) rfl)<|zA rfl (zR rfl el50 rfl)<|zA rfl (qM rfl rfl rfl)<|rMv rfl<|rLz [] rfl gv1 trivial (fun g3_5 => zN rfl rfl) rfl<|rLz [(13,_)] rfl gv1 ⟨rfl,rfl,trivial⟩ (fun g3_5 => yA rfl rfl rfl) rfl<|zA rfl (qK rfl rfl rfl (fun h => h) rfl)<|zB<|zH rfl (fun c1 => ?_) (fun c1 => ?_)
 ·try simp only [sx] at c1
  obtain ⟨a,ha⟩ := qX e.Args k (by omega)
  have hda := depT_le (n - 1) a
  refine zJ<|zK<|zS<|zU rfl<|rMv rfl<|zA rfl (zC rfl kW rfl)<|zA rfl (zD rfl zAt rfl (zF 0 rfl) rfl)<|rMv rfl<|zA rfl (zO rfl el50 rfl rfl (by omega) (zEy (by assumption)))<|zA rfl (zG rfl yS rfl qC rfl)<|rMv rfl<|zA rfl (yD rfl rfl rfl ⟨by omega,by omega⟩)<|zA rfl (zP rfl ok251 (ih (by omega) a _ (by have := Ex.arg_wt (qE ha); omega) (by omega)) ⟨zE,rfl,zE,rfl,trivial⟩)<|zA rfl (qB rfl rfl rfl ⟨by omega,by omega⟩)<|zA rfl (zJb rfl rfl rfl)<|rMv rfl<|zB<|zU rfl<|rMv rfl<|zA rfl (qB rfl rfl rfl ⟨by omega,by omega⟩)<|rMv rfl<|zB ?_
  refine ⟨⟨k + 1,max d (1 + depT (n - 1) a)⟩,⟨by omega,by omega,by omega,fun h0 => by rw [hd3 h0,qS ha,depF],fun h0 => by omega⟩,(by show e.Args.length - (k + 1) < e.Args.length - k; omega),Weak.mk [true] ⟨zE,zE,zE,zE,trivial⟩ rfl⟩
 ·try simp only [sx] at c1
  refine qN<|sReg rfl<|rMv rfl<|rMv rfl<|zB<|zI<|zQ rfl ?_
  exact congrArg vI (dep_end hl (by omega) hd3 hd4)
theorem ref14_depth (n : Nat) (e : Ex) (l : Int) (hn : n ≤ 100) (he : e.wt ≤ 6000000000000) (hl : l = n + 1) : Pur cfg 251 [vE e,vI l] (vI (depT n e)):= by
  induction n generalizing e l with
  | zero => exact zFm 0 (fun h => absurd rfl h) hn e l he hl
  | succ n ih => exact zFm (n + 1) (fun _ a l h1 h2 => ih a l (by omega) h1 (by omega)) hn e l he hl
theorem expr_Depth (e : Ex) (he : e.wt ≤ 6000000000000) :
    Pur cfg 220 [vE e] (vI (depT 40 e)):= by
 refine zV Tryz.func220 rfl Tryz.ntmps220 Tryz.results220 rfl ?_
 intro z hz
 refine sReg rfl<|qA rfl rfl (qL rfl rfl) ?_
 rintro _ _ ⟨b1,rfl,rfl⟩
 refine rMv rfl<|zB<|sReg rfl<|zA rfl (zG rfl yS rfl (zF 0 rfl) rfl)<|zA rfl (zP rfl ok259 (expr_depth 40 e 41 (by omega) he (by omega)) ⟨zE,rfl,zE,rfl,trivial⟩)<|rMv rfl<|zB<|zI<|zQ rfl ?_
 exact rfl
theorem ref14_Depth (e : Ex) (he : e.wt ≤ 6000000000000) :
    Pur cfg 213 [vE e] (vI (depT 40 e)):= by
 refine zV Tryz.func213 rfl Tryz.ntmps213 Tryz.results213 rfl ?_
 intro z hz
 refine sReg rfl<|qA rfl rfl (qL rfl rfl) ?_
 rintro _ _ ⟨b1,rfl,rfl⟩
 refine rMv rfl<|zB<|sReg rfl<|zA rfl (zG rfl yS rfl (zF 0 rfl) rfl)<|zA rfl (zP rfl ok251 (ref14_depth 40 e 41 (by omega) he (by omega)) ⟨zE,rfl,zE,rfl,trivial⟩)<|rMv rfl<|zB<|zI<|zQ rfl ?_
 exact rfl
theorem zPs (e : Ex) (ih : ∀ a,a ∈ e.Args → ∀ (m : Nat) (l : Int),a.wt ≤ 6000000000000 → m ≤ 1000000 → l = m → Pur cfg 252 [vE a,vI l] (vI (sizE a m))) (m : Nat) (l : Int) (he : e.wt ≤ 6000000000000) (hm : m ≤ 1000000) (hl : l = m) :
    Pur cfg 252 [vE e,vI l] (vI (sizE e m)):= by
 refine zV Tryz.func252 rfl Tryz.ntmps252 Tryz.results252 rfl ?_
 intro z hz
 obtain ⟨hL,hI,hA⟩ := e.parts he
 refine sReg rfl<|qA rfl rfl (qL rfl rfl) ?_
 rintro _ _ ⟨b1,rfl,rfl⟩
 refine rMv rfl<|zB<|sReg rfl<|rMv rfl<|zB<|zK<|sReg rfl<|rMv rfl<|zB<|zS<|zY ⟨[(6,.c _),(5,.c _),(1,.c _),(2,.c _)],[_]⟩ (Weak.mk [true] ⟨zE,zE,zE,zE,trivial⟩ rfl)<|qI 2 0 rfl rfl (Nat × Nat) (fun ⟨k,n⟩ => [(6,vI k),(5,vI n)]) (fun ⟨k,n⟩ => []) (fun ⟨k,n⟩ => k ≤ e.Args.length ∧ (n ≤ m + 1) ∧ (sizE e m = sizL (e.Args.drop k) m n)) (fun ⟨k,n⟩ => e.Args.length - k) ⟨⟨0,1⟩,⟨by omega,by omega,sizE_eq e m⟩,Weak.mk [true] ⟨zE,VLe.of_eq (rfl),zE,zE,trivial⟩ rfl⟩ ?_
 rintro ⟨k,n⟩ ⟨hk,hn1,hn2⟩
 show AWP _ _ _ _ _ ⟨[(6,vI k),(5,vI n)] ++ _,[] ++ _⟩
 refine zK<|sReg rfl<|rMv rfl<|zA rfl (zC rfl kW rfl)<|zA rfl (zD rfl zAt rfl (zF 0 rfl) rfl)<|zA rfl (zR rfl el50 rfl)<|zA rfl (qM rfl rfl rfl)<|rMv rfl<|rLz [] rfl gv1 trivial (fun g3_5 => zN rfl rfl) rfl<|rLz [] rfl gv1 trivial (fun g3_5 => zN rfl rfl) rfl<|rLz [(13,_),(14,_)] rfl gv1 ⟨rfl,rfl,rfl,rfl,trivial⟩ (fun g3_5 => kY rfl rfl rfl) rfl<|zA rfl (qK rfl rfl rfl (fun h => h) rfl)<|zB<|zH rfl (fun c1 => ?_) (fun c1 => ?_)
 ·try simp only [sx] at c1
  obtain ⟨a,ha⟩ := qX e.Args k (by omega)
  have hsa := sizE_min a (m - n)
  refine zJ<|zK<|zS<|zU rfl<|rMv rfl<|zA rfl (zC rfl kW rfl)<|zA rfl (zD rfl zAt rfl (zF 0 rfl) rfl)<|rMv rfl<|zA rfl (zO rfl el50 rfl rfl (by omega) (zEy (by assumption)))<|zA rfl (zG rfl yS rfl qC rfl)<|rMv rfl<|rMv rfl<|zA rfl (yD rfl rfl rfl ⟨by omega,by omega⟩)<|zA rfl (zP rfl ok252 (ih a (qE ha) (m - n) _ (by have := Ex.arg_wt (qE ha); omega) (by omega) (by omega)) ⟨zE,rfl,zE,rfl,trivial⟩)<|zA rfl (qB rfl rfl rfl ⟨by omega,by omega⟩)<|rMv rfl<|zB<|zU rfl<|rMv rfl<|zA rfl (qB rfl rfl rfl ⟨by omega,by omega⟩)<|rMv rfl<|zB ?_
  refine ⟨⟨k + 1,n + sizE a (m - n)⟩,⟨by omega,by omega,by rw [hn2,qS ha,sizL,if_pos (by omega)]⟩,(by show e.Args.length - (k + 1) < e.Args.length - k; omega),Weak.mk [true] ⟨zE,VLe.of_eq (congrArg vI (by omega)),zE,zE,trivial⟩ rfl⟩
 ·try simp only [sx] at c1
  refine qN<|sReg rfl<|rMv rfl<|rMv rfl<|zB<|zI<|zQ rfl ?_
  exact congrArg vI (by rw [hn2]; exact congrArg Nat.cast (siz_end hl (by omega)))
theorem ref14_size (e : Ex) (m : Nat) (l : Int) (he : e.wt ≤ 6000000000000) (hm : m ≤ 1000000) (hl : l = m) : Pur cfg 252 [vE e,vI l] (vI (sizE e m)):= by
  induction e using Ex.ind generalizing m l with
  | _ e ih => exact zPs e (fun a ha m l h1 h2 h3 => ih a ha m l h1 h2 h3) m l he hm hl
theorem ref14_Size (e : Ex) (he : e.wt ≤ 6000000000000) :
    Pur cfg 214 [vE e] (vI (szT e)):= by
 refine zV Tryz.func214 rfl Tryz.ntmps214 Tryz.results214 rfl ?_
 intro z hz
 refine sReg rfl<|qA rfl rfl (qL rfl rfl) ?_
 rintro _ _ ⟨b1,rfl,rfl⟩
 refine rMv rfl<|zB<|sReg rfl<|zA rfl (zG rfl yS rfl (zF 0 rfl) rfl)<|zA rfl (zP rfl ok252 (ref14_size e 2000 2000 he (by omega) rfl) ⟨zE,rfl,zE,rfl,trivial⟩)<|zA rfl (det_min rfl rfl rfl)<|rMv rfl<|zB<|zI<|zQ rfl ?_
 exact congrArg vI (by rw [sizE_min,szT]; omega)
theorem ref14_Validate (e : Ex) (he : e.wt ≤ 6000000000000) :
    Pur cfg 186 [vE e] (vI (validE e)):= by
 refine zV Tryz.func186 rfl Tryz.ntmps186 Tryz.results186 rfl ?_
 intro z hz
 refine sReg rfl<|qA rfl rfl (qL rfl rfl) ?_
 rintro _ _ ⟨b1,rfl,rfl⟩
 refine rMv rfl<|zB<|zK<|sReg rfl<|zA rfl (zG rfl yS rfl (zF 0 rfl) rfl)<|zA rfl (zP rfl ok213 (ref14_Depth e he) ⟨zE,rfl,trivial⟩)<|zA rfl (yA rfl rfl rfl)<|zB<|zH rfl (fun c1 => ?_) (fun c1 => ?_)
 ·try simp only [sx] at c1
  refine sReg rfl<|rMv rfl<|zB<|zI<|zQ rfl ?_
  rw [validE,kX c1]; rfl
 ·try simp only [sx] at c1
  refine zJ<|zK<|sReg rfl<|zA rfl (zG rfl yS rfl (zF 0 rfl) rfl)<|zA rfl (zP rfl ok214 (ref14_Size e he) ⟨zE,rfl,trivial⟩)<|zA rfl (yA rfl rfl rfl)<|zB<|zH rfl (fun c2 => ?_) (fun c2 => ?_)
  ·try simp only [sx] at c2
   refine sReg rfl<|rMv rfl<|zB<|zI<|zQ rfl ?_
   rw [validE,yM (by omega),kX c2]; rfl
  ·try simp only [sx] at c2
   refine zJ<|sReg rfl<|zA rfl (zG rfl yS rfl (zF 0 rfl) rfl)<|zA rfl (zP rfl ok215 (ref14_part e he) ⟨zE,rfl,trivial⟩)<|rMv rfl<|zB<|zI<|zQ rfl ?_
   rw [validE,yM (by omega),yM (by omega)]; rfl
end Go.W
