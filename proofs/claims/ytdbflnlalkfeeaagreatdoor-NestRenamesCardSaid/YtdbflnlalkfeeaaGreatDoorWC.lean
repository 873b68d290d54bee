/-
  Walks: what functions of the program compute. Printed by wip/gen/mk2.py.
  Conditions: none.
-/
import Derived.Test.YtdbflnlalkfeeaaGreatDoorWB
set_option maxRecDepth 10000
namespace Go.W
open Go Go.Eng Go.Proofs Go.L41 Go.Br
attribute [local irreducible] AWP RWP TD finQ
theorem yI : aggT Tryz.prog 49 = some 2:= by kernel_rfl
theorem yY : aggT Tryz.prog 52 = some 13:= by kernel_rfl
theorem el50 : elemT Tryz.prog 50 = some (52,13,160):= by kernel_rfl
theorem wK : elemT Tryz.prog 112 = some (49,2,32):= by kernel_rfl
theorem zAb : fieldT Tryz.prog 52 0 = some (0,3):= by kernel_rfl
theorem zGl : fieldT Tryz.prog 52 1 = some (1,9):= by kernel_rfl
theorem zHw : fieldT Tryz.prog 52 2 = some (2,46):= by kernel_rfl
theorem zGk : fieldT Tryz.prog 52 3 = some (4,40):= by kernel_rfl
theorem zCy : fieldT Tryz.prog 52 4 = some (9,49):= by kernel_rfl
theorem kR : fieldT Tryz.prog 52 5 = some (11,44):= by kernel_rfl
theorem wM : fieldT Tryz.prog 52 6 = some (12,50):= by kernel_rfl
theorem zAy : fieldT Tryz.prog 114 0 = some (0,49):= by kernel_rfl
theorem zCi : fieldT Tryz.prog 114 1 = some (2,9):= by kernel_rfl
theorem kG : fieldT Tryz.prog 114 2 = some (3,112):= by kernel_rfl
theorem fl46 : flatK Tryz.prog 46 = some [.int,.int]:= by kernel_rfl
theorem ok66 : callOk Tryz.prog 66 = true:= by kernel_rfl
theorem ok164 : callOk Tryz.prog 164 = true:= by kernel_rfl
theorem ok181 : callOk Tryz.prog 181 = true:= by kernel_rfl
theorem ok259 : callOk Tryz.prog 259 = true:= by kernel_rfl
theorem ok283 : callOk Tryz.prog 283 = true:= by kernel_rfl
theorem ok284 : callOk Tryz.prog 284 = true:= by kernel_rfl
theorem ok285 : callOk Tryz.prog 285 = true:= by kernel_rfl
theorem ok286 : callOk Tryz.prog 286 = true:= by kernel_rfl
theorem ok287 : callOk Tryz.prog 287 = true:= by kernel_rfl
theorem ok288 : callOk Tryz.prog 288 = true:= by kernel_rfl
theorem ok289 : callOk Tryz.prog 289 = true:= by kernel_rfl
theorem ok290 : callOk Tryz.prog 290 = true:= by kernel_rfl
theorem wF : oneT Tryz.prog 44 = true:= by kernel_rfl
theorem zCu : oneT Tryz.prog 50 = true:= by kernel_rfl
theorem wI : oneT Tryz.prog 112 = true:= by kernel_rfl
theorem pl46 : placesT Tryz.prog 46 = some [(0,1),(1,1)]:= by kernel_rfl
theorem sz52 : (Tryz.prog.info? 52).map (·.size) = some 13:= by kernel_rfl
theorem zKs : (Tryz.prog.info? 114).map (·.size) = some 4:= by kernel_rfl
theorem un4 : Tryz.prog.underlying 4 = some .bool:= by kernel_rfl
theorem zr46 : zeroT Tryz.prog 46 = some [(Value.int IntKind.i64 0),(Value.int IntKind.i64 0)]:= by kernel_rfl
theorem zr52 : zeroT Tryz.prog 52 = some [(Value.int IntKind.i64 0),(Value.string (ByteArray.mk #[])),(Value.int IntKind.i64 0),(Value.int IntKind.i64 0),(Value.int IntKind.i64 0),(Value.int IntKind.i64 0),(Value.int IntKind.i64 0),(Value.int IntKind.i64 0),(Value.int IntKind.i64 0),(Value.int IntKind.i64 0),(Value.slice none 0 0),(Value.slice none 0 0),(Value.slice none 0 0)]:= by kernel_rfl
theorem zCp : zeroT Tryz.prog 114 = some [(Value.int IntKind.i64 0),(Value.slice none 0 0),(Value.string (ByteArray.mk #[])),(Value.slice none 0 0)]:= by kernel_rfl
theorem expr_operands (op : Int) :
    Pur cfg 288 [vI op] (vI (nArgs op)):= by
 refine zV Tryz.func288 rfl Tryz.ntmps288 Tryz.results288 rfl ?_
 intro z hz
 refine sReg rfl<|rMv rfl<|zB<|zJ<|sReg rfl<|rMv rfl<|zB<|zU<|zJ<|sReg rfl<|zA rfl rfl (qJ rfl rfl rfl)<|rMv rfl<|zB<|zG rfl (fun c1 => ?_) (fun c1 => ?_)
 ·try simp only [sx] at c1
  refine zK<|zG rfl (fun c3 => ?_) (fun c3 => ?_)
  ·try simp only [sx] at c3
   refine sReg rfl<|rMv rfl<|zB<|zH<|fin1 (rs_c rfl) ?_
   exact congrArg vI (by unfold nArgs; (repeat' split) <;> omega)
  ·try simp only [sx] at c3
   refine zJ<|sReg rfl<|zA rfl rfl (qJ rfl rfl rfl)<|rMv rfl<|zB<|zG rfl (fun c4 => ?_) (fun c4 => ?_)
   ·try simp only [sx] at c4
    refine zK<|zG rfl (fun c6 => ?_) (fun c6 => ?_)
    ·try simp only [sx] at c6
     refine sReg rfl<|rMv rfl<|zB<|zH<|fin1 (rs_c rfl) ?_
     exact congrArg vI (by unfold nArgs; (repeat' split) <;> omega)
    ·try simp only [sx] at c6
     refine sReg rfl<|zA rfl rfl (qJ rfl rfl rfl)<|rMv rfl<|zB<|zG rfl (fun c7 => ?_) (fun c7 => ?_)
     ·try simp only [sx] at c7
      refine sReg rfl<|rMv rfl<|zB<|zH<|fin1 (rs_c rfl) ?_
      exact congrArg vI (by unfold nArgs; (repeat' split) <;> omega)
     ·try simp only [sx] at c7
      refine zK<|sReg rfl<|rMv rfl<|zB<|zH<|fin1 (rs_c rfl) ?_
      exact congrArg vI (by unfold nArgs; (repeat' split) <;> omega)
   ·try simp only [sx] at c4
    refine sReg rfl<|zA rfl rfl (qJ rfl rfl rfl)<|rMv rfl<|zB<|zG rfl (fun c5 => ?_) (fun c5 => ?_)
    ·try simp only [sx] at c5
     refine zK<|zG rfl (fun c6 => ?_) (fun c6 => ?_)
     ·try simp only [sx] at c6
      refine sReg rfl<|rMv rfl<|zB<|zH<|fin1 (rs_c rfl) ?_
      exact congrArg vI (by unfold nArgs; (repeat' split) <;> omega)
     ·try simp only [sx] at c6
      refine sReg rfl<|zA rfl rfl (qJ rfl rfl rfl)<|rMv rfl<|zB<|zG rfl (fun c7 => ?_) (fun c7 => ?_)
      ·try simp only [sx] at c7
       refine sReg rfl<|rMv rfl<|zB<|zH<|fin1 (rs_c rfl) ?_
       exact congrArg vI (by unfold nArgs; (repeat' split) <;> omega)
      ·try simp only [sx] at c7
       refine zK<|sReg rfl<|rMv rfl<|zB<|zH<|fin1 (rs_c rfl) ?_
       exact congrArg vI (by unfold nArgs; (repeat' split) <;> omega)
    ·try simp only [sx] at c5
     refine zR rfl<|zA rfl rfl (qJ rfl rfl rfl)<|rMv rfl<|zB<|zG rfl (fun c6 => ?_) (fun c6 => ?_)
     ·try simp only [sx] at c6
      refine sReg rfl<|rMv rfl<|zB<|zH<|fin1 (rs_c rfl) ?_
      exact congrArg vI (by unfold nArgs; (repeat' split) <;> omega)
     ·try simp only [sx] at c6
      refine sReg rfl<|zA rfl rfl (qJ rfl rfl rfl)<|rMv rfl<|zB<|zG rfl (fun c7 => ?_) (fun c7 => ?_)
      ·try simp only [sx] at c7
       refine sReg rfl<|rMv rfl<|zB<|zH<|fin1 (rs_c rfl) ?_
       exact congrArg vI (by unfold nArgs; (repeat' split) <;> omega)
      ·try simp only [sx] at c7
       refine zK<|sReg rfl<|rMv rfl<|zB<|zH<|fin1 (rs_c rfl) ?_
       exact congrArg vI (by unfold nArgs; (repeat' split) <;> omega)
 ·try simp only [sx] at c1
  refine sReg rfl<|zA rfl rfl (qJ rfl rfl rfl)<|rMv rfl<|zB<|zG rfl (fun c2 => ?_) (fun c2 => ?_)
  ·try simp only [sx] at c2
   refine zK<|zG rfl (fun c3 => ?_) (fun c3 => ?_)
   ·try simp only [sx] at c3
    refine sReg rfl<|rMv rfl<|zB<|zH<|fin1 (rs_c rfl) ?_
    exact congrArg vI (by unfold nArgs; (repeat' split) <;> omega)
   ·try simp only [sx] at c3
    refine zJ<|sReg rfl<|zA rfl rfl (qJ rfl rfl rfl)<|rMv rfl<|zB<|zG rfl (fun c4 => ?_) (fun c4 => ?_)
    ·try simp only [sx] at c4
     refine zK<|zG rfl (fun c6 => ?_) (fun c6 => ?_)
     ·try simp only [sx] at c6
      refine sReg rfl<|rMv rfl<|zB<|zH<|fin1 (rs_c rfl) ?_
      exact congrArg vI (by unfold nArgs; (repeat' split) <;> omega)
     ·try simp only [sx] at c6
      refine sReg rfl<|zA rfl rfl (qJ rfl rfl rfl)<|rMv rfl<|zB<|zG rfl (fun c7 => ?_) (fun c7 => ?_)
      ·try simp only [sx] at c7
       refine sReg rfl<|rMv rfl<|zB<|zH<|fin1 (rs_c rfl) ?_
       exact congrArg vI (by unfold nArgs; (repeat' split) <;> omega)
      ·try simp only [sx] at c7
       refine zK<|sReg rfl<|rMv rfl<|zB<|zH<|fin1 (rs_c rfl) ?_
       exact congrArg vI (by unfold nArgs; (repeat' split) <;> omega)
    ·try simp only [sx] at c4
     refine sReg rfl<|zA rfl rfl (qJ rfl rfl rfl)<|rMv rfl<|zB<|zG rfl (fun c5 => ?_) (fun c5 => ?_)
     ·try simp only [sx] at c5
      refine zK<|zG rfl (fun c6 => ?_) (fun c6 => ?_)
      ·try simp only [sx] at c6
       refine sReg rfl<|rMv rfl<|zB<|zH<|fin1 (rs_c rfl) ?_
       exact congrArg vI (by unfold nArgs; (repeat' split) <;> omega)
      ·try simp only [sx] at c6
       refine sReg rfl<|zA rfl rfl (qJ rfl rfl rfl)<|rMv rfl<|zB<|zG rfl (fun c7 => ?_) (fun c7 => ?_)
       ·try simp only [sx] at c7
        refine sReg rfl<|rMv rfl<|zB<|zH<|fin1 (rs_c rfl) ?_
        exact congrArg vI (by unfold nArgs; (repeat' split) <;> omega)
       ·try simp only [sx] at c7
        refine zK<|sReg rfl<|rMv rfl<|zB<|zH<|fin1 (rs_c rfl) ?_
        exact congrArg vI (by unfold nArgs; (repeat' split) <;> omega)
     ·try simp only [sx] at c5
      refine zR rfl<|zA rfl rfl (qJ rfl rfl rfl)<|rMv rfl<|zB<|zG rfl (fun c6 => ?_) (fun c6 => ?_)
      ·try simp only [sx] at c6
       refine sReg rfl<|rMv rfl<|zB<|zH<|fin1 (rs_c rfl) ?_
       exact congrArg vI (by unfold nArgs; (repeat' split) <;> omega)
      ·try simp only [sx] at c6
       refine sReg rfl<|zA rfl rfl (qJ rfl rfl rfl)<|rMv rfl<|zB<|zG rfl (fun c7 => ?_) (fun c7 => ?_)
       ·try simp only [sx] at c7
        refine sReg rfl<|rMv rfl<|zB<|zH<|fin1 (rs_c rfl) ?_
        exact congrArg vI (by unfold nArgs; (repeat' split) <;> omega)
       ·try simp only [sx] at c7
        refine zK<|sReg rfl<|rMv rfl<|zB<|zH<|fin1 (rs_c rfl) ?_
        exact congrArg vI (by unfold nArgs; (repeat' split) <;> omega)
  ·try simp only [sx] at c2
   refine zR rfl<|zA rfl rfl (qJ rfl rfl rfl)<|rMv rfl<|zB<|zG rfl (fun c3 => ?_) (fun c3 => ?_)
   ·try simp only [sx] at c3
    refine sReg rfl<|rMv rfl<|zB<|zH<|fin1 (rs_c rfl) ?_
    exact congrArg vI (by unfold nArgs; (repeat' split) <;> omega)
   ·try simp only [sx] at c3
    refine zJ<|sReg rfl<|zA rfl rfl (qJ rfl rfl rfl)<|rMv rfl<|zB<|zG rfl (fun c4 => ?_) (fun c4 => ?_)
    ·try simp only [sx] at c4
     refine zK<|zG rfl (fun c6 => ?_) (fun c6 => ?_)
     ·try simp only [sx] at c6
      refine sReg rfl<|rMv rfl<|zB<|zH<|fin1 (rs_c rfl) ?_
      exact congrArg vI (by unfold nArgs; (repeat' split) <;> omega)
     ·try simp only [sx] at c6
      refine sReg rfl<|zA rfl rfl (qJ rfl rfl rfl)<|rMv rfl<|zB<|zG rfl (fun c7 => ?_) (fun c7 => ?_)
      ·try simp only [sx] at c7
       refine sReg rfl<|rMv rfl<|zB<|zH<|fin1 (rs_c rfl) ?_
       exact congrArg vI (by unfold nArgs; (repeat' split) <;> omega)
      ·try simp only [sx] at c7
       refine zK<|sReg rfl<|rMv rfl<|zB<|zH<|fin1 (rs_c rfl) ?_
       exact congrArg vI (by unfold nArgs; (repeat' split) <;> omega)
    ·try simp only [sx] at c4
     refine sReg rfl<|zA rfl rfl (qJ rfl rfl rfl)<|rMv rfl<|zB<|zG rfl (fun c5 => ?_) (fun c5 => ?_)
     ·try simp only [sx] at c5
      refine zK<|zG rfl (fun c6 => ?_) (fun c6 => ?_)
      ·try simp only [sx] at c6
       refine sReg rfl<|rMv rfl<|zB<|zH<|fin1 (rs_c rfl) ?_
       exact congrArg vI (by unfold nArgs; (repeat' split) <;> omega)
      ·try simp only [sx] at c6
       refine sReg rfl<|zA rfl rfl (qJ rfl rfl rfl)<|rMv rfl<|zB<|zG rfl (fun c7 => ?_) (fun c7 => ?_)
       ·try simp only [sx] at c7
        refine sReg rfl<|rMv rfl<|zB<|zH<|fin1 (rs_c rfl) ?_
        exact congrArg vI (by unfold nArgs; (repeat' split) <;> omega)
       ·try simp only [sx] at c7
        refine zK<|sReg rfl<|rMv rfl<|zB<|zH<|fin1 (rs_c rfl) ?_
        exact congrArg vI (by unfold nArgs; (repeat' split) <;> omega)
     ·try simp only [sx] at c5
      refine zR rfl<|zA rfl rfl (qJ rfl rfl rfl)<|rMv rfl<|zB<|zG rfl (fun c6 => ?_) (fun c6 => ?_)
      ·try simp only [sx] at c6
       refine sReg rfl<|rMv rfl<|zB<|zH<|fin1 (rs_c rfl) ?_
       exact congrArg vI (by unfold nArgs; (repeat' split) <;> omega)
      ·try simp only [sx] at c6
       refine sReg rfl<|zA rfl rfl (qJ rfl rfl rfl)<|rMv rfl<|zB<|zG rfl (fun c7 => ?_) (fun c7 => ?_)
       ·try simp only [sx] at c7
        refine sReg rfl<|rMv rfl<|zB<|zH<|fin1 (rs_c rfl) ?_
        exact congrArg vI (by unfold nArgs; (repeat' split) <;> omega)
       ·try simp only [sx] at c7
        refine zK<|sReg rfl<|rMv rfl<|zB<|zH<|fin1 (rs_c rfl) ?_
        exact congrArg vI (by unfold nArgs; (repeat' split) <;> omega)
theorem kJ (e : Ex) :
    Pur cfg 164 [vE e] (vB (isCond e)):= by
 refine zV Tryz.func164 rfl Tryz.ntmps164 Tryz.results164 rfl ?_
 intro z hz
 refine sReg rfl<|zY rfl rfl (qM rfl rfl) ?_
 rintro _ _ ⟨b1,rfl,rfl⟩
 refine rMv rfl<|zB<|sReg rfl<|zA rfl rfl (zC rfl zAb rfl)<|zA rfl rfl (zD rfl one3 rfl (zE 0 rfl) rfl)<|zA rfl rfl (wQ rfl rfl rfl)<|rMv rfl<|rLz [] rfl gv1 trivial (fun g1_3 => zC rfl zAb rfl) rfl<|rLz [(7,_)] rfl gv1 ⟨rfl,rfl,trivial⟩ (fun g1_3 => zD rfl one3 rfl (zE 0 rfl) rfl) rfl<|rLz [(8,_)] rfl gv1 ⟨rfl,rfl,trivial⟩ (fun g1_3 => wQ rfl rfl rfl) rfl<|zA rfl rfl (qP rfl rfl rfl (fun h => h) rfl)<|rMv rfl<|zB<|zH<|fin1 (rs_c rfl) ?_
 exact rfl
theorem zFl (op i : Int) :
    Pur cfg 290 [vI op,vI i] (vB (wantC op i)):= by
 refine zV Tryz.func290 rfl Tryz.ntmps290 Tryz.results290 rfl ?_
 intro z hz
 refine sReg rfl<|rMv rfl<|zB<|zJ<|sReg rfl<|rMv rfl<|zB<|zU<|zJ<|sReg rfl<|zA rfl rfl (qJ rfl rfl rfl)<|rMv rfl<|zB<|zG rfl (fun c1 => ?_) (fun c1 => ?_)
 ·try simp only [sx] at c1
  refine zK<|zG rfl (fun c3 => ?_) (fun c3 => ?_)
  ·try simp only [sx] at c3
   refine sReg rfl<|rMv rfl<|zB<|zH<|fin1 (rs_c rfl) ?_
   exact congrArg vB (by unfold wantC; first | (exfalso; omega) | (simp [*]; done) | (rw [Bool.eq_iff_iff]; simp only [Bool.or_eq_true,Bool.and_eq_true,decide_eq_true_eq]; omega))
  ·try simp only [sx] at c3
   refine zK<|sReg rfl<|rMv rfl<|zA rfl rfl (qJ rfl rfl rfl)<|rMv rfl<|rLz [] rfl gv1 trivial (fun g6_2 => zN rfl rfl) rfl<|rLz [(13,_)] rfl gv1 ⟨rfl,rfl,trivial⟩ (fun g6_2 => qJ rfl rfl rfl) rfl<|zA rfl rfl (qP rfl rfl rfl (fun h => h) rfl)<|rMv rfl<|zB<|zH<|fin1 (rs_c rfl) ?_
   exact congrArg vB (by unfold wantC; first | (exfalso; omega) | (simp [*]; done) | (rw [Bool.eq_iff_iff]; simp only [Bool.or_eq_true,Bool.and_eq_true,decide_eq_true_eq]; omega))
 ·try simp only [sx] at c1
  refine sReg rfl<|zA rfl rfl (qJ rfl rfl rfl)<|rMv rfl<|zB<|zG rfl (fun c2 => ?_) (fun c2 => ?_)
  ·try simp only [sx] at c2
   refine zK<|zG rfl (fun c3 => ?_) (fun c3 => ?_)
   ·try simp only [sx] at c3
    refine sReg rfl<|rMv rfl<|zB<|zH<|fin1 (rs_c rfl) ?_
    exact congrArg vB (by unfold wantC; first | (exfalso; omega) | (simp [*]; done) | (rw [Bool.eq_iff_iff]; simp only [Bool.or_eq_true,Bool.and_eq_true,decide_eq_true_eq]; omega))
   ·try simp only [sx] at c3
    refine zK<|sReg rfl<|rMv rfl<|zA rfl rfl (qJ rfl rfl rfl)<|rMv rfl<|rLz [] rfl gv1 trivial (fun g6_2 => zN rfl rfl) rfl<|rLz [(13,_)] rfl gv1 ⟨rfl,rfl,trivial⟩ (fun g6_2 => qJ rfl rfl rfl) rfl<|zA rfl rfl (qP rfl rfl rfl (fun h => h) rfl)<|rMv rfl<|zB<|zH<|fin1 (rs_c rfl) ?_
    exact congrArg vB (by unfold wantC; first | (exfalso; omega) | (simp [*]; done) | (rw [Bool.eq_iff_iff]; simp only [Bool.or_eq_true,Bool.and_eq_true,decide_eq_true_eq]; omega))
  ·try simp only [sx] at c2
   refine zR rfl<|zA rfl rfl (qJ rfl rfl rfl)<|rMv rfl<|zB<|zG rfl (fun c3 => ?_) (fun c3 => ?_)
   ·try simp only [sx] at c3
    refine sReg rfl<|rMv rfl<|zB<|zH<|fin1 (rs_c rfl) ?_
    exact congrArg vB (by unfold wantC; first | (exfalso; omega) | (simp [*]; done) | (rw [Bool.eq_iff_iff]; simp only [Bool.or_eq_true,Bool.and_eq_true,decide_eq_true_eq]; omega))
   ·try simp only [sx] at c3
    refine zK<|sReg rfl<|rMv rfl<|zA rfl rfl (qJ rfl rfl rfl)<|rMv rfl<|rLz [] rfl gv1 trivial (fun g6_2 => zN rfl rfl) rfl<|rLz [(13,_)] rfl gv1 ⟨rfl,rfl,trivial⟩ (fun g6_2 => qJ rfl rfl rfl) rfl<|zA rfl rfl (qP rfl rfl rfl (fun h => h) rfl)<|rMv rfl<|zB<|zH<|fin1 (rs_c rfl) ?_
    exact congrArg vB (by unfold wantC; first | (exfalso; omega) | (simp [*]; done) | (rw [Bool.eq_iff_iff]; simp only [Bool.or_eq_true,Bool.and_eq_true,decide_eq_true_eq]; omega))
theorem zPx (l : Lf) :
    Pur cfg 283 [vLin l] (vB (zeroL l)):= by
 refine zV Tryz.func283 rfl Tryz.ntmps283 Tryz.results283 rfl ?_
 intro z hz
 refine sReg rfl<|zY rfl rfl (qM rfl rfl) ?_
 rintro _ _ ⟨b1,rfl,rfl⟩
 refine rMv rfl<|zB<|sReg rfl<|zA rfl rfl (zC rfl zCj rfl)<|zA rfl rfl (zD rfl one2 rfl (zE 0 rfl) rfl)<|zA rfl rfl (qJ rfl rfl rfl)<|rMv rfl<|rLz [] rfl gv1 trivial (fun g1_3 => zC rfl yM rfl) rfl<|rLz [(7,_)] rfl gv1 ⟨rfl,rfl,trivial⟩ (fun g1_3 => zD rfl kQ rfl (zE 0 rfl) rfl) rfl<|rLz [(8,_)] rfl gv1 ⟨rfl,rfl,trivial⟩ (fun g1_3 => zT rfl el47 rfl) rfl<|rLz [(9,_)] rfl gv1 ⟨rfl,rfl,trivial⟩ (fun g1_3 => qJ rfl rfl rfl) rfl<|zA rfl rfl (qP rfl rfl rfl (fun h => h) rfl)<|rMv rfl<|zB<|zH<|fin1 (rs_c rfl) ?_
 exact rfl
theorem zPw (x : Ix) :
    Pur cfg 286 [vIndex x] (vB (wellIx x)):= by
 refine zV Tryz.func286 rfl Tryz.ntmps286 Tryz.results286 rfl ?_
 intro z hz
 refine sReg rfl<|zY rfl rfl (qM rfl rfl) ?_
 rintro _ _ ⟨b1,rfl,rfl⟩
 refine rMv rfl<|zB<|zJ<|sReg rfl<|zA rfl rfl (zC rfl zCi rfl)<|zA rfl rfl (zD rfl one9 rfl (zE 0 rfl) rfl)<|zA rfl rfl (yL rfl rfl rfl)<|zB<|zG rfl (fun c1 => ?_) (fun c1 => ?_)
 ·try simp only [sx] at c1
  refine sReg rfl<|zA rfl rfl (zC rfl kG rfl)<|zA rfl rfl (zD rfl wI rfl (zE 0 rfl) rfl)<|zA rfl rfl (zT rfl wK rfl)<|zA rfl rfl (qJ rfl rfl rfl)<|rMv rfl<|zB<|zH<|fin1 (rs_c rfl) ?_
  rw [wellIx,wR c1]; rfl
 ·try simp only [sx] at c1
  refine zK<|sReg rfl<|zA rfl rfl (zC rfl zAy rfl)<|zA rfl rfl (zF rfl yI rfl (zE 0 rfl) rfl)<|zA rfl rfl (zQ rfl ok283 (zPx x.Lin) ⟨VLe.refl _,rfl,trivial⟩)<|rMv rfl<|zB<|zH<|fin1 (rs_c rfl) ?_
  rw [wellIx,yW c1]; rfl
theorem expr_syntax_1 (x : Ix) :
    Pur cfg 285 [vIndex x] (vB (!wellIx x)):= by
 refine zV Tryz.func285 rfl Tryz.ntmps285 Tryz.results285 rfl ?_
 intro z hz
 refine sReg rfl<|zY rfl rfl (qM rfl rfl) ?_
 rintro _ _ ⟨b1,rfl,rfl⟩
 refine rMv rfl<|zB<|sReg rfl<|zA rfl rfl (zF rfl zAq rfl (zE 0 rfl) rfl)<|zA rfl rfl (zQ rfl ok286 (zPw x) ⟨VLe.refl _,rfl,trivial⟩)<|zA rfl rfl (yA rfl rfl)<|rMv rfl<|zB<|zH<|fin1 (rs_c rfl) ?_
 exact rfl
theorem expr_names_1 (x : Ix) :
    Pur cfg 287 [vIndex x] (vB (!nmIx x)):= by
 refine zV Tryz.func287 rfl Tryz.ntmps287 Tryz.results287 rfl ?_
 intro z hz
 refine sReg rfl<|zY rfl rfl (qM rfl rfl) ?_
 rintro _ _ ⟨b1,rfl,rfl⟩
 refine rMv rfl<|zB<|sReg rfl<|zA rfl rfl (zC rfl zCi rfl)<|zA rfl rfl (zD rfl one9 rfl (zE 0 rfl) rfl)<|zA rfl rfl (zJz rfl rfl rfl)<|rMv rfl<|rLz [] rfl gv1 trivial (fun g1_3 => zC rfl zCi rfl) rfl<|rLz [(7,_)] rfl gv1 ⟨rfl,rfl,trivial⟩ (fun g1_3 => zD rfl one9 rfl (zE 0 rfl) rfl) rfl<|rLz [(8,_)] rfl gv1 ⟨rfl,rfl,trivial⟩ (fun g1_3 => zQ rfl ok66 (zDc _) ⟨VLe.refl _,rfl,trivial⟩) rfl<|rLz [(9,_)] rfl gv1 ⟨rfl,rfl,trivial⟩ (fun g1_3 => yA rfl rfl) rfl<|zA rfl rfl (qP rfl rfl rfl (fun h => h) rfl)<|rMv rfl<|zB<|zH<|fin1 (rs_c rfl) ?_
 exact congrArg vB (by unfold nmIx; simp)
theorem expr_rank_1 (x : Ix) :
    Pur cfg 289 [vIndex x] (vB (!rkIx x)):= by
 refine zV Tryz.func289 rfl Tryz.ntmps289 Tryz.results289 rfl ?_
 intro z hz
 refine sReg rfl<|zY rfl rfl (qM rfl rfl) ?_
 rintro _ _ ⟨b1,rfl,rfl⟩
 refine rMv rfl<|zB<|sReg rfl<|zA rfl rfl (zC rfl kG rfl)<|zA rfl rfl (zD rfl wI rfl (zE 0 rfl) rfl)<|zA rfl rfl (zT rfl wK rfl)<|zA rfl rfl (yV rfl rfl rfl)<|rMv rfl<|zB<|zH<|fin1 (rs_c rfl) ?_
 exact congrArg vB (by unfold rkIx; simp)
theorem expr_syntax (e : Ex) (he : e.wt ≤ 6000000000000) :
    Pur cfg 260 [vE e] (vB (synOk e)):= by
 refine zV Tryz.func260 rfl Tryz.ntmps260 Tryz.results260 rfl ?_
 intro z hz
 obtain ⟨hL,hI,hA⟩ := e.parts he
 refine sReg rfl<|zY rfl rfl (qM rfl rfl) ?_
 rintro _ _ ⟨b1,rfl,rfl⟩
 refine rMv rfl<|zB<|zJ<|yG 13 mixed (by kernel_rfl) rfl rfl<|zM rfl rfl (zC rfl zAb rfl)<|zM rfl rfl (zD rfl one3 rfl (zE 0 rfl) rfl)<|zM rfl rfl (qJ rfl rfl rfl)<|zM rfl rfl (zC rfl zAb rfl)<|zM rfl rfl (zD rfl one3 rfl (zE 0 rfl) rfl)<|zM rfl rfl (qJ rfl rfl rfl)<|zM rfl rfl (zN rfl rfl)<|qG [] rfl rfl rfl rfl gv1 trivial (fun g1_6 => zC rfl zAb rfl) rfl<|qG [(14,_)] rfl rfl rfl rfl gv1 ⟨rfl,rfl,trivial⟩ (fun g1_6 => zD rfl one3 rfl (zE 0 rfl) rfl) rfl<|qG [(15,_)] rfl rfl rfl rfl gv1 ⟨rfl,rfl,trivial⟩ (fun g1_6 => qJ rfl rfl rfl) rfl<|zM rfl rfl (yP rfl rfl rfl rfl (fun h => (lzf h)))<|zM rfl rfl (yS rfl rfl)<|zM rfl rfl (yS rfl rfl)<|kI<|zB<|zJ<|yG 8 mixed (by kernel_rfl) rfl rfl<|zM rfl rfl (zC rfl zAb rfl)<|zM rfl rfl (zD rfl one3 rfl (zE 0 rfl) rfl)<|zM rfl rfl (qJ rfl rfl rfl)<|zM rfl rfl (zC rfl zAb rfl)<|zM rfl rfl (zD rfl one3 rfl (zE 0 rfl) rfl)<|zM rfl rfl (qJ rfl rfl rfl)<|zM rfl rfl (yS rfl rfl)<|zM rfl rfl (yS rfl rfl)<|kI<|zB<|zJ<|zU<|sReg rfl<|zA rfl rfl (zC rfl zAb rfl)<|zA rfl rfl (zD rfl one3 rfl (zE 0 rfl) rfl)<|zA rfl rfl (qL rfl rfl rfl)<|rMv rfl<|rLz [] rfl gv1 trivial (fun g3_3 => zC rfl zAb rfl) rfl<|rLz [(29,_)] rfl gv1 ⟨rfl,rfl,trivial⟩ (fun g3_3 => zD rfl one3 rfl (zE 0 rfl) rfl) rfl<|rLz [(30,_)] rfl gv1 ⟨rfl,rfl,trivial⟩ (fun g3_3 => yV rfl rfl rfl) rfl<|zA rfl rfl (yP rfl rfl rfl rfl (fun h => (lzf h)))<|rMv rfl<|zB<|zG rfl (fun c1 => ?_) (fun c1 => ?_)
 ·refine sReg rfl<|rMv rfl<|zB<|zH<|fin1 (rs_c rfl) ?_
  exact congrArg vB (by simp only [synOk,c1,Bool.not_true,Bool.not_false,Bool.true_and,Bool.and_true,Bool.false_and,Bool.and_false])
 ·refine sReg rfl<|rMv rfl<|zA rfl rfl (yA rfl rfl)<|rMv rfl<|rLz [] rfl gv1 trivial (fun g5_2 => zC rfl zHw rfl) rfl<|rLz [(37,_)] rfl gv1 ⟨rfl,rfl,trivial⟩ (fun g5_2 => zF rfl agg46 rfl (zE 0 rfl) rfl) rfl<|rLz [] rfl gv1 trivial (fun g5_2 => qU rfl zr46 pl46 rfl) rfl<|rLz [(38,_),(39,_)] rfl gv1 ⟨rfl,rfl,rfl,rfl,trivial⟩ (fun g5_2 => zCa rfl fl46 rfl rfl rfl) rfl<|zA rfl rfl (qP rfl rfl rfl (fun h => h) rfl)<|rMv rfl<|zB<|zG rfl (fun c2 => ?_) (fun c2 => ?_)
  ·have c2 : (!decide (e.Op = 1) && !val0 e.Val) = true := c2
   refine sReg rfl<|rMv rfl<|zB<|zH<|fin1 (rs_c rfl) ?_
   exact congrArg vB (by simp only [synOk,c2,Bool.not_true,Bool.not_false,Bool.true_and,Bool.and_true,Bool.false_and,Bool.and_false])
  ·have c2 : (!decide (e.Op = 1) && !val0 e.Val) = false := c2
   refine sReg rfl<|rMv rfl<|zA rfl rfl (yA rfl rfl)<|rMv rfl<|rLz [] rfl gv1 trivial (fun g7_2 => zC rfl zGk rfl) rfl<|rLz [(46,_)] rfl gv1 ⟨rfl,rfl,trivial⟩ (fun g7_2 => zF rfl yU rfl (zE 0 rfl) rfl) rfl<|rLz [] rfl gv1 trivial (fun g7_2 => qU rfl zr40 pl40 rfl) rfl<|rLz [(47,_),(48,_)] rfl gv1 ⟨rfl,rfl,rfl,rfl,trivial⟩ (fun g7_2 => zCa rfl fl40 rfl rfl rfl) rfl<|zA rfl rfl (qP rfl rfl rfl (fun h => h) rfl)<|rMv rfl<|zB<|zG rfl (fun c3 => ?_) (fun c3 => ?_)
   ·have c3 : (!(decide (e.Op = 1) || decide (e.Op = 12)) && !ty0 e.Ty) = true := c3
    refine sReg rfl<|rMv rfl<|zB<|zH<|fin1 (rs_c rfl) ?_
    exact congrArg vB (by simp only [synOk,c3,Bool.not_true,Bool.not_false,Bool.true_and,Bool.and_true,Bool.false_and,Bool.and_false])
   ·have c3 : (!(decide (e.Op = 1) || decide (e.Op = 12)) && !ty0 e.Ty) = false := c3
    refine sReg rfl<|rMv rfl<|zA rfl rfl (yA rfl rfl)<|rMv rfl<|rLz [] rfl gv1 trivial (fun g9_2 => zC rfl zCy rfl) rfl<|rLz [(55,_)] rfl gv1 ⟨rfl,rfl,trivial⟩ (fun g9_2 => zF rfl yI rfl (zE 0 rfl) rfl) rfl<|rLz [(56,_)] rfl gv1 ⟨rfl,rfl,trivial⟩ (fun g9_2 => zQ rfl ok283 (zPx e.Lin) ⟨VLe.refl _,rfl,trivial⟩) rfl<|rLz [(57,_)] rfl gv1 ⟨rfl,rfl,trivial⟩ (fun g9_2 => yA rfl rfl) rfl<|zA rfl rfl (qP rfl rfl rfl (fun h => h) rfl)<|rMv rfl<|zB<|zG rfl (fun c4 => ?_) (fun c4 => ?_)
    ·refine sReg rfl<|rMv rfl<|zB<|zH<|fin1 (rs_c rfl) ?_
     exact congrArg vB (by simp only [synOk,c4,Bool.not_true,Bool.not_false,Bool.true_and,Bool.and_true,Bool.false_and,Bool.and_false])
    ·refine sReg rfl<|rMv rfl<|zA rfl rfl (yA rfl rfl)<|rMv rfl<|rLz [] rfl gv1 trivial (fun g11_2 => zC rfl zGl rfl) rfl<|rLz [(64,_)] rfl gv1 ⟨rfl,rfl,trivial⟩ (fun g11_2 => zD rfl one9 rfl (zE 0 rfl) rfl) rfl<|rLz [(65,_)] rfl gv1 ⟨rfl,rfl,trivial⟩ (fun g11_2 => zJz rfl rfl rfl) rfl<|rLz [(66,_)] rfl gv1 ⟨rfl,rfl,trivial⟩ (fun g11_2 => zN rfl rfl) rfl<|rLz [] rfl gv2 trivial (fun g11_6 => zC rfl kR rfl) rfl<|rLz [(68,_)] rfl gv2 ⟨rfl,rfl,trivial⟩ (fun g11_6 => zD rfl wF rfl (zE 0 rfl) rfl) rfl<|rLz [(69,_)] rfl gv2 ⟨rfl,rfl,trivial⟩ (fun g11_6 => zT rfl el44 rfl) rfl<|rLz [(70,_)] rfl gv2 ⟨rfl,rfl,trivial⟩ (fun g11_6 => yV rfl rfl rfl) rfl<|rLz [(67,_)] rfl gv1 ⟨rfl,rfl,trivial⟩ (fun g11_2 => yP rfl rfl rfl rfl (fun h => kF (by assumption) (lzf h))) rfl<|zA rfl rfl (qP rfl rfl rfl (fun h => h) rfl)<|rMv rfl<|zB<|zG rfl (fun c5 => ?_) (fun c5 => ?_)
     ·refine sReg rfl<|rMv rfl<|zB<|zH<|fin1 (rs_c rfl) ?_
      exact congrArg vB (by simp only [synOk,c5,Bool.not_true,Bool.not_false,Bool.true_and,Bool.and_true,Bool.false_and,Bool.and_false])
     ·refine zK<|sReg rfl<|zA rfl rfl (zC rfl kR rfl)<|zA rfl rfl (zD rfl wF rfl (zE 0 rfl) rfl)<|zA rfl rfl (zQ rfl ok284 (wU e.Idx _ (fun x => !wellIx x) hI (fun x _ => FnPur.of_pur (first := []) (cap := []) ok285 (expr_syntax_1 x))) ⟨VLe.refl _,rfl,VLe.refl _,rfl,trivial⟩)<|zA rfl rfl (yA rfl rfl)<|rMv rfl<|zB<|zH<|fin1 (rs_c rfl) ?_
      exact congrArg vB (by rw [zFy]; simp only [synOk,c1,c2,c3,c4,c5,Bool.not_true,Bool.not_false,Bool.true_and,Bool.and_true,Bool.false_and,Bool.and_false])
theorem expr_names (e : Ex) (he : e.wt ≤ 6000000000000) :
    Pur cfg 261 [vE e] (vB (namesE e)):= by
 refine zV Tryz.func261 rfl Tryz.ntmps261 Tryz.results261 rfl ?_
 intro z hz
 obtain ⟨hL,hI,hA⟩ := e.parts he
 refine sReg rfl<|zY rfl rfl (qM rfl rfl) ?_
 rintro _ _ ⟨b1,rfl,rfl⟩
 refine rMv rfl<|zB<|zJ<|sReg rfl<|zA rfl rfl (zC rfl zAb rfl)<|zA rfl rfl (zD rfl one3 rfl (zE 0 rfl) rfl)<|zA rfl rfl (qJ rfl rfl rfl)<|rMv rfl<|rLz [] rfl gv1 trivial (fun g1_3 => zC rfl zGl rfl) rfl<|rLz [(7,_)] rfl gv1 ⟨rfl,rfl,trivial⟩ (fun g1_3 => zD rfl one9 rfl (zE 0 rfl) rfl) rfl<|rLz [(8,_)] rfl gv1 ⟨rfl,rfl,trivial⟩ (fun g1_3 => zQ rfl ok66 (zDc _) ⟨VLe.refl _,rfl,trivial⟩) rfl<|rLz [(9,_)] rfl gv1 ⟨rfl,rfl,trivial⟩ (fun g1_3 => yA rfl rfl) rfl<|zA rfl rfl (qP rfl rfl rfl (fun h => h) rfl)<|zB<|zG rfl (fun c1 => ?_) (fun c1 => ?_)
 ·refine sReg rfl<|rMv rfl<|zB<|zH<|fin1 (rs_c rfl) ?_
  exact congrArg vB (by simp only [namesE,c1,Bool.not_true,Bool.false_and])
 ·refine zK<|sReg rfl<|zA rfl rfl (zC rfl kR rfl)<|zA rfl rfl (zD rfl wF rfl (zE 0 rfl) rfl)<|zA rfl rfl (zQ rfl ok284 (wU e.Idx _ (fun x => !nmIx x) hI (fun x _ => FnPur.of_pur (first := []) (cap := []) ok287 (expr_names_1 x))) ⟨VLe.refl _,rfl,VLe.refl _,rfl,trivial⟩)<|zA rfl rfl (yA rfl rfl)<|rMv rfl<|zB<|zH<|fin1 (rs_c rfl) ?_
  exact congrArg vB (by rw [zFy]; simp only [namesE,c1,Bool.not_false,Bool.true_and])
theorem expr_rank (e : Ex) (he : e.wt ≤ 6000000000000) :
    Pur cfg 262 [vE e] (vB (rankE e)):= by
 refine zV Tryz.func262 rfl Tryz.ntmps262 Tryz.results262 rfl ?_
 intro z hz
 obtain ⟨hL,hI,hA⟩ := e.parts he
 refine sReg rfl<|zY rfl rfl (qM rfl rfl) ?_
 rintro _ _ ⟨b1,rfl,rfl⟩
 refine rMv rfl<|zB<|zJ<|zJ<|yG 13 mixed (by kernel_rfl) rfl rfl<|zM rfl rfl (zC rfl wM rfl)<|zM rfl rfl (zD rfl zCu rfl (zE 0 rfl) rfl)<|zM rfl rfl (zT rfl el50 rfl)<|zM rfl rfl (zC rfl zAb rfl)<|zM rfl rfl (zD rfl one3 rfl (zE 0 rfl) rfl)<|zM rfl rfl (zQ rfl ok288 (expr_operands _) ⟨VLe.refl _,rfl,trivial⟩)<|zM rfl rfl (qS rfl rfl rfl)<|zM rfl rfl (zN rfl rfl)<|qG [] rfl rfl rfl rfl gv1 trivial (fun g1_7 => zC rfl kR rfl) rfl<|qG [(11,_)] rfl rfl rfl rfl gv1 ⟨rfl,rfl,trivial⟩ (fun g1_7 => zD rfl wF rfl (zE 0 rfl) rfl) rfl<|qG [(12,_)] rfl rfl rfl rfl gv1 ⟨rfl,rfl,trivial⟩ (fun g1_7 => zT rfl el44 rfl) rfl<|qG [(13,_)] rfl rfl rfl rfl gv1 ⟨rfl,rfl,trivial⟩ (fun g1_7 => yV rfl rfl rfl) rfl<|zM rfl rfl (yP rfl rfl rfl rfl (fun h => (lzf h)))<|kI<|zB<|zG rfl (fun c1 => ?_) (fun c1 => ?_)
 ·refine sReg rfl<|rMv rfl<|zB<|zH<|fin1 (rs_c rfl) ?_
  exact congrArg vB (by simp only [rankE,c1,Bool.not_true,Bool.false_and])
 ·refine zK<|sReg rfl<|zA rfl rfl (zC rfl kR rfl)<|zA rfl rfl (zD rfl wF rfl (zE 0 rfl) rfl)<|zA rfl rfl (zQ rfl ok284 (wU e.Idx _ (fun x => !rkIx x) hI (fun x _ => FnPur.of_pur (first := []) (cap := []) ok289 (expr_rank_1 x))) ⟨VLe.refl _,rfl,VLe.refl _,rfl,trivial⟩)<|zA rfl rfl (yA rfl rfl)<|rMv rfl<|zB<|zH<|fin1 (rs_c rfl) ?_
  exact congrArg vB (by rw [zFy]; simp only [rankE,c1,Bool.not_false,Bool.true_and])
theorem expr_types (e : Ex) (he : e.wt ≤ 6000000000000) :
    Pur cfg 263 [vE e] (vB (typesE e)):= by
 refine zV Tryz.func263 rfl Tryz.ntmps263 Tryz.results263 rfl ?_
 intro z hz
 obtain ⟨hL,hI,hA⟩ := e.parts he
 refine sReg rfl<|zY rfl rfl (qM rfl rfl) ?_
 rintro _ _ ⟨b1,rfl,rfl⟩
 refine rMv rfl<|zB<|zJ<|sReg rfl<|zA rfl rfl (zC rfl zAb rfl)<|zA rfl rfl (zD rfl one3 rfl (zE 0 rfl) rfl)<|zA rfl rfl (qJ rfl rfl rfl)<|rMv rfl<|rLz [] rfl gv1 trivial (fun g1_3 => zC rfl zAb rfl) rfl<|rLz [(9,_)] rfl gv1 ⟨rfl,rfl,trivial⟩ (fun g1_3 => zD rfl one3 rfl (zE 0 rfl) rfl) rfl<|rLz [(10,_)] rfl gv1 ⟨rfl,rfl,trivial⟩ (fun g1_3 => qJ rfl rfl rfl) rfl<|zA rfl rfl (yP rfl rfl rfl rfl (fun h => (lzf h)))<|rMv rfl<|rLz [] rfl gv1 trivial (fun g1_8 => zC rfl zGk rfl) rfl<|rLz [(14,_)] rfl gv1 ⟨rfl,rfl,trivial⟩ (fun g1_8 => zF rfl yU rfl (zE 0 rfl) rfl) rfl<|rLz [(15,_)] rfl gv1 ⟨rfl,rfl,trivial⟩ (fun g1_8 => zQ rfl ok123 (zBg _) ⟨VLe.refl _,rfl,trivial⟩) rfl<|rLz [(16,_)] rfl gv1 ⟨rfl,rfl,trivial⟩ (fun g1_8 => qS rfl rfl rfl) rfl<|zA rfl rfl (qP rfl rfl rfl (fun h => h) rfl)<|zB<|zG rfl (fun c1 => ?_) (fun c1 => ?_)
 ·rw [tyErr_dec] at c1
  refine sReg rfl<|rMv rfl<|zB<|zH<|fin1 (rs_c rfl) ?_
  exact congrArg vB (by simp only [typesE,c1,Bool.not_true,Bool.false_and])
 ·rw [tyErr_dec] at c1
  refine zK<|zJ<|sReg rfl<|zA rfl rfl (zC rfl wM rfl)<|zA rfl rfl (zD rfl zCu rfl (zE 0 rfl) rfl)<|zA rfl rfl (zT rfl el50 rfl)<|rMv rfl<|zB<|zU<|zX ⟨[(22,.c _),(1,.c _),(20,.c _),(21,.c _)],[_]⟩ (Weak.mk [true] ⟨VLe.of_eq rfl,VLe.of_eq rfl,VLe.of_eq rfl,VLe.of_eq rfl,trivial⟩ rfl)<|qI 1 0 rfl rfl (Nat) (fun k => [(22,vI k)]) (fun k => []) (fun k => k ≤ e.Args.length ∧ (condsOk e.Op 0 e.Args = condsOk e.Op k (e.Args.drop k))) (fun k => e.Args.length - k) ⟨0,⟨by omega,rfl⟩,Weak.mk [true] ⟨VLe.refl _,VLe.refl _,VLe.refl _,VLe.refl _,trivial⟩ rfl⟩ ?_
  rintro k ⟨hk,hp⟩
  refine sReg rfl<|zA rfl rfl (qL rfl rfl rfl)<|zB<|zJ<|zG rfl (fun c2 => ?_) (fun c2 => ?_)
  ·try simp only [sx] at c2
   obtain ⟨a,ha⟩ := qZ e.Args k (by omega)
   refine zK<|zJ<|zU<|sReg rfl<|rMv rfl<|zA rfl rfl (zP rfl el50 rfl rfl (by omega) (zLm (by assumption)))<|zA rfl rfl (zF rfl yY rfl qA rfl)<|zY rfl rfl (qH [none,none,none,none,none,none,none,none,none,none,some 2,some 4,some 13] rfl zr52 rfl) ?_
   rintro _ _ ⟨b2,rfl,rfl⟩
   refine rMv rfl<|zS rfl rfl (zO rfl sz52 rfl rfl rfl (qE 0 rfl rfl))<|zB<|zJ<|yG 7 mixed (by kernel_rfl) rfl rfl<|zM rfl rfl (zF rfl yY rfl (zE 0 rfl) rfl)<|zM rfl rfl (zQ rfl ok164 (kJ a) ⟨VLe.refl _,rfl,trivial⟩)<|zM rfl rfl (zC rfl zAb rfl)<|zM rfl rfl (zD rfl one3 rfl (zE 1 rfl) rfl)<|zM rfl rfl (zN rfl rfl)<|zM rfl rfl (zQ rfl ok290 (zFl _ _) ⟨VLe.refl _,rfl,VLe.refl _,rfl,trivial⟩)<|zM rfl rfl (det_bneq rfl un4 rfl rfl)<|kI<|zB<|zG rfl (fun c3 => ?_) (fun c3 => ?_)
   ·refine sReg rfl<|rMv rfl<|zB<|zH<|fin1 (rs_c rfl) ?_
    exact congrArg vB (by simp only [typesE,c1,Bool.not_false,Bool.true_and]; rw [hp,qR ha,condsOk,show (isCond a == wantC e.Op k) = false by simpa using c3,Bool.false_and])
   ·refine zK<|zR rfl<|zA rfl rfl (qC rfl rfl rfl ⟨by omega,by omega⟩)<|rMv rfl<|zB ?_
    refine ⟨k + 1,⟨by omega,(by rw [hp,qR ha,condsOk,show (isCond a == wantC e.Op k) = true by simpa using c3,Bool.true_and]; rfl)⟩,(by omega),Weak.mk [false,true] ⟨VLe.refl _,VLe.refl _,VLe.refl _,VLe.refl _,trivial⟩ rfl⟩
  ·try simp only [sx] at c2
   refine qO<|sReg rfl<|rMv rfl<|zB<|zH<|fin1 (rs_c rfl) ?_
   exact congrArg vB (by simp only [typesE,c1,Bool.not_false,Bool.true_and]; rw [hp,yX (by omega)]; rfl)
theorem zGo (n : Nat) (ih : n ≠ 0 → ∀ (a : Ex) (l : Int),a.wt ≤ 6000000000000 → l = n → Pur cfg 259 [vE a,vI l] (vI (depT (n - 1) a))) (hn : n ≤ 100) (e : Ex) (l : Int) (he : e.wt ≤ 6000000000000) (hl : l = n + 1) :
    Pur cfg 259 [vE e,vI l] (vI (depT n e)):= by
 refine zV Tryz.func259 rfl Tryz.ntmps259 Tryz.results259 rfl ?_
 intro z hz
 obtain ⟨hL,hI,hA⟩ := e.parts he
 refine sReg rfl<|zY rfl rfl (qM rfl rfl) ?_
 rintro _ _ ⟨b1,rfl,rfl⟩
 refine rMv rfl<|zB<|zJ<|sReg rfl<|rMv rfl<|zA rfl rfl (wQ rfl rfl rfl)<|zB<|zG rfl (fun c1 => ?_) (fun c1 => ?_)
 ·try simp only [sx] at c1
  obtain rfl : n = 0:= by omega
  refine sReg rfl<|rMv rfl<|rMv rfl<|zB<|zH<|fin1 (rs_c rfl) ?_
  exact congrArg vI (by rw [hl]; rfl)
 ·try simp only [sx] at c1
  obtain ⟨m,rfl⟩ : ∃ m,n = m + 1 := ⟨n - 1,by omega⟩
  refine zK<|sReg rfl<|rMv rfl<|zB<|zJ<|sReg rfl<|zA rfl rfl (zC rfl wM rfl)<|zA rfl rfl (zD rfl zCu rfl (zE 0 rfl) rfl)<|zA rfl rfl (zT rfl el50 rfl)<|rMv rfl<|zB<|zU<|zX ⟨[(14,.c _),(5,.c _),(1,.c _),(12,.c _),(13,.c _)],[]⟩ (Weak.mk [false] ⟨VLe.of_eq rfl,VLe.of_eq rfl,VLe.of_eq rfl,VLe.of_eq rfl,VLe.of_eq rfl,trivial⟩ rfl)<|qI 2 0 rfl rfl (Nat × Int) (fun ⟨k,d⟩ => [(14,vI k),(5,vI d)]) (fun ⟨k,d⟩ => []) (fun ⟨k,d⟩ => k ≤ e.Args.length ∧ (1 ≤ d) ∧ (d ≤ m + 2) ∧ (depT (m + 1) e = depF (depT m) d (e.Args.drop k))) (fun ⟨k,d⟩ => e.Args.length - k) ⟨⟨0,1⟩,⟨by omega,by omega,by omega,rfl⟩,Weak.mk [] ⟨VLe.refl _,VLe.of_eq (rfl),VLe.refl _,VLe.refl _,VLe.refl _,trivial⟩ rfl⟩ ?_
  rintro ⟨k,d⟩ ⟨hk,hd1,hd2,hd3⟩
  show AWP _ _ _ _ _ ⟨[(14,vI k),(5,vI d)] ++ _,[] ++ _⟩
  refine sReg rfl<|zA rfl rfl (qL rfl rfl rfl)<|zB<|zJ<|zG rfl (fun c2 => ?_) (fun c2 => ?_)
  ·try simp only [sx] at c2
   obtain ⟨a,ha⟩ := qZ e.Args k (by omega)
   have hda := depT_le m a
   refine zK<|zJ<|zU<|sReg rfl<|zA rfl rfl (zP rfl el50 rfl rfl (by omega) (zLm (by assumption)))<|zA rfl rfl (zF rfl yY rfl qA rfl)<|zY rfl rfl (qH [none,none,none,none,none,none,none,none,none,none,some 2,some 4,some 13] rfl zr52 rfl) ?_
   rintro _ _ ⟨b2,rfl,rfl⟩
   refine zS rfl rfl (zO rfl sz52 rfl rfl rfl (qE 0 rfl rfl))<|zB<|zR rfl<|rMv rfl<|zA rfl rfl (zF rfl yY rfl (zE 0 rfl) rfl)<|rMv rfl<|zA rfl rfl (yD rfl rfl rfl ⟨by omega,by omega⟩)<|zA rfl rfl (zQ rfl ok259 (show Pur cfg 259 [vE a,vI (l - 1)] (vI (depT m a)) from ih (by omega) a _ (by have := Ex.arg_wt (qB ha); omega) (by omega)) ⟨VLe.refl _,rfl,VLe.refl _,rfl,trivial⟩)<|zA rfl rfl (qC rfl rfl rfl ⟨by omega,by omega⟩)<|zA rfl rfl (det_max rfl rfl rfl)<|rMv rfl<|zB<|zR rfl<|zA rfl rfl (qC rfl rfl rfl ⟨by omega,by omega⟩)<|rMv rfl<|zB ?_
   refine ⟨⟨k + 1,max d (1 + depT m a)⟩,⟨by omega,by omega,by omega,by rw [hd3,qR ha,depF]⟩,(by show e.Args.length - (k + 1) < e.Args.length - k; omega),Weak.mk [false] ⟨VLe.refl _,VLe.refl _,VLe.refl _,VLe.refl _,VLe.refl _,trivial⟩ rfl⟩
  ·try simp only [sx] at c2
   refine qO<|sReg rfl<|rMv rfl<|rMv rfl<|zB<|zH<|fin1 (rs_c rfl) ?_
   exact congrArg vI (by rw [hd3,yX (by omega)]; rfl)
theorem expr_depth (n : Nat) (e : Ex) (l : Int) (hn : n ≤ 100) (he : e.wt ≤ 6000000000000) (hl : l = n + 1) : Pur cfg 259 [vE e,vI l] (vI (depT n e)):= by
  induction n generalizing e l with
  | zero => exact zGo 0 (fun h => absurd rfl h) hn e l he hl
  | succ n ih => exact zGo (n + 1) (fun _ a l h1 h2 => ih a l (by omega) h1 (by omega)) hn e l he hl
theorem expr_Depth (e : Ex) (he : e.wt ≤ 6000000000000) :
    Pur cfg 220 [vE e] (vI (depT 40 e)):= by
 refine zV Tryz.func220 rfl Tryz.ntmps220 Tryz.results220 rfl ?_
 intro z hz
 refine sReg rfl<|zY rfl rfl (qM rfl rfl) ?_
 rintro _ _ ⟨b1,rfl,rfl⟩
 refine rMv rfl<|zB<|sReg rfl<|zA rfl rfl (zF rfl yY rfl (zE 0 rfl) rfl)<|zA rfl rfl (zQ rfl ok259 (expr_depth 40 e 41 (by omega) he (by omega)) ⟨VLe.refl _,rfl,VLe.refl _,rfl,trivial⟩)<|rMv rfl<|zB<|zH<|fin1 (rs_c rfl) ?_
 exact rfl
end Go.W
