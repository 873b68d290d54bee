/-
  Walks: what functions of the program compute. Printed by wip/gen/mk2.py.
  Conditions: none.
-/
import Derived.Test.YtnnkemdiknefaaaGreatDoorWA
set_option linter.unusedSimpArgs false
set_option linter.unusedVariables false
namespace Go.W
open Go Go.Eng Go.Proofs Go.L41 Go.Br
attribute [local irreducible] AWP RWP TD
theorem agg23 : aggT Tryz.prog 23 = some 5 := by kernel_rfl
theorem agg26 : aggT Tryz.prog 26 = some 2 := by kernel_rfl
theorem fd23_0 : fieldT Tryz.prog 23 0 = some (0, 3) := by kernel_rfl
theorem fd23_1 : fieldT Tryz.prog 23 1 = some (1, 3) := by kernel_rfl
theorem fd23_2 : fieldT Tryz.prog 23 2 = some (2, 3) := by kernel_rfl
theorem fd23_3 : fieldT Tryz.prog 23 3 = some (3, 3) := by kernel_rfl
theorem fd23_4 : fieldT Tryz.prog 23 4 = some (4, 3) := by kernel_rfl
theorem fd26_0 : fieldT Tryz.prog 26 0 = some (0, 2) := by kernel_rfl
theorem fd26_1 : fieldT Tryz.prog 26 1 = some (1, 2) := by kernel_rfl
theorem fl23 : flatK Tryz.prog 23 = some [.int, .int, .int, .int, .int] := by kernel_rfl
theorem ik207 : intT Tryz.prog 207 = some .u64 := by kernel_rfl
theorem ik222 : intT Tryz.prog 222 = some .u64 := by kernel_rfl
theorem ok142 : callOk Tryz.prog 142 = true := by kernel_rfl
theorem ok186 : callOk Tryz.prog 186 = true := by kernel_rfl
theorem ok187 : callOk Tryz.prog 187 = true := by kernel_rfl
theorem ok188 : callOk Tryz.prog 188 = true := by kernel_rfl
theorem ok224 : callOk Tryz.prog 224 = true := by kernel_rfl
theorem ok225 : callOk Tryz.prog 225 = true := by kernel_rfl
theorem ok226 : callOk Tryz.prog 226 = true := by kernel_rfl
theorem ok228 : callOk Tryz.prog 228 = true := by kernel_rfl
theorem ok229 : callOk Tryz.prog 229 = true := by kernel_rfl
theorem ok242 : callOk Tryz.prog 242 = true := by kernel_rfl
theorem ok255 : callOk Tryz.prog 255 = true := by kernel_rfl
theorem ok256 : callOk Tryz.prog 256 = true := by kernel_rfl
theorem ok257 : callOk Tryz.prog 257 = true := by kernel_rfl
theorem ok258 : callOk Tryz.prog 258 = true := by kernel_rfl
theorem ok259 : callOk Tryz.prog 259 = true := by kernel_rfl
theorem ok272 : callOk Tryz.prog 272 = true := by kernel_rfl
theorem one3 : oneT Tryz.prog 3 = true := by kernel_rfl
theorem pl23 : placesT Tryz.prog 23 = some [(0, 1), (1, 1), (2, 1), (3, 1), (4, 1)] := by kernel_rfl
theorem pl26 : placesT Tryz.prog 26 = some [(0, 1), (1, 1)] := by kernel_rfl
theorem sz26 : (Tryz.prog.info? 26).map (·.size) = some 2 := by kernel_rfl
theorem us2 : (Tryz.prog.underlying 2).isSome = true := by kernel_rfl
theorem us3 : (Tryz.prog.underlying 3).isSome = true := by kernel_rfl
theorem zr23 : zeroT Tryz.prog 23 = some [(Value.int IntKind.i64 0), (Value.int IntKind.i64 0), (Value.int IntKind.i64 0), (Value.int IntKind.i64 0), (Value.int IntKind.i64 0)] := by kernel_rfl
theorem zr26 : zeroT Tryz.prog 26 = some [(Value.int IntKind.i64 0), (Value.int IntKind.i64 0)] := by kernel_rfl
theorem delta_contains (l : Lf) (s : ByteArray) (hl : l.L.length ≤ 6000000000000) :
    Pur cfg 123 [vLin l, vS s] (vB (hasVar l.L s)) := by
 refine zZ Tryz.func123 rfl Tryz.ntmps123 Tryz.results123 rfl ?_
 intro z hz
 refine zE ?_
 refine zB rfl ?_
 refine qC rfl rfl (qN rfl rfl) ?_
 rintro _ _ ⟨b1, rfl, rfl⟩
 refine qC rfl rfl (qN rfl rfl) ?_
 rintro _ _ ⟨b2, rfl, rfl⟩
 refine zA rfl rfl (zC rfl rfl) ?_
 refine zH ?_
 refine zE ?_
 refine zB rfl ?_
 refine zA rfl rfl (zJ rfl yI rfl) ?_
 refine zA rfl rfl (zK rfl kH rfl (zP 1 rfl) rfl) ?_
 refine zA rfl rfl (det_func rfl rfl rfl rfl rfl) ?_
 refine yN _ (yP 0 rfl 7 (.c (.fn _ _ [_])) (PLe.fn ⟨.inr ⟨rfl, rfl⟩, trivial⟩)) ?_
 refine zA rfl rfl (zW rfl ok186 (slices_ContainsFunc_mono l.L _ (fun m => decide (m.Name = s)) hl (fun m _ => FnPur.of_pur (first := []) (cap := [.iptr [cS s]]) ok187 (delta_contains_1 m s))) ⟨VLe.refl _, rfl, VLe.refl _, rfl, trivial⟩) ?_
 refine zA rfl rfl (zC rfl rfl) ?_
 refine zH ?_
 refine zS ?_
 repeat (first | refine zO ?_ | refine zM ?_)
 refine fin1 (rs_c rfl) ?_
 exact rfl

theorem value_plain (t : Ty) :
    Pur cfg 228 [vTy t] (vB (plainT t)) := by
 refine zZ Tryz.func228 rfl Tryz.ntmps228 Tryz.results228 rfl ?_
 intro z hz
 refine zE ?_
 refine zB rfl ?_
 refine qC rfl rfl (qN rfl rfl) ?_
 rintro _ _ ⟨b1, rfl, rfl⟩
 refine zA rfl rfl (zC rfl rfl) ?_
 refine zH ?_
 refine zE ?_
 refine zB rfl ?_
 refine zA rfl rfl (zQ rfl agg23 rfl (zP 0 rfl) rfl) ?_
 refine zA rfl rfl (zJ rfl fd23_0 rfl) ?_
 refine zA rfl rfl (zK rfl one3 rfl (zP 0 rfl) rfl) ?_
 refine zA rfl rfl (yE rfl zr23 pl23 rfl) ?_
 refine zA rfl rfl (det_aeql rfl fl23 rfl rfl rfl) ?_
 refine zA rfl rfl (zC rfl rfl) ?_
 refine zH ?_
 refine zS ?_
 repeat (first | refine zO ?_ | refine zM ?_)
 refine fin1 (rs_c rfl) ?_
 exact congrArg vB (plainT_eq t)

theorem fixed_ValidateType (t : Ty) :
    Pur cfg 229 [vTy t] (vI (bif fixOk t then 0 else 10)) := by
 refine zZ Tryz.func229 rfl Tryz.ntmps229 Tryz.results229 rfl ?_
 intro z hz
 refine zE ?_
 refine zB rfl ?_
 refine qC rfl rfl (qN rfl rfl) ?_
 rintro _ _ ⟨b1, rfl, rfl⟩
 refine zA rfl rfl (zC rfl rfl) ?_
 refine zH ?_
 refine zE ?_
 refine zB rfl ?_
 refine zA rfl rfl (zJ rfl fd23_3 rfl) ?_
 refine zA rfl rfl (zK rfl one3 rfl (zP 0 rfl) rfl) ?_
 refine zA rfl rfl (kR rfl rfl rfl) ?_
 refine zA rfl rfl (zF rfl rfl) ?_
 refine zN [] rfl rfl rfl rfl gv1 trivial (fun g1_3 => zJ rfl fd23_3 rfl) rfl ?_
 refine zN [(8, _)] rfl rfl rfl rfl gv1 ⟨rfl, rfl, trivial⟩ (fun g1_3 => zK rfl one3 rfl (zP 0 rfl) rfl) rfl ?_
 refine zN [(9, _)] rfl rfl rfl rfl gv1 ⟨rfl, rfl, trivial⟩ (fun g1_3 => kQ rfl rfl rfl) rfl ?_
 refine zA rfl rfl (qM rfl rfl rfl (fun h => h) rfl) ?_
 refine zA rfl rfl (zF rfl rfl) ?_
 refine zN [] rfl rfl rfl rfl gv1 trivial (fun g1_8 => zJ rfl fd23_4 rfl) rfl ?_
 refine zN [(13, _)] rfl rfl rfl rfl gv1 ⟨rfl, rfl, trivial⟩ (fun g1_8 => zK rfl one3 rfl (zP 0 rfl) rfl) rfl ?_
 refine zN [(14, _)] rfl rfl rfl rfl gv1 ⟨rfl, rfl, trivial⟩ (fun g1_8 => qJ rfl rfl rfl) rfl ?_
 refine zN [(15, _)] rfl rfl rfl rfl gv1 ⟨rfl, rfl, trivial⟩ (fun g1_8 => zF rfl rfl) rfl ?_
 refine zN [] rfl rfl rfl rfl gv2 trivial (fun g1_12 => zJ rfl fd23_4 rfl) rfl ?_
 refine zN [(17, _)] rfl rfl rfl rfl gv2 ⟨rfl, rfl, trivial⟩ (fun g1_12 => zK rfl one3 rfl (zP 0 rfl) rfl) rfl ?_
 refine zN [(18, _)] rfl rfl rfl rfl gv2 ⟨rfl, rfl, trivial⟩ (fun g1_12 => qJ rfl rfl rfl) rfl ?_
 refine zN [(16, _)] rfl rfl rfl rfl gv1 ⟨rfl, rfl, trivial⟩ (fun g1_8 => yD rfl rfl rfl rfl (fun h => yQ (by assumption) (lzf h))) rfl ?_
 refine zA rfl rfl (qM rfl rfl rfl (fun h => h) rfl) ?_
 refine zA rfl rfl (zC rfl rfl) ?_
 refine zH ?_
 refine zE ?_
 refine zE ?_
 refine zB rfl ?_
 refine zA rfl rfl (zJ rfl fd23_0 rfl) ?_
 refine zA rfl rfl (zK rfl one3 rfl (zP 0 rfl) rfl) ?_
 refine zA rfl rfl (qV rfl rfl rfl) ?_
 refine zA rfl rfl (zF rfl rfl) ?_
 refine zN [] rfl rfl rfl rfl gv1 trivial (fun g2_3 => zJ rfl fd23_1 rfl) rfl ?_
 refine zN [(26, _)] rfl rfl rfl rfl gv1 ⟨rfl, rfl, trivial⟩ (fun g2_3 => zK rfl one3 rfl (zP 0 rfl) rfl) rfl ?_
 refine zN [(27, _)] rfl rfl rfl rfl gv1 ⟨rfl, rfl, trivial⟩ (fun g2_3 => qS rfl rfl rfl) rfl ?_
 refine zA rfl rfl (yD rfl rfl rfl rfl (fun h => (lzf h))) ?_
 refine zA rfl rfl (zF rfl rfl) ?_
 refine zN [] rfl rfl rfl rfl gv1 trivial (fun g2_8 => zJ rfl fd23_1 rfl) rfl ?_
 refine zN [(31, _)] rfl rfl rfl rfl gv1 ⟨rfl, rfl, trivial⟩ (fun g2_8 => zK rfl one3 rfl (zP 0 rfl) rfl) rfl ?_
 refine zN [(32, _)] rfl rfl rfl rfl gv1 ⟨rfl, rfl, trivial⟩ (fun g2_8 => yX rfl rfl rfl) rfl ?_
 refine zA rfl rfl (yD rfl rfl rfl rfl (fun h => (lzf h))) ?_
 refine zA rfl rfl (zF rfl rfl) ?_
 refine zN [] rfl rfl rfl rfl gv1 trivial (fun g2_13 => zJ rfl fd23_2 rfl) rfl ?_
 refine zN [(36, _)] rfl rfl rfl rfl gv1 ⟨rfl, rfl, trivial⟩ (fun g2_13 => zK rfl one3 rfl (zP 0 rfl) rfl) rfl ?_
 refine zN [(37, _)] rfl rfl rfl rfl gv1 ⟨rfl, rfl, trivial⟩ (fun g2_13 => qS rfl rfl rfl) rfl ?_
 refine zA rfl rfl (yD rfl rfl rfl rfl (fun h => (lzf h))) ?_
 refine zA rfl rfl (zF rfl rfl) ?_
 refine zN [] rfl rfl rfl rfl gv1 trivial (fun g2_18 => zJ rfl fd23_2 rfl) rfl ?_
 refine zN [(41, _)] rfl rfl rfl rfl gv1 ⟨rfl, rfl, trivial⟩ (fun g2_18 => zK rfl one3 rfl (zP 0 rfl) rfl) rfl ?_
 refine zN [(42, _)] rfl rfl rfl rfl gv1 ⟨rfl, rfl, trivial⟩ (fun g2_18 => yX rfl rfl rfl) rfl ?_
 refine zA rfl rfl (yD rfl rfl rfl rfl (fun h => (lzf h))) ?_
 refine zA rfl rfl (zF rfl rfl) ?_
 refine zN [] rfl rfl rfl rfl gv1 trivial (fun g2_23 => zF rfl rfl) rfl ?_
 refine zN [(46, _)] rfl rfl rfl rfl gv1 ⟨rfl, rfl, trivial⟩ (fun g2_23 => qY rfl rfl) rfl ?_
 refine zA rfl rfl (yD rfl rfl rfl rfl (fun h => (lzf h))) ?_
 refine zH ?_
 refine zR rfl (fun c1 => ?_) (fun c1 => ?_)
 ·refine zE ?_
  refine zB rfl ?_
  refine zA rfl rfl (zC rfl rfl) ?_
  refine zH ?_
  refine zS ?_
  repeat (first | refine zO ?_ | refine zM ?_)
  refine fin1 (rs_c rfl) ?_
  rw [show fixOk t = false from fix_no c1]; rfl
 ·refine zT ?_
  refine zE ?_
  refine zB rfl ?_
  refine zA rfl rfl (zC rfl rfl) ?_
  refine zH ?_
  refine zS ?_
  repeat (first | refine zO ?_ | refine zM ?_)
  refine fin1 (rs_c rfl) ?_
  rw [show fixOk t = true from fix_yes c1]; rfl

theorem value_ValidateType (t : Ty) :
    Pur cfg 188 [vTy t] (vI (tyErr t)) := by
 refine zZ Tryz.func188 rfl Tryz.ntmps188 Tryz.results188 rfl ?_
 intro z hz
 refine zE ?_
 refine zB rfl ?_
 refine qC rfl rfl (qN rfl rfl) ?_
 rintro _ _ ⟨b1, rfl, rfl⟩
 refine zA rfl rfl (zC rfl rfl) ?_
 refine zH ?_
 refine zE ?_
 refine zE ?_
 refine zB rfl ?_
 refine zA rfl rfl (zJ rfl fd23_0 rfl) ?_
 refine zA rfl rfl (zK rfl one3 rfl (zP 0 rfl) rfl) ?_
 refine zH ?_
 refine qA ?_
 refine zE ?_
 refine zE ?_
 refine zB rfl ?_
 refine zA rfl rfl (qJ rfl rfl rfl) ?_
 refine zA rfl rfl (zC rfl rfl) ?_
 refine zH ?_
 refine zR rfl (fun c1 => ?_) (fun c1 => ?_)
 ·try simp only [sx, List.length_map] at c1
  refine zT ?_
  refine zR rfl (fun c2 => ?_) (fun c2 => ?_)
  ·try simp only [sx, List.length_map] at c2
   refine zE ?_
   refine zB rfl ?_
   refine zA rfl rfl (zQ rfl agg23 rfl (zP 0 rfl) rfl) ?_
   refine zA rfl rfl (zW rfl ok228 (value_plain _) ⟨VLe.refl _, rfl, trivial⟩) ?_
   refine zH ?_
   refine zR rfl (fun c3 => ?_) (fun c3 => ?_)
   ·try simp only [sx, List.length_map] at c3
    refine zE ?_
    refine zB rfl ?_
    refine zA rfl rfl (zC rfl rfl) ?_
    refine zH ?_
    refine zS ?_
    repeat (first | refine zO ?_ | refine zM ?_)
    refine fin1 (rs_c rfl) ?_
    exact congrArg vI (by first | (exfalso; omega) | (rw [tyErr, tyk1 (by omega), c3]; rfl) | (rw [tyErr, fix_ty (by omega), fxz c5]; rfl) | (rw [tyErr, fix_ty (by omega), fxn c5]; rfl) | (rw [tyErr, tyk0 (by omega) (by omega) (by omega)]; rfl))
   ·try simp only [sx, List.length_map] at c3
    refine zT ?_
    refine zE ?_
    refine zB rfl ?_
    refine zA rfl rfl (zC rfl rfl) ?_
    refine zH ?_
    refine zS ?_
    repeat (first | refine zO ?_ | refine zM ?_)
    refine fin1 (rs_c rfl) ?_
    exact congrArg vI (by first | (exfalso; omega) | (rw [tyErr, tyk1 (by omega), c3]; rfl) | (rw [tyErr, fix_ty (by omega), fxz c5]; rfl) | (rw [tyErr, fix_ty (by omega), fxn c5]; rfl) | (rw [tyErr, tyk0 (by omega) (by omega) (by omega)]; rfl))
  ·try simp only [sx, List.length_map] at c2
   refine zE ?_
   refine zB rfl ?_
   refine zA rfl rfl (qJ rfl rfl rfl) ?_
   refine zA rfl rfl (zC rfl rfl) ?_
   refine zH ?_
   refine zR rfl (fun c4 => ?_) (fun c4 => ?_)
   ·try simp only [sx, List.length_map] at c4
    refine zE ?_
    refine zB rfl ?_
    refine zA rfl rfl (zQ rfl agg23 rfl (zP 0 rfl) rfl) ?_
    refine zA rfl rfl (zW rfl ok229 (fixed_ValidateType _) ⟨VLe.refl _, rfl, trivial⟩) ?_
    refine zA rfl rfl (qJ rfl rfl rfl) ?_
    refine zH ?_
    refine zR rfl (fun c5 => ?_) (fun c5 => ?_)
    ·try simp only [sx, List.length_map] at c5
     refine zE ?_
     refine zB rfl ?_
     refine zA rfl rfl (zC rfl rfl) ?_
     refine zH ?_
     refine zS ?_
     repeat (first | refine zO ?_ | refine zM ?_)
     refine fin1 (rs_c rfl) ?_
     exact congrArg vI (by first | (exfalso; omega) | (rw [tyErr, tyk1 (by omega), c3]; rfl) | (rw [tyErr, fix_ty (by omega), fxz c5]; rfl) | (rw [tyErr, fix_ty (by omega), fxn c5]; rfl) | (rw [tyErr, tyk0 (by omega) (by omega) (by omega)]; rfl))
    ·try simp only [sx, List.length_map] at c5
     refine zT ?_
     refine zE ?_
     refine zB rfl ?_
     refine zA rfl rfl (zC rfl rfl) ?_
     refine zH ?_
     refine zS ?_
     repeat (first | refine zO ?_ | refine zM ?_)
     refine fin1 (rs_c rfl) ?_
     exact congrArg vI (by first | (exfalso; omega) | (rw [tyErr, tyk1 (by omega), c3]; rfl) | (rw [tyErr, fix_ty (by omega), fxz c5]; rfl) | (rw [tyErr, fix_ty (by omega), fxn c5]; rfl) | (rw [tyErr, tyk0 (by omega) (by omega) (by omega)]; rfl))
   ·try simp only [sx, List.length_map] at c4
    refine zT ?_
    refine zE ?_
    refine zB rfl ?_
    refine zA rfl rfl (zC rfl rfl) ?_
    refine zH ?_
    refine zS ?_
    repeat (first | refine zO ?_ | refine zM ?_)
    refine fin1 (rs_c rfl) ?_
    exact congrArg vI (by first | (exfalso; omega) | (rw [tyErr, tyk1 (by omega), c3]; rfl) | (rw [tyErr, fix_ty (by omega), fxz c5]; rfl) | (rw [tyErr, fix_ty (by omega), fxn c5]; rfl) | (rw [tyErr, tyk0 (by omega) (by omega) (by omega)]; rfl))
 ·try simp only [sx, List.length_map] at c1
  refine zB rfl ?_
  refine zA rfl rfl (qJ rfl rfl rfl) ?_
  refine zA rfl rfl (zC rfl rfl) ?_
  refine zH ?_
  refine zR rfl (fun c2 => ?_) (fun c2 => ?_)
  ·try simp only [sx, List.length_map] at c2
   refine zE ?_
   refine zB rfl ?_
   refine zA rfl rfl (zQ rfl agg23 rfl (zP 0 rfl) rfl) ?_
   refine zA rfl rfl (zW rfl ok228 (value_plain _) ⟨VLe.refl _, rfl, trivial⟩) ?_
   refine zH ?_
   refine zR rfl (fun c3 => ?_) (fun c3 => ?_)
   ·try simp only [sx, List.length_map] at c3
    refine zE ?_
    refine zB rfl ?_
    refine zA rfl rfl (zC rfl rfl) ?_
    refine zH ?_
    refine zS ?_
    repeat (first | refine zO ?_ | refine zM ?_)
    refine fin1 (rs_c rfl) ?_
    exact congrArg vI (by first | (exfalso; omega) | (rw [tyErr, tyk1 (by omega), c3]; rfl) | (rw [tyErr, fix_ty (by omega), fxz c5]; rfl) | (rw [tyErr, fix_ty (by omega), fxn c5]; rfl) | (rw [tyErr, tyk0 (by omega) (by omega) (by omega)]; rfl))
   ·try simp only [sx, List.length_map] at c3
    refine zT ?_
    refine zE ?_
    refine zB rfl ?_
    refine zA rfl rfl (zC rfl rfl) ?_
    refine zH ?_
    refine zS ?_
    repeat (first | refine zO ?_ | refine zM ?_)
    refine fin1 (rs_c rfl) ?_
    exact congrArg vI (by first | (exfalso; omega) | (rw [tyErr, tyk1 (by omega), c3]; rfl) | (rw [tyErr, fix_ty (by omega), fxz c5]; rfl) | (rw [tyErr, fix_ty (by omega), fxn c5]; rfl) | (rw [tyErr, tyk0 (by omega) (by omega) (by omega)]; rfl))
  ·try simp only [sx, List.length_map] at c2
   refine zE ?_
   refine zB rfl ?_
   refine zA rfl rfl (qJ rfl rfl rfl) ?_
   refine zA rfl rfl (zC rfl rfl) ?_
   refine zH ?_
   refine zR rfl (fun c4 => ?_) (fun c4 => ?_)
   ·try simp only [sx, List.length_map] at c4
    refine zE ?_
    refine zB rfl ?_
    refine zA rfl rfl (zQ rfl agg23 rfl (zP 0 rfl) rfl) ?_
    refine zA rfl rfl (zW rfl ok229 (fixed_ValidateType _) ⟨VLe.refl _, rfl, trivial⟩) ?_
    refine zA rfl rfl (qJ rfl rfl rfl) ?_
    refine zH ?_
    refine zR rfl (fun c5 => ?_) (fun c5 => ?_)
    ·try simp only [sx, List.length_map] at c5
     refine zE ?_
     refine zB rfl ?_
     refine zA rfl rfl (zC rfl rfl) ?_
     refine zH ?_
     refine zS ?_
     repeat (first | refine zO ?_ | refine zM ?_)
     refine fin1 (rs_c rfl) ?_
     exact congrArg vI (by first | (exfalso; omega) | (rw [tyErr, tyk1 (by omega), c3]; rfl) | (rw [tyErr, fix_ty (by omega), fxz c5]; rfl) | (rw [tyErr, fix_ty (by omega), fxn c5]; rfl) | (rw [tyErr, tyk0 (by omega) (by omega) (by omega)]; rfl))
    ·try simp only [sx, List.length_map] at c5
     refine zT ?_
     refine zE ?_
     refine zB rfl ?_
     refine zA rfl rfl (zC rfl rfl) ?_
     refine zH ?_
     refine zS ?_
     repeat (first | refine zO ?_ | refine zM ?_)
     refine fin1 (rs_c rfl) ?_
     exact congrArg vI (by first | (exfalso; omega) | (rw [tyErr, tyk1 (by omega), c3]; rfl) | (rw [tyErr, fix_ty (by omega), fxz c5]; rfl) | (rw [tyErr, fix_ty (by omega), fxn c5]; rfl) | (rw [tyErr, tyk0 (by omega) (by omega) (by omega)]; rfl))
   ·try simp only [sx, List.length_map] at c4
    refine zT ?_
    refine zE ?_
    refine zB rfl ?_
    refine zA rfl rfl (zC rfl rfl) ?_
    refine zH ?_
    refine zS ?_
    repeat (first | refine zO ?_ | refine zM ?_)
    refine fin1 (rs_c rfl) ?_
    exact congrArg vI (by first | (exfalso; omega) | (rw [tyErr, tyk1 (by omega), c3]; rfl) | (rw [tyErr, fix_ty (by omega), fxz c5]; rfl) | (rw [tyErr, fix_ty (by omega), fxn c5]; rfl) | (rw [tyErr, tyk0 (by omega) (by omega) (by omega)]; rfl))

theorem base_Type (t : Ty) :
    Pur cfg 142 [vTy t] (vB (tyOk t)) := by
 refine zZ Tryz.func142 rfl Tryz.ntmps142 Tryz.results142 rfl ?_
 intro z hz
 refine zE ?_
 refine zB rfl ?_
 refine qC rfl rfl (qN rfl rfl) ?_
 rintro _ _ ⟨b1, rfl, rfl⟩
 refine zA rfl rfl (zC rfl rfl) ?_
 refine zH ?_
 refine zE ?_
 refine zE ?_
 refine zB rfl ?_
 refine zA rfl rfl (zJ rfl fd23_0 rfl) ?_
 refine zA rfl rfl (zK rfl one3 rfl (zP 0 rfl) rfl) ?_
 refine zA rfl rfl (qJ rfl rfl rfl) ?_
 refine zA rfl rfl (zF rfl rfl) ?_
 refine zN [] rfl rfl rfl rfl gv1 trivial (fun g1_3 => zJ rfl fd23_0 rfl) rfl ?_
 refine zN [(7, _)] rfl rfl rfl rfl gv1 ⟨rfl, rfl, trivial⟩ (fun g1_3 => zK rfl one3 rfl (zP 0 rfl) rfl) rfl ?_
 refine zN [(8, _)] rfl rfl rfl rfl gv1 ⟨rfl, rfl, trivial⟩ (fun g1_3 => qJ rfl rfl rfl) rfl ?_
 refine zA rfl rfl (yD rfl rfl rfl rfl (fun h => (lzf h))) ?_
 refine zH ?_
 refine zR rfl (fun c1 => ?_) (fun c1 => ?_)
 ·refine zE ?_
  refine zB rfl ?_
  refine zA rfl rfl (zJ rfl fd23_1 rfl) ?_
  refine zA rfl rfl (zK rfl one3 rfl (zP 0 rfl) rfl) ?_
  refine zA rfl rfl (qJ rfl rfl rfl) ?_
  refine zA rfl rfl (zF rfl rfl) ?_
  refine zN [] rfl rfl rfl rfl gv1 trivial (fun g2_3 => zJ rfl fd23_2 rfl) rfl ?_
  refine zN [(15, _)] rfl rfl rfl rfl gv1 ⟨rfl, rfl, trivial⟩ (fun g2_3 => zK rfl one3 rfl (zP 0 rfl) rfl) rfl ?_
  refine zN [(16, _)] rfl rfl rfl rfl gv1 ⟨rfl, rfl, trivial⟩ (fun g2_3 => qJ rfl rfl rfl) rfl ?_
  refine zA rfl rfl (qM rfl rfl rfl (fun h => h) rfl) ?_
  refine zA rfl rfl (zF rfl rfl) ?_
  refine zN [] rfl rfl rfl rfl gv1 trivial (fun g2_8 => zJ rfl fd23_3 rfl) rfl ?_
  refine zN [(20, _)] rfl rfl rfl rfl gv1 ⟨rfl, rfl, trivial⟩ (fun g2_8 => zK rfl one3 rfl (zP 0 rfl) rfl) rfl ?_
  refine zN [(21, _)] rfl rfl rfl rfl gv1 ⟨rfl, rfl, trivial⟩ (fun g2_8 => qJ rfl rfl rfl) rfl ?_
  refine zA rfl rfl (qM rfl rfl rfl (fun h => h) rfl) ?_
  refine zA rfl rfl (zF rfl rfl) ?_
  refine zN [] rfl rfl rfl rfl gv1 trivial (fun g2_13 => zJ rfl fd23_4 rfl) rfl ?_
  refine zN [(25, _)] rfl rfl rfl rfl gv1 ⟨rfl, rfl, trivial⟩ (fun g2_13 => zK rfl one3 rfl (zP 0 rfl) rfl) rfl ?_
  refine zN [(26, _)] rfl rfl rfl rfl gv1 ⟨rfl, rfl, trivial⟩ (fun g2_13 => qJ rfl rfl rfl) rfl ?_
  refine zA rfl rfl (qM rfl rfl rfl (fun h => h) rfl) ?_
  refine zA rfl rfl (zC rfl rfl) ?_
  refine zH ?_
  refine zS ?_
  repeat (first | refine zO ?_ | refine zM ?_)
  refine fin1 (rs_c rfl) ?_
  exact congrArg vB (type1 c1)
 ·refine zT ?_
  refine zE ?_
  refine zB rfl ?_
  refine zA rfl rfl (zJ rfl fd23_0 rfl) ?_
  refine zA rfl rfl (zK rfl one3 rfl (zP 0 rfl) rfl) ?_
  refine zA rfl rfl (qJ rfl rfl rfl) ?_
  refine zA rfl rfl (zF rfl rfl) ?_
  refine zN [] rfl rfl rfl rfl gv1 trivial (fun g3_3 => zJ rfl fd23_1 rfl) rfl ?_
  refine zN [(33, _)] rfl rfl rfl rfl gv1 ⟨rfl, rfl, trivial⟩ (fun g3_3 => zK rfl one3 rfl (zP 0 rfl) rfl) rfl ?_
  refine zN [(34, _)] rfl rfl rfl rfl gv1 ⟨rfl, rfl, trivial⟩ (fun g3_3 => kR rfl rfl rfl) rfl ?_
  refine zA rfl rfl (qM rfl rfl rfl (fun h => h) rfl) ?_
  refine zA rfl rfl (zF rfl rfl) ?_
  refine zN [] rfl rfl rfl rfl gv1 trivial (fun g3_8 => zJ rfl fd23_1 rfl) rfl ?_
  refine zN [(38, _)] rfl rfl rfl rfl gv1 ⟨rfl, rfl, trivial⟩ (fun g3_8 => zK rfl one3 rfl (zP 0 rfl) rfl) rfl ?_
  refine zN [(39, _)] rfl rfl rfl rfl gv1 ⟨rfl, rfl, trivial⟩ (fun g3_8 => kQ rfl rfl rfl) rfl ?_
  refine zA rfl rfl (qM rfl rfl rfl (fun h => h) rfl) ?_
  refine zA rfl rfl (zF rfl rfl) ?_
  refine zN [] rfl rfl rfl rfl gv1 trivial (fun g3_13 => zJ rfl fd23_2 rfl) rfl ?_
  refine zN [(43, _)] rfl rfl rfl rfl gv1 ⟨rfl, rfl, trivial⟩ (fun g3_13 => zK rfl one3 rfl (zP 0 rfl) rfl) rfl ?_
  refine zN [(44, _)] rfl rfl rfl rfl gv1 ⟨rfl, rfl, trivial⟩ (fun g3_13 => kR rfl rfl rfl) rfl ?_
  refine zA rfl rfl (qM rfl rfl rfl (fun h => h) rfl) ?_
  refine zA rfl rfl (zF rfl rfl) ?_
  refine zN [] rfl rfl rfl rfl gv1 trivial (fun g3_18 => zJ rfl fd23_2 rfl) rfl ?_
  refine zN [(48, _)] rfl rfl rfl rfl gv1 ⟨rfl, rfl, trivial⟩ (fun g3_18 => zK rfl one3 rfl (zP 0 rfl) rfl) rfl ?_
  refine zN [(49, _)] rfl rfl rfl rfl gv1 ⟨rfl, rfl, trivial⟩ (fun g3_18 => kQ rfl rfl rfl) rfl ?_
  refine zA rfl rfl (qM rfl rfl rfl (fun h => h) rfl) ?_
  refine zA rfl rfl (zF rfl rfl) ?_
  refine zN [] rfl rfl rfl rfl gv1 trivial (fun g3_23 => zJ rfl fd23_3 rfl) rfl ?_
  refine zN [(53, _)] rfl rfl rfl rfl gv1 ⟨rfl, rfl, trivial⟩ (fun g3_23 => zK rfl one3 rfl (zP 0 rfl) rfl) rfl ?_
  refine zN [(54, _)] rfl rfl rfl rfl gv1 ⟨rfl, rfl, trivial⟩ (fun g3_23 => kR rfl rfl rfl) rfl ?_
  refine zA rfl rfl (qM rfl rfl rfl (fun h => h) rfl) ?_
  refine zA rfl rfl (zF rfl rfl) ?_
  refine zN [] rfl rfl rfl rfl gv1 trivial (fun g3_28 => zJ rfl fd23_3 rfl) rfl ?_
  refine zN [(58, _)] rfl rfl rfl rfl gv1 ⟨rfl, rfl, trivial⟩ (fun g3_28 => zK rfl one3 rfl (zP 0 rfl) rfl) rfl ?_
  refine zN [(59, _)] rfl rfl rfl rfl gv1 ⟨rfl, rfl, trivial⟩ (fun g3_28 => kQ rfl rfl rfl) rfl ?_
  refine zA rfl rfl (qM rfl rfl rfl (fun h => h) rfl) ?_
  refine zA rfl rfl (zF rfl rfl) ?_
  refine zN [] rfl rfl rfl rfl gv1 trivial (fun g3_33 => zJ rfl fd23_4 rfl) rfl ?_
  refine zN [(63, _)] rfl rfl rfl rfl gv1 ⟨rfl, rfl, trivial⟩ (fun g3_33 => zK rfl one3 rfl (zP 0 rfl) rfl) rfl ?_
  refine zN [(64, _)] rfl rfl rfl rfl gv1 ⟨rfl, rfl, trivial⟩ (fun g3_33 => qJ rfl rfl rfl) rfl ?_
  refine zN [(65, _)] rfl rfl rfl rfl gv1 ⟨rfl, rfl, trivial⟩ (fun g3_33 => zF rfl rfl) rfl ?_
  refine zN [] rfl rfl rfl rfl gv2 trivial (fun g3_37 => zJ rfl fd23_4 rfl) rfl ?_
  refine zN [(67, _)] rfl rfl rfl rfl gv2 ⟨rfl, rfl, trivial⟩ (fun g3_37 => zK rfl one3 rfl (zP 0 rfl) rfl) rfl ?_
  refine zN [(68, _)] rfl rfl rfl rfl gv2 ⟨rfl, rfl, trivial⟩ (fun g3_37 => qJ rfl rfl rfl) rfl ?_
  refine zN [(66, _)] rfl rfl rfl rfl gv1 ⟨rfl, rfl, trivial⟩ (fun g3_33 => yD rfl rfl rfl rfl (fun h => yQ (by assumption) (lzf h))) rfl ?_
  refine zA rfl rfl (qM rfl rfl rfl (fun h => h) rfl) ?_
  refine zA rfl rfl (zC rfl rfl) ?_
  refine zH ?_
  refine zS ?_
  repeat (first | refine zO ?_ | refine zM ?_)
  refine fin1 (rs_c rfl) ?_
  exact congrArg vB (type2 c1)

theorem round_valid (b : Int) :
    Pur cfg 272 [vI b] (vB (decide (2 ≤ b) && decide (b ≤ 31))) := by
 refine zZ Tryz.func272 rfl Tryz.ntmps272 Tryz.results272 rfl ?_
 intro z hz
 refine zE ?_
 refine zB rfl ?_
 refine zA rfl rfl (zC rfl rfl) ?_
 refine zH ?_
 refine zE ?_
 refine zB rfl ?_
 refine zA rfl rfl (zF rfl rfl) ?_
 refine zA rfl rfl (kR rfl rfl rfl) ?_
 refine zA rfl rfl (zF rfl rfl) ?_
 refine zN [] rfl rfl rfl rfl gv1 trivial (fun g1_2 => zF rfl rfl) rfl ?_
 refine zN [(6, _)] rfl rfl rfl rfl gv1 ⟨rfl, rfl, trivial⟩ (fun g1_2 => kQ rfl rfl rfl) rfl ?_
 refine zA rfl rfl (qM rfl rfl rfl (fun h => h) rfl) ?_
 refine zA rfl rfl (zC rfl rfl) ?_
 refine zH ?_
 refine zS ?_
 repeat (first | refine zO ?_ | refine zM ?_)
 refine fin1 (rs_c rfl) ?_
 exact rfl

theorem round_MinInt (b : Int) (h1 : 2 ≤ b) (h2 : b ≤ 31) :
    Pur cfg 255 [vI b] (vI (-half b)) := by
 refine zZ Tryz.func255 rfl Tryz.ntmps255 Tryz.results255 rfl ?_
 intro z hz
 refine zE ?_
 refine zB rfl ?_
 refine zA rfl rfl (zC rfl rfl) ?_
 refine zH ?_
 refine zE ?_
 refine zE ?_
 refine zB rfl ?_
 refine zA rfl rfl (zF rfl rfl) ?_
 refine zA rfl rfl (zW rfl ok272 (round_valid _) ⟨VLe.refl _, rfl, trivial⟩) ?_
 refine zA rfl rfl (qY rfl rfl) ?_
 refine zH ?_
 refine zR rfl (fun c1 => ?_) (fun c1 => ?_)
 ·try simp only [sx, List.length_map] at c1
  exact absurd c1 (by omega)
 ·try simp only [sx, List.length_map] at c1
  refine zT ?_
  refine zE ?_
  refine zB rfl ?_
  refine zA rfl rfl (zF rfl rfl) ?_
  refine zA rfl rfl (kA rfl rfl rfl ⟨by omega, by omega⟩) ?_
  refine zA rfl rfl (yU rfl us3 ik207 rfl) ?_
  refine zA rfl rfl (det_shl rfl rfl rfl (by rw [wrap_u64 (by omega)]; omega)) ?_
  refine zA rfl rfl (det_neg rfl rfl) ?_
  refine zA rfl rfl (zC rfl rfl) ?_
  refine zH ?_
  refine zS ?_
  repeat (first | refine zO ?_ | refine zM ?_)
  refine fin1 (rs_c rfl) ?_
  exact congrArg vI (min_eq h1 h2)

theorem round_MaxInt (b : Int) (h1 : 2 ≤ b) (h2 : b ≤ 31) :
    Pur cfg 256 [vI b] (vI (half b - 1)) := by
 refine zZ Tryz.func256 rfl Tryz.ntmps256 Tryz.results256 rfl ?_
 intro z hz
 refine zE ?_
 refine zB rfl ?_
 refine zA rfl rfl (zC rfl rfl) ?_
 refine zH ?_
 refine zE ?_
 refine zE ?_
 refine zB rfl ?_
 refine zA rfl rfl (zF rfl rfl) ?_
 refine zA rfl rfl (zW rfl ok272 (round_valid _) ⟨VLe.refl _, rfl, trivial⟩) ?_
 refine zA rfl rfl (qY rfl rfl) ?_
 refine zH ?_
 refine zR rfl (fun c1 => ?_) (fun c1 => ?_)
 ·try simp only [sx, List.length_map] at c1
  exact absurd c1 (by omega)
 ·try simp only [sx, List.length_map] at c1
  refine zT ?_
  refine zE ?_
  refine zB rfl ?_
  refine zA rfl rfl (zF rfl rfl) ?_
  refine zA rfl rfl (kA rfl rfl rfl ⟨by omega, by omega⟩) ?_
  refine zA rfl rfl (yU rfl us3 ik207 rfl) ?_
  refine zA rfl rfl (det_shl rfl rfl rfl (by rw [wrap_u64 (by omega)]; omega)) ?_
  refine zA rfl rfl (det_sub rfl rfl rfl) ?_
  refine zA rfl rfl (zC rfl rfl) ?_
  refine zH ?_
  refine zS ?_
  repeat (first | refine zO ?_ | refine zM ?_)
  refine fin1 (rs_c rfl) ?_
  exact congrArg vI (max_eq h1 h2)

theorem fixed_Valid (t : Ty) (v : Vl) :
    Pur cfg 224 [vTy t, vVal v] (vB (fixOk t && (decide (v.D = 1) && decide (-half t.Bits ≤ v.N) && decide (v.N < half t.Bits)))) := by
 refine zZ Tryz.func224 rfl Tryz.ntmps224 Tryz.results224 rfl ?_
 intro z hz
 refine zE ?_
 refine zB rfl ?_
 refine qC rfl rfl (qN rfl rfl) ?_
 rintro _ _ ⟨b1, rfl, rfl⟩
 refine qC rfl rfl (qN rfl rfl) ?_
 rintro _ _ ⟨b2, rfl, rfl⟩
 refine zA rfl rfl (zC rfl rfl) ?_
 refine zH ?_
 refine zE ?_
 refine yG 25 mixed (by kernel_rfl) rfl rfl ?_
 refine zV rfl rfl (zQ rfl agg23 rfl (zP 1 rfl) rfl) ?_
 refine zV rfl rfl (zW rfl ok229 (fixed_ValidateType _) ⟨VLe.refl _, rfl, trivial⟩) ?_
 refine zV rfl rfl (qJ rfl rfl rfl) ?_
 refine zV rfl rfl (zF rfl rfl) ?_
 refine qE [] rfl rfl rfl rfl gv1 trivial (fun g1_3 => zJ rfl fd26_1 rfl) rfl ?_
 refine qE [(9, _)] rfl rfl rfl rfl gv1 ⟨rfl, rfl, trivial⟩ (fun g1_3 => zK rfl one2 rfl (zP 0 rfl) rfl) rfl ?_
 refine qE [(10, _)] rfl rfl rfl rfl gv1 ⟨rfl, rfl, trivial⟩ (fun g1_3 => qJ rfl rfl rfl) rfl ?_
 refine zV rfl rfl (qM rfl rfl rfl (fun h => h) rfl) ?_
 refine zV rfl rfl (zF rfl rfl) ?_
 refine qE [] rfl rfl rfl rfl gv1 trivial (fun g1_8 => zJ rfl fd26_0 rfl) rfl ?_
 refine qE [(14, _)] rfl rfl rfl rfl gv1 ⟨rfl, rfl, trivial⟩ (fun g1_8 => zK rfl one2 rfl (zP 0 rfl) rfl) rfl ?_
 refine qE [] rfl rfl rfl rfl gv1 trivial (fun g1_8 => zJ rfl fd23_1 rfl) rfl ?_
 refine qE [(16, _)] rfl rfl rfl rfl gv1 ⟨rfl, rfl, trivial⟩ (fun g1_8 => zK rfl one3 rfl (zP 1 rfl) rfl) rfl ?_
 refine qE [(17, _)] rfl rfl rfl rfl gv1 ⟨rfl, rfl, trivial⟩ (fun g1_8 => zW rfl ok255 (round_MinInt _ (fixB (fxa g1_8)).1 (fixB (fxa g1_8)).2) ⟨VLe.refl _, rfl, trivial⟩) rfl ?_
 refine qE [(15, _), (18, _)] rfl rfl rfl rfl gv1 ⟨rfl, rfl, rfl, rfl, trivial⟩ (fun g1_8 => kR rfl rfl rfl) rfl ?_
 refine zV rfl rfl (qM rfl rfl rfl (fun h => h) rfl) ?_
 refine zV rfl rfl (zF rfl rfl) ?_
 refine qE [] rfl rfl rfl rfl gv1 trivial (fun g1_16 => zJ rfl fd26_0 rfl) rfl ?_
 refine qE [(22, _)] rfl rfl rfl rfl gv1 ⟨rfl, rfl, trivial⟩ (fun g1_16 => zK rfl one2 rfl (zP 0 rfl) rfl) rfl ?_
 refine qE [] rfl rfl rfl rfl gv1 trivial (fun g1_16 => zJ rfl fd23_1 rfl) rfl ?_
 refine qE [(24, _)] rfl rfl rfl rfl gv1 ⟨rfl, rfl, trivial⟩ (fun g1_16 => zK rfl one3 rfl (zP 1 rfl) rfl) rfl ?_
 refine qE [(25, _)] rfl rfl rfl rfl gv1 ⟨rfl, rfl, trivial⟩ (fun g1_16 => zW rfl ok256 (round_MaxInt _ (fixB (fxb g1_16)).1 (fixB (fxb g1_16)).2) ⟨VLe.refl _, rfl, trivial⟩) rfl ?_
 refine qE [(23, _), (26, _)] rfl rfl rfl rfl gv1 ⟨rfl, rfl, rfl, rfl, trivial⟩ (fun g1_16 => kQ rfl rfl rfl) rfl ?_
 refine zV rfl rfl (qM rfl rfl rfl (fun h => h) rfl) ?_
 refine zV rfl rfl (zC rfl rfl) ?_
 refine kB ?_
 refine zH ?_
 refine zS ?_
 repeat (first | refine zO ?_ | refine zM ?_)
 refine fin1 (rs_c rfl) ?_
 exact congrArg vB (fixV t v)

theorem value_whole (n : Int) :
    Pur cfg 225 [vI n] (vB (num31 n)) := by
 refine zZ Tryz.func225 rfl Tryz.ntmps225 Tryz.results225 rfl ?_
 intro z hz
 refine zE ?_
 refine zB rfl ?_
 refine zA rfl rfl (zC rfl rfl) ?_
 refine zH ?_
 refine zE ?_
 refine zB rfl ?_
 refine zA rfl rfl (zF rfl rfl) ?_
 refine zA rfl rfl (kR rfl rfl rfl) ?_
 refine zA rfl rfl (zF rfl rfl) ?_
 refine zN [] rfl rfl rfl rfl gv1 trivial (fun g1_2 => zF rfl rfl) rfl ?_
 refine zN [(6, _)] rfl rfl rfl rfl gv1 ⟨rfl, rfl, trivial⟩ (fun g1_2 => kQ rfl rfl rfl) rfl ?_
 refine zA rfl rfl (qM rfl rfl rfl (fun h => h) rfl) ?_
 refine zA rfl rfl (zC rfl rfl) ?_
 refine zH ?_
 refine zS ?_
 repeat (first | refine zO ?_ | refine zM ?_)
 refine fin1 (rs_c rfl) ?_
 exact rfl

theorem frac_inRange (n : Int) :
    Pur cfg 257 [vI n] (vB (num31 n)) := by
 refine zZ Tryz.func257 rfl Tryz.ntmps257 Tryz.results257 rfl ?_
 intro z hz
 refine zE ?_
 refine zB rfl ?_
 refine zA rfl rfl (zC rfl rfl) ?_
 refine zH ?_
 refine zE ?_
 refine zB rfl ?_
 refine zA rfl rfl (zF rfl rfl) ?_
 refine zA rfl rfl (kR rfl rfl rfl) ?_
 refine zA rfl rfl (zF rfl rfl) ?_
 refine zN [] rfl rfl rfl rfl gv1 trivial (fun g1_2 => zF rfl rfl) rfl ?_
 refine zN [(6, _)] rfl rfl rfl rfl gv1 ⟨rfl, rfl, trivial⟩ (fun g1_2 => kQ rfl rfl rfl) rfl ?_
 refine zA rfl rfl (qM rfl rfl rfl (fun h => h) rfl) ?_
 refine zA rfl rfl (zC rfl rfl) ?_
 refine zH ?_
 refine zS ?_
 repeat (first | refine zO ?_ | refine zM ?_)
 refine fin1 (rs_c rfl) ?_
 exact rfl

theorem frac_magnitude (n : Int) (hn : -9223372036854775808 ≤ n) (hm : n ≤ 9223372036854775807) :
    Pur cfg 259 [vI n] (vU64 n.natAbs) := by
 refine zZ Tryz.func259 rfl Tryz.ntmps259 Tryz.results259 rfl ?_
 intro z hz
 refine zE ?_
 refine zB rfl ?_
 refine zA rfl rfl (zC rfl rfl) ?_
 refine zH ?_
 refine zE ?_
 refine zE ?_
 refine zB rfl ?_
 refine zA rfl rfl (zF rfl rfl) ?_
 refine zA rfl rfl (qS rfl rfl rfl) ?_
 refine zH ?_
 refine zR rfl (fun c1 => ?_) (fun c1 => ?_)
 ·try simp only [sx, List.length_map] at c1
  refine zE ?_
  refine zB rfl ?_
  refine zA rfl rfl (zF rfl rfl) ?_
  refine zA rfl rfl (yU rfl us2 ik222 rfl) ?_
  refine zA rfl rfl (det_neg rfl rfl) ?_
  refine zA rfl rfl (zC rfl rfl) ?_
  refine zH ?_
  refine zS ?_
  repeat (first | refine zO ?_ | refine zM ?_)
  refine fin1 (rs_c rfl) ?_
  exact congrArg vU64 (mag_neg c1 hn)
 ·try simp only [sx, List.length_map] at c1
  refine zT ?_
  refine zE ?_
  refine zB rfl ?_
  refine zA rfl rfl (zF rfl rfl) ?_
  refine zA rfl rfl (yU rfl us2 ik222 rfl) ?_
  refine zA rfl rfl (zC rfl rfl) ?_
  refine zH ?_
  refine zS ?_
  repeat (first | refine zO ?_ | refine zM ?_)
  refine fin1 (rs_c rfl) ?_
  exact congrArg vU64 (mag_pos (by omega) hm)

theorem frac_gcd (a b : Nat) :
    Pur cfg 258 [vU64 a, vU64 b] (vU64 (Nat.gcd a b)) := by
 refine zZ Tryz.func258 rfl Tryz.ntmps258 Tryz.results258 rfl ?_
 intro z hz
 refine zE ?_
 refine zB rfl ?_
 refine zA rfl rfl (zC rfl rfl) ?_
 refine zH ?_
 refine zE ?_
 refine qA ?_
 refine qQ ⟨[(0, .c _), (1, .c _)], []⟩ (Weak.mk [] ⟨VLe.of_eq rfl, VLe.of_eq rfl, trivial⟩ rfl) ?_
 refine qR 2 0 rfl rfl (Nat × Nat) (fun ⟨x, y⟩ => [(0, vU64 x), (1, vU64 y)]) (fun ⟨x, y⟩ => []) (fun ⟨x, y⟩ => Nat.gcd a b = Nat.gcd x y) (fun ⟨x, y⟩ => y) ⟨⟨a, b⟩, rfl, Weak.mk [] ⟨VLe.refl _, VLe.refl _, trivial⟩ rfl⟩ ?_
 rintro ⟨x, y⟩ hg
 refine zE ?_
 refine zE ?_
 refine zB rfl ?_
 refine zA rfl rfl (zF rfl rfl) ?_
 refine zA rfl rfl (qV rfl rfl rfl) ?_
 refine zH ?_
 refine zR rfl (fun c1 => ?_) (fun c1 => ?_)
 ·try simp only [sx, List.length_map] at c1
  refine zT ?_
  refine qA ?_
  refine yG 6 mixed (by kernel_rfl) rfl rfl ?_
  refine zV rfl rfl (zF rfl rfl) ?_
  refine zV rfl rfl (zF rfl rfl) ?_
  refine zV rfl rfl (zF rfl rfl) ?_
  refine zV rfl rfl (det_rem rfl rfl rfl (by omega)) ?_
  refine zV rfl rfl (zC rfl rfl) ?_
  refine zV rfl rfl (zC rfl rfl) ?_
  refine kB ?_
  refine zH ?_
  refine ⟨⟨y, x % y⟩, (by rw [hg]; exact gcd_step (by omega)), (Nat.mod_lt _ (by omega)), Weak.mk [] ⟨VLe.refl _, VLe.of_eq (congrArg vU64 (Int.ofNat_tmod x y).symm), trivial⟩ rfl⟩
 ·try simp only [sx, List.length_map] at c1
  refine qU ?_
  refine zE ?_
  refine zB rfl ?_
  refine zA rfl rfl (zF rfl rfl) ?_
  refine zA rfl rfl (zC rfl rfl) ?_
  refine zH ?_
  refine zS ?_
  repeat (first | refine zO ?_ | refine zM ?_)
  refine fin1 (rs_c rfl) ?_
  exact congrArg vU64 (by rw [hg, show y = 0 by omega, Nat.gcd_zero_right])

theorem base_gcd (a b : Nat) :
    Pur cfg 242 [vI a, vI b] (vI (Nat.gcd a b)) := by
 refine zZ Tryz.func242 rfl Tryz.ntmps242 Tryz.results242 rfl ?_
 intro z hz
 refine zE ?_
 refine zB rfl ?_
 refine zA rfl rfl (zC rfl rfl) ?_
 refine zH ?_
 refine zE ?_
 refine qA ?_
 refine qQ ⟨[(0, .c _), (1, .c _)], []⟩ (Weak.mk [] ⟨VLe.of_eq rfl, VLe.of_eq rfl, trivial⟩ rfl) ?_
 refine qR 2 0 rfl rfl (Nat × Nat) (fun ⟨x, y⟩ => [(0, vI x), (1, vI y)]) (fun ⟨x, y⟩ => []) (fun ⟨x, y⟩ => Nat.gcd a b = Nat.gcd x y) (fun ⟨x, y⟩ => y) ⟨⟨a, b⟩, rfl, Weak.mk [] ⟨VLe.refl _, VLe.refl _, trivial⟩ rfl⟩ ?_
 rintro ⟨x, y⟩ hg
 refine zE ?_
 refine zE ?_
 refine zB rfl ?_
 refine zA rfl rfl (zF rfl rfl) ?_
 refine zA rfl rfl (qV rfl rfl rfl) ?_
 refine zH ?_
 refine zR rfl (fun c1 => ?_) (fun c1 => ?_)
 ·try simp only [sx, List.length_map] at c1
  refine zT ?_
  refine qA ?_
  refine yG 6 mixed (by kernel_rfl) rfl rfl ?_
  refine zV rfl rfl (zF rfl rfl) ?_
  refine zV rfl rfl (zF rfl rfl) ?_
  refine zV rfl rfl (zF rfl rfl) ?_
  refine zV rfl rfl (det_rem rfl rfl rfl (by omega)) ?_
  refine zV rfl rfl (zC rfl rfl) ?_
  refine zV rfl rfl (zC rfl rfl) ?_
  refine kB ?_
  refine zH ?_
  refine ⟨⟨y, x % y⟩, (by rw [hg]; exact gcd_step (by omega)), (Nat.mod_lt _ (by omega)), Weak.mk [] ⟨VLe.refl _, VLe.of_eq (congrArg vI (Int.ofNat_tmod x y).symm), trivial⟩ rfl⟩
 ·try simp only [sx, List.length_map] at c1
  refine qU ?_
  refine zE ?_
  refine zB rfl ?_
  refine zA rfl rfl (zF rfl rfl) ?_
  refine zA rfl rfl (zC rfl rfl) ?_
  refine zH ?_
  refine zS ?_
  repeat (first | refine zO ?_ | refine zM ?_)
  refine fin1 (rs_c rfl) ?_
  exact congrArg vI (by rw [hg, show y = 0 by omega, Nat.gcd_zero_right])

theorem frac_Valid (v : Vl) :
    Pur cfg 226 [vVal v] (vB (decide (1 ≤ v.D) && decide (v.D ≤ 2147483647) && num31 v.N && decide (Int.gcd v.N v.D = 1))) := by
 refine zZ Tryz.func226 rfl Tryz.ntmps226 Tryz.results226 rfl ?_
 intro z hz
 refine zE ?_
 refine zB rfl ?_
 refine qC rfl rfl (qN rfl rfl) ?_
 rintro _ _ ⟨b1, rfl, rfl⟩
 refine zA rfl rfl (zC rfl rfl) ?_
 refine zH ?_
 refine zE ?_
 refine yG 24 mixed (by kernel_rfl) rfl rfl ?_
 refine zV rfl rfl (zJ rfl fd26_1 rfl) ?_
 refine zV rfl rfl (zK rfl one2 rfl (zP 0 rfl) rfl) ?_
 refine zV rfl rfl (kR rfl rfl rfl) ?_
 refine zV rfl rfl (zF rfl rfl) ?_
 refine qE [] rfl rfl rfl rfl gv1 trivial (fun g1_3 => zJ rfl fd26_1 rfl) rfl ?_
 refine qE [(7, _)] rfl rfl rfl rfl gv1 ⟨rfl, rfl, trivial⟩ (fun g1_3 => zK rfl one2 rfl (zP 0 rfl) rfl) rfl ?_
 refine qE [(8, _)] rfl rfl rfl rfl gv1 ⟨rfl, rfl, trivial⟩ (fun g1_3 => kQ rfl rfl rfl) rfl ?_
 refine zV rfl rfl (qM rfl rfl rfl (fun h => h) rfl) ?_
 refine zV rfl rfl (zF rfl rfl) ?_
 refine qE [] rfl rfl rfl rfl gv1 trivial (fun g1_8 => zJ rfl fd26_0 rfl) rfl ?_
 refine qE [(12, _)] rfl rfl rfl rfl gv1 ⟨rfl, rfl, trivial⟩ (fun g1_8 => zK rfl one2 rfl (zP 0 rfl) rfl) rfl ?_
 refine qE [(13, _)] rfl rfl rfl rfl gv1 ⟨rfl, rfl, trivial⟩ (fun g1_8 => zW rfl ok257 (frac_inRange _) ⟨VLe.refl _, rfl, trivial⟩) rfl ?_
 refine zV rfl rfl (qM rfl rfl rfl (fun h => h) rfl) ?_
 refine zV rfl rfl (zF rfl rfl) ?_
 refine qE [] rfl rfl rfl rfl gv1 trivial (fun g1_13 => zJ rfl fd26_0 rfl) rfl ?_
 refine qE [(17, _)] rfl rfl rfl rfl gv1 ⟨rfl, rfl, trivial⟩ (fun g1_13 => zK rfl one2 rfl (zP 0 rfl) rfl) rfl ?_
 refine qE [(18, _)] rfl rfl rfl rfl gv1 ⟨rfl, rfl, trivial⟩ (fun g1_13 => zW rfl ok259 (frac_magnitude v.N (frV g1_13).2.2.1 (frV g1_13).2.2.2) ⟨VLe.refl _, rfl, trivial⟩) rfl ?_
 refine qE [] rfl rfl rfl rfl gv1 trivial (fun g1_13 => zJ rfl fd26_1 rfl) rfl ?_
 refine qE [(20, _)] rfl rfl rfl rfl gv1 ⟨rfl, rfl, trivial⟩ (fun g1_13 => zK rfl one2 rfl (zP 0 rfl) rfl) rfl ?_
 refine qE [(21, _)] rfl rfl rfl rfl gv1 ⟨rfl, rfl, trivial⟩ (fun g1_13 => yU rfl us2 ik222 rfl) rfl ?_
 refine qE [(19, _), (22, _)] rfl rfl rfl rfl gv1 ⟨rfl, rfl, rfl, rfl, trivial⟩ (fun g1_13 => zW rfl ok258 (show Pur cfg 258 [vU64 v.N.natAbs, vU64 (IntKind.u64.wrap v.D)] (vU64 (Nat.gcd v.N.natAbs v.D.natAbs)) from by rw [u64_D (frV g1_13).1 (frV g1_13).2.1]; exact frac_gcd _ _) ⟨VLe.refl _, rfl, VLe.refl _, rfl, trivial⟩) rfl ?_
 refine qE [(23, _)] rfl rfl rfl rfl gv1 ⟨rfl, rfl, trivial⟩ (fun g1_13 => qJ rfl rfl rfl) rfl ?_
 refine zV rfl rfl (qM rfl rfl rfl (fun h => h) rfl) ?_
 refine zV rfl rfl (zC rfl rfl) ?_
 refine kB ?_
 refine zH ?_
 refine zS ?_
 repeat (first | refine zO ?_ | refine zM ?_)
 refine fin1 (rs_c rfl) ?_
 exact congrArg vB (by rw [show (decide (((Nat.gcd v.N.natAbs v.D.natAbs : Nat) : Int) = 1)) = decide (Int.gcd v.N v.D = 1) from decide_eq_decide.2 (by unfold Int.gcd; omega)])

theorem value_Valid (t : Ty) (v : Vl) :
    Pur cfg 181 [vTy t, vVal v] (vB (tyOk t && valOk t v)) := by
 refine zZ Tryz.func181 rfl Tryz.ntmps181 Tryz.results181 rfl ?_
 intro z hz
 refine zE ?_
 refine zB rfl ?_
 refine qC rfl rfl (qN rfl rfl) ?_
 rintro _ _ ⟨b1, rfl, rfl⟩
 refine qC rfl rfl (qN rfl rfl) ?_
 rintro _ _ ⟨b2, rfl, rfl⟩
 refine zA rfl rfl (zC rfl rfl) ?_
 refine zH ?_
 refine zE ?_
 refine zE ?_
 refine zB rfl ?_
 refine zA rfl rfl (zQ rfl agg23 rfl (zP 1 rfl) rfl) ?_
 refine zA rfl rfl (zW rfl ok188 (value_ValidateType _) ⟨VLe.refl _, rfl, trivial⟩) ?_
 refine zA rfl rfl (qV rfl rfl rfl) ?_
 refine zH ?_
 refine zR rfl (fun c1 => ?_) (fun c1 => ?_)
 ·try simp only [sx, List.length_map] at c1
  have ht : tyOk t = false := tyErr_ne c1
  refine zE ?_
  refine zB rfl ?_
  refine zA rfl rfl (zC rfl rfl) ?_
  refine zH ?_
  refine zS ?_
  repeat (first | refine zO ?_ | refine zM ?_)
  refine fin1 (rs_c rfl) ?_
  rw [ht]; rfl
 ·try simp only [sx, List.length_map] at c1
  have ht : tyOk t = true := tyErr_eq c1
  refine zT ?_
  refine zE ?_
  refine zE ?_
  refine zB rfl ?_
  refine zA rfl rfl (zJ rfl fd23_0 rfl) ?_
  refine zA rfl rfl (zK rfl one3 rfl (zP 1 rfl) rfl) ?_
  refine zH ?_
  refine qA ?_
  refine zE ?_
  refine zB rfl ?_
  refine zA rfl rfl (qJ rfl rfl rfl) ?_
  refine zA rfl rfl (zC rfl rfl) ?_
  refine zH ?_
  refine zR rfl (fun c2 => ?_) (fun c2 => ?_)
  ·try simp only [sx, List.length_map] at c2
   refine zE ?_
   refine zB rfl ?_
   refine zA rfl rfl (zQ rfl agg23 rfl (zP 1 rfl) rfl) ?_
   refine zA rfl rfl (zQ rfl agg26 rfl (zP 0 rfl) rfl) ?_
   refine zA rfl rfl (zW rfl ok224 (fixed_Valid _ _) ⟨VLe.refl _, rfl, VLe.refl _, rfl, trivial⟩) ?_
   refine zA rfl rfl (zC rfl rfl) ?_
   refine zH ?_
   refine zS ?_
   repeat (first | refine zO ?_ | refine zM ?_)
   refine fin1 (rs_c rfl) ?_
   exact congrArg vB (by rw [ht, valOk, c2, ← fix_ty c2, ht]; rfl)
  ·try simp only [sx, List.length_map] at c2
   refine zE ?_
   refine zB rfl ?_
   refine zA rfl rfl (qJ rfl rfl rfl) ?_
   refine zA rfl rfl (zC rfl rfl) ?_
   refine zH ?_
   refine zR rfl (fun c3 => ?_) (fun c3 => ?_)
   ·try simp only [sx, List.length_map] at c3
    refine zE ?_
    refine zB rfl ?_
    refine zA rfl rfl (zJ rfl fd26_1 rfl) ?_
    refine zA rfl rfl (zK rfl one2 rfl (zP 0 rfl) rfl) ?_
    refine zA rfl rfl (qJ rfl rfl rfl) ?_
    refine zA rfl rfl (zF rfl rfl) ?_
    refine zN [] rfl rfl rfl rfl gv1 trivial (fun g7_3 => zJ rfl fd26_0 rfl) rfl ?_
    refine zN [(21, _)] rfl rfl rfl rfl gv1 ⟨rfl, rfl, trivial⟩ (fun g7_3 => zK rfl one2 rfl (zP 0 rfl) rfl) rfl ?_
    refine zN [(22, _)] rfl rfl rfl rfl gv1 ⟨rfl, rfl, trivial⟩ (fun g7_3 => zW rfl ok225 (value_whole _) ⟨VLe.refl _, rfl, trivial⟩) rfl ?_
    refine zA rfl rfl (qM rfl rfl rfl (fun h => h) rfl) ?_
    refine zA rfl rfl (zC rfl rfl) ?_
    refine zH ?_
    refine zS ?_
    repeat (first | refine zO ?_ | refine zM ?_)
    refine fin1 (rs_c rfl) ?_
    exact congrArg vB (by rw [ht, valOk, qZ c2, c3]; rfl)
   ·try simp only [sx, List.length_map] at c3
    refine zT ?_
    refine zE ?_
    refine zB rfl ?_
    refine zA rfl rfl (zQ rfl agg26 rfl (zP 0 rfl) rfl) ?_
    refine zA rfl rfl (zW rfl ok226 (frac_Valid _) ⟨VLe.refl _, rfl, trivial⟩) ?_
    refine zA rfl rfl (zC rfl rfl) ?_
    refine zH ?_
    refine zS ?_
    repeat (first | refine zO ?_ | refine zM ?_)
    refine fin1 (rs_c rfl) ?_
    exact congrArg vB (by rw [ht, valOk, qZ c2, qZ c3]; rfl)

theorem base_Val (t : Ty) (v : Vl) (ht : tyOk t = true) :
    Pur cfg 213 [vTy t, vVal v] (vB (valOk t v)) := by
 refine zZ Tryz.func213 rfl Tryz.ntmps213 Tryz.results213 rfl ?_
 intro z hz
 refine zE ?_
 refine zB rfl ?_
 refine qC rfl rfl (qN rfl rfl) ?_
 rintro _ _ ⟨b1, rfl, rfl⟩
 refine qC rfl rfl (qN rfl rfl) ?_
 rintro _ _ ⟨b2, rfl, rfl⟩
 refine zA rfl rfl (zC rfl rfl) ?_
 refine zH ?_
 refine zE ?_
 refine zE ?_
 refine zB rfl ?_
 refine zA rfl rfl (zJ rfl fd23_0 rfl) ?_
 refine zA rfl rfl (zK rfl one3 rfl (zP 1 rfl) rfl) ?_
 refine zA rfl rfl (qJ rfl rfl rfl) ?_
 refine zH ?_
 refine zR rfl (fun c1 => ?_) (fun c1 => ?_)
 ·try simp only [sx, List.length_map] at c1
  obtain ⟨b1, b2⟩ := fixB (by rw [← fix_ty c1]; exact ht)
  refine zE ?_
  refine zB rfl ?_
  refine zA rfl rfl (zJ rfl fd23_1 rfl) ?_
  refine zA rfl rfl (zK rfl one3 rfl (zP 1 rfl) rfl) ?_
  refine zA rfl rfl (kA rfl rfl rfl ⟨by omega, by omega⟩) ?_
  refine zA rfl rfl (det_shl rfl rfl rfl (by omega)) ?_
  refine zA rfl rfl (zC rfl rfl) ?_
  refine zH ?_
  refine zE ?_
  refine zB rfl ?_
  refine zA rfl rfl (zJ rfl fd26_1 rfl) ?_
  refine zA rfl rfl (zK rfl one2 rfl (zP 0 rfl) rfl) ?_
  refine zA rfl rfl (qJ rfl rfl rfl) ?_
  refine zA rfl rfl (zF rfl rfl) ?_
  refine zN [] rfl rfl rfl rfl gv1 trivial (fun g3_3 => zJ rfl fd26_0 rfl) rfl ?_
  refine zN [(17, _)] rfl rfl rfl rfl gv1 ⟨rfl, rfl, trivial⟩ (fun g3_3 => zK rfl one2 rfl (zP 0 rfl) rfl) rfl ?_
  refine zN [] rfl rfl rfl rfl gv1 trivial (fun g3_3 => zF rfl rfl) rfl ?_
  refine zN [(19, _)] rfl rfl rfl rfl gv1 ⟨rfl, rfl, trivial⟩ (fun g3_3 => det_neg rfl rfl) rfl ?_
  refine zN [(18, _), (20, _)] rfl rfl rfl rfl gv1 ⟨rfl, rfl, rfl, rfl, trivial⟩ (fun g3_3 => kR rfl rfl rfl) rfl ?_
  refine zA rfl rfl (qM rfl rfl rfl (fun h => h) rfl) ?_
  refine zA rfl rfl (zF rfl rfl) ?_
  refine zN [] rfl rfl rfl rfl gv1 trivial (fun g3_10 => zJ rfl fd26_0 rfl) rfl ?_
  refine zN [(24, _)] rfl rfl rfl rfl gv1 ⟨rfl, rfl, trivial⟩ (fun g3_10 => zK rfl one2 rfl (zP 0 rfl) rfl) rfl ?_
  refine zN [] rfl rfl rfl rfl gv1 trivial (fun g3_10 => zF rfl rfl) rfl ?_
  refine zN [(25, _), (26, _)] rfl rfl rfl rfl gv1 ⟨rfl, rfl, rfl, rfl, trivial⟩ (fun g3_10 => qS rfl rfl rfl) rfl ?_
  refine zA rfl rfl (qM rfl rfl rfl (fun h => h) rfl) ?_
  refine zA rfl rfl (zC rfl rfl) ?_
  refine zH ?_
  refine zS ?_
  repeat (first | refine zO ?_ | refine zM ?_)
  refine fin1 (rs_c rfl) ?_
  exact congrArg vB (valfix c1 b1 b2)
 ·try simp only [sx, List.length_map] at c1
  refine zT ?_
  refine zE ?_
  refine zE ?_
  refine zB rfl ?_
  refine zA rfl rfl (zJ rfl fd26_0 rfl) ?_
  refine zA rfl rfl (zK rfl one2 rfl (zP 0 rfl) rfl) ?_
  refine zA rfl rfl (yX rfl rfl rfl) ?_
  refine zA rfl rfl (zF rfl rfl) ?_
  refine zN [] rfl rfl rfl rfl gv1 trivial (fun g4_3 => zJ rfl fd26_0 rfl) rfl ?_
  refine zN [(33, _)] rfl rfl rfl rfl gv1 ⟨rfl, rfl, trivial⟩ (fun g4_3 => zK rfl one2 rfl (zP 0 rfl) rfl) rfl ?_
  refine zN [(34, _)] rfl rfl rfl rfl gv1 ⟨rfl, rfl, trivial⟩ (fun g4_3 => qS rfl rfl rfl) rfl ?_
  refine zA rfl rfl (yD rfl rfl rfl rfl (fun h => (lzf h))) ?_
  refine zA rfl rfl (zF rfl rfl) ?_
  refine zN [] rfl rfl rfl rfl gv1 trivial (fun g4_8 => zJ rfl fd26_1 rfl) rfl ?_
  refine zN [(38, _)] rfl rfl rfl rfl gv1 ⟨rfl, rfl, trivial⟩ (fun g4_8 => zK rfl one2 rfl (zP 0 rfl) rfl) rfl ?_
  refine zN [(39, _)] rfl rfl rfl rfl gv1 ⟨rfl, rfl, trivial⟩ (fun g4_8 => qS rfl rfl rfl) rfl ?_
  refine zA rfl rfl (yD rfl rfl rfl rfl (fun h => (lzf h))) ?_
  refine zA rfl rfl (zF rfl rfl) ?_
  refine zN [] rfl rfl rfl rfl gv1 trivial (fun g4_13 => zJ rfl fd26_1 rfl) rfl ?_
  refine zN [(43, _)] rfl rfl rfl rfl gv1 ⟨rfl, rfl, trivial⟩ (fun g4_13 => zK rfl one2 rfl (zP 0 rfl) rfl) rfl ?_
  refine zN [(44, _)] rfl rfl rfl rfl gv1 ⟨rfl, rfl, trivial⟩ (fun g4_13 => yX rfl rfl rfl) rfl ?_
  refine zA rfl rfl (yD rfl rfl rfl rfl (fun h => (lzf h))) ?_
  refine zH ?_
  refine zR rfl (fun c2 => ?_) (fun c2 => ?_)
  ·refine zE ?_
   refine zB rfl ?_
   refine zA rfl rfl (zC rfl rfl) ?_
   refine zH ?_
   refine zS ?_
   repeat (first | refine zO ?_ | refine zM ?_)
   refine fin1 (rs_c rfl) ?_
   exact congrArg vB (val_out c1 c2).symm
  ·obtain ⟨hN1, hN2, hD1, hD2⟩ := val_in c2
   refine zT ?_
   refine zE ?_
   refine zE ?_
   refine zB rfl ?_
   refine zA rfl rfl (zJ rfl fd23_0 rfl) ?_
   refine zA rfl rfl (zK rfl one3 rfl (zP 1 rfl) rfl) ?_
   refine zA rfl rfl (qJ rfl rfl rfl) ?_
   refine zH ?_
   refine zR rfl (fun c3 => ?_) (fun c3 => ?_)
   ·try simp only [sx, List.length_map] at c3
    refine zE ?_
    refine zB rfl ?_
    refine zA rfl rfl (zJ rfl fd26_1 rfl) ?_
    refine zA rfl rfl (zK rfl one2 rfl (zP 0 rfl) rfl) ?_
    refine zA rfl rfl (qJ rfl rfl rfl) ?_
    refine zA rfl rfl (zC rfl rfl) ?_
    refine zH ?_
    refine zS ?_
    repeat (first | refine zO ?_ | refine zM ?_)
    refine fin1 (rs_c rfl) ?_
    exact congrArg vB (by rw [valOk, qZ c1, c3]; simp [num31, hN1, hN2])
   ·try simp only [sx, List.length_map] at c3
    refine zT ?_
    refine zE ?_
    refine zB rfl ?_
    refine zA rfl rfl (zJ rfl fd26_0 rfl) ?_
    refine zA rfl rfl (zK rfl one2 rfl (zP 0 rfl) rfl) ?_
    refine zA rfl rfl (zJ rfl fd26_0 rfl) ?_
    refine zA rfl rfl (zK rfl one2 rfl (zP 0 rfl) rfl) ?_
    refine zA rfl rfl (det_neg rfl rfl) ?_
    refine zA rfl rfl (det_max rfl rfl rfl) ?_
    refine zA rfl rfl (zJ rfl fd26_1 rfl) ?_
    refine zA rfl rfl (zK rfl one2 rfl (zP 0 rfl) rfl) ?_
    refine zA rfl rfl (zW rfl ok242 (show Pur cfg 242 [vI (max v.N (IntKind.i64.wrap (-v.N))), vI v.D] (vI (Int.gcd v.N v.D)) from by rw [max_abs hN1 hN2, show v.D = (v.D.natAbs : Int) by omega]; exact base_gcd _ _) ⟨VLe.refl _, rfl, VLe.refl _, rfl, trivial⟩) ?_
    refine zA rfl rfl (qJ rfl rfl rfl) ?_
    refine zA rfl rfl (zC rfl rfl) ?_
    refine zH ?_
    refine zS ?_
    repeat (first | refine zO ?_ | refine zM ?_)
    refine fin1 (rs_c rfl) ?_
    exact congrArg vB (by rw [valOk, qZ c1, qZ c3]; simp [num31, hN1, hN2, hD1, hD2]; omega)

theorem value_Zero (t : Ty) :
    Pur cfg 124 [vTy t] (vVal (zeroV t)) := by
 refine zZ Tryz.func124 rfl Tryz.ntmps124 Tryz.results124 rfl ?_
 intro z hz
 refine zE ?_
 refine zB rfl ?_
 refine qC rfl rfl (qN rfl rfl) ?_
 rintro _ _ ⟨b1, rfl, rfl⟩
 refine qC rfl rfl (kK rfl zr26) ?_
 rintro _ _ ⟨b2, rfl, rfl⟩
 refine zH ?_
 refine zE ?_
 refine zE ?_
 refine zB rfl ?_
 refine zA rfl rfl (zQ rfl agg23 rfl (zP 1 rfl) rfl) ?_
 refine zA rfl rfl (zW rfl ok188 (value_ValidateType _) ⟨VLe.refl _, rfl, trivial⟩) ?_
 refine zA rfl rfl (qV rfl rfl rfl) ?_
 refine zH ?_
 refine zR rfl (fun c1 => ?_) (fun c1 => ?_)
 ·try simp only [sx, List.length_map] at c1
  refine zE ?_
  refine zB rfl ?_
  refine zA rfl rfl (yE rfl zr26 pl26 rfl) ?_
  refine zY rfl rfl (zU rfl sz26 rfl rfl rfl (qI 0 rfl rfl)) ?_
  refine zH ?_
  refine zS ?_
  repeat (first | refine zO ?_ | refine zM ?_)
  refine fin1 (qD agg26 rfl (zP 0 rfl) rfl) ?_
  rw [zeroV, tyErr_ne c1]; rfl
 ·try simp only [sx, List.length_map] at c1
  refine zT ?_
  refine zE ?_
  refine zB rfl ?_
  refine zA rfl rfl (yE rfl zr26 pl26 rfl) ?_
  refine zY rfl rfl (zU rfl sz26 rfl rfl rfl (qI 0 rfl rfl)) ?_
  refine zH ?_
  refine zS ?_
  repeat (first | refine zO ?_ | refine zM ?_)
  refine fin1 (qD agg26 rfl (zP 0 rfl) rfl) ?_
  rw [zeroV, tyErr_eq c1]; rfl

theorem ref04_Zero (t : Ty) :
    Pur cfg 128 [vTy t] (vVal (zeroV t)) := by
 refine zZ Tryz.func128 rfl Tryz.ntmps128 Tryz.results128 rfl ?_
 intro z hz
 refine zE ?_
 refine zB rfl ?_
 refine qC rfl rfl (qN rfl rfl) ?_
 rintro _ _ ⟨b1, rfl, rfl⟩
 refine qC rfl rfl (kK rfl zr26) ?_
 rintro _ _ ⟨b2, rfl, rfl⟩
 refine zH ?_
 refine zE ?_
 refine zE ?_
 refine zB rfl ?_
 refine zA rfl rfl (zQ rfl agg23 rfl (zP 1 rfl) rfl) ?_
 refine zA rfl rfl (zW rfl ok142 (base_Type _) ⟨VLe.refl _, rfl, trivial⟩) ?_
 refine zA rfl rfl (qY rfl rfl) ?_
 refine zH ?_
 refine zR rfl (fun c1 => ?_) (fun c1 => ?_)
 ·try simp only [sx, List.length_map] at c1
  refine zE ?_
  refine zB rfl ?_
  refine zA rfl rfl (yE rfl zr26 pl26 rfl) ?_
  refine zY rfl rfl (zU rfl sz26 rfl rfl rfl (qI 0 rfl rfl)) ?_
  refine zH ?_
  refine zS ?_
  repeat (first | refine zO ?_ | refine zM ?_)
  refine fin1 (qD agg26 rfl (zP 0 rfl) rfl) ?_
  rw [zeroV, c1]; rfl
 ·try simp only [sx, List.length_map] at c1
  refine zT ?_
  refine zE ?_
  refine zB rfl ?_
  refine zA rfl rfl (yE rfl zr26 pl26 rfl) ?_
  refine zY rfl rfl (zU rfl sz26 rfl rfl rfl (qI 0 rfl rfl)) ?_
  refine zH ?_
  refine zS ?_
  repeat (first | refine zO ?_ | refine zM ?_)
  refine fin1 (qD agg26 rfl (zP 0 rfl) rfl) ?_
  rw [zeroV, c1]; rfl

end Go.W
