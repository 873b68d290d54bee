/-
  Walks: what functions of the program compute. Printed by wip/gen/mk2.py.
  Conditions: none.
-/
import Derived.Test.YtnnkemdiknefaaaGreatDoorWG
set_option linter.unusedSimpArgs false
set_option linter.unusedVariables false
namespace Go.W
open Go Go.Eng Go.Proofs Go.L41 Go.Br
attribute [local irreducible] AWP RWP TD
theorem ok51 : callOk Tryz.prog 51 = true := by kernel_rfl
theorem delta_Solve_ex : Pur cfg 51 [vE exC, vS (bs [107])] (.tup [vLin ⟨0, [⟨bs [105], 1⟩]⟩, vB true]) := by
  have h := delta_Solve exC (bs [107]) exC_wt
  rw [solve_ex] at h
  exact h

theorem law22_alive  :
    Pur cfg 13 [] (vB true) := by
 refine zZ Tryz.func13 rfl Tryz.ntmps13 Tryz.results13 rfl ?_
 intro z hz
 refine zE ?_
 refine zB rfl ?_
 refine zA rfl rfl (zC rfl rfl) ?_
 refine zH ?_
 refine zE ?_
 refine zB rfl ?_
 refine zA rfl rfl (yE rfl zr75 pl75 rfl) ?_
 refine zA rfl rfl (yF rfl el27 zr75 rfl rfl rfl rfl) ?_
 refine zA rfl rfl (yE rfl zr29 pl29 rfl) ?_
 refine zA rfl rfl (qO [none, none, none, none, none, none, none, none, none, none, none, some 4, some 13] rfl zr33 pl33 rfl rfl) ?_
 refine zA rfl rfl (yE rfl zr75 pl75 rfl) ?_
 refine zA rfl rfl (yF rfl el27 zr75 rfl rfl rfl rfl) ?_
 refine zA rfl rfl (yE rfl zr29 pl29 rfl) ?_
 refine zA rfl rfl (qO [none, none, none, none, none, none, none, none, none, none, none, some 4, some 13] rfl zr33 pl33 rfl rfl) ?_
 refine qC rfl rfl (qH [none, none, none, none, none, none, none, none, none, none, some 2, some 4, some 13] rfl zr33 rfl) ?_
 rintro _ _ ⟨b1, rfl, rfl⟩
 refine qC rfl rfl (qH [none, none, none, none, none, none, none, none, none, none, some 2, some 4, some 13] rfl zr33 rfl) ?_
 rintro _ _ ⟨b2, rfl, rfl⟩
 refine zY rfl rfl (zU rfl sz33 rfl rfl rfl (qI 1 rfl rfl)) ?_
 refine zY rfl rfl (zU rfl sz33 rfl rfl rfl (qI 0 rfl rfl)) ?_
 refine zH ?_
 refine zE ?_
 refine zB rfl ?_
 refine zA rfl rfl (zQ rfl yA rfl (zP 1 rfl) rfl) ?_
 refine zA rfl rfl (zQ rfl yA rfl (zP 0 rfl) rfl) ?_
 refine zA rfl rfl (yF rfl el31 zr33 rfl rfl rfl rfl) ?_
 refine zA rfl rfl (qO [none, none, none, none, none, none, none, none, none, none, some 2, some 4, none] rfl zr33 pl33 rfl rfl) ?_
 refine zA rfl rfl (zW rfl ok51 delta_Solve_ex ⟨VLe.refl _, rfl, VLe.refl _, rfl, trivial⟩) ?_
 refine zA rfl rfl (qT rfl rfl) ?_
 refine zA rfl rfl (yH rfl rfl rfl) ?_
 refine zA rfl rfl (qX rfl rfl rfl) ?_
 refine qC rfl rfl (qH [none, some 2] rfl zr29 rfl) ?_
 rintro _ _ ⟨b3, rfl, rfl⟩
 refine zY rfl rfl (zU rfl sz29 rfl rfl rfl (qI 0 rfl rfl)) ?_
 refine zA rfl rfl (zC rfl rfl) ?_
 refine zH ?_
 refine zE ?_
 refine zB rfl ?_
 refine zA rfl rfl (zF rfl rfl) ?_
 refine zA rfl rfl (zF rfl rfl) ?_
 refine zN [] rfl rfl rfl rfl gv1 trivial (fun g3_1 => zJ rfl yI rfl) rfl ?_
 refine zN [(23, _)] rfl rfl rfl rfl gv1 ⟨rfl, rfl, trivial⟩ (fun g3_1 => zK rfl kH rfl (zP 0 rfl) rfl) rfl ?_
 refine zN [(24, _)] rfl rfl rfl rfl gv1 ⟨rfl, rfl, trivial⟩ (fun g3_1 => qB rfl el27 rfl) rfl ?_
 refine zN [(25, _)] rfl rfl rfl rfl gv1 ⟨rfl, rfl, trivial⟩ (fun g3_1 => qJ rfl rfl rfl) rfl ?_
 refine zA rfl rfl (qM rfl rfl rfl (fun h => h) rfl) ?_
 refine zA rfl rfl (zF rfl rfl) ?_
 refine zN [] rfl rfl rfl rfl gv1 trivial (fun g3_7 => zJ rfl yI rfl) rfl ?_
 refine zN [(29, _)] rfl rfl rfl rfl gv1 ⟨rfl, rfl, trivial⟩ (fun g3_7 => zK rfl kH rfl (zP 0 rfl) rfl) rfl ?_
 refine zN [(30, _)] rfl rfl rfl rfl gv1 ⟨rfl, rfl, trivial⟩ (fun g3_7 => zX rfl el27 rfl rfl (by omega) rfl) rfl ?_
 refine zN [(31, _)] rfl rfl rfl rfl gv1 ⟨rfl, rfl, trivial⟩ (fun g3_7 => qG rfl fd75_0 rfl) rfl ?_
 refine zN [(32, _)] rfl rfl rfl rfl gv1 ⟨rfl, rfl, trivial⟩ (fun g3_7 => zK rfl one9 rfl qK rfl) rfl ?_
 refine zN [(33, _)] rfl rfl rfl rfl gv1 ⟨rfl, rfl, trivial⟩ (fun g3_7 => yJ rfl rfl rfl) rfl ?_
 refine zA rfl rfl (qM rfl rfl rfl (fun h => h) rfl) ?_
 refine zA rfl rfl (zC rfl rfl) ?_
 refine zH ?_
 refine zS ?_
 repeat (first | refine zO ?_ | refine zM ?_)
 refine fin1 (rs_c rfl) ?_
 exact congrArg (fun b => V.c (C.lit (Value.bool b))) (by decide)

end Go.W
