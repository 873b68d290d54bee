/-
  Walks: what functions of the program compute. Printed by wip/gen/mk2.py.
  Conditions: none.
-/
import Derived.Test.YtnnkemdiknefaaaGreatDoorWF
import Derived.Test.YtnnkemdiknefaaaGreatDoorPlain
set_option linter.unusedSimpArgs false
set_option linter.unusedVariables false
namespace Go.W
open Go Go.Eng Go.Proofs Go.L41 Go.Br
attribute [local irreducible] AWP RWP TD
theorem ok31 : callOk Tryz.prog 31 = true := by kernel_rfl
theorem ok37 : callOk Tryz.prog 37 = true := by kernel_rfl
theorem ok40 : callOk Tryz.prog 40 = true := by kernel_rfl
theorem ok66 : callOk Tryz.prog 66 = true := by kernel_rfl
theorem ok120 : callOk Tryz.prog 120 = true := by kernel_rfl
theorem ok121 : callOk Tryz.prog 121 = true := by kernel_rfl
theorem ok122 : callOk Tryz.prog 122 = true := by kernel_rfl
theorem ok123 : callOk Tryz.prog 123 = true := by kernel_rfl
theorem ok130 : callOk Tryz.prog 130 = true := by kernel_rfl
theorem ok131 : callOk Tryz.prog 131 = true := by kernel_rfl
theorem ok185 : callOk Tryz.prog 185 = true := by kernel_rfl
theorem ok189 : callOk Tryz.prog 189 = true := by kernel_rfl
theorem ok190 : callOk Tryz.prog 190 = true := by kernel_rfl
theorem delta_constant (e : Ex) :
    Pur cfg 122 [vE e] (.tup [vLin (constF e).1, vB (constF e).2]) := by
 refine zZ Tryz.func122 rfl Tryz.ntmps122 Tryz.results122 rfl ?_
 intro z hz
 refine zE ?_
 refine zB rfl ?_
 refine qC rfl rfl (qN rfl rfl) ?_
 rintro _ _ ⟨b1, rfl, rfl⟩
 refine qC rfl rfl (qH [none, some 2] rfl zr29 rfl) ?_
 rintro _ _ ⟨b2, rfl, rfl⟩
 refine zA rfl rfl (zC rfl rfl) ?_
 refine zH ?_
 refine zE ?_
 refine qA ?_
 refine zE ?_
 refine zB rfl ?_
 refine zA rfl rfl (zJ rfl yW rfl) ?_
 refine zA rfl rfl (zK rfl one3 rfl (zP 1 rfl) rfl) ?_
 refine zA rfl rfl (qJ rfl rfl rfl) ?_
 refine zA rfl rfl (zC rfl rfl) ?_
 refine zH ?_
 refine zR rfl (fun c1 => ?_) (fun c1 => ?_)
 ·try simp only [sx, List.length_map] at c1
  refine zE ?_
  refine zB rfl ?_
  refine zA rfl rfl (zJ rfl fd33_4 rfl) ?_
  refine zA rfl rfl (zQ rfl yB rfl (zP 1 rfl) rfl) ?_
  refine zY rfl rfl (zU rfl sz29 rfl rfl rfl (qI 0 rfl rfl)) ?_
  refine zA rfl rfl (zC rfl rfl) ?_
  refine zH ?_
  refine zS ?_
  repeat (first | refine zO ?_ | refine zM ?_)
  refine fin2 (qD yB rfl (zP 0 rfl) rfl) (rs_c rfl) ?_
  rw [constF, kG c1]; rfl
 ·try simp only [sx, List.length_map] at c1
  refine zE ?_
  refine zB rfl ?_
  refine zA rfl rfl (zJ rfl yW rfl) ?_
  refine zA rfl rfl (zK rfl one3 rfl (zP 1 rfl) rfl) ?_
  refine zA rfl rfl (qJ rfl rfl rfl) ?_
  refine zA rfl rfl (zF rfl rfl) ?_
  refine zN [] rfl rfl rfl rfl gv1 trivial (fun g3_3 => zJ rfl fd33_3 rfl) rfl ?_
  refine zN [(15, _)] rfl rfl rfl rfl gv1 ⟨rfl, rfl, trivial⟩ (fun g3_3 => zJ rfl fd23_0 rfl) rfl ?_
  refine zN [(16, _)] rfl rfl rfl rfl gv1 ⟨rfl, rfl, trivial⟩ (fun g3_3 => zK rfl one3 rfl (zP 1 rfl) rfl) rfl ?_
  refine zN [(17, _)] rfl rfl rfl rfl gv1 ⟨rfl, rfl, trivial⟩ (fun g3_3 => qJ rfl rfl rfl) rfl ?_
  refine zA rfl rfl (qM rfl rfl rfl (fun h => h) rfl) ?_
  refine zA rfl rfl (zC rfl rfl) ?_
  refine zH ?_
  refine zR rfl (fun c2 => ?_) (fun c2 => ?_)
  ·refine zE ?_
   refine zB rfl ?_
   refine zA rfl rfl (zJ rfl fd33_2 rfl) ?_
   refine zA rfl rfl (zJ rfl fd26_0 rfl) ?_
   refine zA rfl rfl (zK rfl one2 rfl (zP 1 rfl) rfl) ?_
   refine zA rfl rfl (zW rfl ok185 (lin_Const _) ⟨VLe.refl _, rfl, trivial⟩) ?_
   refine zY rfl rfl (zU rfl sz29 rfl rfl rfl (qI 0 rfl rfl)) ?_
   refine zA rfl rfl (zC rfl rfl) ?_
   refine zH ?_
   refine zS ?_
   repeat (first | refine zO ?_ | refine zM ?_)
   refine fin2 (qD yB rfl (zP 0 rfl) rfl) (rs_c rfl) ?_
   rw [constF, qZ c1, c2]; rfl
  ·refine zT ?_
   refine zE ?_
   refine zB rfl ?_
   refine zA rfl rfl (qO [none, some 2] rfl zr29 pl29 rfl rfl) ?_
   refine zY rfl rfl (zU rfl sz29 rfl rfl rfl (qI 0 rfl rfl)) ?_
   refine zA rfl rfl (zC rfl rfl) ?_
   refine zH ?_
   refine zS ?_
   repeat (first | refine zO ?_ | refine zM ?_)
   refine fin2 (qD yB rfl (zP 0 rfl) rfl) (rs_c rfl) ?_
   rw [constF, qZ c1, c2]; rfl

theorem ref22_form (e : Ex) :
    Pur cfg 130 [vE e] (.tup [vLin (formF e).1, vB (formF e).2]) := by
 refine zZ Tryz.func130 rfl Tryz.ntmps130 Tryz.results130 rfl ?_
 intro z hz
 refine zE ?_
 refine zB rfl ?_
 refine qC rfl rfl (qN rfl rfl) ?_
 rintro _ _ ⟨b1, rfl, rfl⟩
 refine qC rfl rfl (qH [none, some 2] rfl zr29 rfl) ?_
 rintro _ _ ⟨b2, rfl, rfl⟩
 refine zA rfl rfl (zC rfl rfl) ?_
 refine zH ?_
 refine zE ?_
 refine zE ?_
 refine zB rfl ?_
 refine zA rfl rfl (zJ rfl yW rfl) ?_
 refine zA rfl rfl (zK rfl one3 rfl (zP 1 rfl) rfl) ?_
 refine zA rfl rfl (qJ rfl rfl rfl) ?_
 refine zH ?_
 refine zR rfl (fun c1 => ?_) (fun c1 => ?_)
 ·try simp only [sx, List.length_map] at c1
  refine zE ?_
  refine zB rfl ?_
  refine zA rfl rfl (zJ rfl fd33_4 rfl) ?_
  refine zA rfl rfl (zQ rfl yB rfl (zP 1 rfl) rfl) ?_
  refine zY rfl rfl (zU rfl sz29 rfl rfl rfl (qI 0 rfl rfl)) ?_
  refine zA rfl rfl (zC rfl rfl) ?_
  refine zH ?_
  refine zS ?_
  repeat (first | refine zO ?_ | refine zM ?_)
  refine fin2 (qD yB rfl (zP 0 rfl) rfl) (rs_c rfl) ?_
  rw [formF, kG c1]; rfl
 ·try simp only [sx, List.length_map] at c1
  refine zT ?_
  refine zE ?_
  refine awp_draw_t 13 0 [.q, .q, .q, .q, .q, .q, .q, .q, .u, .u, .u, .u, .u]  mixed (by kernel_rfl) rfl rfl rfl ?_
  refine kM rfl rfl (zJ rfl fd33_2 rfl) ?_
  refine kM rfl rfl (zJ rfl fd26_0 rfl) ?_
  refine kM rfl rfl (zK rfl one2 rfl (zP 1 rfl) rfl) ?_
  refine kM rfl rfl (zW rfl ok189 (brocaderef05_Const _) ⟨VLe.refl _, rfl, trivial⟩) ?_
  refine kM rfl rfl (zJ rfl yW rfl) ?_
  refine kM rfl rfl (zK rfl one3 rfl (zP 1 rfl) rfl) ?_
  refine kM rfl rfl (qJ rfl rfl rfl) ?_
  refine kM rfl rfl (zF rfl rfl) ?_
  refine tdq_lazyS [] rfl rfl rfl rfl gv1 trivial (fun g3_7 => zJ rfl fd33_3 rfl) (fun g3_7 _ => zJ rfl fd33_3 rfl) rfl ?_
  refine tdq_lazyS [(17, _)] rfl rfl rfl rfl gv1 ⟨rfl, rfl, trivial⟩ (fun g3_7 => zJ rfl fd23_0 rfl) (fun g3_7 _ => zJ rfl fd23_0 rfl) rfl ?_
  refine tdq_lazyS [(18, _)] rfl rfl rfl rfl gv1 ⟨rfl, rfl, trivial⟩ (fun g3_7 => zK rfl one3 rfl (zP 1 rfl) rfl) (fun g3_7 _ => zK rfl one3 rfl (zP 1 rfl) rfl) rfl ?_
  refine tdq_lazyS [(19, _)] rfl rfl rfl rfl gv1 ⟨rfl, rfl, trivial⟩ (fun g3_7 => qJ rfl rfl rfl) (fun g3_7 _ => qJ rfl rfl rfl) rfl ?_
  refine tdq_detS rfl rfl (qM rfl rfl rfl (fun h => h) rfl) (fun _ => qM rfl rfl rfl (fun h => h) rfl) ?_
  refine tdq_nil ?_
  refine tdf_q ?_
  refine tdf_q ?_
  refine tdf_q ?_
  refine tdf_q ?_
  refine tdf_q ?_
  refine tdf_q ?_
  refine tdf_q ?_
  refine tdf_q ?_
  refine tdf_u ?_
  refine tdf_u ?_
  refine tdf_u ?_
  refine tdf_u ?_
  refine tdf_u ?_
  refine tdf_nil ?_
  refine allch_nil ?_
  refine ⟨_, zU rfl sz29 rfl rfl rfl (qI 0 rfl rfl), (by rintro _ _ ⟨rfl, rfl⟩; exact ⟨[], .inr ⟨_, rfl⟩⟩), ?_⟩
  rintro _ _ ⟨rfl, rfl⟩
  refine zA rfl rfl (zC rfl rfl) ?_
  refine zH ?_
  refine zS ?_
  repeat (first | refine zO ?_ | refine zM ?_)
  refine fin2 (qD yB rfl (zP 0 rfl) rfl) (rs_c rfl) ?_
  rw [formF, qZ c1]; rfl

theorem ref22_variable (e : Ex) (s : ByteArray) (he : e.wt ≤ 4294967296) :
    Pur cfg 131 [vE e, vS s] (vB (decide (e.Op = 2) && isNameB s && decide (e.Lin = varL s))) := by
 refine zZ Tryz.func131 rfl Tryz.ntmps131 Tryz.results131 rfl ?_
 intro z hz
 obtain ⟨hL, hI, hA⟩ := e.parts he
 refine zE ?_
 refine zB rfl ?_
 refine qC rfl rfl (qN rfl rfl) ?_
 rintro _ _ ⟨b1, rfl, rfl⟩
 refine zA rfl rfl (zC rfl rfl) ?_
 refine zH ?_
 refine zE ?_
 refine yG 15 mixed (by kernel_rfl) rfl rfl ?_
 refine zV rfl rfl (zJ rfl yW rfl) ?_
 refine zV rfl rfl (zK rfl one3 rfl (zP 0 rfl) rfl) ?_
 refine zV rfl rfl (qJ rfl rfl rfl) ?_
 refine zV rfl rfl (zF rfl rfl) ?_
 refine qE [] rfl rfl rfl rfl gv1 trivial (fun g1_3 => zF rfl rfl) rfl ?_
 refine qE [(9, _)] rfl rfl rfl rfl gv1 ⟨rfl, rfl, trivial⟩ (fun g1_3 => zW rfl ok36 (base_Name _) ⟨VLe.refl _, rfl, trivial⟩) rfl ?_
 refine zV rfl rfl (qM rfl rfl rfl (fun h => h) rfl) ?_
 refine zV rfl rfl (zF rfl rfl) ?_
 refine qE [] rfl rfl rfl rfl gv1 trivial (fun g1_7 => zJ rfl fd33_4 rfl) rfl ?_
 refine qE [(13, _)] rfl rfl rfl rfl gv1 ⟨rfl, rfl, trivial⟩ (fun g1_7 => zQ rfl yB rfl (zP 0 rfl) rfl) rfl ?_
 refine qE [] rfl rfl rfl rfl gv1 trivial (fun g1_7 => zF rfl rfl) rfl ?_
 refine qE [(15, _)] rfl rfl rfl rfl gv1 ⟨rfl, rfl, trivial⟩ (fun g1_7 => zW rfl ok190 (brocaderef05_Var _) ⟨VLe.refl _, rfl, trivial⟩) rfl ?_
 refine qE [(14, _), (16, _)] rfl rfl rfl rfl gv1 ⟨rfl, rfl, rfl, rfl, trivial⟩ (fun g1_7 => zW rfl ok86 (base_Lin e.Lin (varL s) (by omega)) ⟨VLe.refl _, rfl, VLe.refl _, rfl, trivial⟩) rfl ?_
 refine zV rfl rfl (qM rfl rfl rfl (fun h => h) rfl) ?_
 refine zV rfl rfl (zC rfl rfl) ?_
 refine kB ?_
 refine zH ?_
 refine zS ?_
 repeat (first | refine zO ?_ | refine zM ?_)
 refine fin1 (rs_c rfl) ?_
 exact rfl

theorem delta_Solve (c : Ex) (s : ByteArray) (he : c.wt ≤ 4294967296) :
    Pur cfg 51 [vE c, vS s] (.tup [vLin (solveT c s).1, vB (solveT c s).2]) := by
 refine zZ Tryz.func51 rfl Tryz.ntmps51 Tryz.results51 rfl ?_
 intro z hz
 refine zE ?_
 refine zB rfl ?_
 refine qC rfl rfl (qN rfl rfl) ?_
 rintro _ _ ⟨b1, rfl, rfl⟩
 refine qC rfl rfl (qH [none, some 2] rfl zr29 rfl) ?_
 rintro _ _ ⟨b2, rfl, rfl⟩
 refine zA rfl rfl (zC rfl rfl) ?_
 refine zH ?_
 refine zE ?_
 refine zE ?_
 refine zB rfl ?_
 refine zA rfl rfl (zQ rfl yA rfl (zP 1 rfl) rfl) ?_
 refine zA rfl rfl (zW rfl ok40 (expr_Validate c (by omega)) ⟨VLe.refl _, rfl, trivial⟩) ?_
 refine zA rfl rfl (qV rfl rfl rfl) ?_
 refine zA rfl rfl (zF rfl rfl) ?_
 refine zN [] rfl rfl rfl rfl gv1 trivial (fun g1_3 => zJ rfl yW rfl) rfl ?_
 refine zN [(15, _)] rfl rfl rfl rfl gv1 ⟨rfl, rfl, trivial⟩ (fun g1_3 => zK rfl one3 rfl (zP 1 rfl) rfl) rfl ?_
 refine zN [(16, _)] rfl rfl rfl rfl gv1 ⟨rfl, rfl, trivial⟩ (fun g1_3 => qV rfl rfl rfl) rfl ?_
 refine zA rfl rfl (yD rfl rfl rfl rfl (fun h => (lzf h))) ?_
 refine zH ?_
 refine zR rfl (fun c1 => ?_) (fun c1 => ?_)
 ·try simp only [sx, List.length_map] at c1
  have hS : solveT c s = (zL, false) := by simp only [solveT, solve_c1 c1]; rfl
  refine zE ?_
  refine zB rfl ?_
  refine zA rfl rfl (qO [none, some 2] rfl zr29 pl29 rfl rfl) ?_
  refine zY rfl rfl (zU rfl sz29 rfl rfl rfl (qI 0 rfl rfl)) ?_
  refine zA rfl rfl (zC rfl rfl) ?_
  refine zH ?_
  refine zS ?_
  repeat (first | refine zO ?_ | refine zM ?_)
  refine fin2 (qD yB rfl (zP 0 rfl) rfl) (rs_c rfl) ?_
  rw [hS]; rfl
 ·try simp only [sx, List.length_map] at c1
  obtain ⟨hv, hop⟩ := c1
  have hP := valid_part hv
  obtain ⟨a, b, hab, hPa, hPb⟩ := two_args hP (by rw [hop]; rfl)
  have ha0 : c.Args[0]? = some a := by rw [hab]; rfl
  have hb0 : c.Args[1]? = some b := by rw [hab]; rfl
  have hwa := Ex.arg_wt (qF ha0)
  have hwb := Ex.arg_wt (qF hb0)
  have hS : solveT c s = solveAB a b s := by simp only [solveT, hv, hop, argN, hab]; rfl
  obtain ⟨hLa, _, _⟩ := a.parts (show a.wt ≤ 4294967296 by omega)
  obtain ⟨hLb, _, _⟩ := b.parts (show b.wt ≤ 4294967296 by omega)
  refine zT ?_
  refine zE ?_
  refine awp_draw_p 10 [.q, .q, .q, .q, .u, .u, .u, .u, .f, .f]  mixed (by kernel_rfl) rfl rfl rfl ?_
  refine kM rfl rfl (zJ rfl kE rfl) ?_
  refine kM rfl rfl (zK rfl wC rfl (zP 1 rfl) rfl) ?_
  refine kM rfl rfl (zX rfl el31 rfl rfl (by omega) (getmE ha0)) ?_
  refine kM rfl rfl (zQ rfl yA rfl qK rfl) ?_
  refine tdq_detF rfl rfl (zJ rfl kE rfl) ?_
  refine tdq_detF rfl rfl (zK rfl wC rfl (zP 1 rfl) rfl) ?_
  refine tdq_detF rfl rfl (zX rfl el31 rfl rfl (by omega) (getmE hb0)) ?_
  refine tdq_detF rfl rfl (zQ rfl yA rfl qK rfl) ?_
  refine tdq_skip ?_
  refine tdq_skip ?_
  refine tdq_nil ?_
  refine tdf_q ?_
  refine tdf_q ?_
  refine tdf_q ?_
  refine tdf_q ?_
  refine tdf_u ?_
  refine tdf_u ?_
  refine tdf_u ?_
  refine tdf_u ?_
  refine tdf_fresh (fresh_alloc' (qH [none, none, none, none, none, none, none, none, none, none, some 2, some 4, some 13] rfl zr33 rfl)) ?_
  refine tdf_fresh (fresh_alloc' (qH [none, none, none, none, none, none, none, none, none, none, some 2, some 4, some 13] rfl zr33 rfl)) ?_
  refine tdf_nil ?_
  refine allch_cons ?_
  rintro _ _ ⟨b3, rfl, rfl⟩
  refine allch_cons ?_
  rintro _ _ ⟨b4, rfl, rfl⟩
  refine allch_nil ?_
  refine ⟨_, zU rfl sz33 rfl rfl rfl (qI 1 rfl rfl), (by rintro _ _ ⟨rfl, rfl⟩; exact ⟨[_, _], rfl⟩), ?_⟩
  rintro _ _ ⟨rfl, rfl⟩
  refine zY rfl rfl (zU rfl sz33 rfl rfl rfl (qI 0 rfl rfl)) ?_
  refine zH ?_
  refine zE ?_
  refine zB rfl ?_
  refine zA rfl rfl (zF rfl rfl) ?_
  refine zA rfl rfl (zW rfl ok120 (lin_Var _) ⟨VLe.refl _, rfl, trivial⟩) ?_
  refine qC rfl rfl (qH [none, some 2] rfl zr29 rfl) ?_
  rintro _ _ ⟨b5, rfl, rfl⟩
  refine zY rfl rfl (zU rfl sz29 rfl rfl rfl (qI 0 rfl rfl)) ?_
  refine zH ?_
  refine zE ?_
  refine zE ?_
  refine zB rfl ?_
  refine zA rfl rfl (zJ rfl yI rfl) ?_
  refine zA rfl rfl (zK rfl kH rfl (zP 0 rfl) rfl) ?_
  refine zA rfl rfl (qB rfl el27 rfl) ?_
  refine zA rfl rfl (qJ rfl rfl rfl) ?_
  refine zH ?_
  refine zR rfl (fun c2 => ?_) (fun c2 => ?_)
  ·try simp only [sx, List.length_map] at c2
   have hn := var_empty.1 c2
   refine zE ?_
   refine zB rfl ?_
   refine zA rfl rfl (qO [none, some 2] rfl zr29 pl29 rfl rfl) ?_
   refine zY rfl rfl (zU rfl sz29 rfl rfl rfl (qI 3 rfl rfl)) ?_
   refine zA rfl rfl (zC rfl rfl) ?_
   refine zH ?_
   refine zS ?_
   repeat (first | refine zO ?_ | refine zM ?_)
   refine fin2 (qD yB rfl (zP 3 rfl) rfl) (rs_c rfl) ?_
   rw [hS, solveAB, hn]; rfl
  ·try simp only [sx, List.length_map] at c2
   have hn : isNameB s = true := by cases h : isNameB s; exact absurd (var_empty.2 h) c2; rfl
   refine zT ?_
   refine zE ?_
   refine zE ?_
   refine zB rfl ?_
   refine zA rfl rfl (zJ rfl yW rfl) ?_
   refine zA rfl rfl (zK rfl one3 rfl (zP 2 rfl) rfl) ?_
   refine zA rfl rfl (qV rfl rfl rfl) ?_
   refine zA rfl rfl (zF rfl rfl) ?_
   refine zN [] rfl rfl rfl rfl gv1 trivial (fun g7_3 => zJ rfl fd33_4 rfl) rfl ?_
   refine zN [(39, _)] rfl rfl rfl rfl gv1 ⟨rfl, rfl, trivial⟩ (fun g7_3 => zQ rfl yB rfl (zP 2 rfl) rfl) rfl ?_
   refine zN [] rfl rfl rfl rfl gv1 trivial (fun g7_3 => zQ rfl yB rfl (zP 0 rfl) rfl) rfl ?_
   refine zN [(40, _), (41, _)] rfl rfl rfl rfl gv1 ⟨rfl, rfl, rfl, rfl, trivial⟩ (fun g7_3 => zW rfl ok121 (lin_Same a.Lin (varL s) (by omega)) ⟨VLe.refl _, rfl, VLe.refl _, rfl, trivial⟩) rfl ?_
   refine zN [(42, _)] rfl rfl rfl rfl gv1 ⟨rfl, rfl, trivial⟩ (fun g7_3 => qY rfl rfl) rfl ?_
   refine zA rfl rfl (yD rfl rfl rfl rfl (fun h => (lzf h))) ?_
   refine zH ?_
   refine zR rfl (fun c3 => ?_) (fun c3 => ?_)
   ·have h3 : isV a s = false := isV_of c3
    refine zB rfl ?_
    refine zA rfl rfl (zQ rfl yA rfl (zP 1 rfl) rfl) ?_
    refine zA rfl rfl (zQ rfl yA rfl (zP 2 rfl) rfl) ?_
    refine zY rfl rfl (zU rfl sz33 rfl rfl rfl (qI 2 rfl rfl)) ?_
    refine zY rfl rfl (zU rfl sz33 rfl rfl rfl (qI 1 rfl rfl)) ?_
    refine zH ?_
    refine zE ?_
    refine zE ?_
    refine zB rfl ?_
    refine zA rfl rfl (zJ rfl yW rfl) ?_
    refine zA rfl rfl (zK rfl one3 rfl (zP 2 rfl) rfl) ?_
    refine zA rfl rfl (qV rfl rfl rfl) ?_
    refine zA rfl rfl (zF rfl rfl) ?_
    refine zN [] rfl rfl rfl rfl gv1 trivial (fun g9_3 => zJ rfl fd33_4 rfl) rfl ?_
    refine zN [(51, _)] rfl rfl rfl rfl gv1 ⟨rfl, rfl, trivial⟩ (fun g9_3 => zQ rfl yB rfl (zP 2 rfl) rfl) rfl ?_
    refine zN [] rfl rfl rfl rfl gv1 trivial (fun g9_3 => zQ rfl yB rfl (zP 0 rfl) rfl) rfl ?_
    refine zN [(52, _), (53, _)] rfl rfl rfl rfl gv1 ⟨rfl, rfl, rfl, rfl, trivial⟩ (fun g9_3 => zW rfl ok121 (lin_Same _ _ (by omega)) ⟨VLe.refl _, rfl, VLe.refl _, rfl, trivial⟩) rfl ?_
    refine zN [(54, _)] rfl rfl rfl rfl gv1 ⟨rfl, rfl, trivial⟩ (fun g9_3 => qY rfl rfl) rfl ?_
    refine zA rfl rfl (yD rfl rfl rfl rfl (fun h => (lzf h))) ?_
    refine zH ?_
    refine zR rfl (fun c4 => ?_) (fun c4 => ?_)
    ·first | (have h4 : isV b s = false := isV_of c4) | (have h4 : isV a s = false := isV_of c4)
     refine zE ?_
     refine zB rfl ?_
     refine zA rfl rfl (qO [none, some 2] rfl zr29 pl29 rfl rfl) ?_
     refine zY rfl rfl (zU rfl sz29 rfl rfl rfl (qI 3 rfl rfl)) ?_
     refine zA rfl rfl (zC rfl rfl) ?_
     refine zH ?_
     refine zS ?_
     repeat (first | refine zO ?_ | refine zM ?_)
     refine fin2 (qD yB rfl (zP 3 rfl) rfl) (rs_c rfl) ?_
     rw [hS, solveAB, hn, h3, h4]; rfl
    ·first | (have h4 : isV b s = true := isV_of c4) | skip
     refine zT ?_
     refine zE ?_
     refine zB rfl ?_
     refine zA rfl rfl (zQ rfl yA rfl (zP 1 rfl) rfl) ?_
     refine zA rfl rfl (zW rfl ok122 (delta_constant _) ⟨VLe.refl _, rfl, trivial⟩) ?_
     refine zA rfl rfl (qT rfl rfl) ?_
     refine zA rfl rfl (yH rfl rfl rfl) ?_
     refine zA rfl rfl (qX rfl rfl rfl) ?_
     refine qC rfl rfl (qH [none, some 2] rfl zr29 rfl) ?_
     rintro _ _ ⟨b6, rfl, rfl⟩
     refine zY rfl rfl (zU rfl sz29 rfl rfl rfl (qI 0 rfl rfl)) ?_
     refine zA rfl rfl (zC rfl rfl) ?_
     refine zH ?_
     refine zE ?_
     refine zE ?_
     refine zB rfl ?_
     refine zA rfl rfl (zF rfl rfl) ?_
     refine zA rfl rfl (qY rfl rfl) ?_
     refine zA rfl rfl (zF rfl rfl) ?_
     refine zN [] rfl rfl rfl rfl gv1 trivial (fun g12_2 => zQ rfl yB rfl (zP 0 rfl) rfl) rfl ?_
     refine zN [] rfl rfl rfl rfl gv1 trivial (fun g12_2 => zF rfl rfl) rfl ?_
     refine zN [(66, _), (67, _)] rfl rfl rfl rfl gv1 ⟨rfl, rfl, rfl, rfl, trivial⟩ (fun g12_2 => zW rfl ok123 (delta_contains _ s (by first | (have := const_len a; omega) | (have := const_len b; omega))) ⟨VLe.refl _, rfl, VLe.refl _, rfl, trivial⟩) rfl ?_
     refine zA rfl rfl (yD rfl rfl rfl rfl (fun h => (lzf h))) ?_
     refine zH ?_
     refine zR rfl (fun c5 => ?_) (fun c5 => ?_)
     ·refine zE ?_
      refine zB rfl ?_
      refine zA rfl rfl (qO [none, some 2] rfl zr29 pl29 rfl rfl) ?_
      refine zY rfl rfl (zU rfl sz29 rfl rfl rfl (qI 4 rfl rfl)) ?_
      refine zA rfl rfl (zC rfl rfl) ?_
      refine zH ?_
      refine zS ?_
      repeat (first | refine zO ?_ | refine zM ?_)
      refine fin2 (qD yB rfl (zP 4 rfl) rfl) (rs_c rfl) ?_
      simp only [hS, solveAB, hn, h3, h4, cond_true, cond_false]
      rw [finS, c5]; rfl
     ·refine zT ?_
      refine zE ?_
      refine zB rfl ?_
      refine zA rfl rfl (zQ rfl yB rfl (zP 0 rfl) rfl) ?_
      refine zA rfl rfl (qO [none, none, none, none, none, none, none, none, none, none, none, some 4, some 13] rfl zr33 pl33 rfl rfl) ?_
      refine zA rfl rfl (zW rfl ok31 (expr_Copy (.mk 0 (bs []) ⟨0, 0⟩ ⟨0, 0, 0, 0, 0⟩ _ [] []) (cw_le (by first | (have := const_len a; omega) | (have := const_len b; omega)))) ⟨VLe.refl _, rfl, trivial⟩) ?_
      refine zA rfl rfl (det_part_agg rfl fd33_4 yB rfl) ?_
      refine zY rfl rfl (zU rfl sz29 rfl rfl rfl (qI 4 rfl rfl)) ?_
      refine zA rfl rfl (zC rfl rfl) ?_
      refine zH ?_
      refine zS ?_
      repeat (first | refine zO ?_ | refine zM ?_)
      refine fin2 (qD yB rfl (zP 4 rfl) rfl) (rs_c rfl) ?_
      simp only [hS, solveAB, hn, h3, h4, cond_true, cond_false]
      rw [finS, c5]; rfl
   ·have h3 : isV a s = true := isV_of c3
    refine zT ?_
    refine zE ?_
    refine zE ?_
    refine zB rfl ?_
    refine zA rfl rfl (zJ rfl yW rfl) ?_
    refine zA rfl rfl (zK rfl one3 rfl (zP 2 rfl) rfl) ?_
    refine zA rfl rfl (qV rfl rfl rfl) ?_
    refine zA rfl rfl (zF rfl rfl) ?_
    refine zN [] rfl rfl rfl rfl gv1 trivial (fun g9_3 => zJ rfl fd33_4 rfl) rfl ?_
    refine zN [(51, _)] rfl rfl rfl rfl gv1 ⟨rfl, rfl, trivial⟩ (fun g9_3 => zQ rfl yB rfl (zP 2 rfl) rfl) rfl ?_
    refine zN [] rfl rfl rfl rfl gv1 trivial (fun g9_3 => zQ rfl yB rfl (zP 0 rfl) rfl) rfl ?_
    refine zN [(52, _), (53, _)] rfl rfl rfl rfl gv1 ⟨rfl, rfl, rfl, rfl, trivial⟩ (fun g9_3 => zW rfl ok121 (lin_Same _ _ (by omega)) ⟨VLe.refl _, rfl, VLe.refl _, rfl, trivial⟩) rfl ?_
    refine zN [(54, _)] rfl rfl rfl rfl gv1 ⟨rfl, rfl, trivial⟩ (fun g9_3 => qY rfl rfl) rfl ?_
    refine zA rfl rfl (yD rfl rfl rfl rfl (fun h => (lzf h))) ?_
    refine zH ?_
    refine zR rfl (fun c4 => ?_) (fun c4 => ?_)
    ·first | (have h4 : isV b s = false := isV_of c4) | (have h4 : isV a s = false := isV_of c4)
     refine zE ?_
     refine zB rfl ?_
     refine zA rfl rfl (qO [none, some 2] rfl zr29 pl29 rfl rfl) ?_
     refine zY rfl rfl (zU rfl sz29 rfl rfl rfl (qI 3 rfl rfl)) ?_
     refine zA rfl rfl (zC rfl rfl) ?_
     refine zH ?_
     refine zS ?_
     repeat (first | refine zO ?_ | refine zM ?_)
     refine fin2 (qD yB rfl (zP 3 rfl) rfl) (rs_c rfl) ?_
     exact absurd (h3.symm.trans h4) (by simp)
    ·first | (have h4 : isV b s = true := isV_of c4) | skip
     refine zT ?_
     refine zE ?_
     refine zB rfl ?_
     refine zA rfl rfl (zQ rfl yA rfl (zP 1 rfl) rfl) ?_
     refine zA rfl rfl (zW rfl ok122 (delta_constant _) ⟨VLe.refl _, rfl, trivial⟩) ?_
     refine zA rfl rfl (qT rfl rfl) ?_
     refine zA rfl rfl (yH rfl rfl rfl) ?_
     refine zA rfl rfl (qX rfl rfl rfl) ?_
     refine qC rfl rfl (qH [none, some 2] rfl zr29 rfl) ?_
     rintro _ _ ⟨b7, rfl, rfl⟩
     refine zY rfl rfl (zU rfl sz29 rfl rfl rfl (qI 0 rfl rfl)) ?_
     refine zA rfl rfl (zC rfl rfl) ?_
     refine zH ?_
     refine zE ?_
     refine zE ?_
     refine zB rfl ?_
     refine zA rfl rfl (zF rfl rfl) ?_
     refine zA rfl rfl (qY rfl rfl) ?_
     refine zA rfl rfl (zF rfl rfl) ?_
     refine zN [] rfl rfl rfl rfl gv1 trivial (fun g12_2 => zQ rfl yB rfl (zP 0 rfl) rfl) rfl ?_
     refine zN [] rfl rfl rfl rfl gv1 trivial (fun g12_2 => zF rfl rfl) rfl ?_
     refine zN [(66, _), (67, _)] rfl rfl rfl rfl gv1 ⟨rfl, rfl, rfl, rfl, trivial⟩ (fun g12_2 => zW rfl ok123 (delta_contains _ s (by first | (have := const_len a; omega) | (have := const_len b; omega))) ⟨VLe.refl _, rfl, VLe.refl _, rfl, trivial⟩) rfl ?_
     refine zA rfl rfl (yD rfl rfl rfl rfl (fun h => (lzf h))) ?_
     refine zH ?_
     refine zR rfl (fun c5 => ?_) (fun c5 => ?_)
     ·refine zE ?_
      refine zB rfl ?_
      refine zA rfl rfl (qO [none, some 2] rfl zr29 pl29 rfl rfl) ?_
      refine zY rfl rfl (zU rfl sz29 rfl rfl rfl (qI 4 rfl rfl)) ?_
      refine zA rfl rfl (zC rfl rfl) ?_
      refine zH ?_
      refine zS ?_
      repeat (first | refine zO ?_ | refine zM ?_)
      refine fin2 (qD yB rfl (zP 4 rfl) rfl) (rs_c rfl) ?_
      simp only [hS, solveAB, hn, h3, cond_true]
      rw [finS, c5]; rfl
     ·refine zT ?_
      refine zE ?_
      refine zB rfl ?_
      refine zA rfl rfl (zQ rfl yB rfl (zP 0 rfl) rfl) ?_
      refine zA rfl rfl (qO [none, none, none, none, none, none, none, none, none, none, none, some 4, some 13] rfl zr33 pl33 rfl rfl) ?_
      refine zA rfl rfl (zW rfl ok31 (expr_Copy (.mk 0 (bs []) ⟨0, 0⟩ ⟨0, 0, 0, 0, 0⟩ _ [] []) (cw_le (by first | (have := const_len a; omega) | (have := const_len b; omega)))) ⟨VLe.refl _, rfl, trivial⟩) ?_
      refine zA rfl rfl (det_part_agg rfl fd33_4 yB rfl) ?_
      refine zY rfl rfl (zU rfl sz29 rfl rfl rfl (qI 4 rfl rfl)) ?_
      refine zA rfl rfl (zC rfl rfl) ?_
      refine zH ?_
      refine zS ?_
      repeat (first | refine zO ?_ | refine zM ?_)
      refine fin2 (qD yB rfl (zP 4 rfl) rfl) (rs_c rfl) ?_
      simp only [hS, solveAB, hn, h3, cond_true]
      rw [finS, c5]; rfl

theorem ref22_Solve (c : Ex) (s : ByteArray) (he : c.wt ≤ 4294967296) :
    Pur cfg 65 [vE c, vS s] (.tup [vLin (solveT c s).1, vB (solveT c s).2]) := by
 refine zZ Tryz.func65 rfl Tryz.ntmps65 Tryz.results65 rfl ?_
 intro z hz
 refine zE ?_
 refine zB rfl ?_
 refine qC rfl rfl (qN rfl rfl) ?_
 rintro _ _ ⟨b1, rfl, rfl⟩
 refine qC rfl rfl (qH [none, some 2] rfl zr29 rfl) ?_
 rintro _ _ ⟨b2, rfl, rfl⟩
 refine zA rfl rfl (zC rfl rfl) ?_
 refine zH ?_
 refine zE ?_
 refine zE ?_
 refine zB rfl ?_
 refine zA rfl rfl (zQ rfl yA rfl (zP 1 rfl) rfl) ?_
 refine zA rfl rfl (zW rfl ok37 (ref14_Validate c (by omega)) ⟨VLe.refl _, rfl, trivial⟩) ?_
 refine zA rfl rfl (qV rfl rfl rfl) ?_
 refine zA rfl rfl (zF rfl rfl) ?_
 refine zN [] rfl rfl rfl rfl gv1 trivial (fun g1_3 => zJ rfl yW rfl) rfl ?_
 refine zN [(13, _)] rfl rfl rfl rfl gv1 ⟨rfl, rfl, trivial⟩ (fun g1_3 => zK rfl one3 rfl (zP 1 rfl) rfl) rfl ?_
 refine zN [(14, _)] rfl rfl rfl rfl gv1 ⟨rfl, rfl, trivial⟩ (fun g1_3 => qV rfl rfl rfl) rfl ?_
 refine zA rfl rfl (yD rfl rfl rfl rfl (fun h => (lzf h))) ?_
 refine zH ?_
 refine zR rfl (fun c1 => ?_) (fun c1 => ?_)
 ·try simp only [sx, List.length_map] at c1
  have hS : solveT c s = (zL, false) := by simp only [solveT, solve_c1 c1]; rfl
  refine zE ?_
  refine zB rfl ?_
  refine zA rfl rfl (qO [none, some 2] rfl zr29 pl29 rfl rfl) ?_
  refine zY rfl rfl (zU rfl sz29 rfl rfl rfl (qI 0 rfl rfl)) ?_
  refine zA rfl rfl (zC rfl rfl) ?_
  refine zH ?_
  refine zS ?_
  repeat (first | refine zO ?_ | refine zM ?_)
  refine fin2 (qD yB rfl (zP 0 rfl) rfl) (rs_c rfl) ?_
  rw [hS]; rfl
 ·try simp only [sx, List.length_map] at c1
  obtain ⟨hv, hop⟩ := c1
  have hP := valid_part hv
  obtain ⟨a, b, hab, hPa, hPb⟩ := two_args hP (by rw [hop]; rfl)
  have ha0 : c.Args[0]? = some a := by rw [hab]; rfl
  have hb0 : c.Args[1]? = some b := by rw [hab]; rfl
  have hwa := Ex.arg_wt (qF ha0)
  have hwb := Ex.arg_wt (qF hb0)
  have hS : solveT c s = solveAB a b s := by simp only [solveT, hv, hop, argN, hab]; rfl
  obtain ⟨hLa, _, _⟩ := a.parts (show a.wt ≤ 4294967296 by omega)
  obtain ⟨hLb, _, _⟩ := b.parts (show b.wt ≤ 4294967296 by omega)
  have hka := node_lin (partE_node hPa)
  have hkb := node_lin (partE_node hPb)
  refine zT ?_
  refine zE ?_
  refine zE ?_
  refine zB rfl ?_
  refine zA rfl rfl (zC rfl rfl) ?_
  refine zH ?_
  refine qA ?_
  refine qQ ⟨[(6, .c _), (1, .c _), (2, .c _), (4, .c _)], [_, _]⟩ (Weak.mk [true, true] ⟨VLe.of_eq rfl, VLe.of_eq rfl, VLe.of_eq rfl, VLe.of_eq rfl, trivial⟩ rfl) ?_
  refine qR 1 0 rfl rfl (Nat) (fun k => [(6, vI k)]) (fun k => []) (fun k => k ≤ 2 ∧ (0 < k → tryS a b s = false) ∧ (1 < k → tryS b a s = false)) (fun k => 2 - k) ⟨0, ⟨by omega, fun h => by omega, fun h => by omega⟩, Weak.mk [true, true] ⟨VLe.refl _, VLe.refl _, VLe.refl _, VLe.refl _, trivial⟩ rfl⟩ ?_
  rintro k ⟨hk, hk0, hk1⟩
  refine zE ?_
  refine zE ?_
  refine zB rfl ?_
  refine zA rfl rfl (zF rfl rfl) ?_
  refine zA rfl rfl (qS rfl rfl rfl) ?_
  refine zH ?_
  refine zR rfl (fun c2 => ?_) (fun c2 => ?_)
  ·try simp only [sx, List.length_map] at c2
   obtain ⟨x, y, hx, hy, hxw, hyw, hxy⟩ := pick_ab (a := a) (b := b) ha0 hb0 (show k < 2 by omega)
   refine zT ?_
   refine zE ?_
   refine qA ?_
   refine zE ?_
   refine zB rfl ?_
   refine zA rfl rfl (zJ rfl kE rfl) ?_
   refine zA rfl rfl (zK rfl wC rfl (zP 1 rfl) rfl) ?_
   refine zA rfl rfl (zF rfl rfl) ?_
   refine zA rfl rfl (kA rfl rfl rfl ⟨by omega, by omega⟩) ?_
   refine zA rfl rfl (zX rfl el31 rfl rfl (by omega) (getmE hy)) ?_
   refine zA rfl rfl (zQ rfl yA rfl qK rfl) ?_
   refine zA rfl rfl (zW rfl ok130 (ref22_form y) ⟨VLe.refl _, rfl, trivial⟩) ?_
   refine zA rfl rfl (qT rfl rfl) ?_
   refine zA rfl rfl (yH rfl rfl rfl) ?_
   refine zA rfl rfl (qX rfl rfl rfl) ?_
   refine qC rfl rfl (qH [none, some 2] rfl zr29 rfl) ?_
   rintro _ _ ⟨b3, rfl, rfl⟩
   refine zY rfl rfl (zU rfl sz29 rfl rfl rfl (qI 0 rfl rfl)) ?_
   refine zA rfl rfl (zC rfl rfl) ?_
   refine zH ?_
   refine zE ?_
   refine zB rfl ?_
   refine zA rfl rfl (zJ rfl kE rfl) ?_
   refine zA rfl rfl (zK rfl wC rfl (zP 2 rfl) rfl) ?_
   refine zA rfl rfl (zF rfl rfl) ?_
   refine zA rfl rfl (zX rfl el31 rfl rfl (by omega) (getmE hx)) ?_
   refine zA rfl rfl (zQ rfl yA rfl qK rfl) ?_
   refine zA rfl rfl (zF rfl rfl) ?_
   refine zA rfl rfl (zW rfl ok131 (ref22_variable x s (by omega)) ⟨VLe.refl _, rfl, VLe.refl _, rfl, trivial⟩) ?_
   refine zA rfl rfl (zF rfl rfl) ?_
   refine zN [] rfl rfl rfl rfl gv1 trivial (fun g7_7 => zF rfl rfl) rfl ?_
   refine zA rfl rfl (qM rfl rfl rfl (fun h => h) rfl) ?_
   refine zA rfl rfl (zF rfl rfl) ?_
   refine zN [] rfl rfl rfl rfl gv1 trivial (fun g7_10 => zQ rfl yB rfl (zP 0 rfl) rfl) rfl ?_
   refine zN [] rfl rfl rfl rfl gv1 trivial (fun g7_10 => zF rfl rfl) rfl ?_
   refine zN [(43, _), (44, _)] rfl rfl rfl rfl gv1 ⟨rfl, rfl, rfl, rfl, trivial⟩ (fun g7_10 => zW rfl ok66 (ref05_Coeff _ s (by have := form_len y; omega)) ⟨VLe.refl _, rfl, VLe.refl _, rfl, trivial⟩) rfl ?_
   refine zN [(45, _)] rfl rfl rfl rfl gv1 ⟨rfl, rfl, trivial⟩ (fun g7_10 => qJ rfl rfl rfl) rfl ?_
   refine zA rfl rfl (qM rfl rfl rfl (fun h => h) rfl) ?_
   refine zH ?_
   refine zR rfl (fun c3 => ?_) (fun c3 => ?_)
   ·have h3 : tryS x y s = true := c3
    refine zE ?_
    refine zB rfl ?_
    refine zA rfl rfl (zQ rfl yB rfl (zP 0 rfl) rfl) ?_
    refine zY rfl rfl (zU rfl sz29 rfl rfl rfl (qI 1 rfl rfl)) ?_
    refine zA rfl rfl (zC rfl rfl) ?_
    refine zH ?_
    refine zS ?_
    repeat (first | refine zO ?_ | refine zM ?_)
    refine fin2 (qD yB rfl (zP 1 rfl) rfl) (rs_c rfl) ?_
    rw [hS, pick_done hka hkb hxy h3 hk0]; rfl
   ·have h3 : tryS x y s = false := c3
    refine zT ?_
    refine zB rfl ?_
    refine zA rfl rfl (zF rfl rfl) ?_
    refine zA rfl rfl (qL rfl rfl rfl ⟨by omega, by omega⟩) ?_
    refine zA rfl rfl (zC rfl rfl) ?_
    refine zH ?_
    refine ⟨k + 1, pick_next hxy h3 hk hk0 hk1, (by omega), Weak.mk [false, true, true] ⟨VLe.refl _, VLe.refl _, VLe.refl _, VLe.refl _, trivial⟩ rfl⟩
  ·try simp only [sx, List.length_map] at c2
   refine qU ?_
   refine zE ?_
   refine zB rfl ?_
   refine zA rfl rfl (qO [none, some 2] rfl zr29 pl29 rfl rfl) ?_
   refine zY rfl rfl (zU rfl sz29 rfl rfl rfl (qI 0 rfl rfl)) ?_
   refine zA rfl rfl (zC rfl rfl) ?_
   refine zH ?_
   refine zS ?_
   repeat (first | refine zO ?_ | refine zM ?_)
   refine fin2 (qD yB rfl (zP 0 rfl) rfl) (rs_c rfl) ?_
   rw [hS, solve_none hka hkb (hk0 (by omega)) (hk1 (by omega))]; rfl

end Go.W
