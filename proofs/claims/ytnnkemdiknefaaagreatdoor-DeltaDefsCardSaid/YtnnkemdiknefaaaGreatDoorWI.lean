/-
  Walks: what functions of the program compute. Printed by wip/gen/mk2.py.
  Conditions: none.
-/
import Derived.Test.YtnnkemdiknefaaaGreatDoorWH
import Derived.Test.YtnnkemdiknefaaaGreatDoorPlain2
set_option linter.unusedSimpArgs false
set_option linter.unusedVariables false
namespace Go.W
open Go Go.Eng Go.Proofs Go.L41 Go.Br
attribute [local irreducible] AWP RWP TD
theorem ok124 : callOk Tryz.prog 124 = true := by kernel_rfl
theorem ok125 : callOk Tryz.prog 125 = true := by kernel_rfl
theorem ok128 : callOk Tryz.prog 128 = true := by kernel_rfl
theorem ok129 : callOk Tryz.prog 129 = true := by kernel_rfl
theorem delta_conjuncts_step (c : Ex) (ih : ∀ x, x ∈ c.Args → partE x = 0 → x.wt ≤ 4294967296 → OwnR cfg 125 [vE x] 33 13 ((conjE x).map Ex.cells)) (hp : partE c = 0) (hw : c.wt ≤ 4294967296) :
    OwnR cfg 125 [vE c] 33 13 ((conjE c).map Ex.cells) := by
 refine zZ Tryz.func125 rfl Tryz.ntmps125 Tryz.results125 rfl ?_
 intro z hz
 refine zE ?_
 refine zB rfl ?_
 refine qC rfl rfl (qN rfl rfl) ?_
 rintro _ _ ⟨b1, rfl, rfl⟩
 refine zA rfl rfl (yT 13 rfl rfl) ?_
 refine zH ?_
 refine zE ?_
 refine zE ?_
 refine zB rfl ?_
 refine zA rfl rfl (zJ rfl yW rfl) ?_
 refine zA rfl rfl (zK rfl one3 rfl (zP 0 rfl) rfl) ?_
 refine zA rfl rfl (qV rfl rfl rfl) ?_
 refine zH ?_
 refine zR rfl (fun c1 => ?_) (fun c1 => ?_)
 ·try simp only [sx, List.length_map] at c1
  refine zE ?_
  refine zB rfl ?_
  refine zA rfl rfl (zQ rfl yA rfl (zP 0 rfl) rfl) ?_
  refine qC rfl rfl (ope_bslice rfl el31 zr33 rfl rfl rfl rfl) ?_
  rintro _ _ ⟨sv2, rfl, rfl⟩
  refine zA rfl rfl (zC rfl rfl) ?_
  refine zH ?_
  refine qQ _ (Weak.mem [true, false] rfl) ?_
  refine zS ?_
  repeat (first | refine zO ?_ | refine zM ?_)
  refine fin1 (rs_c rfl) ?_
  exact ⟨_, rfl, by rw [conj_one c1, ← map_cs]; rfl⟩
 ·try simp only [sx, List.length_map] at c1
  obtain ⟨a, b, hab, hPa, hPb⟩ := two_args hp (by rw [c1]; rfl)
  have ha0 : c.Args[0]? = some a := by rw [hab]; rfl
  have hb0 : c.Args[1]? = some b := by rw [hab]; rfl
  have hwa := Ex.arg_wt (qF ha0)
  have hwb := Ex.arg_wt (qF hb0)
  have hla := conjm_len a
  have hlb := conjm_len b
  refine zT ?_
  refine zE ?_
  refine awp_draw_f 10 [.q, .q, .q, .q, .f, .q, .q, .q, .q, .q] Mall mixed (by kernel_rfl) rfl rfl rfl ?_
  refine kM rfl rfl (zJ rfl kE rfl) ?_
  refine kM rfl rfl (zK rfl wC rfl (zP 0 rfl) rfl) ?_
  refine kM rfl rfl (zX rfl el31 rfl rfl (by omega) (getmE ha0)) ?_
  refine kM rfl rfl (zQ rfl yA rfl qK rfl) ?_
  refine tdq_skip ?_
  refine kM rfl rfl (zJ rfl kE rfl) ?_
  refine kM rfl rfl (zK rfl wC rfl (zP 0 rfl) rfl) ?_
  refine kM rfl rfl (zX rfl el31 rfl rfl (by omega) (getmE hb0)) ?_
  refine kM rfl rfl (zQ rfl yA rfl qK rfl) ?_
  refine kM rfl rfl (zW rfl ok125 (OwnR.pur (ih b (qF hb0) hPb (by omega))) ⟨VLe.refl _, rfl, trivial⟩) ?_
  refine tdq_nil ?_
  refine tdf_q ?_
  refine tdf_q ?_
  refine tdf_q ?_
  refine tdf_q ?_
  refine tdf_fresh (fresh_own (ope_call_own rfl ok125 (ih a (qF ha0) hPa (by omega)) ⟨VLe.refl _, rfl, trivial⟩)) ?_
  refine tdf_q ?_
  refine tdf_q ?_
  refine tdf_q ?_
  refine tdf_q ?_
  refine tdf_q ?_
  refine tdf_nil ?_
  refine allch_cons ?_
  rintro _ _ ⟨sv3, rfl, rfl⟩
  refine allch_nil ?_
  refine ⟨_, yO 0 rfl el31 rfl rfl rfl (by first | omega | (simp only [List.length_append, List.length_nil]; omega)) (by first | omega | (simp only [List.length_append, List.length_nil]; omega)), (fun _ _ _ => trivial), ?_⟩
  rintro _ _ ⟨sv4, rfl, rfl⟩
  refine zA rfl rfl (zC rfl rfl) ?_
  refine zH ?_
  refine qQ _ (Weak.mem [true, false] rfl) ?_
  refine zS ?_
  repeat (first | refine zO ?_ | refine zM ?_)
  refine fin1 (rs_c rfl) ?_
  exact ⟨_, rfl, by rw [conj_two c1 hab, List.map_append]; rfl⟩

theorem delta_conjuncts (c : Ex) (hp : partE c = 0) (hw : c.wt ≤ 4294967296) : OwnR cfg 125 [vE c] 33 13 ((conjE c).map Ex.cells) := by
  induction c using Ex.ind with
  | _ c ih => exact delta_conjuncts_step c (fun x hx h1 h2 => ih x hx h1 h2) hp hw

theorem ref22_conjuncts_step (c : Ex) (ih : ∀ x, x ∈ c.Args → partE x = 0 → x.wt ≤ 4294967296 → OwnR cfg 129 [vE x] 33 13 ((conjE x).map Ex.cells)) (hp : partE c = 0) (hw : c.wt ≤ 4294967296) :
    OwnR cfg 129 [vE c] 33 13 ((conjE c).map Ex.cells) := by
 refine zZ Tryz.func129 rfl Tryz.ntmps129 Tryz.results129 rfl ?_
 intro z hz
 refine zE ?_
 refine zB rfl ?_
 refine qC rfl rfl (qN rfl rfl) ?_
 rintro _ _ ⟨b1, rfl, rfl⟩
 refine zA rfl rfl (yT 13 rfl rfl) ?_
 refine zH ?_
 refine zE ?_
 refine zE ?_
 refine zB rfl ?_
 refine zA rfl rfl (zJ rfl yW rfl) ?_
 refine zA rfl rfl (zK rfl one3 rfl (zP 0 rfl) rfl) ?_
 refine zA rfl rfl (qV rfl rfl rfl) ?_
 refine zH ?_
 refine zR rfl (fun c1 => ?_) (fun c1 => ?_)
 ·try simp only [sx, List.length_map] at c1
  refine zE ?_
  refine zB rfl ?_
  refine zA rfl rfl (zQ rfl yA rfl (zP 0 rfl) rfl) ?_
  refine qC rfl rfl (ope_bslice rfl el31 zr33 rfl rfl rfl rfl) ?_
  rintro _ _ ⟨sv2, rfl, rfl⟩
  refine zA rfl rfl (zC rfl rfl) ?_
  refine zH ?_
  refine qQ _ (Weak.mem [true, false] rfl) ?_
  refine zS ?_
  repeat (first | refine zO ?_ | refine zM ?_)
  refine fin1 (rs_c rfl) ?_
  exact ⟨_, rfl, by rw [conj_one c1, ← map_cs]; rfl⟩
 ·try simp only [sx, List.length_map] at c1
  obtain ⟨a, b, hab, hPa, hPb⟩ := two_args hp (by rw [c1]; rfl)
  have ha0 : c.Args[0]? = some a := by rw [hab]; rfl
  have hb0 : c.Args[1]? = some b := by rw [hab]; rfl
  have hwa := Ex.arg_wt (qF ha0)
  have hwb := Ex.arg_wt (qF hb0)
  have hla := conjm_len a
  have hlb := conjm_len b
  refine zT ?_
  refine zE ?_
  refine zB rfl ?_
  refine zA rfl rfl (zC rfl rfl) ?_
  refine yN _ (kI 33 13) ?_
  refine zH ?_
  refine zE ?_
  refine zB rfl ?_
  refine zA rfl rfl (zF rfl rfl) ?_
  refine zA rfl rfl (zJ rfl kE rfl) ?_
  refine zA rfl rfl (zK rfl wC rfl (zP 1 rfl) rfl) ?_
  refine zA rfl rfl (zX rfl el31 rfl rfl (by omega) (getmE ha0)) ?_
  refine zA rfl rfl (zQ rfl yA rfl qK rfl) ?_
  refine zA rfl rfl (zW rfl ok129 (OwnR.pur (ih a (qF ha0) hPa (by omega))) ⟨VLe.refl _, rfl, trivial⟩) ?_
  refine qC rfl rfl (yO 0 rfl el31 rfl rfl rfl (by first | omega | (simp only [List.length_append, List.length_nil]; omega)) (by first | omega | (simp only [List.length_append, List.length_nil]; omega))) ?_
  rintro _ _ ⟨sv4, rfl, rfl⟩
  refine zA rfl rfl (zC rfl rfl) ?_
  refine zH ?_
  refine zE ?_
  refine zB rfl ?_
  refine zA rfl rfl (zF rfl rfl) ?_
  refine zA rfl rfl (zJ rfl kE rfl) ?_
  refine zA rfl rfl (zK rfl wC rfl (zP 1 rfl) rfl) ?_
  refine zA rfl rfl (zX rfl el31 rfl rfl (by omega) (getmE hb0)) ?_
  refine zA rfl rfl (zQ rfl yA rfl qK rfl) ?_
  refine zA rfl rfl (zW rfl ok129 (OwnR.pur (ih b (qF hb0) hPb (by omega))) ⟨VLe.refl _, rfl, trivial⟩) ?_
  refine qC rfl rfl (yO 0 rfl el31 rfl rfl rfl (by first | omega | (simp only [List.length_append, List.length_nil]; omega)) (by first | omega | (simp only [List.length_append, List.length_nil]; omega))) ?_
  rintro _ _ ⟨sv5, rfl, rfl⟩
  refine zA rfl rfl (zC rfl rfl) ?_
  refine zH ?_
  refine zE ?_
  refine zB rfl ?_
  refine zA rfl rfl (zF rfl rfl) ?_
  refine zA rfl rfl (zC rfl rfl) ?_
  refine zH ?_
  refine qQ _ (Weak.mem [true, false] rfl) ?_
  refine zS ?_
  repeat (first | refine zO ?_ | refine zM ?_)
  refine fin1 (rs_c rfl) ?_
  exact ⟨_, rfl, by rw [conj_two c1 hab, List.map_append]; rfl⟩

theorem ref22_conjuncts (c : Ex) (hp : partE c = 0) (hw : c.wt ≤ 4294967296) : OwnR cfg 129 [vE c] 33 13 ((conjE c).map Ex.cells) := by
  induction c using Ex.ind with
  | _ c ih => exact ref22_conjuncts_step c (fun x hx h1 h2 => ih x hx h1 h2) hp hw

theorem delta_Guard (e : Ex) (he : e.wt ≤ 4294967296) :
    Pur cfg 54 [vE e] (.tup [vEs (guardT e).conds, vE (guardT e).val, vB (guardT e).ok]) := by
 refine zZ Tryz.func54 rfl Tryz.ntmps54 Tryz.results54 rfl ?_
 intro z hz
 refine zE ?_
 refine zB rfl ?_
 refine qC rfl rfl (qN rfl rfl) ?_
 rintro _ _ ⟨b1, rfl, rfl⟩
 refine zA rfl rfl (yT 13 rfl rfl) ?_
 refine qC rfl rfl (qH [none, none, none, none, none, none, none, none, none, none, some 2, some 4, some 13] rfl zr33 rfl) ?_
 rintro _ _ ⟨b2, rfl, rfl⟩
 refine zA rfl rfl (zC rfl rfl) ?_
 refine zH ?_
 refine zE ?_
 refine zE ?_
 refine zB rfl ?_
 refine zA rfl rfl (zQ rfl yA rfl (zP 1 rfl) rfl) ?_
 refine zA rfl rfl (zW rfl ok40 (expr_Validate e (by omega)) ⟨VLe.refl _, rfl, trivial⟩) ?_
 refine zA rfl rfl (qV rfl rfl rfl) ?_
 refine zA rfl rfl (zF rfl rfl) ?_
 refine zN [] rfl rfl rfl rfl gv1 trivial (fun g1_3 => zJ rfl yW rfl) rfl ?_
 refine zN [(10, _)] rfl rfl rfl rfl gv1 ⟨rfl, rfl, trivial⟩ (fun g1_3 => zK rfl one3 rfl (zP 1 rfl) rfl) rfl ?_
 refine zN [(11, _)] rfl rfl rfl rfl gv1 ⟨rfl, rfl, trivial⟩ (fun g1_3 => qV rfl rfl rfl) rfl ?_
 refine zA rfl rfl (yD rfl rfl rfl rfl (fun h => (lzf h))) ?_
 refine zH ?_
 refine zR rfl (fun c1 => ?_) (fun c1 => ?_)
 ·try simp only [sx, List.length_map] at c1
  have hS : guardT e = zG := by simp only [guardT, guard_c1 c1]; rfl
  refine zE ?_
  refine zB rfl ?_
  refine zA rfl rfl (qO [none, none, none, none, none, none, none, none, none, none, some 2, some 4, some 13] rfl zr33 pl33 rfl rfl) ?_
  refine zA rfl rfl (yT 13 rfl rfl) ?_
  refine zY rfl rfl (zU rfl sz33 rfl rfl rfl (qI 0 rfl rfl)) ?_
  refine zA rfl rfl (zC rfl rfl) ?_
  refine zH ?_
  refine zS ?_
  repeat (first | refine zO ?_ | refine zM ?_)
  refine fin3 (rs_c rfl) (qD yA rfl (zP 0 rfl) rfl) (rs_c rfl) ?_
  rw [hS]; rfl
 ·try simp only [sx, List.length_map] at c1
  obtain ⟨hv, hop⟩ := c1
  have hP := valid_part hv
  obtain ⟨a, b, z, habc, hPa, hPb, hPz⟩ := three_args hP (by rw [hop]; rfl)
  have ha0 : e.Args[0]? = some a := by rw [habc]; rfl
  have hb0 : e.Args[1]? = some b := by rw [habc]; rfl
  have hz0 : e.Args[2]? = some z := by rw [habc]; rfl
  have hwa := Ex.arg_wt (qF ha0)
  have hS : guardT e = guardA a b z := by simp only [guardT, hv, hop, argN, habc]; rfl
  refine zT ?_
  refine zE ?_
  refine zB rfl ?_
  refine zA rfl rfl (zJ rfl kE rfl) ?_
  refine zA rfl rfl (zK rfl wC rfl (zP 1 rfl) rfl) ?_
  refine zA rfl rfl (zX rfl el31 rfl rfl (by omega) (getmE hz0)) ?_
  refine zA rfl rfl (zQ rfl yA rfl qK rfl) ?_
  refine qC rfl rfl (qH [none, none, none, none, none, none, none, none, none, none, some 2, some 4, some 13] rfl zr33 rfl) ?_
  rintro _ _ ⟨b3, rfl, rfl⟩
  refine zY rfl rfl (zU rfl sz33 rfl rfl rfl (qI 0 rfl rfl)) ?_
  refine zH ?_
  refine zE ?_
  refine zE ?_
  refine yG 11 mixed (by kernel_rfl) rfl rfl ?_
  refine zV rfl rfl (zJ rfl yW rfl) ?_
  refine zV rfl rfl (zK rfl one3 rfl (zP 0 rfl) rfl) ?_
  refine zV rfl rfl (qV rfl rfl rfl) ?_
  refine zV rfl rfl (zF rfl rfl) ?_
  refine qE [] rfl rfl rfl rfl gv1 trivial (fun g4_3 => zJ rfl fd33_2 rfl) rfl ?_
  refine qE [(23, _)] rfl rfl rfl rfl gv1 ⟨rfl, rfl, trivial⟩ (fun g4_3 => zQ rfl agg26 rfl (zP 0 rfl) rfl) rfl ?_
  refine qE [] rfl rfl rfl rfl gv1 trivial (fun g4_3 => zJ rfl fd33_3 rfl) rfl ?_
  refine qE [(25, _)] rfl rfl rfl rfl gv1 ⟨rfl, rfl, trivial⟩ (fun g4_3 => zQ rfl agg23 rfl (zP 0 rfl) rfl) rfl ?_
  refine qE [(26, _)] rfl rfl rfl rfl gv1 ⟨rfl, rfl, trivial⟩ (fun g4_3 => zW rfl ok124 (value_Zero _) ⟨VLe.refl _, rfl, trivial⟩) rfl ?_
  refine qE [(24, _), (27, _)] rfl rfl rfl rfl gv1 ⟨rfl, rfl, rfl, rfl, trivial⟩ (fun g4_3 => det_aneq rfl fl26 rfl rfl rfl) rfl ?_
  refine zV rfl rfl (yD rfl rfl rfl rfl (fun h => (lzf h))) ?_
  refine kB ?_
  refine zH ?_
  refine zR rfl (fun c2 => ?_) (fun c2 => ?_)
  ·refine zE ?_
   refine zB rfl ?_
   refine zA rfl rfl (qO [none, none, none, none, none, none, none, none, none, none, some 2, some 4, some 13] rfl zr33 pl33 rfl rfl) ?_
   refine zA rfl rfl (yT 13 rfl rfl) ?_
   refine zY rfl rfl (zU rfl sz33 rfl rfl rfl (qI 1 rfl rfl)) ?_
   refine zA rfl rfl (zC rfl rfl) ?_
   refine zH ?_
   refine zS ?_
   repeat (first | refine zO ?_ | refine zM ?_)
   refine fin3 (rs_c rfl) (qD yA rfl (zP 1 rfl) rfl) (rs_c rfl) ?_
   rw [hS, guardA, guard_no c2]; rfl
  ·refine zT ?_
   refine zE ?_
   refine zB rfl ?_
   refine zA rfl rfl (zQ rfl yA rfl (zP 2 rfl) rfl) ?_
   refine zA rfl rfl (zW rfl ok31 (expr_Copy e he) ⟨VLe.refl _, rfl, trivial⟩) ?_
   refine zY rfl rfl (zU rfl sz33 rfl rfl rfl (qI 2 rfl rfl)) ?_
   refine zH ?_
   refine zE ?_
   refine yG 10 mixed (by kernel_rfl) rfl rfl ?_
   refine zV rfl rfl (zJ rfl kE rfl) ?_
   refine zV rfl rfl (zK rfl wC rfl (zP 2 rfl) rfl) ?_
   refine zV rfl rfl (zX rfl el31 rfl rfl (by omega) (getmE ha0)) ?_
   refine zV rfl rfl (zQ rfl yA rfl qK rfl) ?_
   refine zV rfl rfl (zW rfl ok125 (OwnR.pur (delta_conjuncts a hPa (by omega))) ⟨VLe.refl _, rfl, trivial⟩) ?_
   refine zV rfl rfl (zJ rfl kE rfl) ?_
   refine zV rfl rfl (zK rfl wC rfl (zP 2 rfl) rfl) ?_
   refine zV rfl rfl (zX rfl el31 rfl rfl (by omega) (getmE hb0)) ?_
   refine zV rfl rfl (zQ rfl yA rfl qK rfl) ?_
   refine zV rfl rfl (zC rfl rfl) ?_
   refine kB ?_
   refine zY rfl rfl (zU rfl sz33 rfl rfl rfl (qI 1 rfl rfl)) ?_
   refine zA rfl rfl (zC rfl rfl) ?_
   refine zH ?_
   refine zS ?_
   repeat (first | refine zO ?_ | refine zM ?_)
   refine fin3 (rs_c rfl) (qD yA rfl (zP 1 rfl) rfl) (rs_c rfl) ?_
   rw [hS, guardA, guard_yes c2]; rfl

theorem ref22_Guard (e : Ex) (he : e.wt ≤ 4294967296) :
    Pur cfg 64 [vE e] (.tup [vEs (guardT e).conds, vE (guardT e).val, vB (guardT e).ok]) := by
 refine zZ Tryz.func64 rfl Tryz.ntmps64 Tryz.results64 rfl ?_
 intro z hz
 refine zE ?_
 refine zB rfl ?_
 refine qC rfl rfl (qN rfl rfl) ?_
 rintro _ _ ⟨b1, rfl, rfl⟩
 refine zA rfl rfl (yT 13 rfl rfl) ?_
 refine qC rfl rfl (qH [none, none, none, none, none, none, none, none, none, none, some 2, some 4, some 13] rfl zr33 rfl) ?_
 rintro _ _ ⟨b2, rfl, rfl⟩
 refine zA rfl rfl (zC rfl rfl) ?_
 refine zH ?_
 refine zE ?_
 refine zE ?_
 refine zB rfl ?_
 refine zA rfl rfl (zQ rfl yA rfl (zP 1 rfl) rfl) ?_
 refine zA rfl rfl (zW rfl ok37 (ref14_Validate e (by omega)) ⟨VLe.refl _, rfl, trivial⟩) ?_
 refine zA rfl rfl (qV rfl rfl rfl) ?_
 refine zA rfl rfl (zF rfl rfl) ?_
 refine zN [] rfl rfl rfl rfl gv1 trivial (fun g1_3 => zJ rfl yW rfl) rfl ?_
 refine zN [(10, _)] rfl rfl rfl rfl gv1 ⟨rfl, rfl, trivial⟩ (fun g1_3 => zK rfl one3 rfl (zP 1 rfl) rfl) rfl ?_
 refine zN [(11, _)] rfl rfl rfl rfl gv1 ⟨rfl, rfl, trivial⟩ (fun g1_3 => qV rfl rfl rfl) rfl ?_
 refine zA rfl rfl (yD rfl rfl rfl rfl (fun h => (lzf h))) ?_
 refine zH ?_
 refine zR rfl (fun c1 => ?_) (fun c1 => ?_)
 ·try simp only [sx, List.length_map] at c1
  have hS : guardT e = zG := by simp only [guardT, guard_c1 c1]; rfl
  refine zE ?_
  refine zB rfl ?_
  refine zA rfl rfl (qO [none, none, none, none, none, none, none, none, none, none, some 2, some 4, some 13] rfl zr33 pl33 rfl rfl) ?_
  refine zA rfl rfl (yT 13 rfl rfl) ?_
  refine zY rfl rfl (zU rfl sz33 rfl rfl rfl (qI 0 rfl rfl)) ?_
  refine zA rfl rfl (zC rfl rfl) ?_
  refine zH ?_
  refine zS ?_
  repeat (first | refine zO ?_ | refine zM ?_)
  refine fin3 (rs_c rfl) (qD yA rfl (zP 0 rfl) rfl) (rs_c rfl) ?_
  rw [hS]; rfl
 ·try simp only [sx, List.length_map] at c1
  obtain ⟨hv, hop⟩ := c1
  have hP := valid_part hv
  obtain ⟨a, b, z, habc, hPa, hPb, hPz⟩ := three_args hP (by rw [hop]; rfl)
  have ha0 : e.Args[0]? = some a := by rw [habc]; rfl
  have hb0 : e.Args[1]? = some b := by rw [habc]; rfl
  have hz0 : e.Args[2]? = some z := by rw [habc]; rfl
  have hwa := Ex.arg_wt (qF ha0)
  have hS : guardT e = guardA a b z := by simp only [guardT, hv, hop, argN, habc]; rfl
  refine zT ?_
  refine zE ?_
  refine zB rfl ?_
  refine zA rfl rfl (zJ rfl kE rfl) ?_
  refine zA rfl rfl (zK rfl wC rfl (zP 1 rfl) rfl) ?_
  refine zA rfl rfl (zX rfl el31 rfl rfl (by omega) (getmE hz0)) ?_
  refine zA rfl rfl (zQ rfl yA rfl qK rfl) ?_
  refine qC rfl rfl (qH [none, none, none, none, none, none, none, none, none, none, some 2, some 4, some 13] rfl zr33 rfl) ?_
  rintro _ _ ⟨b3, rfl, rfl⟩
  refine zY rfl rfl (zU rfl sz33 rfl rfl rfl (qI 0 rfl rfl)) ?_
  refine zH ?_
  refine zE ?_
  refine zE ?_
  refine yG 11 mixed (by kernel_rfl) rfl rfl ?_
  refine zV rfl rfl (zJ rfl yW rfl) ?_
  refine zV rfl rfl (zK rfl one3 rfl (zP 0 rfl) rfl) ?_
  refine zV rfl rfl (qV rfl rfl rfl) ?_
  refine zV rfl rfl (zF rfl rfl) ?_
  refine qE [] rfl rfl rfl rfl gv1 trivial (fun g4_3 => zJ rfl fd33_2 rfl) rfl ?_
  refine qE [(23, _)] rfl rfl rfl rfl gv1 ⟨rfl, rfl, trivial⟩ (fun g4_3 => zQ rfl agg26 rfl (zP 0 rfl) rfl) rfl ?_
  refine qE [] rfl rfl rfl rfl gv1 trivial (fun g4_3 => zJ rfl fd33_3 rfl) rfl ?_
  refine qE [(25, _)] rfl rfl rfl rfl gv1 ⟨rfl, rfl, trivial⟩ (fun g4_3 => zQ rfl agg23 rfl (zP 0 rfl) rfl) rfl ?_
  refine qE [(26, _)] rfl rfl rfl rfl gv1 ⟨rfl, rfl, trivial⟩ (fun g4_3 => zW rfl ok128 (ref04_Zero _) ⟨VLe.refl _, rfl, trivial⟩) rfl ?_
  refine qE [(24, _), (27, _)] rfl rfl rfl rfl gv1 ⟨rfl, rfl, rfl, rfl, trivial⟩ (fun g4_3 => det_aneq rfl fl26 rfl rfl rfl) rfl ?_
  refine zV rfl rfl (yD rfl rfl rfl rfl (fun h => (lzf h))) ?_
  refine kB ?_
  refine zH ?_
  refine zR rfl (fun c2 => ?_) (fun c2 => ?_)
  ·refine zE ?_
   refine zB rfl ?_
   refine zA rfl rfl (qO [none, none, none, none, none, none, none, none, none, none, some 2, some 4, some 13] rfl zr33 pl33 rfl rfl) ?_
   refine zA rfl rfl (yT 13 rfl rfl) ?_
   refine zY rfl rfl (zU rfl sz33 rfl rfl rfl (qI 1 rfl rfl)) ?_
   refine zA rfl rfl (zC rfl rfl) ?_
   refine zH ?_
   refine zS ?_
   repeat (first | refine zO ?_ | refine zM ?_)
   refine fin3 (rs_c rfl) (qD yA rfl (zP 1 rfl) rfl) (rs_c rfl) ?_
   rw [hS, guardA, guard_no c2]; rfl
  ·refine zT ?_
   refine zE ?_
   refine yG 10 mixed (by kernel_rfl) rfl rfl ?_
   refine zV rfl rfl (zJ rfl kE rfl) ?_
   refine zV rfl rfl (zK rfl wC rfl (zP 2 rfl) rfl) ?_
   refine zV rfl rfl (zX rfl el31 rfl rfl (by omega) (getmE ha0)) ?_
   refine zV rfl rfl (zQ rfl yA rfl qK rfl) ?_
   refine zV rfl rfl (zW rfl ok129 (OwnR.pur (ref22_conjuncts a hPa (by omega))) ⟨VLe.refl _, rfl, trivial⟩) ?_
   refine zV rfl rfl (zJ rfl kE rfl) ?_
   refine zV rfl rfl (zK rfl wC rfl (zP 2 rfl) rfl) ?_
   refine zV rfl rfl (zX rfl el31 rfl rfl (by omega) (getmE hb0)) ?_
   refine zV rfl rfl (zQ rfl yA rfl qK rfl) ?_
   refine zV rfl rfl (zC rfl rfl) ?_
   refine kB ?_
   refine zY rfl rfl (zU rfl sz33 rfl rfl rfl (qI 1 rfl rfl)) ?_
   refine zA rfl rfl (zC rfl rfl) ?_
   refine zH ?_
   refine zS ?_
   repeat (first | refine zO ?_ | refine zM ?_)
   refine fin3 (rs_c rfl) (qD yA rfl (zP 1 rfl) rfl) (rs_c rfl) ?_
   rw [hS, guardA, guard_yes c2]; rfl

end Go.W
