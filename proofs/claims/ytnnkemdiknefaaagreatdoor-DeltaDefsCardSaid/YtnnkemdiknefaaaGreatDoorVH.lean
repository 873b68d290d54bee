/-
  Walks: what functions of the program compute. Printed by wip/gen/mk2.py.
  Conditions: none.
-/
import Derived.Test.YtnnkemdiknefaaaGreatDoorVG
import Derived.Test.YtnnkemdiknefaaaGreatDoorPlain2
set_option linter.unusedSimpArgs false
set_option linter.unusedVariables false
namespace Go.W
open Go Go.Eng Go.Proofs Go.L41 Go.Br
attribute [local irreducible] AWP RWP TD
theorem ok53 : callOk Tryz.prog 53 = true := by kernel_rfl
theorem ok54 : callOk Tryz.prog 54 = true := by kernel_rfl
theorem ok55 : callOk Tryz.prog 55 = true := by kernel_rfl
theorem ok56 : callOk Tryz.prog 56 = true := by kernel_rfl
theorem ok58 : callOk Tryz.prog 58 = true := by kernel_rfl
theorem ok59 : callOk Tryz.prog 59 = true := by kernel_rfl
theorem ok60 : callOk Tryz.prog 60 = true := by kernel_rfl
theorem ok61 : callOk Tryz.prog 61 = true := by kernel_rfl
theorem ok62 : callOk Tryz.prog 62 = true := by kernel_rfl
theorem indexFunc_mem (l : List Ex) (p : Ex → Bool) (hl : l.length ≤ 4294967296) :
    ∀ (y : C) (μ0 : List E) (μ1 : Ex → List E), (∀ x, x ∈ l → FnCon cfg y [vE x] μ0 fun r m => ∃ b, r = .c (.lit (.bool b)) ∧ b = p x ∧ m = if p x = true then μ1 x else μ0) → Con cfg 55 [vEs l, .c y] μ0 fun r μ' => r = vI (idxOf p l) ∧ μ' = match l.find? p with | some x => μ1 x | none => μ0 := by
 intro y μ0 μ1 hy
 refine zZ Tryz.func55 rfl Tryz.ntmps55 Tryz.results55 rfl ?_
 intro z hz
 refine zE ?_
 refine zB rfl ?_
 refine zA rfl rfl (zC rfl rfl) ?_
 refine zH ?_
 refine zE ?_
 refine zE ?_
 refine zB rfl ?_
 refine zA rfl rfl (zF rfl rfl) ?_
 refine zA rfl rfl (qB rfl el31 rfl) ?_
 refine zA rfl rfl (zF rfl rfl) ?_
 refine zH ?_
 refine qA ?_
 refine qQ ⟨[(8, .c _), (0, .c _), (1, .c _), (7, .c _)], _⟩ (Weak.regs ⟨VLe.of_eq rfl, VLe.of_eq rfl, VLe.of_eq rfl, VLe.of_eq rfl, trivial⟩) ?_
 refine awp_loop_m 1 rfl (Nat) (fun k => [(8, vI k)]) (fun k => μ0) (fun k => k ≤ l.length ∧ ((l.take k).any p = false)) (fun k => l.length - k) ⟨0, ⟨by omega, rfl⟩, Weak.regs ⟨VLe.refl _, VLe.refl _, VLe.refl _, VLe.refl _, trivial⟩⟩ ?_
 rintro k ⟨hk, hp⟩
 refine zE ?_
 refine zB rfl ?_
 refine zA rfl rfl (qS rfl rfl rfl) ?_
 refine zH ?_
 refine zE ?_
 refine zR rfl (fun c1 => ?_) (fun c1 => ?_)
 ·try simp only [sx, List.length_map] at c1
  obtain ⟨x, hx⟩ := yL l k (by omega)
  refine zT ?_
  refine zE ?_
  refine qA ?_
  refine zE ?_
  refine zB rfl ?_
  refine zA rfl rfl (zF rfl rfl) ?_
  refine zA rfl rfl (zC rfl rfl) ?_
  refine zH ?_
  refine zE ?_
  refine zB rfl ?_
  refine zA rfl rfl (zF rfl rfl) ?_
  refine zA rfl rfl (zF rfl rfl) ?_
  refine zA rfl rfl (zF rfl rfl) ?_
  refine zA rfl rfl (zX rfl el31 rfl rfl (by omega) (getmE (by assumption))) ?_
  refine zA rfl rfl (zQ rfl yA rfl qK rfl) ?_
  refine qC rfl rfl (wB rfl rfl (hy x (qF hx)) ⟨VLe.refl _, rfl, trivial⟩) ?_
  rintro _ m ⟨bb, rfl, hb, hm⟩
  refine zH ?_
  refine zR rfl (fun c2 => ?_) (fun c2 => ?_)
  ·have hp1 : p x = true := hb.symm.trans c2
   rw [if_pos hp1] at hm
   subst hm
   refine zE ?_
   refine zB rfl ?_
   refine zA rfl rfl (zF rfl rfl) ?_
   refine zA rfl rfl (zC rfl rfl) ?_
   refine zH ?_
   refine zS ?_
   repeat (first | refine zO ?_ | refine zM ?_)
   refine fin1 (rs_c rfl) ?_
   exact ⟨by rw [idxOf_at hx hp1 hp], by rw [sel_first hx hp1 hp]⟩
  ·have hp1 : p x = false := hb.symm.trans c2
   rw [if_neg (by rw [hp1]; simp)] at hm
   subst hm
   refine zT ?_
   refine zB rfl ?_
   refine zA rfl rfl (qL rfl rfl rfl ⟨by omega, by omega⟩) ?_
   refine zA rfl rfl (zF rfl rfl) ?_
   refine zH ?_
   refine ⟨k + 1, ⟨by omega, any_next hx hp hp1⟩, (by omega), Weak.regs ⟨VLe.refl _, VLe.refl _, VLe.refl _, VLe.refl _, trivial⟩⟩
 ·try simp only [sx, List.length_map] at c1
  refine qU ?_
  refine zE ?_
  refine zB rfl ?_
  refine zA rfl rfl (zC rfl rfl) ?_
  refine zH ?_
  refine zS ?_
  repeat (first | refine zO ?_ | refine zM ?_)
  refine fin1 (rs_c rfl) ?_
  rw [kJ (by omega)] at hp
  exact ⟨by rw [idxOf_none hp], by rw [sel_none hp]⟩

theorem indexFunc_Def (l : List Ex) (s : ByteArray) (d : Df) (n b : Nat) (hl : l.length ≤ 4294967296) (hw : ∀ x, x ∈ l → x.wt ≤ 4294967296) (hn : n < d.Red.length) (hr : d.Red.length ≤ 4294967296) :
    Con cfg 55 [vEs l, .c (.fn (.func 56) [] [.iptr [cS s], .iptr d.cells, .iptr [cI n], .lit (.pointer (some ⟨b, 0, none⟩))])] [E.row b 29 zL.cells] fun r μ' => r = vI (idxOf (selB d n s) l) ∧ μ' = [E.row b 29 (gSel d n s l).cells] := by
  refine (indexFunc_mem l (selB d n s) hl _ _ (fun x => [E.row b 29 (solveT x s).1.cells]) fun x hx => ?_).mono ?_
  · refine FnCon.of_con (first := []) (cap := [.iptr [cS s], .iptr d.cells, .iptr [cI n], .lit (.pointer (some ⟨b, 0, none⟩))]) ok56 ((delta_Def_2 s d n b zL x (hw x hx) hn hr).mono ?_)
    rintro r μ' ⟨rfl, rfl⟩
    refine ⟨_, rfl, rfl, ?_⟩
    by_cases h : selB d n s x = true
    · rw [if_pos h, if_pos h]
    · rw [if_neg h, if_neg h]
  · rintro r μ' ⟨rfl, rfl⟩
    refine ⟨rfl, ?_⟩
    unfold gSel
    cases l.find? (selB d n s) <;> rfl
theorem delta_node2 (op : Int) (a b : Ex) : Pur cfg 58 [vI op, .c (.sl 13 [a.cs, b.cs])] (vE (nodeE op [a, b])) := by
  have h := delta_node op [a, b]
  rw [← Ex.cells_eq a, ← Ex.cells_eq b]; exact h
theorem delta_node3 (op : Int) (a b c : Ex) : Pur cfg 58 [vI op, .c (.sl 13 [a.cs, b.cs, c.cs])] (vE (nodeE op [a, b, c])) := by
  have h := delta_node op [a, b, c]
  rw [← Ex.cells_eq a, ← Ex.cells_eq b, ← Ex.cells_eq c]; exact h

theorem delta_Def (d : Df) (s : ByteArray) (hw : d.Body.wt ≤ 1000) (hP : d.Body.allF Lf.rng) (h1 : d.Dims.length ≤ 1000000) (h2 : d.Red.length ≤ 1000000) (h3 : ∀ a, a ∈ d.Dims → a.Size.L.length ≤ 5864062014805) (h4 : ∀ a, a ∈ d.Red → a.Size.L.length ≤ 5864062014805) :
    Pur cfg 14 [vDf d, vS s] (.tup [vDf (dfD d s).1, vB (dfD d s).2]) := by
 refine zZ Tryz.func14 rfl Tryz.ntmps14 Tryz.results14 rfl ?_
 intro z hz
 refine zE ?_
 refine zB rfl ?_
 refine qC rfl rfl (qN rfl rfl) ?_
 rintro _ _ ⟨b1, rfl, rfl⟩
 refine qC rfl rfl (qN rfl rfl) ?_
 rintro _ _ ⟨b2, rfl, rfl⟩
 refine qC rfl rfl (qH [none, none, none, none, none, none, some 3, some 3, none, none, none, none, none, none, none, none, none, none, none, some 2, some 4, some 13] rfl zr35 rfl) ?_
 rintro _ _ ⟨b3, rfl, rfl⟩
 refine zA rfl rfl (zC rfl rfl) ?_
 refine zH ?_
 refine zE ?_
 refine zB rfl ?_
 refine zA rfl rfl (zJ rfl fd35_3 rfl) ?_
 refine zA rfl rfl (zK rfl one24 rfl (zP 2 rfl) rfl) ?_
 refine yN _ (yP 1 rfl 3 _ PLe.ptr) ?_
 refine zA rfl rfl (det_func rfl rfl rfl rfl rfl) ?_
 refine zA rfl rfl (zW rfl ok52 (slices_IndexFunc_ax d.Red _ (fun a => decide (a.Name = s)) (by omega) (fun a _ => FnPur.of_pur (first := []) (cap := [.iptr [cS s]]) ok53 (delta_Def_1 a s))) ⟨VLe.refl _, rfl, VLe.refl _, rfl, trivial⟩) ?_
 refine qC rfl rfl (kK rfl zr3) ?_
 rintro _ _ ⟨b4, rfl, rfl⟩
 refine zY rfl rfl (zU rfl sz3 rfl rfl rfl (qI 0 rfl rfl)) ?_
 refine zH ?_
 refine zE ?_
 refine zE ?_
 refine zB rfl ?_
 refine zA rfl rfl (zJ rfl fd35_4 rfl) ?_
 refine zA rfl rfl (zK rfl one3 rfl (zP 2 rfl) rfl) ?_
 refine zA rfl rfl (qV rfl rfl rfl) ?_
 refine zA rfl rfl (zF rfl rfl) ?_
 refine zN [] rfl rfl rfl rfl gv1 trivial (fun g2_3 => zK rfl one3 rfl (zP 0 rfl) rfl) rfl ?_
 refine zN [(29, _)] rfl rfl rfl rfl gv1 ⟨rfl, rfl, trivial⟩ (fun g2_3 => qS rfl rfl rfl) rfl ?_
 refine zA rfl rfl (yD rfl rfl rfl rfl (fun h => (lzf h))) ?_
 refine zH ?_
 refine zR rfl (fun c1 => ?_) (fun c1 => ?_)
 ·try simp only [sx, List.length_map] at c1
  have hC : chainD d s = none := chain_no1 c1
  refine zE ?_
  refine zB rfl ?_
  refine zA rfl rfl (qO [none, none, none, none, none, none, some 3, some 3, none, none, none, none, none, none, none, none, none, none, none, some 2, some 4, some 13] rfl zr35 pl35 rfl rfl) ?_
  refine zY rfl rfl (zU rfl sz35 rfl rfl rfl (qI 1 rfl rfl)) ?_
  refine zA rfl rfl (zC rfl rfl) ?_
  refine zH ?_
  refine zS ?_
  repeat (first | refine zO ?_ | refine zM ?_)
  refine fin2 (qD agg35 rfl (zP 1 rfl) rfl) (rs_c rfl) ?_
  rw [def_none hC]; rfl
 ·try simp only [sx, List.length_map] at c1
  have hF := c1.1
  obtain ⟨n, hn⟩ : ∃ n : Nat, axN s d.Red = n := ⟨(axN s d.Red).toNat, by have h5 := c1.2; have h6 : axN s d.Red = idxOf (fun a : Ax => decide (a.Name = s)) d.Red := rfl; omega⟩
  obtain ⟨hn2, hn3⟩ := axN_lt hn
  rw [show idxOf (fun a : Ax => decide (a.Name = s)) d.Red = (n : Int) from hn]
  refine zT ?_
  refine zE ?_
  refine zB rfl ?_
  refine zA rfl rfl (zJ rfl fd35_5 rfl) ?_
  refine zA rfl rfl (zQ rfl yA rfl (zP 2 rfl) rfl) ?_
  refine zA rfl rfl (zW rfl ok54 (delta_Guard d.Body (by omega)) ⟨VLe.refl _, rfl, trivial⟩) ?_
  refine zA rfl rfl (qT rfl rfl) ?_
  refine zA rfl rfl (qX rfl rfl rfl) ?_
  refine zA rfl rfl (yH rfl rfl rfl) ?_
  refine zA rfl rfl (qX rfl rfl rfl) ?_
  refine qC rfl rfl (qH [none, none, none, none, none, none, none, none, none, none, some 2, some 4, some 13] rfl zr33 rfl) ?_
  rintro _ _ ⟨b5, rfl, rfl⟩
  refine zA rfl rfl (zC rfl rfl) ?_
  refine zY rfl rfl (zU rfl sz33 rfl rfl rfl (qI 0 rfl rfl)) ?_
  refine zA rfl rfl (zC rfl rfl) ?_
  refine zH ?_
  refine zE ?_
  refine zE ?_
  refine zB rfl ?_
  refine zA rfl rfl (zF rfl rfl) ?_
  refine zA rfl rfl (qY rfl rfl) ?_
  refine zH ?_
  refine zR rfl (fun c2 => ?_) (fun c2 => ?_)
  ·try simp only [sx, List.length_map] at c2
   have hC : chainD d s = none := chain_no2 c2
   refine zE ?_
   refine zB rfl ?_
   refine zA rfl rfl (qO [none, none, none, none, none, none, some 3, some 3, none, none, none, none, none, none, none, none, none, none, none, some 2, some 4, some 13] rfl zr35 pl35 rfl rfl) ?_
   refine zY rfl rfl (zU rfl sz35 rfl rfl rfl (qI 2 rfl rfl)) ?_
   refine zA rfl rfl (zC rfl rfl) ?_
   refine zH ?_
   refine zS ?_
   repeat (first | refine zO ?_ | refine zM ?_)
   refine fin2 (qD agg35 rfl (zP 2 rfl) rfl) (rs_c rfl) ?_
   rw [def_none hC]; rfl
  ·try simp only [sx, List.length_map] at c2
   obtain ⟨q1, q2, q3, q4, q5⟩ := guard_parts c2 hP hw
   obtain ⟨g1, g2, g3⟩ := gSel_ok (d := d) (n := n) (s := s) q1
   refine zT ?_
   refine zE ?_
   refine zB rfl ?_
   refine qC rfl rfl (qH [none, some 2] rfl zr29 rfl) ?_
   rintro _ _ ⟨b6, rfl, rfl⟩
   refine zH ?_
   refine zE ?_
   refine zB rfl ?_
   refine zA rfl rfl (zF rfl rfl) ?_
   refine yN _ (yP 4 rfl 2 _ PLe.ptr) ?_
   refine yN _ (yP 2 rfl 6 _ PLe.ptr) ?_
   refine zA rfl rfl (det_func rfl rfl rfl rfl rfl) ?_
   refine zA rfl rfl (det_call_mem [0] rfl ok55 (indexFunc_Def (guardT d.Body).conds s d n b6 (by omega) (fun x hx => by have := (q1 x hx).2; omega) hn2 (by omega)) ⟨VLe.refl _, rfl, VLe.refl _, rfl, trivial⟩ rfl) ?_
   refine zA rfl rfl (zC rfl rfl) ?_
   refine zH ?_
   refine zE ?_
   refine zE ?_
   refine zB rfl ?_
   refine zA rfl rfl (zF rfl rfl) ?_
   refine zA rfl rfl (qS rfl rfl rfl) ?_
   refine zH ?_
   refine zR rfl (fun c3 => ?_) (fun c3 => ?_)
   ·try simp only [sx, List.length_map] at c3
    have hC : chainD d s = none := chain_no3 hn c3
    refine zE ?_
    refine zB rfl ?_
    refine zA rfl rfl (qO [none, none, none, none, none, none, some 3, some 3, none, none, none, none, none, none, none, none, none, none, none, some 2, some 4, some 13] rfl zr35 pl35 rfl rfl) ?_
    refine zY rfl rfl (zU rfl sz35 rfl rfl rfl (qI 2 rfl rfl)) ?_
    refine zA rfl rfl (zC rfl rfl) ?_
    refine zH ?_
    refine zS ?_
    repeat (first | refine zO ?_ | refine zM ?_)
    refine fin2 (qD agg35 rfl (zP 2 rfl) rfl) (rs_c rfl) ?_
    rw [def_none hC]; rfl
   ·try simp only [sx, List.length_map] at c3
    have hC := chain_put hF hn c2 (by omega)
    refine zT ?_
    refine zE ?_
    refine zB rfl ?_
    refine zA rfl rfl (qG rfl fd35_5 rfl) ?_
    refine zA rfl rfl (qG rfl kE rfl) ?_
    refine zA rfl rfl (zK rfl wC rfl qK rfl) ?_
    refine zA rfl rfl (zX rfl el31 rfl rfl (by omega) (getmE q5)) ?_
    refine zA rfl rfl (zQ rfl yA rfl qK rfl) ?_
    refine qC rfl rfl (qH [none, none, none, none, none, none, none, none, none, none, some 2, some 4, some 13] rfl zr33 rfl) ?_
    rintro _ _ ⟨b7, rfl, rfl⟩
    refine zY rfl rfl (zU rfl sz33 rfl rfl rfl (qI 0 rfl rfl)) ?_
    refine zH ?_
    refine zE ?_
    refine zB rfl ?_
    refine zA rfl rfl (zQ rfl yA rfl (zP 2 rfl) rfl) ?_
    refine zA rfl rfl (zK rfl one9 rfl qK rfl) ?_
    refine zA rfl rfl (zQ rfl yB rfl (zP 1 rfl) rfl) ?_
    refine zA rfl rfl (zW rfl ok24 (expr_SubstR (guardT d.Body).val s (gSel d n s (guardT d.Body).conds) (by have := q2.2; omega) q2.1 (by omega) g2) ⟨VLe.refl _, rfl, VLe.refl _, rfl, VLe.refl _, rfl, trivial⟩) ?_
    refine zA rfl rfl (qT rfl rfl) ?_
    refine zA rfl rfl (yH rfl rfl rfl) ?_
    refine zA rfl rfl (qX rfl rfl rfl) ?_
    refine qC rfl rfl (qH [none, none, none, none, none, none, none, none, none, none, some 2, some 4, some 13] rfl zr33 rfl) ?_
    rintro _ _ ⟨b8, rfl, rfl⟩
    refine zY rfl rfl (zU rfl sz33 rfl rfl rfl (qI 0 rfl rfl)) ?_
    refine zA rfl rfl (zC rfl rfl) ?_
    refine zH ?_
    refine zE ?_
    refine zE ?_
    refine zB rfl ?_
    refine zA rfl rfl (zF rfl rfl) ?_
    refine zA rfl rfl (qV rfl rfl rfl) ?_
    refine zH ?_
    refine zR rfl (fun c4 => ?_) (fun c4 => ?_)
    ·try simp only [sx, List.length_map] at c4
     rw [put_no c4] at hC
     refine zE ?_
     refine zB rfl ?_
     refine zA rfl rfl (qO [none, none, none, none, none, none, some 3, some 3, none, none, none, none, none, none, none, none, none, none, none, some 2, some 4, some 13] rfl zr35 pl35 rfl rfl) ?_
     refine zY rfl rfl (zU rfl sz35 rfl rfl rfl (qI 4 rfl rfl)) ?_
     refine zA rfl rfl (zC rfl rfl) ?_
     refine zH ?_
     refine zS ?_
     repeat (first | refine zO ?_ | refine zM ?_)
     refine fin2 (qD agg35 rfl (zP 4 rfl) rfl) (rs_c rfl) ?_
     rw [def_none hC]; rfl
    ·try simp only [sx, List.length_map] at c4
     rw [put_on c4] at hC
     have hw0 := SR_wt (s := s) g3 (guardT d.Body).val
     have hw1 := Nat.mul_le_mul_left 1001 q2.2
     refine zT ?_
     refine zE ?_
     refine zE ?_
     refine zB rfl ?_
     refine zA rfl rfl (zF rfl rfl) ?_
     refine zA rfl rfl (qB rfl el31 rfl) ?_
     refine zA rfl rfl (kA rfl rfl rfl ⟨by omega, by omega⟩) ?_
     refine zA rfl rfl (zC rfl rfl) ?_
     refine zH ?_
     refine qA ?_
     refine qQ ⟨[(15, .c _), (2, .c _), (3, .c _), (4, .c _), (6, .c _), (7, .c _), (10, .c _), (11, .c _), (12, .c _), (13, .c _)], [_, _, _, _]⟩ (Weak.mk [true, true, true, false, true] ⟨VLe.of_eq rfl, VLe.of_eq rfl, VLe.of_eq rfl, VLe.of_eq rfl, VLe.of_eq rfl, VLe.of_eq rfl, VLe.of_eq rfl, VLe.of_eq rfl, VLe.of_eq rfl, VLe.of_eq rfl, trivial⟩ rfl) ?_
     refine qR 1 1 rfl rfl (Nat × Ex) (fun ⟨k, w⟩ => [(15, vI ((k : Int) - 1))]) (fun ⟨k, w⟩ => [E.row b8 33 w.cs]) (fun ⟨k, w⟩ => k ≤ (guardT d.Body).conds.length ∧ putW (SR s (gSel d n s (guardT d.Body).conds)) (guardT d.Body).conds (idxOf (selB d n s) (guardT d.Body).conds) (zEnd d) (guardT d.Body).conds.length (outE (mEx (SR s (gSel d n s (guardT d.Body).conds)) (guardT d.Body).val)) = putW (SR s (gSel d n s (guardT d.Body).conds)) (guardT d.Body).conds (idxOf (selB d n s) (guardT d.Body).conds) (zEnd d) k w ∧ w.wt ≤ 1002001 + 1003003 * ((guardT d.Body).conds.length - k)) (fun ⟨k, w⟩ => k) ⟨⟨(guardT d.Body).conds.length, (outE (mEx (SR s (gSel d n s (guardT d.Body).conds)) (guardT d.Body).val))⟩, ⟨Nat.le_refl _, rfl, by omega⟩, Weak.mk [true, true, true, true] ⟨VLe.refl _, VLe.refl _, VLe.refl _, VLe.refl _, VLe.refl _, VLe.refl _, VLe.refl _, VLe.refl _, VLe.refl _, VLe.refl _, trivial⟩ rfl⟩ ?_
     rintro ⟨k, w⟩ ⟨hk, hp, hwt⟩
     show AWP _ _ _ _ _ ⟨[(15, vI ((k : Int) - 1))] ++ _, [E.row b8 33 w.cs] ++ _⟩
     refine zE ?_
     refine zE ?_
     refine zB rfl ?_
     refine zA rfl rfl (zF rfl rfl) ?_
     refine zA rfl rfl (kR rfl rfl rfl) ?_
     refine zH ?_
     refine zR rfl (fun c5 => ?_) (fun c5 => ?_)
     ·try simp only [sx, List.length_map] at c5
      obtain ⟨x, hx⟩ := yL (guardT d.Body).conds (k - 1) (by omega)
      have hx2 : (guardT d.Body).conds[((k : Int) - 1).toNat]? = some x := by rw [show ((k : Int) - 1).toNat = k - 1 by omega]; exact hx
      have hgx : getX (guardT d.Body).conds (k - 1) = x := Option.some.inj ((getX_get (by omega)).symm.trans hx)
      have hwx := SR_wt (s := s) g3 x
      have hwx1 := Nat.mul_le_mul_left 1001 (q1 x (qF hx)).2
      refine zT ?_
      refine zE ?_
      refine qA ?_
      refine zE ?_
      refine zE ?_
      refine zB rfl ?_
      refine zA rfl rfl (zF rfl rfl) ?_
      refine zA rfl rfl (zF rfl rfl) ?_
      refine zA rfl rfl (qJ rfl rfl rfl) ?_
      refine zH ?_
      refine zR rfl (fun c6 => ?_) (fun c6 => ?_)
      ·try simp only [sx, List.length_map] at c6
       have hnx := hp.trans (putW_skip (by omega) c6)
       refine qU ?_
       refine zB rfl ?_
       refine zA rfl rfl (zF rfl rfl) ?_
       refine zA rfl rfl (kA rfl rfl rfl ⟨by omega, by omega⟩) ?_
       refine zA rfl rfl (zC rfl rfl) ?_
       refine zH ?_
       refine ⟨⟨k - 1, w⟩, ⟨by omega, hnx, by omega⟩, (by dsimp only; omega), Weak.mk [true, true, true, true] ⟨VLe.of_eq (congrArg vI (by omega)), VLe.refl _, VLe.refl _, VLe.refl _, VLe.refl _, VLe.refl _, VLe.refl _, VLe.refl _, VLe.refl _, VLe.refl _, trivial⟩ rfl⟩
      ·try simp only [sx, List.length_map] at c6
       refine zT ?_
       refine zE ?_
       refine awp_draw_c 12 1 [⟨0, .q []⟩, ⟨1, .q []⟩, ⟨2, .q []⟩, ⟨3, .q []⟩, ⟨4, .q []⟩, ⟨5, .q [3]⟩, ⟨6, .q []⟩, ⟨7, .q []⟩, ⟨8, .q []⟩, ⟨9, .q []⟩, ⟨10, .e 0 []⟩, ⟨11, .e 0 []⟩] mixed (by kernel_rfl) (by kernel_rfl) rfl rfl rfl ?_
       refine qP rfl ?_
       refine qP rfl ?_
       refine qP rfl ?_
       refine qP rfl ?_
       refine qP rfl ?_
       refine qP rfl ?_
       refine qP rfl ?_
       refine qP rfl ?_
       refine qP rfl ?_
       refine qP rfl ?_
       refine qP rfl ?_
       refine qP rfl ?_
       refine fx_nil ?_
       refine qW rfl (by decide) rfl rfl (zF rfl rfl) ?_
       refine qW rfl (by decide) rfl rfl (zF rfl rfl) ?_
       refine qW rfl (by decide) rfl rfl (zX rfl el31 rfl rfl (by omega) (getmE hx2)) ?_
       refine qW rfl (by decide) rfl rfl (zQ rfl yA rfl qK rfl) ?_
       refine qW rfl (by decide) rfl rfl (zK rfl one9 rfl qK rfl) ?_
       refine qW rfl (by decide) rfl rfl (zQ rfl yB rfl (zP 0 rfl) rfl) ?_
       refine qW rfl (by decide) rfl rfl (zW rfl ok24 (expr_SubstR x s (gSel d n s (guardT d.Body).conds) (by have := (q1 x (qF hx)).2; omega) (q1 x (qF hx)).1 (by omega) g2) ⟨VLe.refl _, rfl, VLe.refl _, rfl, VLe.refl _, rfl, trivial⟩) ?_
       refine qW rfl (by decide) rfl rfl (qT rfl rfl) ?_
       refine qW rfl (by decide) rfl rfl (yH rfl rfl rfl) ?_
       refine qW rfl (by decide) rfl rfl (qX rfl rfl rfl) ?_
       refine sq_op rfl rfl (by decide) rfl rfl (qH [none, none, none, none, none, none, none, none, none, none, some 2, some 4, some 13] rfl zr33 rfl) ?_
       rintro _ _ ⟨b9, rfl, rfl⟩
       refine ⟨_, rfl, ?_⟩
       refine sq_op0 rfl rfl (by decide) rfl rfl (zU rfl sz33 rfl rfl rfl (qI 0 rfl rfl)) ?_
       rintro _ _ ⟨rfl, rfl⟩
       refine ⟨_, rfl, ?_⟩
       refine sq_nil rfl ?_
       refine zA rfl rfl (zC rfl rfl) ?_
       refine zH ?_
       refine zE ?_
       refine zE ?_
       refine zB rfl ?_
       refine zA rfl rfl (zF rfl rfl) ?_
       refine zA rfl rfl (qV rfl rfl rfl) ?_
       refine zH ?_
       refine zR rfl (fun c7 => ?_) (fun c7 => ?_)
       ·try simp only [sx, List.length_map] at c7
        rw [hp, putW_no (by omega) c6 (by rw [hgx]; exact c7)] at hC
        refine zE ?_
        refine zB rfl ?_
        refine zA rfl rfl (qO [none, none, none, none, none, none, some 3, some 3, none, none, none, none, none, none, none, none, none, none, none, some 2, some 4, some 13] rfl zr35 pl35 rfl rfl) ?_
        refine zY rfl rfl (zU rfl sz35 rfl rfl rfl (qI 4 rfl rfl)) ?_
        refine zA rfl rfl (zC rfl rfl) ?_
        refine zH ?_
        refine zS ?_
        repeat (first | refine zO ?_ | refine zM ?_)
        refine fin2 (qD agg35 rfl (zP 4 rfl) rfl) (rs_c rfl) ?_
        rw [def_none hC]; rfl
       ·try simp only [sx, List.length_map] at c7
        have hnx := hp.trans (putW_yes (by omega) c6 (by rw [hgx]; exact c7))
        rw [hgx] at hnx
        refine zT ?_
        refine zB rfl ?_
        refine zA rfl rfl (zQ rfl yA rfl (zP 0 rfl) rfl) ?_
        refine zA rfl rfl (zQ rfl yA rfl (zP 1 rfl) rfl) ?_
        refine zA rfl rfl (zQ rfl yA rfl (zP 2 rfl) rfl) ?_
        refine zA rfl rfl (yF rfl el31 zr33 rfl rfl rfl rfl) ?_
        refine zA rfl rfl (zW rfl ok58 (delta_node3 11 _ _ _) ⟨VLe.refl _, rfl, VLe.refl _, rfl, trivial⟩) ?_
        refine zY rfl rfl (zU rfl sz33 rfl rfl rfl (qI 1 rfl rfl)) ?_
        refine zH ?_
        refine zB rfl ?_
        refine zA rfl rfl (zF rfl rfl) ?_
        refine zA rfl rfl (kA rfl rfl rfl ⟨by omega, by omega⟩) ?_
        refine zA rfl rfl (zC rfl rfl) ?_
        refine zH ?_
        refine ⟨⟨k - 1, nodeE 11 [outE (mEx (SR s (gSel d n s (guardT d.Body).conds)) x), w, argN d.Body 2]⟩, ⟨by omega, hnx, by rw [node3_wt]; omega⟩, (by dsimp only; omega), Weak.mk [false, true, true, true, true] ⟨VLe.of_eq (congrArg vI (by omega)), VLe.refl _, VLe.refl _, VLe.refl _, VLe.refl _, VLe.refl _, VLe.refl _, VLe.refl _, VLe.refl _, VLe.refl _, trivial⟩ rfl⟩
     ·try simp only [sx, List.length_map] at c5
      rw [putW_end (k := k) (w := w) (by omega)] at hp
      rw [hp] at hC
      have hC : chainD d s = some (outD d n (gSel d n s (guardT d.Body).conds) w (argN d.Body 2)) := hC
      have hna : (axA d.Red n).Size.L.length ≤ 5864062014805 := h4 _ (qF (axA_get hn2))
      have hlk : (1003003 : Nat) * ((guardT d.Body).conds.length - k) ≤ 1003003 * 1000 := Nat.mul_le_mul_left _ (by omega)
      refine qU ?_
      refine zE ?_
      refine zB rfl ?_
      refine zA rfl rfl (yE rfl zr23 pl23 rfl) ?_
      refine zA rfl rfl (yE rfl zr26 pl26 rfl) ?_
      refine zA rfl rfl (qO [none, none, none, none, none, none, none, none, none, none, some 2, some 4, some 13] rfl zr33 pl33 rfl rfl) ?_
      refine qC rfl rfl (qH [none, none, none, none, none, none, none, none, none, none, some 2, some 4, some 13] rfl zr33 rfl) ?_
      rintro _ _ ⟨b10, rfl, rfl⟩
      refine zY rfl rfl (zU rfl sz33 rfl rfl rfl (qI 0 rfl rfl)) ?_
      refine zH ?_
      refine zE ?_
      refine awp_draw_c 19 1 [⟨0, .q [1]⟩, ⟨1, .q [4]⟩, ⟨2, .q []⟩, ⟨3, .q []⟩, ⟨4, .q []⟩, ⟨5, .q [4]⟩, ⟨6, .q []⟩, ⟨7, .q []⟩, ⟨8, .q []⟩, ⟨9, .q []⟩, ⟨10, .q []⟩, ⟨11, .q []⟩, ⟨12, .q []⟩, ⟨13, .q []⟩, ⟨14, .q []⟩, ⟨15, .q []⟩, ⟨16, .q []⟩, ⟨17, .q []⟩, ⟨18, .f 0⟩] mixed (by kernel_rfl) (by kernel_rfl) rfl rfl rfl ?_
      refine qP rfl ?_
      refine qP rfl ?_
      refine qP rfl ?_
      refine qP rfl ?_
      refine qP rfl ?_
      refine qP rfl ?_
      refine qP rfl ?_
      refine qP rfl ?_
      refine qP rfl ?_
      refine qP rfl ?_
      refine qP rfl ?_
      refine qP rfl ?_
      refine qP rfl ?_
      refine qP rfl ?_
      refine qP rfl ?_
      refine qP rfl ?_
      refine qP rfl ?_
      refine qP rfl ?_
      refine fx_fresh rfl rfl (fresh_alloc' (qH [none, none, none, none, none, none, none, none, none, none, some 2, some 4, some 13] rfl zr33 rfl)) ?_
      refine fx_nil ?_
      refine qW rfl (by decide) rfl rfl (zQ rfl yA rfl (zP 0 rfl) rfl) ?_
      refine qW rfl (by decide) rfl rfl (zQ rfl yB rfl (zP 0 rfl) rfl) ?_
      refine qW rfl (by decide) rfl rfl (zW rfl ok59 (delta_index (gSel d n s (guardT d.Body).conds)) ⟨VLe.refl _, rfl, trivial⟩) ?_
      refine qW rfl (by decide) rfl rfl (yF rfl el31 zr33 rfl rfl rfl rfl) ?_
      refine qW rfl (by decide) rfl rfl (zW rfl ok58 (delta_node2 14 zeroE (idxE (gSel d n s (guardT d.Body).conds))) ⟨VLe.refl _, rfl, VLe.refl _, rfl, trivial⟩) ?_
      refine qW rfl (by decide) rfl rfl (zQ rfl yB rfl (zP 0 rfl) rfl) ?_
      refine qW rfl (by decide) rfl rfl (zW rfl ok59 (delta_index (gSel d n s (guardT d.Body).conds)) ⟨VLe.refl _, rfl, trivial⟩) ?_
      refine qW rfl (by decide) rfl rfl (qG rfl fd35_3 rfl) ?_
      refine qW rfl (by decide) rfl rfl (zK rfl one24 rfl qK rfl) ?_
      refine qW rfl (by decide) rfl rfl (zK rfl one3 rfl qK rfl) ?_
      refine qW rfl (by decide) rfl rfl (zX rfl el24 rfl rfl (by omega) (getm (axA_get hn2))) ?_
      refine qW rfl (by decide) rfl rfl (qG rfl fd88_1 rfl) ?_
      refine qW rfl (by decide) rfl rfl (zQ rfl yB rfl qK rfl) ?_
      refine qW rfl (by decide) rfl rfl (zW rfl ok59 (delta_index (axA d.Red n).Size) ⟨VLe.refl _, rfl, trivial⟩) ?_
      refine qW rfl (by decide) rfl rfl (yF rfl el31 zr33 rfl rfl rfl rfl) ?_
      refine qW rfl (by decide) rfl rfl (zW rfl ok58 (delta_node2 13 (idxE (gSel d n s (guardT d.Body).conds)) (idxE (axA d.Red n).Size)) ⟨VLe.refl _, rfl, VLe.refl _, rfl, trivial⟩) ?_
      refine qW rfl (by decide) rfl rfl (yF rfl el31 zr33 rfl rfl rfl rfl) ?_
      refine qW rfl (by decide) rfl rfl (zW rfl ok58 (delta_node2 16 (nodeE 14 [zeroE, idxE (gSel d n s (guardT d.Body).conds)]) (nodeE 13 [idxE (gSel d n s (guardT d.Body).conds), idxE (axA d.Red n).Size])) ⟨VLe.refl _, rfl, VLe.refl _, rfl, trivial⟩) ?_
      refine sq_fresh rfl rfl ?_
      rintro _ _ ⟨b11, rfl, rfl⟩
      refine sq_nil rfl ?_
      refine zY rfl rfl (zU rfl sz33 rfl rfl rfl (qI 0 rfl rfl)) ?_
      refine zH ?_
      refine zE ?_
      refine zB rfl ?_
      refine zA rfl rfl (zQ rfl yA rfl (zP 0 rfl) rfl) ?_
      refine zA rfl rfl (zQ rfl yA rfl (zP 2 rfl) rfl) ?_
      refine zA rfl rfl (zQ rfl yA rfl (zP 3 rfl) rfl) ?_
      refine zA rfl rfl (yF rfl el31 zr33 rfl rfl rfl rfl) ?_
      refine zA rfl rfl (zW rfl ok58 (delta_node3 11 (insideE (gSel d n s (guardT d.Body).conds) (axA d.Red n).Size) w (argN d.Body 2)) ⟨VLe.refl _, rfl, VLe.refl _, rfl, trivial⟩) ?_
      refine zY rfl rfl (zU rfl sz33 rfl rfl rfl (qI 2 rfl rfl)) ?_
      refine zH ?_
      refine zE ?_
      refine zE ?_
      refine zB rfl ?_
      refine zA rfl rfl (zQ rfl yA rfl (zP 2 rfl) rfl) ?_
      refine zA rfl rfl (zW rfl ok40 (expr_Validate (nodeE 11 [insideE (gSel d n s (guardT d.Body).conds) (axA d.Red n).Size, w, argN d.Body 2]) (by rw [node3_wt, inside_wt]; omega)) ⟨VLe.refl _, rfl, trivial⟩) ?_
      refine zA rfl rfl (qV rfl rfl rfl) ?_
      refine zH ?_
      refine zR rfl (fun c8 => ?_) (fun c8 => ?_)
      ·try simp only [sx, List.length_map] at c8
       have hD := def_bad hC c8
       refine zE ?_
       refine zB rfl ?_
       refine zA rfl rfl (qO [none, none, none, none, none, none, some 3, some 3, none, none, none, none, none, none, none, none, none, none, none, some 2, some 4, some 13] rfl zr35 pl35 rfl rfl) ?_
       refine zY rfl rfl (zU rfl sz35 rfl rfl rfl (qI 5 rfl rfl)) ?_
       refine zA rfl rfl (zC rfl rfl) ?_
       refine zH ?_
       refine zS ?_
       repeat (first | refine zO ?_ | refine zM ?_)
       refine fin2 (qD agg35 rfl (zP 5 rfl) rfl) (rs_c rfl) ?_
       rw [hD]; rfl
      ·try simp only [sx, List.length_map] at c8
       have hD := def_good hC c8
       have hF5 : d.Dims.length ≤ 1073741824 := by omega
       refine zT ?_
       refine zE ?_
       refine zB rfl ?_
       refine zA rfl rfl (zQ rfl agg35 rfl qK rfl) ?_
       refine qC rfl rfl (qH [none, none, none, none, none, none, some 3, some 3, none, none, none, none, none, none, none, none, none, none, none, some 2, some 4, some 13] rfl zr35 rfl) ?_
       rintro _ _ ⟨b12, rfl, rfl⟩
       refine zY rfl rfl (zU rfl sz35 rfl rfl rfl (qI 0 rfl rfl)) ?_
       refine zH ?_
       refine zE ?_
       refine zB rfl ?_
       refine zA rfl rfl (qG rfl fd35_2 rfl) ?_
       refine zA rfl rfl (zK rfl one24 rfl qK rfl) ?_
       refine zA rfl rfl (zW rfl ok60 (OwnR.pur (slices_Clone_ax d.Dims (by omega))) ⟨VLe.refl _, rfl, trivial⟩) ?_
       refine zA rfl rfl (zJ rfl fd35_2 rfl) ?_
       refine zY rfl rfl (zU rfl sz24 rfl rfl rfl (qI 0 rfl rfl)) ?_
       refine zH ?_
       refine zE ?_
       refine awp_draw_c 6 1 [⟨0, .q []⟩, ⟨1, .q []⟩, ⟨3, .q []⟩, ⟨4, .q []⟩, ⟨5, .q []⟩, ⟨2, .e 0 []⟩] mixed (by kernel_rfl) (by kernel_rfl) rfl rfl rfl ?_
       refine qP rfl ?_
       refine qP rfl ?_
       refine qP rfl ?_
       refine qP rfl ?_
       refine qP rfl ?_
       refine qP rfl ?_
       refine fx_nil ?_
       refine qW rfl (by decide) rfl rfl (qG rfl fd35_3 rfl) ?_
       refine qW rfl (by decide) rfl rfl (zK rfl one24 rfl qK rfl) ?_
       refine qW rfl (by decide) rfl rfl (zK rfl one3 rfl qK rfl) ?_
       refine qW rfl (by decide) rfl rfl (zK rfl one3 rfl qK rfl) ?_
       refine qW rfl (by decide) rfl rfl (qL rfl rfl rfl ⟨by omega, by omega⟩) ?_
       refine sq_op rfl rfl (by decide) rfl rfl (ope_call_own rfl ok60 (slices_Clone_ax d.Red (by omega)) ⟨VLe.refl _, rfl, trivial⟩) ?_
       rintro _ _ ⟨sv13, rfl, rfl⟩
       refine ⟨_, rfl, ?_⟩
       refine sq_nil rfl ?_
       refine qC rfl rfl (ope_call_vec 0 rfl rfl ok61 (slices_Delete_ax _ (d.Red.map Ax.cells) n (n + 1) (by omega) (by rw [List.length_map]; omega)) ⟨VLe.refl _, rfl, VLe.refl _, rfl, VLe.refl _, rfl, trivial⟩) ?_
       rintro _ _ ⟨sv14, rfl, rfl⟩
       refine zA rfl rfl (zJ rfl fd35_3 rfl) ?_
       refine zY rfl rfl (zU rfl sz24 rfl rfl rfl (qI 1 rfl rfl)) ?_
       refine zH ?_
       refine zE ?_
       refine zB rfl ?_
       rw [← List.map_take, ← List.map_drop, ← List.map_append]
       refine yN _ (yV 0 rfl (regs' := [(133, _)]) (μ' := [_, _, _, _, _, _, _]) ⟨FLe.sl, trivial⟩ ⟨EFle.row (ds := [_, _, _, _, _, _, _, _, _, _, _, _, _, _, _, _, _, _, _, _, _, _]) ⟨.inl rfl, .inl rfl, .inl rfl, .inl rfl, .inl rfl, .inl rfl, .inl rfl, .inr ⟨rfl, rfl⟩, .inl rfl, .inl rfl, .inl rfl, .inl rfl, .inl rfl, .inl rfl, .inl rfl, .inl rfl, .inl rfl, .inl rfl, .inl rfl, .inl rfl, .inl rfl, .inl rfl, trivial⟩, EFle.refl _, EFle.refl _, EFle.refl _, EFle.refl _, EFle.refl _, EFle.refl _, trivial⟩) ?_
       refine zA rfl rfl (zQ rfl yA rfl (zP 3 rfl) rfl) ?_
       refine zA rfl rfl (zJ rfl fd35_5 rfl) ?_
       refine zY rfl rfl (zU rfl sz33 rfl rfl rfl (qI 0 rfl rfl)) ?_
       refine zH ?_
       refine zE ?_
       refine zE ?_
       refine zB rfl ?_
       refine zA rfl rfl (zJ rfl fd35_3 rfl) ?_
       refine zA rfl rfl (zK rfl one24 rfl (zP 0 rfl) rfl) ?_
       refine zA rfl rfl (det_len_sl rfl el24 rfl) ?_
       refine zA rfl rfl (qJ rfl rfl rfl) ?_
       refine zH ?_
       refine zR rfl (fun c9 => ?_) (fun c9 => ?_)
       ·try simp only [sx, List.length_map] at c9
        refine zB rfl ?_
        refine zA rfl rfl (zJ rfl fd35_4 rfl) ?_
        refine zY rfl rfl (zU rfl sz3 rfl rfl rfl (qI 0 rfl rfl)) ?_
        refine zH ?_
        refine zE ?_
        refine zB rfl ?_
        refine zA rfl rfl (zQ rfl agg35 rfl (zP 0 rfl) rfl) ?_
        refine zA rfl rfl (zW rfl ok62 (delta_copied ⟨d.Name, d.T, d.Dims, d.Red.take n ++ d.Red.drop (n + 1), 0, nodeE 11 [insideE (gSel d n s (guardT d.Body).conds) (axA d.Red n).Size, w, argN d.Body 2]⟩ ⟨by omega, by have := rem_len d.Red n; dsimp only; omega, h3, fun a ha => h4 a (mem_rem ha), body_okC g3 hna (by omega) q3.2⟩) ⟨VLe.refl _, rfl, trivial⟩) ?_
        refine zY rfl rfl (zU rfl sz35 rfl rfl rfl (qI 6 rfl rfl)) ?_
        refine zA rfl rfl (zC rfl rfl) ?_
        refine zH ?_
        refine zS ?_
        repeat (first | refine zO ?_ | refine zM ?_)
        refine fin2 (qD agg35 rfl (zP 6 rfl) rfl) (rs_c rfl) ?_
        rw [hD, show outD d n _ w (argN d.Body 2) = _ from out_t c9]; rfl
       ·try simp only [sx, List.length_map] at c9
        refine zT ?_
        refine zE ?_
        refine zB rfl ?_
        refine zA rfl rfl (zQ rfl agg35 rfl (zP 0 rfl) rfl) ?_
        refine zA rfl rfl (zW rfl ok62 (delta_copied ⟨d.Name, d.T, d.Dims, d.Red.take n ++ d.Red.drop (n + 1), d.Fold, nodeE 11 [insideE (gSel d n s (guardT d.Body).conds) (axA d.Red n).Size, w, argN d.Body 2]⟩ ⟨by omega, by have := rem_len d.Red n; dsimp only; omega, h3, fun a ha => h4 a (mem_rem ha), body_okC g3 hna (by omega) q3.2⟩) ⟨VLe.refl _, rfl, trivial⟩) ?_
        refine zY rfl rfl (zU rfl sz35 rfl rfl rfl (qI 6 rfl rfl)) ?_
        refine zA rfl rfl (zC rfl rfl) ?_
        refine zH ?_
        refine zS ?_
        repeat (first | refine zO ?_ | refine zM ?_)
        refine fin2 (qD agg35 rfl (zP 6 rfl) rfl) (rs_c rfl) ?_
        rw [hD, show outD d n _ w (argN d.Body 2) = _ from out_f c9]; rfl

end Go.W
