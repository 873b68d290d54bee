/-
  Walks: what functions of the program compute. Printed by wip/gen/mk2.py.
  Conditions: none.
-/
import Derived.Test.YtnnkemdiknefaaaGreatDoorWG
import Derived.Test.YtnnkemdiknefaaaGreatDoorPlain
import Derived.Test.YtnnkemdiknefaaaGreatDoorEngZ
set_option linter.unusedSimpArgs false
set_option linter.unusedVariables false
namespace Go.W
open Go Go.Eng Go.Proofs Go.L41 Go.Br
attribute [local irreducible] AWP RWP TD
theorem agg35 : aggT Tryz.prog 35 = some 22 := by kernel_rfl
theorem el45 : elemT Tryz.prog 45 = some (35, 22, 272) := by kernel_rfl
theorem fd35_0 : fieldT Tryz.prog 35 0 = some (0, 9) := by kernel_rfl
theorem fd47_3 : fieldT Tryz.prog 47 3 = some (3, 45) := by kernel_rfl
theorem ok117 : callOk Tryz.prog 117 = true := by kernel_rfl
theorem one45 : oneT Tryz.prog 45 = true := by kernel_rfl
theorem program_copyForm (l : Lf) (hl : l.L.length ≤ 5864062014805) :
    Pur cfg 117 [vLin l] (vLin l) := by
 refine zZ Tryz.func117 rfl Tryz.ntmps117 Tryz.results117 rfl ?_
 intro z hz
 refine zE ?_
 refine zB rfl ?_
 refine qC rfl rfl (qN rfl rfl) ?_
 rintro _ _ ⟨b1, rfl, rfl⟩
 refine qC rfl rfl (qH [none, some 2] rfl zr29 rfl) ?_
 rintro _ _ ⟨b2, rfl, rfl⟩
 refine zH ?_
 refine zE ?_
 refine yG 6 mixed (by kernel_rfl) rfl rfl ?_
 refine zV rfl rfl (zJ rfl fd29_0 rfl) ?_
 refine zV rfl rfl (zK rfl one2 rfl (zP 1 rfl) rfl) ?_
 refine zV rfl rfl (zJ rfl yI rfl) ?_
 refine zV rfl rfl (zK rfl kH rfl (zP 1 rfl) rfl) ?_
 refine zV rfl rfl (zW rfl ok92 (OwnR.pur (slices_Clone_mono l.L hl)) ⟨VLe.refl _, rfl, trivial⟩) ?_
 refine zV rfl rfl (yE rfl zr29 pl29 rfl) ?_
 refine kB ?_
 refine zY rfl rfl (zU rfl sz29 rfl rfl rfl (qI 0 rfl rfl)) ?_
 refine zH ?_
 refine zS ?_
 repeat (first | refine zO ?_ | refine zM ?_)
 refine fin1 (qD yB rfl (zP 0 rfl) rfl) ?_
 exact rfl

theorem program_copyForms (l : List Lf) (hl : l.length ≤ 4294967296) (hx : ∀ x, x ∈ l → x.L.length ≤ 5864062014805) :
    OwnR cfg 118 [vLins l] 29 2 (l.map Lf.cells) := by
 refine zZ Tryz.func118 rfl Tryz.ntmps118 Tryz.results118 rfl ?_
 intro z hz
 have hl0 := hx
 clear hx
 refine zE ?_
 refine zB rfl ?_
 refine zA rfl rfl (yT 2 rfl rfl) ?_
 refine zH ?_
 refine zE ?_
 refine zB rfl ?_
 refine zA rfl rfl (zC rfl rfl) ?_
 refine yN _ (kI 29 2) ?_
 refine zH ?_
 refine zE ?_
 refine zE ?_
 refine zB rfl ?_
 refine zA rfl rfl (zF rfl rfl) ?_
 refine zA rfl rfl (qB rfl el104 rfl) ?_
 refine zA rfl rfl (zF rfl rfl) ?_
 refine zH ?_
 refine qA ?_
 refine qQ ⟨[(8, .c _), (3, .c _), (6, .c _), (7, .c _)], [_]⟩ (Weak.mk [true] ⟨VLe.of_eq rfl, VLe.of_eq rfl, VLe.of_eq rfl, VLe.of_eq rfl, trivial⟩ rfl) ?_
 refine qR 2 1 rfl rfl (Nat × Value) (fun ⟨k, sv⟩ => [(8, vI k), (3, .c (.lit sv))]) (fun ⟨k, sv⟩ => [E.vec sv 29 2 ((l.take k).map Lf.cells)]) (fun ⟨k, sv⟩ => k ≤ l.length) (fun ⟨k, sv⟩ => l.length - k) ⟨⟨0, (.slice none 0 0)⟩, (by omega), Weak.mk [true] ⟨VLe.refl _, VLe.refl _, VLe.refl _, VLe.refl _, trivial⟩ rfl⟩ ?_
 rintro ⟨k, sv⟩ hk
 show AWP _ _ _ _ _ ⟨[(8, vI k), (3, .c (.lit sv))] ++ _, [E.vec sv 29 2 ((l.take k).map Lf.cells)] ++ _⟩
 refine zE ?_
 refine zB rfl ?_
 refine zA rfl rfl (qS rfl rfl rfl) ?_
 refine zH ?_
 refine zE ?_
 refine zR rfl (fun c1 => ?_) (fun c1 => ?_)
 ·try simp only [sx, List.length_map] at c1
  obtain ⟨x, hx⟩ := yL l k (by omega)
  refine zT ?_
  refine zE ?_
  refine qA ?_
  refine zE ?_
  refine zB rfl ?_
  refine zA rfl rfl (zX rfl el104 rfl rfl (by omega) (getm (by assumption))) ?_
  refine zA rfl rfl (zQ rfl yB rfl qK rfl) ?_
  refine qC rfl rfl (qH [none, some 2] rfl zr29 rfl) ?_
  rintro _ _ ⟨b2, rfl, rfl⟩
  refine zY rfl rfl (zU rfl sz29 rfl rfl rfl (qI 0 rfl rfl)) ?_
  refine zH ?_
  refine zB rfl ?_
  refine zA rfl rfl (zF rfl rfl) ?_
  refine zA rfl rfl (zQ rfl yB rfl (zP 0 rfl) rfl) ?_
  refine zA rfl rfl (zW rfl ok117 (program_copyForm _ (hl0 _ (qF hx))) ⟨VLe.refl _, rfl, trivial⟩) ?_
  refine zA rfl rfl (yF rfl el104 zr29 rfl rfl rfl rfl) ?_
  refine qC rfl rfl (yO 1 rfl el104 rfl rfl rfl (by first | omega | (simp only [List.length_take, List.length_map, List.length_append, List.length_nil, List.length_cons]; omega)) (by first | omega | (simp only [List.length_take, List.length_map, List.length_append, List.length_nil, List.length_cons]; omega))) ?_
  rintro _ _ ⟨sv3, rfl, rfl⟩
  refine zA rfl rfl (zC rfl rfl) ?_
  refine zH ?_
  refine zB rfl ?_
  refine zA rfl rfl (qL rfl rfl rfl ⟨by omega, by omega⟩) ?_
  refine zA rfl rfl (zF rfl rfl) ?_
  refine zH ?_
  refine ⟨⟨k + 1, sv3⟩, (by omega), (by show l.length - (k + 1) < l.length - k; omega), Weak.mk [false, true] ⟨VLe.refl _, VLe.refl _, VLe.refl _, VLe.refl _, trivial⟩ (by show _ = [E.vec sv3 _ 2 ((l.take (k + 1)).map Lf.cells)] ++ _; rw [yY hx, List.map_append]; rfl)⟩
 ·try simp only [sx, List.length_map] at c1
  refine qU ?_
  refine zE ?_
  refine zB rfl ?_
  refine zA rfl rfl (zF rfl rfl) ?_
  refine zA rfl rfl (zC rfl rfl) ?_
  refine zH ?_
  refine zS ?_
  repeat (first | refine zO ?_ | refine zM ?_)
  refine fin1 (rs_c rfl) ?_
  exact ⟨_, rfl, by rw [kJ (by omega)]; rfl⟩

end Go.W
