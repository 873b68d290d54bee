/-
  Walks: what functions of the program compute. Printed by wip/gen/mk2.py.
  Conditions: none.
-/
import Derived.Test.YtnnkemdiknefaaaGreatDoorVF
import Derived.Test.YtnnkemdiknefaaaGreatDoorPlain2
import Derived.Test.YtnnkemdiknefaaaGreatDoorEngZ
import Derived.Test.YtnnkemdiknefaaaGreatDoorWI
set_option linter.unusedSimpArgs false
set_option linter.unusedVariables false
namespace Go.W
open Go Go.Eng Go.Proofs Go.L41 Go.Br
attribute [local irreducible] AWP RWP TD
theorem ok48 : callOk Tryz.prog 48 = true := by kernel_rfl
theorem ok52 : callOk Tryz.prog 52 = true := by kernel_rfl
theorem ok57 : callOk Tryz.prog 57 = true := by kernel_rfl
theorem ok116 : callOk Tryz.prog 116 = true := by kernel_rfl
theorem ok119 : callOk Tryz.prog 119 = true := by kernel_rfl
theorem ok126 : callOk Tryz.prog 126 = true := by kernel_rfl
theorem ok127 : callOk Tryz.prog 127 = true := by kernel_rfl
theorem ok191 : callOk Tryz.prog 191 = true := by kernel_rfl
theorem pl111 : placesT Tryz.prog 111 = some [(0, 2), (2, 1)] := by kernel_rfl
theorem sz24 : (Tryz.prog.info? 24).map (·.size) = some 1 := by kernel_rfl
theorem sz43 : (Tryz.prog.info? 43).map (·.size) = some 1 := by kernel_rfl
theorem sz44 : (Tryz.prog.info? 44).map (·.size) = some 1 := by kernel_rfl
theorem slices_Delete_ax_at (rows : List (List C)) (g cap i j : Nat) (hij : i < j) (hj : j ≤ rows.length) (hcap : rows.length ≤ cap) (hcm : cap ≤ maxLen) :
    Con cfg 61 ([] ++ .c (.lit (.slice (some ⟨g, 0, none⟩) rows.length cap)) :: [vI i, vI j]) [.vec (.slice (some ⟨g, 0, none⟩) rows.length cap) 88 3 rows] fun r μ' => ∃ sv', r = .c (.lit sv') ∧ μ' = [.vec sv' 88 3 (rows.take i ++ rows.drop j)] := by
 refine zZ Tryz.func61 rfl Tryz.ntmps61 Tryz.results61 rfl ?_
 intro z hz
 have hml : maxLen = 9223372036854775807 := rfl
 have hlr : (rows.take i ++ rows.drop j).length = i + (rows.length - j) := by rw [List.length_append, List.length_take, List.length_drop]; omega
 refine zE ?_
 refine zB rfl ?_
 refine zA rfl rfl (yT 3 rfl rfl) ?_
 refine zH ?_
 refine zE ?_
 refine zB rfl ?_
 refine zA rfl rfl (zF rfl rfl) ?_
 refine zA rfl rfl (zF rfl rfl) ?_
 refine zA rfl rfl (zF rfl rfl) ?_
 refine zA rfl rfl (zF rfl rfl) ?_
 refine zA rfl rfl (det_len_vec 0 rfl el24 rfl rfl) ?_
 refine zA rfl rfl (det_cut3_un i j rows.length rfl el24 rfl rfl rfl rfl (by omega) (by omega) hcap) ?_
 refine zH ?_
 refine zE ?_
 refine zE ?_
 refine zB rfl ?_
 refine zA rfl rfl (zF rfl rfl) ?_
 refine zA rfl rfl (zF rfl rfl) ?_
 refine zA rfl rfl (qJ rfl rfl rfl) ?_
 refine zH ?_
 refine zR rfl (fun c1 => ?_) (fun c1 => ?_)
 ·try simp only [sx, List.length_map] at c1
  exact absurd c1 (by omega)
 ·try simp only [sx, List.length_map] at c1
  refine zT ?_
  refine zE ?_
  refine zB rfl ?_
  refine zA rfl rfl (zF rfl rfl) ?_
  refine zA rfl rfl (det_len_vec 0 rfl el24 rfl rfl) ?_
  refine zA rfl rfl (zC rfl rfl) ?_
  refine zH ?_
  refine zE ?_
  refine yG 6 mixed (by kernel_rfl) rfl rfl ?_
  refine zV rfl rfl (zF rfl rfl) ?_
  refine zV rfl rfl (zF rfl rfl) ?_
  refine zV rfl rfl (det_cut_lit 0 i rfl el24 rfl rfl ⟨.i64, _, rfl, rfl⟩ (by omega) (by omega)) ?_
  refine zV rfl rfl (zF rfl rfl) ?_
  refine zV rfl rfl (zF rfl rfl) ?_
  refine zV rfl rfl (det_cut_lit j rows.length rfl el24 rfl ⟨.i64, _, rfl, rfl⟩ rfl (by omega) (by omega)) ?_
  refine kB ?_
  refine zA rfl rfl (det_append_self 0 rfl el24 (by exact congrArg (fun z => V.c (.lit (.slice (some z) (i - 0) (cap - 0)))) (ite_self _)) rfl rfl rfl (by omega) (by omega) hcap (by omega)) ?_
  refine zA rfl rfl (zC rfl rfl) ?_
  refine zH ?_
  refine zE ?_
  refine zB rfl ?_
  refine zA rfl rfl (zF rfl rfl) ?_
  refine zA rfl rfl (zF rfl rfl) ?_
  refine zA rfl rfl (det_len_vec 0 rfl el24 rfl rfl) ?_
  refine zA rfl rfl (zF rfl rfl) ?_
  refine zA rfl rfl (det_cut_lit (i + (rows.length - j)) rows.length rfl el24 rfl ⟨.i64, _, rfl, by simp only [List.length_append, List.length_take, List.length_drop]; omega⟩ ⟨.i64, _, rfl, rfl⟩ (by omega) (by omega)) ?_
  refine zY rfl rfl (det_clear_behind 0 rfl el24 zr88 rfl rfl hlr.symm (by omega) (by omega)) ?_
  refine zH ?_
  refine zE ?_
  refine zB rfl ?_
  refine zA rfl rfl (zF rfl rfl) ?_
  refine zA rfl rfl (zC rfl rfl) ?_
  refine zH ?_
  refine zS ?_
  repeat (first | refine zO ?_ | refine zM ?_)
  refine fin1 (rs_c rfl) ?_
  exact ⟨_, rfl, rfl⟩

theorem slices_Delete_ax (sv : Value) (rows : List (List C)) (i j : Nat) (hij : i < j) (hj : j ≤ rows.length) : Con cfg 61 [.c (.lit sv), vI i, vI j] [.vec sv 88 3 rows] fun r μ' => ∃ sv', r = .c (.lit sv') ∧ μ' = [.vec sv' 88 3 (rows.take i ++ rows.drop j)] :=
  Con.spell (xs := []) (ys := [vI i, vI j]) (φ := []) (by rintro rfl; simp at hj; omega) fun g cap h1 h2 _ => slices_Delete_ax_at rows g cap i j hij hj h1 h2

theorem slices_Clone_ax (l : List Ax) (hl : l.length ≤ 4294967296) :
    OwnR cfg 60 [.c (.sl 3 (l.map Ax.cells))] 88 3 (l.map Ax.cells) := by
 refine zZ Tryz.func60 rfl Tryz.ntmps60 Tryz.results60 rfl ?_
 intro z hz
 refine zE ?_
 refine zB rfl ?_
 refine zA rfl rfl (yT 3 rfl rfl) ?_
 refine zH ?_
 refine zE ?_
 refine zE ?_
 refine zB rfl ?_
 refine zA rfl rfl (zF rfl rfl) ?_
 refine qC rfl rfl (ope_nileq rfl el24 rfl rfl) ?_
 rintro _ _ ⟨nb1, rfl, hnil1, rfl⟩
 refine zH ?_
 refine zR rfl (fun c1 => ?_) (fun c1 => ?_)
 ·try simp only [sx, List.length_map] at c1
  refine zE ?_
  refine zB rfl ?_
  refine zA rfl rfl (zC rfl rfl) ?_
  refine yN _ (kI 88 3) ?_
  refine zH ?_
  refine zS ?_
  repeat (first | refine zO ?_ | refine zM ?_)
  refine fin1 (rs_c rfl) ?_
  exact ⟨_, rfl, by rw [hnil1 c1]⟩
 ·try simp only [sx, List.length_map] at c1
  refine zT ?_
  refine zE ?_
  refine zB rfl ?_
  refine qC rfl rfl (ope_bslice rfl el24 zr88 rfl rfl rfl rfl) ?_
  rintro _ _ ⟨sv3, rfl, rfl⟩
  refine zA rfl rfl (zF rfl rfl) ?_
  refine qC rfl rfl (yO 0 rfl el24 rfl rfl rfl (by simp only [List.length_map, List.length_nil, Nat.zero_add]; omega) (by simp only [List.length_map, List.length_nil, Nat.zero_add]; omega)) ?_
  rintro _ _ ⟨sv4, rfl, rfl⟩
  refine zA rfl rfl (zC rfl rfl) ?_
  refine zH ?_
  refine zS ?_
  repeat (first | refine zO ?_ | refine zM ?_)
  refine fin1 (rs_c rfl) ?_
  exact ⟨_, rfl, rfl⟩

theorem slices_Clone_str (l : List ByteArray) (hl : l.length ≤ 4294967296) :
    OwnR cfg 116 [.c (.sl 1 (l.map fun s => [cS s]))] 9 1 (l.map (fun s => [cS s])) := by
 refine zZ Tryz.func116 rfl Tryz.ntmps116 Tryz.results116 rfl ?_
 intro z hz
 refine zE ?_
 refine zB rfl ?_
 refine zA rfl rfl (yT 1 rfl rfl) ?_
 refine zH ?_
 refine zE ?_
 refine zE ?_
 refine zB rfl ?_
 refine zA rfl rfl (zF rfl rfl) ?_
 refine qC rfl rfl (ope_nileq rfl el42 rfl rfl) ?_
 rintro _ _ ⟨nb1, rfl, hnil1, rfl⟩
 refine zH ?_
 refine zR rfl (fun c1 => ?_) (fun c1 => ?_)
 ·try simp only [sx, List.length_map] at c1
  refine zE ?_
  refine zB rfl ?_
  refine zA rfl rfl (zC rfl rfl) ?_
  refine yN _ (kI 9 1) ?_
  refine zH ?_
  refine zS ?_
  repeat (first | refine zO ?_ | refine zM ?_)
  refine fin1 (rs_c rfl) ?_
  exact ⟨_, rfl, by rw [hnil1 c1]⟩
 ·try simp only [sx, List.length_map] at c1
  refine zT ?_
  refine zE ?_
  refine zB rfl ?_
  refine qC rfl rfl (ope_bslice rfl el42 zr9 rfl rfl rfl rfl) ?_
  rintro _ _ ⟨sv3, rfl, rfl⟩
  refine zA rfl rfl (zF rfl rfl) ?_
  refine qC rfl rfl (yO 0 rfl el42 rfl rfl rfl (by simp only [List.length_map, List.length_nil, Nat.zero_add]; omega) (by simp only [List.length_map, List.length_nil, Nat.zero_add]; omega)) ?_
  rintro _ _ ⟨sv4, rfl, rfl⟩
  refine zA rfl rfl (zC rfl rfl) ?_
  refine zH ?_
  refine zS ?_
  repeat (first | refine zO ?_ | refine zM ?_)
  refine fin1 (rs_c rfl) ?_
  exact ⟨_, rfl, rfl⟩

theorem program_copyAxes (l : List Ax) (hl : l.length ≤ 4294967296) (hx0 : ∀ x, x ∈ l → x.Size.L.length ≤ 5864062014805) :
    OwnR cfg 119 [.c (.sl 3 (l.map Ax.cells))] 88 3 (l.map Ax.cells) := by
 refine zZ Tryz.func119 rfl Tryz.ntmps119 Tryz.results119 rfl ?_
 intro z hz
 refine zE ?_
 refine zB rfl ?_
 refine zA rfl rfl (yT 3 rfl rfl) ?_
 refine zH ?_
 refine zE ?_
 refine zB rfl ?_
 refine zA rfl rfl (zC rfl rfl) ?_
 refine yN _ (kI 88 3) ?_
 refine zH ?_
 refine zE ?_
 refine zE ?_
 refine zB rfl ?_
 refine zA rfl rfl (zF rfl rfl) ?_
 refine zA rfl rfl (qB rfl el24 rfl) ?_
 refine zA rfl rfl (zF rfl rfl) ?_
 refine zH ?_
 refine qA ?_
 refine qQ ⟨[(8, .c _), (3, .c _), (6, .c _), (7, .c _)], [_]⟩ (Weak.mk [true] ⟨VLe.of_eq rfl, VLe.of_eq rfl, VLe.of_eq rfl, VLe.of_eq rfl, trivial⟩ rfl) ?_
 refine qR 2 1 rfl rfl (Nat × Value) (fun ⟨k, sv⟩ => [(8, vI k), (3, .c (.lit sv))]) (fun ⟨k, sv⟩ => [E.vec sv 88 3 ((l.take k).map Ax.cells)]) (fun ⟨k, sv⟩ => k ≤ l.length) (fun ⟨k, sv⟩ => l.length - k) ⟨⟨0, (.slice none 0 0)⟩, (by omega), Weak.mk [true] ⟨VLe.refl _, VLe.refl _, VLe.refl _, VLe.refl _, trivial⟩ rfl⟩ ?_
 rintro ⟨k, sv⟩ hk
 show AWP _ _ _ _ _ ⟨[(8, vI k), (3, .c (.lit sv))] ++ _, [E.vec sv 88 3 ((l.take k).map Ax.cells)] ++ _⟩
 refine zE ?_
 refine zB rfl ?_
 refine zA rfl rfl (qS rfl rfl rfl) ?_
 refine zH ?_
 refine zE ?_
 refine zR rfl (fun c1 => ?_) (fun c1 => ?_)
 ·try simp only [sx, List.length_map] at c1
  obtain ⟨x, hx⟩ := yL l k (by omega)
  refine zT ?_
  refine zE ?_
  refine qA ?_
  refine zE ?_
  refine zB rfl ?_
  refine zA rfl rfl (zX rfl el24 rfl rfl (by omega) (getm (by assumption))) ?_
  refine zA rfl rfl (zQ rfl agg88 rfl qK rfl) ?_
  refine qC rfl rfl (qH [none, none, some 2] rfl zr88 rfl) ?_
  rintro _ _ ⟨b2, rfl, rfl⟩
  refine zY rfl rfl (zU rfl sz88 rfl rfl rfl (qI 0 rfl rfl)) ?_
  refine zH ?_
  refine yG 8 mixed (by kernel_rfl) rfl rfl ?_
  refine zV rfl rfl (zF rfl rfl) ?_
  refine zV rfl rfl (zJ rfl fd88_0 rfl) ?_
  refine zV rfl rfl (zK rfl one9 rfl (zP 0 rfl) rfl) ?_
  refine zV rfl rfl (zJ rfl fd88_1 rfl) ?_
  refine zV rfl rfl (zQ rfl yB rfl (zP 0 rfl) rfl) ?_
  refine zV rfl rfl (zW rfl ok117 (program_copyForm _ (hx0 _ (qF hx))) ⟨VLe.refl _, rfl, trivial⟩) ?_
  refine zV rfl rfl (yE rfl zr88 pl88 rfl) ?_
  refine zV rfl rfl (yF rfl el24 zr88 rfl rfl rfl rfl) ?_
  refine kB ?_
  refine qC rfl rfl (yO 1 rfl el24 rfl rfl rfl (by first | omega | (simp only [List.length_take, List.length_map, List.length_append, List.length_nil, List.length_cons]; omega)) (by first | omega | (simp only [List.length_take, List.length_map, List.length_append, List.length_nil, List.length_cons]; omega))) ?_
  rintro _ _ ⟨sv3, rfl, rfl⟩
  refine zA rfl rfl (zC rfl rfl) ?_
  refine zH ?_
  refine zB rfl ?_
  refine zA rfl rfl (qL rfl rfl rfl ⟨by omega, by omega⟩) ?_
  refine zA rfl rfl (zF rfl rfl) ?_
  refine zH ?_
  refine ⟨⟨k + 1, sv3⟩, (by omega), (by show l.length - (k + 1) < l.length - k; omega), Weak.mk [false, true] ⟨VLe.refl _, VLe.refl _, VLe.refl _, VLe.refl _, trivial⟩ (by exact mem1_eq (by rw [yY hx, List.map_append]; rfl))⟩
 ·try simp only [sx, List.length_map] at c1
  refine qU ?_
  refine zE ?_
  refine zB rfl ?_
  refine zA rfl rfl (zF rfl rfl) ?_
  refine zA rfl rfl (zC rfl rfl) ?_
  refine zH ?_
  refine zS ?_
  repeat (first | refine zO ?_ | refine zM ?_)
  refine fin1 (rs_c rfl) ?_
  exact ⟨_, rfl, by rw [kJ (by omega)]; rfl⟩

theorem program_Copy (p : Pg) (hP : p.OkC) :
    Pur cfg 48 [vPg p] (vPg p) := by
 refine zZ Tryz.func48 rfl Tryz.ntmps48 Tryz.results48 rfl ?_
 intro z hz
 have hP1 := hP.wh
 have hP2 := hP.params
 have hP3 := hP.defs
 refine zE ?_
 refine zB rfl ?_
 refine qC rfl rfl (qN rfl rfl) ?_
 rintro _ _ ⟨b1, rfl, rfl⟩
 refine qC rfl rfl (qH [some 1, some 3, some 7, some 22, some 1] rfl zr47 rfl) ?_
 rintro _ _ ⟨b2, rfl, rfl⟩
 refine zH ?_
 refine zE ?_
 refine awp_draw_c 8 1 [⟨0, .q []⟩, ⟨1, .q [2]⟩, ⟨2, .q []⟩, ⟨3, .q []⟩, ⟨4, .q [2]⟩, ⟨5, .q []⟩, ⟨6, .q []⟩, ⟨7, .f 0⟩] mixed (by kernel_rfl) (by kernel_rfl) rfl rfl rfl ?_
 refine qP rfl ?_
 refine qP rfl ?_
 refine qP rfl ?_
 refine qP rfl ?_
 refine qP rfl ?_
 refine qP rfl ?_
 refine qP rfl ?_
 refine fx_fresh rfl rfl (fresh_alloc' (kK rfl zr47)) ?_
 refine fx_nil ?_
 refine qW rfl (by decide) rfl rfl (zJ rfl fd47_0 rfl) ?_
 refine qW rfl (by decide) rfl rfl (zK rfl one42 rfl (zP 0 rfl) rfl) ?_
 refine qW rfl (by decide) rfl rfl (zW rfl ok116 (OwnR.pur (slices_Clone_str p.Sizes hP.sizes)) ⟨VLe.refl _, rfl, trivial⟩) ?_
 refine qW rfl (by decide) rfl rfl (zJ rfl fd47_4 rfl) ?_
 refine qW rfl (by decide) rfl rfl (zK rfl one42 rfl (zP 0 rfl) rfl) ?_
 refine qW rfl (by decide) rfl rfl (zW rfl ok116 (OwnR.pur (slices_Clone_str p.Outs hP.outs)) ⟨VLe.refl _, rfl, trivial⟩) ?_
 refine qW rfl (by decide) rfl rfl (yE rfl zr47 pl47 rfl) ?_
 refine sq_fresh rfl rfl ?_
 rintro _ _ ⟨b3, rfl, rfl⟩
 refine sq_nil rfl ?_
 refine zY rfl rfl (zU rfl sz47 rfl rfl rfl (qI 0 rfl rfl)) ?_
 refine zH ?_
 refine zE ?_
 refine zE ?_
 refine zB rfl ?_
 refine yN _ (kI 111 3) ?_
 refine yN _ (kI 106 7) ?_
 refine yN _ (kI 35 22) ?_
 refine zA rfl rfl (zJ rfl fd47_1 rfl) ?_
 refine zA rfl rfl (zK rfl one43 rfl (zP 5 rfl) rfl) ?_
 refine zA rfl rfl (qB rfl el43 rfl) ?_
 refine zA rfl rfl (zF rfl rfl) ?_
 refine zH ?_
 refine qA ?_
 refine qQ ⟨[(20, .c _), (1, .c _), (2, .c _), (3, .c _), (18, .c _), (19, .c _)], [_, _, _, _, _, _]⟩ (Weak.mk [true, true, true, true, true, true] ⟨VLe.of_eq rfl, VLe.of_eq rfl, VLe.of_eq rfl, VLe.of_eq rfl, VLe.of_eq rfl, VLe.of_eq rfl, trivial⟩ rfl) ?_
 refine qR 1 4 rfl rfl (Nat × Value) (fun ⟨k, sv⟩ => [(20, vI k)]) (fun ⟨k, sv⟩ => [E.vec (.slice none 0 0) 35 22 ([]), E.vec (.slice none 0 0) 106 7 ([]), E.vec sv 111 3 ((p.Where.take k).map Cn.cells), E.row b3 47 [.sl 1 (p.Sizes.map fun s => [cS s]), .lit sv, .lit (.slice none 0 0), .lit (.slice none 0 0), .sl 1 (p.Outs.map fun s => [cS s])]]) (fun ⟨k, sv⟩ => k ≤ p.Where.length) (fun ⟨k, sv⟩ => p.Where.length - k) ⟨⟨0, (.slice none 0 0)⟩, (by omega), Weak.mk [true, true, true, true, true, true] ⟨VLe.refl _, VLe.refl _, VLe.refl _, VLe.refl _, VLe.refl _, VLe.refl _, trivial⟩ rfl⟩ ?_
 rintro ⟨k, sv⟩ hk
 show AWP _ _ _ _ _ ⟨[(20, vI k)] ++ _, [E.vec (.slice none 0 0) 35 22 ([]), E.vec (.slice none 0 0) 106 7 ([]), E.vec sv 111 3 ((p.Where.take k).map Cn.cells), E.row b3 47 [.sl 1 (p.Sizes.map fun s => [cS s]), .lit sv, .lit (.slice none 0 0), .lit (.slice none 0 0), .sl 1 (p.Outs.map fun s => [cS s])]] ++ _⟩
 refine zE ?_
 refine zB rfl ?_
 refine zA rfl rfl (qS rfl rfl rfl) ?_
 refine zH ?_
 refine zE ?_
 refine zR rfl (fun c1 => ?_) (fun c1 => ?_)
 ·try simp only [sx, List.length_map] at c1
  obtain ⟨x, hx⟩ := yL p.Where k (by omega)
  refine zT ?_
  refine zE ?_
  refine qA ?_
  refine zE ?_
  refine zB rfl ?_
  refine zA rfl rfl (zX rfl el43 rfl rfl (by omega) (getm (by assumption))) ?_
  refine zA rfl rfl (zQ rfl agg111 rfl qK rfl) ?_
  refine qC rfl rfl (qH [none, some 2, none] rfl zr111 rfl) ?_
  rintro _ _ ⟨b4, rfl, rfl⟩
  refine zY rfl rfl (zU rfl sz111 rfl rfl rfl (qI 0 rfl rfl)) ?_
  refine zH ?_
  refine yG 9 mixed (by kernel_rfl) rfl rfl ?_
  refine zV rfl rfl (zJ rfl fd47_1 rfl) ?_
  refine zV rfl rfl (zK rfl one43 rfl (zP 4 rfl) rfl) ?_
  refine zV rfl rfl (zJ rfl fd111_0 rfl) ?_
  refine zV rfl rfl (zQ rfl yB rfl (zP 0 rfl) rfl) ?_
  refine zV rfl rfl (zW rfl ok117 (program_copyForm x.Lin (hP.whs x (qF hx))) ⟨VLe.refl _, rfl, trivial⟩) ?_
  refine zV rfl rfl (zJ rfl fd111_1 rfl) ?_
  refine zV rfl rfl (zK rfl one4 rfl (zP 0 rfl) rfl) ?_
  refine zV rfl rfl (yE rfl zr111 pl111 rfl) ?_
  refine zV rfl rfl (yF rfl el43 zr111 rfl rfl rfl rfl) ?_
  refine kB ?_
  refine qC rfl rfl (yO 3 rfl el43 rfl rfl rfl (by simp only [List.length_take, List.length_map, List.length_append, List.length_cons, List.length_nil]; omega) (by simp only [List.length_take, List.length_map, List.length_append, List.length_cons, List.length_nil]; omega)) ?_
  rintro _ _ ⟨sv5, rfl, rfl⟩
  refine zA rfl rfl (zJ rfl fd47_1 rfl) ?_
  refine zY rfl rfl (zU rfl sz43 rfl rfl rfl (qI 4 rfl rfl)) ?_
  refine zH ?_
  refine zB rfl ?_
  refine zA rfl rfl (qL rfl rfl rfl ⟨by omega, by omega⟩) ?_
  refine zA rfl rfl (zF rfl rfl) ?_
  refine zH ?_
  refine ⟨⟨k + 1, sv5⟩, (by omega), (by show p.Where.length - (k + 1) < p.Where.length - k; omega), Weak.mk [false, true, true, true, true, true, true] ⟨VLe.refl _, VLe.refl _, VLe.refl _, VLe.refl _, VLe.refl _, VLe.refl _, trivial⟩ (by exact mem4_eq (by rw [yY hx, List.map_append]; rfl))⟩
 ·try simp only [sx, List.length_map] at c1
  rw [kJ (l := p.Where) (k := k) (by omega)]
  refine qQ _ (yV 2 rfl (regs' := []) (μ' := [_, _, _, _, _]) trivial ⟨EFle.refl _, EFle.refl _, EFle.row (ds := [_, _, _, _, _]) ⟨.inl rfl, .inr ⟨rfl, rfl⟩, .inl rfl, .inl rfl, .inl rfl, trivial⟩, EFle.refl _, EFle.refl _, trivial⟩) ?_
  refine qU ?_
  refine zE ?_
  refine zE ?_
  refine zB rfl ?_
  refine zA rfl rfl (zJ rfl fd47_2 rfl) ?_
  refine zA rfl rfl (zK rfl one44 rfl (zP 4 rfl) rfl) ?_
  refine zA rfl rfl (qB rfl el44 rfl) ?_
  refine zA rfl rfl (zF rfl rfl) ?_
  refine zH ?_
  refine qA ?_
  refine qQ ⟨[(39, .c _), (1, .c _), (2, .c _), (3, .c _), (37, .c _), (38, .c _)], [_, _, _, _, _]⟩ (Weak.mk [true, true, true, true, true] ⟨VLe.of_eq rfl, VLe.of_eq rfl, VLe.of_eq rfl, VLe.of_eq rfl, VLe.of_eq rfl, VLe.of_eq rfl, trivial⟩ rfl) ?_
  refine qR 1 3 rfl rfl (Nat × Value) (fun ⟨k, sw⟩ => [(39, vI k)]) (fun ⟨k, sw⟩ => [E.vec (.slice none 0 0) 35 22 ([]), E.vec sw 106 7 ((p.Params.take k).map Pm.cells), E.row b3 47 [.sl 1 (p.Sizes.map fun s => [cS s]), .sl 3 (p.Where.map Cn.cells), .lit sw, .lit (.slice none 0 0), .sl 1 (p.Outs.map fun s => [cS s])]]) (fun ⟨k, sw⟩ => k ≤ p.Params.length) (fun ⟨k, sw⟩ => p.Params.length - k) ⟨⟨0, (.slice none 0 0)⟩, (by omega), Weak.mk [true, true, true, true, true] ⟨VLe.refl _, VLe.refl _, VLe.refl _, VLe.refl _, VLe.refl _, VLe.refl _, trivial⟩ rfl⟩ ?_
  rintro ⟨k, sw⟩ hk
  show AWP _ _ _ _ _ ⟨[(39, vI k)] ++ _, [E.vec (.slice none 0 0) 35 22 ([]), E.vec sw 106 7 ((p.Params.take k).map Pm.cells), E.row b3 47 [.sl 1 (p.Sizes.map fun s => [cS s]), .sl 3 (p.Where.map Cn.cells), .lit sw, .lit (.slice none 0 0), .sl 1 (p.Outs.map fun s => [cS s])]] ++ _⟩
  refine zE ?_
  refine zB rfl ?_
  refine zA rfl rfl (qS rfl rfl rfl) ?_
  refine zH ?_
  refine zE ?_
  refine zR rfl (fun c2 => ?_) (fun c2 => ?_)
  ·try simp only [sx, List.length_map] at c2
   obtain ⟨y, hy⟩ := yL p.Params k (by omega)
   refine zT ?_
   refine zE ?_
   refine qA ?_
   refine zE ?_
   refine zB rfl ?_
   refine zA rfl rfl (zX rfl el44 rfl rfl (by omega) (getm (by assumption))) ?_
   refine zA rfl rfl (zQ rfl agg106 rfl qK rfl) ?_
   refine qC rfl rfl (qH [none, none, none, none, none, none, some 2] rfl zr106 rfl) ?_
   rintro _ _ ⟨b6, rfl, rfl⟩
   refine zY rfl rfl (zU rfl sz106 rfl rfl rfl (qI 0 rfl rfl)) ?_
   refine zH ?_
   refine zE ?_
   refine zB rfl ?_
   refine zA rfl rfl (zJ rfl fd106_2 rfl) ?_
   refine zA rfl rfl (zK rfl one104 rfl (zP 0 rfl) rfl) ?_
   refine zA rfl rfl (zW rfl ok118 (OwnR.pur (program_copyForms y.Dims (hP.ps y (qF hy)).1 (hP.ps y (qF hy)).2)) ⟨VLe.refl _, rfl, trivial⟩) ?_
   refine zA rfl rfl (zJ rfl fd106_2 rfl) ?_
   refine zY rfl rfl (zU rfl sz104 rfl rfl rfl (qI 0 rfl rfl)) ?_
   refine zH ?_
   refine zB rfl ?_
   refine zA rfl rfl (zJ rfl fd47_2 rfl) ?_
   refine zA rfl rfl (zK rfl one44 rfl (zP 3 rfl) rfl) ?_
   refine zA rfl rfl (zQ rfl agg106 rfl (zP 0 rfl) rfl) ?_
   refine zA rfl rfl (yF rfl el44 zr106 rfl rfl rfl rfl) ?_
   refine qC rfl rfl (yO 2 rfl el44 rfl rfl rfl (by simp only [List.length_take, List.length_map, List.length_append, List.length_cons, List.length_nil]; omega) (by simp only [List.length_take, List.length_map, List.length_append, List.length_cons, List.length_nil]; omega)) ?_
   rintro _ _ ⟨sv7, rfl, rfl⟩
   refine zA rfl rfl (zJ rfl fd47_2 rfl) ?_
   refine zY rfl rfl (zU rfl sz44 rfl rfl rfl (qI 3 rfl rfl)) ?_
   refine zH ?_
   refine zB rfl ?_
   refine zA rfl rfl (qL rfl rfl rfl ⟨by omega, by omega⟩) ?_
   refine zA rfl rfl (zF rfl rfl) ?_
   refine zH ?_
   refine ⟨⟨k + 1, sv7⟩, (by omega), (by show p.Params.length - (k + 1) < p.Params.length - k; omega), Weak.mk [false, true, true, true, true, true] ⟨VLe.refl _, VLe.refl _, VLe.refl _, VLe.refl _, VLe.refl _, VLe.refl _, trivial⟩ (by exact mem3_eq (by rw [yY hy, List.map_append]; rfl))⟩
  ·try simp only [sx, List.length_map] at c2
   rw [kJ (l := p.Params) (k := k) (by omega)]
   refine qQ _ (yV 1 rfl (regs' := []) (μ' := [_, _, _, _]) trivial ⟨EFle.refl _, EFle.row (ds := [_, _, _, _, _]) ⟨.inl rfl, .inl rfl, .inr ⟨rfl, rfl⟩, .inl rfl, .inl rfl, trivial⟩, EFle.refl _, EFle.refl _, trivial⟩) ?_
   refine qU ?_
   refine zE ?_
   refine zE ?_
   refine zB rfl ?_
   refine zA rfl rfl (zJ rfl fd47_3 rfl) ?_
   refine zA rfl rfl (zK rfl one45 rfl (zP 3 rfl) rfl) ?_
   refine zA rfl rfl (qB rfl el45 rfl) ?_
   refine zA rfl rfl (zF rfl rfl) ?_
   refine zH ?_
   refine qA ?_
   refine qQ ⟨[(57, .c _), (2, .c _), (3, .c _), (55, .c _), (56, .c _)], [_, _, _]⟩ (Weak.mk [true, true, true, false] ⟨VLe.of_eq rfl, VLe.of_eq rfl, VLe.of_eq rfl, VLe.of_eq rfl, VLe.of_eq rfl, trivial⟩ rfl) ?_
   refine qR 1 2 rfl rfl (Nat × Value) (fun ⟨k, su⟩ => [(57, vI k)]) (fun ⟨k, su⟩ => [E.vec su 35 22 ((p.Defs.take k).map Df.cells), E.row b3 47 [.sl 1 (p.Sizes.map fun s => [cS s]), .sl 3 (p.Where.map Cn.cells), .sl 7 (p.Params.map Pm.cells), .lit su, .sl 1 (p.Outs.map fun s => [cS s])]]) (fun ⟨k, su⟩ => k ≤ p.Defs.length) (fun ⟨k, su⟩ => p.Defs.length - k) ⟨⟨0, (.slice none 0 0)⟩, (by omega), Weak.mk [true, true, true] ⟨VLe.refl _, VLe.refl _, VLe.refl _, VLe.refl _, VLe.refl _, trivial⟩ rfl⟩ ?_
   rintro ⟨k, su⟩ hk
   show AWP _ _ _ _ _ ⟨[(57, vI k)] ++ _, [E.vec su 35 22 ((p.Defs.take k).map Df.cells), E.row b3 47 [.sl 1 (p.Sizes.map fun s => [cS s]), .sl 3 (p.Where.map Cn.cells), .sl 7 (p.Params.map Pm.cells), .lit su, .sl 1 (p.Outs.map fun s => [cS s])]] ++ _⟩
   refine zE ?_
   refine zB rfl ?_
   refine zA rfl rfl (qS rfl rfl rfl) ?_
   refine zH ?_
   refine zE ?_
   refine zR rfl (fun c3 => ?_) (fun c3 => ?_)
   ·try simp only [sx, List.length_map] at c3
    obtain ⟨d, hd⟩ := yL p.Defs k (by omega)
    refine zT ?_
    refine zE ?_
    refine qA ?_
    refine zE ?_
    refine zB rfl ?_
    refine zA rfl rfl (zX rfl el45 rfl rfl (by omega) (getm (by assumption))) ?_
    refine zA rfl rfl (zQ rfl agg35 rfl qK rfl) ?_
    refine qC rfl rfl (qH [none, none, none, none, none, none, some 3, some 3, none, none, none, none, none, none, none, none, none, none, none, some 2, some 4, some 13] rfl zr35 rfl) ?_
    rintro _ _ ⟨b8, rfl, rfl⟩
    refine zY rfl rfl (zU rfl sz35 rfl rfl rfl (qI 0 rfl rfl)) ?_
    refine zH ?_
    refine zE ?_
    refine yG 10 mixed (by kernel_rfl) rfl rfl ?_
    refine zV rfl rfl (zJ rfl fd35_2 rfl) ?_
    refine zV rfl rfl (zK rfl one24 rfl (zP 0 rfl) rfl) ?_
    refine zV rfl rfl (zW rfl ok119 (OwnR.pur (program_copyAxes d.Dims (by have := (hP.ds d (qF hd)).1; omega) (hP.ds d (qF hd)).2.2.1)) ⟨VLe.refl _, rfl, trivial⟩) ?_
    refine zV rfl rfl (zJ rfl fd35_3 rfl) ?_
    refine zV rfl rfl (zK rfl one24 rfl (zP 0 rfl) rfl) ?_
    refine zV rfl rfl (zW rfl ok119 (OwnR.pur (program_copyAxes d.Red (by have := (hP.ds d (qF hd)).2.1; omega) (hP.ds d (qF hd)).2.2.2.1)) ⟨VLe.refl _, rfl, trivial⟩) ?_
    refine zV rfl rfl (zJ rfl fd35_5 rfl) ?_
    refine zV rfl rfl (zQ rfl yA rfl (zP 0 rfl) rfl) ?_
    refine zV rfl rfl (zW rfl ok31 (expr_CopyW d.Body (hP.ds d (qF hd)).2.2.2.2.1 (hP.ds d (qF hd)).2.2.2.2.2) ⟨VLe.refl _, rfl, trivial⟩) ?_
    refine zV rfl rfl (zJ rfl fd35_2 rfl) ?_
    refine kB ?_
    refine zY rfl rfl (zU rfl sz24 rfl rfl rfl (qI 0 rfl rfl)) ?_
    refine zA rfl rfl (zJ rfl fd35_3 rfl) ?_
    refine zY rfl rfl (zU rfl sz24 rfl rfl rfl (qI 0 rfl rfl)) ?_
    refine zA rfl rfl (zJ rfl fd35_5 rfl) ?_
    refine zY rfl rfl (zU rfl sz33 rfl rfl rfl (qI 0 rfl rfl)) ?_
    refine zH ?_
    refine zB rfl ?_
    refine zA rfl rfl (zJ rfl fd47_3 rfl) ?_
    refine zA rfl rfl (zK rfl one45 rfl (zP 2 rfl) rfl) ?_
    refine zA rfl rfl (zQ rfl agg35 rfl (zP 0 rfl) rfl) ?_
    refine zA rfl rfl (yF rfl el45 zr35 rfl rfl rfl rfl) ?_
    refine qC rfl rfl (yO 1 rfl el45 rfl rfl rfl (by simp only [List.length_take, List.length_map, List.length_append, List.length_cons, List.length_nil]; omega) (by simp only [List.length_take, List.length_map, List.length_append, List.length_cons, List.length_nil]; omega)) ?_
    rintro _ _ ⟨sv9, rfl, rfl⟩
    refine zA rfl rfl (zJ rfl fd47_3 rfl) ?_
    refine zY rfl rfl (zU rfl sz45 rfl rfl rfl (qI 2 rfl rfl)) ?_
    refine zH ?_
    refine zB rfl ?_
    refine zA rfl rfl (qL rfl rfl rfl ⟨by omega, by omega⟩) ?_
    refine zA rfl rfl (zF rfl rfl) ?_
    refine zH ?_
    refine ⟨⟨k + 1, sv9⟩, (by omega), (by show p.Defs.length - (k + 1) < p.Defs.length - k; omega), Weak.mk [false, true, true, true] ⟨VLe.refl _, VLe.refl _, VLe.refl _, VLe.refl _, VLe.refl _, trivial⟩ (by exact mem2_eq' (by rw [yY hd, List.map_append]; rfl))⟩
   ·try simp only [sx, List.length_map] at c3
    rw [kJ (l := p.Defs) (k := k) (by omega)]
    refine qQ _ (yV 0 rfl (regs' := []) (μ' := [_, _]) trivial ⟨EFle.row (ds := [_, _, _, _, _]) ⟨.inl rfl, .inl rfl, .inl rfl, .inr ⟨rfl, rfl⟩, .inl rfl, trivial⟩, EFle.refl _, trivial⟩) ?_
    refine qU ?_
    refine zE ?_
    refine zB rfl ?_
    refine zA rfl rfl (zQ rfl agg47 rfl (zP 0 rfl) rfl) ?_
    refine zY rfl rfl (zU rfl sz47 rfl rfl rfl (qI 1 rfl rfl)) ?_
    refine zH ?_
    refine zS ?_
    repeat (first | refine zO ?_ | refine zM ?_)
    refine fin1 (qD agg47 rfl (zP 1 rfl) rfl) ?_
    exact rfl

theorem delta_copied (d : Df) (hd : d.okC) :
    Pur cfg 62 [vDf d] (vDf d) := by
 refine zZ Tryz.func62 rfl Tryz.ntmps62 Tryz.results62 rfl ?_
 intro z hz
 refine zE ?_
 refine zB rfl ?_
 refine qC rfl rfl (qN rfl rfl) ?_
 rintro _ _ ⟨b1, rfl, rfl⟩
 refine qC rfl rfl (qH [none, none, none, none, none, none, some 3, some 3, none, none, none, none, none, none, none, none, none, none, none, some 2, some 4, some 13] rfl zr35 rfl) ?_
 rintro _ _ ⟨b2, rfl, rfl⟩
 refine zH ?_
 refine zE ?_
 refine zB rfl ?_
 refine zA rfl rfl (zQ rfl agg35 rfl (zP 1 rfl) rfl) ?_
 refine zA rfl rfl (yF rfl el45 zr35 rfl rfl rfl rfl) ?_
 refine zA rfl rfl (qO [some 1, some 3, some 7, none, some 1] rfl zr47 pl47 rfl rfl) ?_
 refine zA rfl rfl (zW rfl ok48 (program_Copy ⟨[], [], [], [d], []⟩ (one_ok hd)) ⟨VLe.refl _, rfl, trivial⟩) ?_
 refine zA rfl rfl (det_part_one rfl fd47_3 one45 rfl rfl) ?_
 refine zA rfl rfl (zX rfl el45 rfl rfl (by decide) rfl) ?_
 refine zA rfl rfl (zQ rfl agg35 rfl qK rfl) ?_
 refine zY rfl rfl (zU rfl sz35 rfl rfl rfl (qI 0 rfl rfl)) ?_
 refine zH ?_
 refine zS ?_
 repeat (first | refine zO ?_ | refine zM ?_)
 refine fin1 (qD agg35 rfl (zP 0 rfl) rfl) ?_
 exact rfl

theorem delta_node (op : Int) (l : List Ex) :
    Pur cfg 58 [vI op, vEs l] (vE (nodeE op l)) := by
 refine zZ Tryz.func58 rfl Tryz.ntmps58 Tryz.results58 rfl ?_
 intro z hz
 refine zE ?_
 refine zB rfl ?_
 refine qC rfl rfl (qH [none, none, none, none, none, none, none, none, none, none, some 2, some 4, some 13] rfl zr33 rfl) ?_
 rintro _ _ ⟨b1, rfl, rfl⟩
 refine zH ?_
 refine zE ?_
 refine zB rfl ?_
 refine zA rfl rfl (zF rfl rfl) ?_
 refine zA rfl rfl (zF rfl rfl) ?_
 refine zA rfl rfl (qO [none, none, none, none, none, none, none, none, none, none, some 2, some 4, none] rfl zr33 pl33 rfl rfl) ?_
 refine zY rfl rfl (zU rfl sz33 rfl rfl rfl (qI 0 rfl rfl)) ?_
 refine zH ?_
 refine zS ?_
 repeat (first | refine zO ?_ | refine zM ?_)
 refine fin1 (qD yA rfl (zP 0 rfl) rfl) ?_
 exact rfl

theorem delta_index (f : Lf) :
    Pur cfg 59 [vLin f] (vE (idxE f)) := by
 refine zZ Tryz.func59 rfl Tryz.ntmps59 Tryz.results59 rfl ?_
 intro z hz
 refine zE ?_
 refine zB rfl ?_
 refine qC rfl rfl (qN rfl rfl) ?_
 rintro _ _ ⟨b1, rfl, rfl⟩
 refine qC rfl rfl (qH [none, none, none, none, none, none, none, none, none, none, some 2, some 4, some 13] rfl zr33 rfl) ?_
 rintro _ _ ⟨b2, rfl, rfl⟩
 refine zH ?_
 refine zE ?_
 refine zB rfl ?_
 refine zA rfl rfl (zQ rfl yB rfl (zP 1 rfl) rfl) ?_
 refine zA rfl rfl (qO [none, none, none, none, none, none, none, none, none, none, none, some 4, some 13] rfl zr33 pl33 rfl rfl) ?_
 refine zY rfl rfl (zU rfl sz33 rfl rfl rfl (qI 0 rfl rfl)) ?_
 refine zH ?_
 refine zS ?_
 repeat (first | refine zO ?_ | refine zM ?_)
 refine fin1 (qD yA rfl (zP 0 rfl) rfl) ?_
 exact rfl

theorem ref22_binary (op : Int) (a b : Ex) :
    Pur cfg 191 [vI op, vE a, vE b] (vE (nodeE op [a, b])) := by
 refine zZ Tryz.func191 rfl Tryz.ntmps191 Tryz.results191 rfl ?_
 intro z hz
 refine zE ?_
 refine zB rfl ?_
 refine qC rfl rfl (qN rfl rfl) ?_
 rintro _ _ ⟨b1, rfl, rfl⟩
 refine qC rfl rfl (qN rfl rfl) ?_
 rintro _ _ ⟨b2, rfl, rfl⟩
 refine qC rfl rfl (qH [none, none, none, none, none, none, none, none, none, none, some 2, some 4, some 13] rfl zr33 rfl) ?_
 rintro _ _ ⟨b3, rfl, rfl⟩
 refine zH ?_
 refine zE ?_
 refine zB rfl ?_
 refine zA rfl rfl (zF rfl rfl) ?_
 refine zA rfl rfl (zQ rfl yA rfl (zP 2 rfl) rfl) ?_
 refine zA rfl rfl (zQ rfl yA rfl (zP 1 rfl) rfl) ?_
 refine zA rfl rfl (yF rfl el31 zr33 rfl rfl rfl rfl) ?_
 refine zA rfl rfl (qO [none, none, none, none, none, none, none, none, none, none, some 2, some 4, none] rfl zr33 pl33 rfl rfl) ?_
 refine zY rfl rfl (zU rfl sz33 rfl rfl rfl (qI 0 rfl rfl)) ?_
 refine zH ?_
 refine zS ?_
 repeat (first | refine zO ?_ | refine zM ?_)
 refine fin1 (qD yA rfl (zP 0 rfl) rfl) ?_
 exact (congrArg V.agg (node_two op a b)).symm

theorem ref22_inside (g n : Lf) :
    Pur cfg 132 [vLin g, vLin n] (vE (insideE g n)) := by
 refine zZ Tryz.func132 rfl Tryz.ntmps132 Tryz.results132 rfl ?_
 intro z hz
 refine zE ?_
 refine zB rfl ?_
 refine qC rfl rfl (qN rfl rfl) ?_
 rintro _ _ ⟨b1, rfl, rfl⟩
 refine qC rfl rfl (qN rfl rfl) ?_
 rintro _ _ ⟨b2, rfl, rfl⟩
 refine qC rfl rfl (qH [none, none, none, none, none, none, none, none, none, none, some 2, some 4, some 13] rfl zr33 rfl) ?_
 rintro _ _ ⟨b3, rfl, rfl⟩
 refine zH ?_
 refine zE ?_
 refine zB rfl ?_
 refine zA rfl rfl (yE rfl zr26 pl26 rfl) ?_
 refine zA rfl rfl (yE rfl zr23 pl23 rfl) ?_
 refine zA rfl rfl (qO [none, none, none, none, none, none, none, none, none, none, some 2, some 4, some 13] rfl zr33 pl33 rfl rfl) ?_
 refine qC rfl rfl (qH [none, none, none, none, none, none, none, none, none, none, some 2, some 4, some 13] rfl zr33 rfl) ?_
 rintro _ _ ⟨b4, rfl, rfl⟩
 refine zY rfl rfl (zU rfl sz33 rfl rfl rfl (qI 0 rfl rfl)) ?_
 refine zH ?_
 refine zE ?_
 refine zB rfl ?_
 refine zA rfl rfl (zQ rfl yB rfl (zP 3 rfl) rfl) ?_
 refine zA rfl rfl (qO [none, none, none, none, none, none, none, none, none, none, none, some 4, some 13] rfl zr33 pl33 rfl rfl) ?_
 refine qC rfl rfl (qH [none, none, none, none, none, none, none, none, none, none, some 2, some 4, some 13] rfl zr33 rfl) ?_
 rintro _ _ ⟨b5, rfl, rfl⟩
 refine zY rfl rfl (zU rfl sz33 rfl rfl rfl (qI 0 rfl rfl)) ?_
 refine zH ?_
 refine zE ?_
 refine yG 8 mixed (by kernel_rfl) rfl rfl ?_
 refine zV rfl rfl (zQ rfl yA rfl (zP 1 rfl) rfl) ?_
 refine zV rfl rfl (zQ rfl yA rfl (zP 0 rfl) rfl) ?_
 refine zV rfl rfl (zW rfl ok191 (ref22_binary 14 zeroE (idxE g)) ⟨VLe.refl _, rfl, VLe.refl _, rfl, VLe.refl _, rfl, trivial⟩) ?_
 refine zV rfl rfl (zQ rfl yA rfl (zP 0 rfl) rfl) ?_
 refine zV rfl rfl (zQ rfl yB rfl (zP 3 rfl) rfl) ?_
 refine zV rfl rfl (qO [none, none, none, none, none, none, none, none, none, none, none, some 4, some 13] rfl zr33 pl33 rfl rfl) ?_
 refine zV rfl rfl (zW rfl ok191 (ref22_binary 13 (idxE g) (idxE n)) ⟨VLe.refl _, rfl, VLe.refl _, rfl, VLe.refl _, rfl, trivial⟩) ?_
 refine zV rfl rfl (zW rfl ok191 (ref22_binary 16 (nodeE 14 [zeroE, idxE g]) (nodeE 13 [idxE g, idxE n])) ⟨VLe.refl _, rfl, VLe.refl _, rfl, VLe.refl _, rfl, trivial⟩) ?_
 refine kB ?_
 refine zY rfl rfl (zU rfl sz33 rfl rfl rfl (qI 2 rfl rfl)) ?_
 refine zH ?_
 refine zS ?_
 repeat (first | refine zO ?_ | refine zM ?_)
 refine fin1 (qD yA rfl (zP 2 rfl) rfl) ?_
 exact rfl

theorem slices_IndexFunc_ax (l : List Ax) (c : C) (p : Ax → Bool) (hl : l.length ≤ 4294967296) (hc : ∀ x, x ∈ l → FnPur cfg c [vAx x] (vB (p x))) :
    Pur cfg 52 [.c (.sl 3 (l.map Ax.cells)), .c c] (vI (idxOf p l)) := by
 refine zZ Tryz.func52 rfl Tryz.ntmps52 Tryz.results52 rfl ?_
 intro z hz
 refine zE ?_
 refine zB rfl ?_
 refine zA rfl rfl (zC rfl rfl) ?_
 refine zH ?_
 refine zE ?_
 refine zE ?_
 refine zB rfl ?_
 refine zA rfl rfl (zF rfl rfl) ?_
 refine zA rfl rfl (qB rfl el24 rfl) ?_
 refine zA rfl rfl (zF rfl rfl) ?_
 refine zH ?_
 refine qA ?_
 refine qQ ⟨[(8, .c _), (0, .c _), (1, .c _), (7, .c _)], []⟩ (Weak.mk [] ⟨VLe.of_eq rfl, VLe.of_eq rfl, VLe.of_eq rfl, VLe.of_eq rfl, trivial⟩ rfl) ?_
 refine qR 1 0 rfl rfl (Nat) (fun k => [(8, vI k)]) (fun k => []) (fun k => k ≤ l.length ∧ ((l.take k).any p = false)) (fun k => l.length - k) ⟨0, ⟨by omega, rfl⟩, Weak.mk [] ⟨VLe.refl _, VLe.refl _, VLe.refl _, VLe.refl _, trivial⟩ rfl⟩ ?_
 rintro k ⟨hk, hp⟩
 refine zE ?_
 refine zB rfl ?_
 refine zA rfl rfl (qS rfl rfl rfl) ?_
 refine zH ?_
 refine zE ?_
 refine zR rfl (fun c1 => ?_) (fun c1 => ?_)
 ·try simp only [sx, List.length_map] at c1
  obtain ⟨x, hx⟩ := yL l k (by omega)
  refine zT ?_
  refine zE ?_
  refine qA ?_
  refine zE ?_
  refine zB rfl ?_
  refine zA rfl rfl (zF rfl rfl) ?_
  refine zA rfl rfl (zC rfl rfl) ?_
  refine zH ?_
  refine zE ?_
  refine zB rfl ?_
  refine zA rfl rfl (zF rfl rfl) ?_
  refine zA rfl rfl (zF rfl rfl) ?_
  refine zA rfl rfl (zF rfl rfl) ?_
  refine zA rfl rfl (zX rfl el24 rfl rfl (by omega) (getm (by assumption))) ?_
  refine zA rfl rfl (zQ rfl agg88 rfl qK rfl) ?_
  refine zA rfl rfl (det_call_val rfl rfl (hc _ (qF hx)) ⟨VLe.refl _, rfl, trivial⟩) ?_
  refine zH ?_
  refine zR rfl (fun c2 => ?_) (fun c2 => ?_)
  ·try simp only [sx, List.length_map] at c2
   refine zE ?_
   refine zB rfl ?_
   refine zA rfl rfl (zF rfl rfl) ?_
   refine zA rfl rfl (zC rfl rfl) ?_
   refine zH ?_
   refine zS ?_
   repeat (first | refine zO ?_ | refine zM ?_)
   refine fin1 (rs_c rfl) ?_
   rw [idxOf_at hx c2 hp]
  ·try simp only [sx, List.length_map] at c2
   refine zT ?_
   refine zB rfl ?_
   refine zA rfl rfl (qL rfl rfl rfl ⟨by omega, by omega⟩) ?_
   refine zA rfl rfl (zF rfl rfl) ?_
   refine zH ?_
   refine ⟨k + 1, ⟨by omega, any_next hx hp c2⟩, (by omega), Weak.mk [] ⟨VLe.refl _, VLe.refl _, VLe.refl _, VLe.refl _, trivial⟩ rfl⟩
 ·try simp only [sx, List.length_map] at c1
  refine qU ?_
  refine zE ?_
  refine zB rfl ?_
  refine zA rfl rfl (zC rfl rfl) ?_
  refine zH ?_
  refine zS ?_
  repeat (first | refine zO ?_ | refine zM ?_)
  refine fin1 (rs_c rfl) ?_
  rw [idxOf_none (by rw [kJ (by omega)] at hp; exact hp)]

theorem slices_ContainsFunc_ax (l : List Ax) (c : C) (p : Ax → Bool) (hl : l.length ≤ 4294967296) (hc : ∀ x, x ∈ l → FnPur cfg c [vAx x] (vB (p x))) :
    Pur cfg 126 [.c (.sl 3 (l.map Ax.cells)), .c c] (vB (l.any p)) := by
 refine zZ Tryz.func126 rfl Tryz.ntmps126 Tryz.results126 rfl ?_
 intro z hz
 refine zE ?_
 refine zB rfl ?_
 refine zA rfl rfl (zC rfl rfl) ?_
 refine zH ?_
 refine zE ?_
 refine zB rfl ?_
 refine zA rfl rfl (zF rfl rfl) ?_
 refine zA rfl rfl (zF rfl rfl) ?_
 refine zA rfl rfl (zW rfl ok52 (slices_IndexFunc_ax l c p hl hc) ⟨VLe.refl _, rfl, VLe.refl _, rfl, trivial⟩) ?_
 refine zA rfl rfl (kR rfl rfl rfl) ?_
 refine zA rfl rfl (zC rfl rfl) ?_
 refine zH ?_
 refine zS ?_
 repeat (first | refine zO ?_ | refine zM ?_)
 refine fin1 (rs_c rfl) ?_
 rw [idxOf_any]

theorem delta_free_1 (a : Ax) (f : Lf) (hf : f.L.length ≤ 4294967296) :
    Pur cfg 127 [vAx a, .c (.iptr f.cells)] (vB (hasVar f.L a.Name)) := by
 refine zZ Tryz.func127 rfl Tryz.ntmps127 Tryz.results127 rfl ?_
 intro z hz
 refine zE ?_
 refine zB rfl ?_
 refine qC rfl rfl (qN rfl rfl) ?_
 rintro _ _ ⟨b1, rfl, rfl⟩
 refine zA rfl rfl (zC rfl rfl) ?_
 refine zH ?_
 refine zE ?_
 refine zB rfl ?_
 refine zA rfl rfl (zQ rfl yB rfl qK rfl) ?_
 refine zA rfl rfl (zJ rfl fd88_0 rfl) ?_
 refine zA rfl rfl (zK rfl one9 rfl (zP 0 rfl) rfl) ?_
 refine zA rfl rfl (zW rfl ok123 (delta_contains f a.Name (by omega)) ⟨VLe.refl _, rfl, VLe.refl _, rfl, trivial⟩) ?_
 refine zA rfl rfl (zC rfl rfl) ?_
 refine zH ?_
 refine zS ?_
 repeat (first | refine zO ?_ | refine zM ?_)
 refine fin1 (rs_c rfl) ?_
 exact rfl

theorem delta_free (f : Lf) (l : List Ax) (hf : f.L.length ≤ 4294967296) (hl : l.length ≤ 4294967296) :
    Pur cfg 57 [vLin f, .c (.sl 3 (l.map Ax.cells))] (vB (freeL f l)) := by
 refine zZ Tryz.func57 rfl Tryz.ntmps57 Tryz.results57 rfl ?_
 intro z hz
 refine zE ?_
 refine zB rfl ?_
 refine qC rfl rfl (qN rfl rfl) ?_
 rintro _ _ ⟨b1, rfl, rfl⟩
 refine zA rfl rfl (zC rfl rfl) ?_
 refine zH ?_
 refine zE ?_
 refine zB rfl ?_
 refine zA rfl rfl (zF rfl rfl) ?_
 refine yN _ (yP 0 rfl 2 _ PLe.ptr) ?_
 refine zA rfl rfl (det_func rfl rfl rfl rfl rfl) ?_
 refine zA rfl rfl (zW rfl ok126 (slices_ContainsFunc_ax l _ (fun a => hasVar f.L a.Name) hl (fun a _ => FnPur.of_pur (first := []) (cap := [.iptr f.cells]) ok127 (delta_free_1 a f hf))) ⟨VLe.refl _, rfl, VLe.refl _, rfl, trivial⟩) ?_
 refine zA rfl rfl (qY rfl rfl) ?_
 refine zA rfl rfl (zC rfl rfl) ?_
 refine zH ?_
 refine zS ?_
 repeat (first | refine zO ?_ | refine zM ?_)
 refine fin1 (rs_c rfl) ?_
 exact congrArg vB (free_any f l)

theorem delta_Def_1 (a : Ax) (s : ByteArray) :
    Pur cfg 53 [vAx a, .c (.iptr [cS s])] (vB (decide (a.Name = s))) := by
 refine zZ Tryz.func53 rfl Tryz.ntmps53 Tryz.results53 rfl ?_
 intro z hz
 refine zE ?_
 refine zB rfl ?_
 refine qC rfl rfl (qN rfl rfl) ?_
 rintro _ _ ⟨b1, rfl, rfl⟩
 refine zA rfl rfl (zC rfl rfl) ?_
 refine zH ?_
 refine zE ?_
 refine zB rfl ?_
 refine zA rfl rfl (zJ rfl fd88_0 rfl) ?_
 refine zA rfl rfl (zK rfl one9 rfl (zP 0 rfl) rfl) ?_
 refine zA rfl rfl (zK rfl one9 rfl qK rfl) ?_
 refine zA rfl rfl (yJ rfl rfl rfl) ?_
 refine zA rfl rfl (zC rfl rfl) ?_
 refine zH ?_
 refine zS ?_
 repeat (first | refine zO ?_ | refine zM ?_)
 refine fin1 (rs_c rfl) ?_
 exact rfl

theorem ref22_find (l : List Ax) (s : ByteArray) (hl : l.length ≤ 4294967296) :
    Pur cfg 63 [.c (.sl 3 (l.map Ax.cells)), vS s] (vI (axN s l)) := by
 refine zZ Tryz.func63 rfl Tryz.ntmps63 Tryz.results63 rfl ?_
 intro z hz
 refine zE ?_
 refine zB rfl ?_
 refine zA rfl rfl (zC rfl rfl) ?_
 refine zH ?_
 refine zE ?_
 refine zE ?_
 refine zB rfl ?_
 refine zA rfl rfl (zC rfl rfl) ?_
 refine zH ?_
 refine qA ?_
 refine qQ ⟨[(5, .c _), (0, .c _), (1, .c _)], []⟩ (Weak.mk [] ⟨VLe.of_eq rfl, VLe.of_eq rfl, VLe.of_eq rfl, trivial⟩ rfl) ?_
 refine qR 1 0 rfl rfl (Nat) (fun k => [(5, vI k)]) (fun k => []) (fun k => k ≤ l.length ∧ ((l.take k).any (fun a => decide (a.Name = s)) = false)) (fun k => l.length - k) ⟨0, ⟨by omega, rfl⟩, Weak.mk [] ⟨VLe.refl _, VLe.refl _, VLe.refl _, trivial⟩ rfl⟩ ?_
 rintro k ⟨hk, hp⟩
 refine zE ?_
 refine zE ?_
 refine zB rfl ?_
 refine zA rfl rfl (zF rfl rfl) ?_
 refine zA rfl rfl (zF rfl rfl) ?_
 refine zA rfl rfl (qB rfl el24 rfl) ?_
 refine zA rfl rfl (qS rfl rfl rfl) ?_
 refine zH ?_
 refine zR rfl (fun c1 => ?_) (fun c1 => ?_)
 ·try simp only [sx, List.length_map] at c1
  obtain ⟨x, hx⟩ := yL l k (by omega)
  refine zT ?_
  refine zE ?_
  refine qA ?_
  refine zE ?_
  refine zB rfl ?_
  refine zA rfl rfl (zF rfl rfl) ?_
  refine zA rfl rfl (zF rfl rfl) ?_
  refine zA rfl rfl (zX rfl el24 rfl rfl (by omega) (getm (by assumption))) ?_
  refine zA rfl rfl (qG rfl fd88_0 rfl) ?_
  refine zA rfl rfl (zK rfl one9 rfl qK rfl) ?_
  refine zA rfl rfl (zF rfl rfl) ?_
  refine zA rfl rfl (yJ rfl rfl rfl) ?_
  refine zH ?_
  refine zR rfl (fun c2 => ?_) (fun c2 => ?_)
  ·try simp only [sx, List.length_map] at c2
   refine zE ?_
   refine zB rfl ?_
   refine zA rfl rfl (zF rfl rfl) ?_
   refine zA rfl rfl (zC rfl rfl) ?_
   refine zH ?_
   refine zS ?_
   repeat (first | refine zO ?_ | refine zM ?_)
   refine fin1 (rs_c rfl) ?_
   rw [axN, idxOf_at hx (kG c2) hp]
  ·try simp only [sx, List.length_map] at c2
   refine zT ?_
   refine zB rfl ?_
   refine zA rfl rfl (zF rfl rfl) ?_
   refine zA rfl rfl (qL rfl rfl rfl ⟨by omega, by omega⟩) ?_
   refine zA rfl rfl (zC rfl rfl) ?_
   refine zH ?_
   refine ⟨k + 1, ⟨by omega, any_next hx hp (qZ c2)⟩, (by omega), Weak.mk [] ⟨VLe.refl _, VLe.refl _, VLe.refl _, trivial⟩ rfl⟩
 ·try simp only [sx, List.length_map] at c1
  refine qU ?_
  refine zE ?_
  refine zB rfl ?_
  refine zA rfl rfl (zC rfl rfl) ?_
  refine zH ?_
  refine zS ?_
  repeat (first | refine zO ?_ | refine zM ?_)
  refine fin1 (rs_c rfl) ?_
  rw [axN, idxOf_none (by rw [kJ (by omega)] at hp; exact hp)]

theorem delta_Def_2 (s : ByteArray) (d : Df) (n b : Nat) (g0 : Lf) (c : Ex) (hc : c.wt ≤ 4294967296) (hn : n < d.Red.length) (hr : d.Red.length ≤ 4294967296) :
    Con cfg 56 [vE c, .c (.iptr [cS s]), .c (.iptr d.cells), .c (.iptr [cI n]), .c (.lit (.pointer (some ⟨b, 0, none⟩)))] [E.row b 29 g0.cells] fun r μ' => r = vB (selB d n s c) ∧ μ' = [E.row b 29 (if selB d n s c = true then (solveT c s).1 else g0).cells] := by
 refine zZ Tryz.func56 rfl Tryz.ntmps56 Tryz.results56 rfl ?_
 intro z hz
 have hsl := solve_len c s
 refine zE ?_
 refine zB rfl ?_
 refine qC rfl rfl (qN rfl rfl) ?_
 rintro _ _ ⟨b1, rfl, rfl⟩
 refine zA rfl rfl (zC rfl rfl) ?_
 refine zH ?_
 refine zE ?_
 refine zB rfl ?_
 refine zA rfl rfl (zQ rfl yA rfl (zP 0 rfl) rfl) ?_
 refine zA rfl rfl (zK rfl one9 rfl qK rfl) ?_
 refine zA rfl rfl (zW rfl ok51 (delta_Solve c s hc) ⟨VLe.refl _, rfl, VLe.refl _, rfl, trivial⟩) ?_
 refine zA rfl rfl (qT rfl rfl) ?_
 refine zA rfl rfl (yH rfl rfl rfl) ?_
 refine zA rfl rfl (qX rfl rfl rfl) ?_
 refine qC rfl rfl (qH [none, some 2] rfl zr29 rfl) ?_
 rintro _ _ ⟨b2, rfl, rfl⟩
 refine zY rfl rfl (zU rfl sz29 rfl rfl rfl (qI 0 rfl rfl)) ?_
 refine zA rfl rfl (zC rfl rfl) ?_
 refine zH ?_
 refine zE ?_
 refine zE ?_
 refine yG 10 mixed (by kernel_rfl) rfl rfl ?_
 refine zV rfl rfl (zF rfl rfl) ?_
 refine zV rfl rfl (zF rfl rfl) ?_
 refine qE [] rfl rfl rfl rfl gv1 trivial (fun g2_1 => zQ rfl yB rfl (zP 0 rfl) rfl) rfl ?_
 refine qE [] rfl rfl rfl rfl gv1 trivial (fun g2_1 => qG rfl fd35_3 rfl) rfl ?_
 refine qE [(18, _)] rfl rfl rfl rfl gv1 ⟨rfl, rfl, trivial⟩ (fun g2_1 => zK rfl one24 rfl qK rfl) rfl ?_
 refine qE [] rfl rfl rfl rfl gv1 trivial (fun g2_1 => zK rfl one3 rfl qK rfl) rfl ?_
 refine qE [(20, _)] rfl rfl rfl rfl gv1 ⟨rfl, rfl, trivial⟩ (fun g2_1 => qL rfl rfl rfl ⟨by omega, by omega⟩) rfl ?_
 refine qE [(19, _), (21, _)] rfl rfl rfl rfl gv1 ⟨rfl, rfl, rfl, rfl, trivial⟩ (fun g2_1 => det_cut_drop (k := n + 1) rfl el24 rfl rfl (by omega)) rfl ?_
 refine qE [(17, _), (22, _)] rfl rfl rfl rfl gv1 ⟨rfl, rfl, rfl, rfl, trivial⟩ (fun g2_1 => zW rfl ok57 (delta_free (solveT c s).1 (d.Red.drop (n + 1)) (by omega) (by rw [List.length_drop]; omega)) ⟨VLe.refl _, rfl, VLe.refl _, rfl, trivial⟩) rfl ?_
 refine zV rfl rfl (qM rfl rfl rfl (fun h => h) rfl) ?_
 refine kB ?_
 refine zH ?_
 refine zR rfl (fun c1 => ?_) (fun c1 => ?_)
 ·try simp only [sx, List.length_map] at c1
  refine zE ?_
  refine zB rfl ?_
  refine zA rfl rfl (zQ rfl yB rfl (zP 0 rfl) rfl) ?_
  refine zY rfl rfl (zU rfl sz29 rfl rfl rfl (qI 2 rfl rfl)) ?_
  refine zH ?_
  refine zE ?_
  refine zB rfl ?_
  refine zA rfl rfl (zC rfl rfl) ?_
  refine zH ?_
  refine qQ _ (Weak.mem [false, false, true] rfl) ?_
  refine zS ?_
  repeat (first | refine zO ?_ | refine zM ?_)
  refine fin1 (rs_c rfl) ?_
  exact ⟨by rw [sel_t c1], by rw [if_pos (sel_t c1)]; rfl⟩
 ·try simp only [sx, List.length_map] at c1
  refine zT ?_
  refine zE ?_
  refine zB rfl ?_
  refine zA rfl rfl (zC rfl rfl) ?_
  refine zH ?_
  refine qQ _ (Weak.mem [false, false, true] rfl) ?_
  refine zS ?_
  repeat (first | refine zO ?_ | refine zM ?_)
  refine fin1 (rs_c rfl) ?_
  exact ⟨by rw [sel_f c1], by rw [if_neg (by rw [sel_f c1]; simp)]; rfl⟩

end Go.W
