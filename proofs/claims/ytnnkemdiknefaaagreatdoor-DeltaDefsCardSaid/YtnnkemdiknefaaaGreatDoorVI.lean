/-
  Walks: what functions of the program compute. Printed by wip/gen/mk2.py.
  Conditions: none.
-/
import Derived.Test.YtnnkemdiknefaaaGreatDoorVH
set_option linter.unusedSimpArgs false
set_option linter.unusedVariables false
namespace Go.W
open Go Go.Eng Go.Proofs Go.L41 Go.Br
attribute [local irreducible] AWP RWP TD
theorem ok12 : callOk Tryz.prog 12 = true := by kernel_rfl
theorem ok13 : callOk Tryz.prog 13 = true := by kernel_rfl
theorem ok14 : callOk Tryz.prog 14 = true := by kernel_rfl
theorem ok15 : callOk Tryz.prog 15 = true := by kernel_rfl
theorem ok63 : callOk Tryz.prog 63 = true := by kernel_rfl
theorem ok64 : callOk Tryz.prog 64 = true := by kernel_rfl
theorem ok65 : callOk Tryz.prog 65 = true := by kernel_rfl
theorem ok67 : callOk Tryz.prog 67 = true := by kernel_rfl
theorem ok132 : callOk Tryz.prog 132 = true := by kernel_rfl
theorem ref14_Validate_n3 (a b c : Ex) (h : (nodeE 11 [a, b, c]).wt ≤ 6000000000000) : Pur cfg 37 [.agg [cI 11, cS (bs []), cI 0, cI 0, cI 0, cI 0, cI 0, cI 0, cI 0, cI 0, .sl 2 [], .sl 4 [], .sl 13 [a.cs, b.cs, c.cs]]] (vI (validE (nodeE 11 [a, b, c]))) := by
  have k := ref14_Validate (nodeE 11 [a, b, c]) h
  rw [show vE (nodeE 11 [a, b, c]) = .agg [cI 11, cS (bs []), cI 0, cI 0, cI 0, cI 0, cI 0, cI 0, cI 0, cI 0, .sl 2 [], .sl 4 [], .sl 13 [a.cs, b.cs, c.cs]] from congrArg V.agg (node_three 11 a b c)] at k
  exact k
theorem row_eq {b : Nat} {t : TypeId} {cs cs' : List C} {μ : List E} (h : cs = cs') : E.row b t cs :: μ = [E.row b t cs'] ++ μ := by rw [h]; rfl
theorem df_node (nm : ByteArray) (t : Ty) (ds rs : List Ax) (f : Int) (a b c : Ex) : (⟨nm, t, ds, rs, f, nodeE 11 [a, b, c]⟩ : Df).cells = [cS nm, cI t.Kind, cI t.Bits, cI t.Frac, cI t.Round, cI t.Over, .sl 3 (ds.map Ax.cells), .sl 3 (rs.map Ax.cells), cI f, cI 11, cS (bs []), cI 0, cI 0, cI 0, cI 0, cI 0, cI 0, cI 0, cI 0, .sl 2 [], .sl 4 [], .sl 13 [a.cs, b.cs, c.cs]] := by
  rw [← Ex.cells_eq a, ← Ex.cells_eq b, ← Ex.cells_eq c]; rfl

theorem ref22_put (d : Df) (n : Nat) (l : List Ex) (c : Nat) (v : Ex) (g : Lf) (hn : n < d.Red.length) (hza : d.Body.Args[2]? = some (argN d.Body 2)) (hzw : (argN d.Body 2).wt ≤ 1000) (hq : ∀ x, x ∈ l → x.allF Lf.rng ∧ x.wt ≤ 1000) (hll : l.length ≤ 1000) (hv : v.allF Lf.rng ∧ v.wt ≤ 1000) (hg : g.rng) (hgl : g.L.length ≤ 1000) (h2 : d.Red.length ≤ 1000000) (h4 : ∀ a, a ∈ d.Red → a.Size.L.length ≤ 5864062014805) :
    Pur cfg 67 [vDf d, vI n, vEs l, vI c, vE v, vLin g] (.tup [vDf (rawR (putD d n (axA d.Red n).Name l c v g)).1, vB (rawR (putD d n (axA d.Red n).Name l c v g)).2]) := by
 refine zZ Tryz.func67 rfl Tryz.ntmps67 Tryz.results67 rfl ?_
 intro z hz
 have hna : (axA d.Red n).Size.L.length ≤ 5864062014805 := h4 _ (qF (axA_get hn))
 obtain ⟨hv1, hv2⟩ := hv
 have hw0 := SR_wt (s := (axA d.Red n).Name) hgl v
 have hw1 := Nat.mul_le_mul_left 1001 hv2
 refine zE ?_
 refine zB rfl ?_
 refine qC rfl rfl (qN rfl rfl) ?_
 rintro _ _ ⟨b1, rfl, rfl⟩
 refine qC rfl rfl (qN rfl rfl) ?_
 rintro _ _ ⟨b2, rfl, rfl⟩
 refine qC rfl rfl (qN rfl rfl) ?_
 rintro _ _ ⟨b3, rfl, rfl⟩
 refine qC rfl rfl (qH [none, none, none, none, none, none, some 3, some 3, none, none, none, none, none, none, none, none, none, none, none, some 2, some 4, some 13] rfl zr35 rfl) ?_
 rintro _ _ ⟨b4, rfl, rfl⟩
 refine zA rfl rfl (zC rfl rfl) ?_
 refine zH ?_
 refine zE ?_
 refine zB rfl ?_
 refine zA rfl rfl (zJ rfl fd35_5 rfl) ?_
 refine zA rfl rfl (zJ rfl kE rfl) ?_
 refine zA rfl rfl (zK rfl wC rfl (zP 3 rfl) rfl) ?_
 refine zA rfl rfl (zX rfl el31 rfl rfl (by omega) (getmE hza)) ?_
 refine zA rfl rfl (zQ rfl yA rfl qK rfl) ?_
 refine qC rfl rfl (qH [none, none, none, none, none, none, none, none, none, none, some 2, some 4, some 13] rfl zr33 rfl) ?_
 rintro _ _ ⟨b5, rfl, rfl⟩
 refine zY rfl rfl (zU rfl sz33 rfl rfl rfl (qI 0 rfl rfl)) ?_
 refine zH ?_
 refine zE ?_
 refine zB rfl ?_
 refine zA rfl rfl (zJ rfl fd35_3 rfl) ?_
 refine zA rfl rfl (zK rfl one24 rfl (zP 4 rfl) rfl) ?_
 refine zA rfl rfl (zF rfl rfl) ?_
 refine zA rfl rfl (zX rfl el24 rfl rfl (by omega) (getm (axA_get hn))) ?_
 refine zA rfl rfl (zQ rfl agg88 rfl qK rfl) ?_
 refine qC rfl rfl (qH [none, none, some 2] rfl zr88 rfl) ?_
 rintro _ _ ⟨b6, rfl, rfl⟩
 refine zY rfl rfl (zU rfl sz88 rfl rfl rfl (qI 0 rfl rfl)) ?_
 refine zH ?_
 refine zE ?_
 refine zB rfl ?_
 refine zA rfl rfl (zQ rfl yA rfl (zP 4 rfl) rfl) ?_
 refine zA rfl rfl (zJ rfl fd88_0 rfl) ?_
 refine zA rfl rfl (zK rfl one9 rfl (zP 0 rfl) rfl) ?_
 refine zA rfl rfl (zQ rfl yB rfl (zP 3 rfl) rfl) ?_
 refine zA rfl rfl (zW rfl ok25 (ref14_Substitute v (axA d.Red n).Name g (by omega) hg hv1 (by omega)) ⟨VLe.refl _, rfl, VLe.refl _, rfl, VLe.refl _, rfl, trivial⟩) ?_
 refine zA rfl rfl (qT rfl rfl) ?_
 refine zA rfl rfl (yH rfl rfl rfl) ?_
 refine zA rfl rfl (qX rfl rfl rfl) ?_
 refine qC rfl rfl (qH [none, none, none, none, none, none, none, none, none, none, some 2, some 4, some 13] rfl zr33 rfl) ?_
 rintro _ _ ⟨b7, rfl, rfl⟩
 refine zY rfl rfl (zU rfl sz33 rfl rfl rfl (qI 0 rfl rfl)) ?_
 refine zA rfl rfl (zC rfl rfl) ?_
 refine zH ?_
 refine zE ?_
 refine zE ?_
 refine zB rfl ?_
 refine zA rfl rfl (zF rfl rfl) ?_
 refine zA rfl rfl (qV rfl rfl rfl) ?_
 refine zH ?_
 refine zR rfl (fun c1 => ?_) (fun c1 => ?_)
 ·try simp only [sx, List.length_map] at c1
  refine zE ?_
  refine zB rfl ?_
  refine zA rfl rfl (qO [none, none, none, none, none, none, some 3, some 3, none, none, none, none, none, none, none, none, none, none, none, some 2, some 4, some 13] rfl zr35 pl35 rfl rfl) ?_
  refine zY rfl rfl (zU rfl sz35 rfl rfl rfl (qI 3 rfl rfl)) ?_
  refine zA rfl rfl (zC rfl rfl) ?_
  refine zH ?_
  refine zS ?_
  repeat (first | refine zO ?_ | refine zM ?_)
  refine fin2 (qD agg35 rfl (zP 3 rfl) rfl) (rs_c rfl) ?_
  rw [put_no c1]; rfl
 ·try simp only [sx, List.length_map] at c1
  have hC := put_on (d := d) (n := n) (l := l) (c := (c : Int)) c1
  refine zT ?_
  refine zE ?_
  refine zE ?_
  refine zB rfl ?_
  refine zA rfl rfl (zF rfl rfl) ?_
  refine zA rfl rfl (qB rfl el31 rfl) ?_
  refine zA rfl rfl (kA rfl rfl rfl ⟨by omega, by omega⟩) ?_
  refine zA rfl rfl (zC rfl rfl) ?_
  refine zH ?_
  refine qA ?_
  refine qQ ⟨[(18, .c _), (1, .c _), (2, .c _), (3, .c _), (6, .c _), (11, .c _), (12, .c _), (14, .c _), (15, .c _), (16, .c _)], [_, _, _, _, _, _]⟩ (Weak.mk [true, true, true, true, true, false, true] ⟨VLe.of_eq rfl, VLe.of_eq rfl, VLe.of_eq rfl, VLe.of_eq rfl, VLe.of_eq rfl, VLe.of_eq rfl, VLe.of_eq rfl, VLe.of_eq rfl, VLe.of_eq rfl, VLe.of_eq rfl, trivial⟩ rfl) ?_
  refine qR 1 1 rfl rfl (Nat × Ex) (fun ⟨k, w⟩ => [(18, vI ((k : Int) - 1))]) (fun ⟨k, w⟩ => [E.row b7 33 w.cs]) (fun ⟨k, w⟩ => k ≤ l.length ∧ putW (SR (axA d.Red n).Name g) l (c : Int) (zEnd d) l.length (outE (mEx (SR (axA d.Red n).Name g) v)) = putW (SR (axA d.Red n).Name g) l (c : Int) (zEnd d) k w ∧ w.wt ≤ 1002001 + 1003003 * (l.length - k)) (fun ⟨k, w⟩ => k) ⟨⟨l.length, (outE (mEx (SR (axA d.Red n).Name g) v))⟩, ⟨Nat.le_refl _, rfl, by omega⟩, Weak.mk [true, true, true, true, true, true] ⟨VLe.refl _, VLe.refl _, VLe.refl _, VLe.refl _, VLe.refl _, VLe.refl _, VLe.refl _, VLe.refl _, VLe.refl _, VLe.refl _, trivial⟩ rfl⟩ ?_
  rintro ⟨k, w⟩ ⟨hk, hp, hwt⟩
  show AWP _ _ _ _ _ ⟨[(18, vI ((k : Int) - 1))] ++ _, [E.row b7 33 w.cs] ++ _⟩
  refine zE ?_
  refine zE ?_
  refine zB rfl ?_
  refine zA rfl rfl (zF rfl rfl) ?_
  refine zA rfl rfl (kR rfl rfl rfl) ?_
  refine zH ?_
  refine zR rfl (fun c2 => ?_) (fun c2 => ?_)
  ·try simp only [sx, List.length_map] at c2
   obtain ⟨x, hx⟩ := yL l (k - 1) (by omega)
   have hx2 : l[((k : Int) - 1).toNat]? = some x := by rw [show ((k : Int) - 1).toNat = k - 1 by omega]; exact hx
   have hgx : getX l (k - 1) = x := Option.some.inj ((getX_get (by omega)).symm.trans hx)
   have hwx := SR_wt (s := (axA d.Red n).Name) hgl x
   have hwx1 := Nat.mul_le_mul_left 1001 (hq x (qF hx)).2
   refine zT ?_
   refine zE ?_
   refine qA ?_
   refine zE ?_
   refine zE ?_
   refine zB rfl ?_
   refine zA rfl rfl (zF rfl rfl) ?_
   refine zA rfl rfl (zF rfl rfl) ?_
   refine zA rfl rfl (qJ rfl rfl rfl) ?_
   refine zH ?_
   refine zR rfl (fun c3 => ?_) (fun c3 => ?_)
   ·try simp only [sx, List.length_map] at c3
    have hnx := hp.trans (putW_skip (by omega) c3)
    refine qU ?_
    refine zB rfl ?_
    refine zA rfl rfl (zF rfl rfl) ?_
    refine zA rfl rfl (kA rfl rfl rfl ⟨by omega, by omega⟩) ?_
    refine zA rfl rfl (zC rfl rfl) ?_
    refine zH ?_
    refine ⟨⟨k - 1, w⟩, ⟨by omega, hnx, by omega⟩, (by dsimp only; omega), Weak.mk [true, true, true, true, true, true] ⟨VLe.of_eq (congrArg vI (by omega)), VLe.refl _, VLe.refl _, VLe.refl _, VLe.refl _, VLe.refl _, VLe.refl _, VLe.refl _, VLe.refl _, VLe.refl _, trivial⟩ rfl⟩
   ·try simp only [sx, List.length_map] at c3
    refine zT ?_
    refine zE ?_
    refine awp_draw_c 13 1 [⟨0, .q []⟩, ⟨1, .q []⟩, ⟨2, .q []⟩, ⟨3, .q []⟩, ⟨4, .q []⟩, ⟨5, .q [2]⟩, ⟨6, .q [5]⟩, ⟨7, .q []⟩, ⟨8, .q []⟩, ⟨9, .q []⟩, ⟨10, .q []⟩, ⟨11, .e 0 []⟩, ⟨12, .e 0 []⟩] mixed (by kernel_rfl) (by kernel_rfl) rfl rfl rfl ?_
    refine qP rfl ?_
    refine qP rfl ?_
    refine qP rfl ?_
    refine qP rfl ?_
    refine qP rfl ?_
    refine qP rfl ?_
    refine qP rfl ?_
    refine qP rfl ?_
    refine qP rfl ?_
    refine qP rfl ?_
    refine qP rfl ?_
    refine qP rfl ?_
    refine qP rfl ?_
    refine fx_nil ?_
    refine qW rfl (by decide) rfl rfl (zF rfl rfl) ?_
    refine qW rfl (by decide) rfl rfl (zF rfl rfl) ?_
    refine qW rfl (by decide) rfl rfl (zX rfl el31 rfl rfl (by omega) (getmE hx2)) ?_
    refine qW rfl (by decide) rfl rfl (zQ rfl yA rfl qK rfl) ?_
    refine qW rfl (by decide) rfl rfl (zJ rfl fd88_0 rfl) ?_
    refine qW rfl (by decide) rfl rfl (zK rfl one9 rfl (zP 0 rfl) rfl) ?_
    refine qW rfl (by decide) rfl rfl (zQ rfl yB rfl (zP 0 rfl) rfl) ?_
    refine qW rfl (by decide) rfl rfl (zW rfl ok25 (ref14_Substitute x (axA d.Red n).Name g (by omega) hg (hq x (qF hx)).1 (by have := (hq x (qF hx)).2; omega)) ⟨VLe.refl _, rfl, VLe.refl _, rfl, VLe.refl _, rfl, trivial⟩) ?_
    refine qW rfl (by decide) rfl rfl (qT rfl rfl) ?_
    refine qW rfl (by decide) rfl rfl (yH rfl rfl rfl) ?_
    refine qW rfl (by decide) rfl rfl (qX rfl rfl rfl) ?_
    refine sq_op rfl rfl (by decide) rfl rfl (qH [none, none, none, none, none, none, none, none, none, none, some 2, some 4, some 13] rfl zr33 rfl) ?_
    rintro _ _ ⟨b8, rfl, rfl⟩
    refine ⟨_, rfl, ?_⟩
    refine sq_op0 rfl rfl (by decide) rfl rfl (zU rfl sz33 rfl rfl rfl (qI 0 rfl rfl)) ?_
    rintro _ _ ⟨rfl, rfl⟩
    refine ⟨_, rfl, ?_⟩
    refine sq_nil rfl ?_
    refine zA rfl rfl (zC rfl rfl) ?_
    refine zH ?_
    refine zE ?_
    refine zE ?_
    refine zB rfl ?_
    refine zA rfl rfl (zF rfl rfl) ?_
    refine zA rfl rfl (qV rfl rfl rfl) ?_
    refine zH ?_
    refine zR rfl (fun c4 => ?_) (fun c4 => ?_)
    ·try simp only [sx, List.length_map] at c4
     rw [hp, putW_no (by omega) c3 (by rw [hgx]; exact c4)] at hC
     have hC : putD d n (axA d.Red n).Name l (c : Int) v g = none := hC
     refine zE ?_
     refine zB rfl ?_
     refine zA rfl rfl (qO [none, none, none, none, none, none, some 3, some 3, none, none, none, none, none, none, none, none, none, none, none, some 2, some 4, some 13] rfl zr35 pl35 rfl rfl) ?_
     refine zY rfl rfl (zU rfl sz35 rfl rfl rfl (qI 4 rfl rfl)) ?_
     refine zA rfl rfl (zC rfl rfl) ?_
     refine zH ?_
     refine zS ?_
     repeat (first | refine zO ?_ | refine zM ?_)
     refine fin2 (qD agg35 rfl (zP 4 rfl) rfl) (rs_c rfl) ?_
     rw [hC]; rfl
    ·try simp only [sx, List.length_map] at c4
     have hnx := hp.trans (putW_yes (by omega) c3 (by rw [hgx]; exact c4))
     rw [hgx] at hnx
     refine zT ?_
     refine zB rfl ?_
     refine zA rfl rfl (zQ rfl yA rfl (zP 0 rfl) rfl) ?_
     refine zA rfl rfl (zQ rfl yA rfl (zP 1 rfl) rfl) ?_
     refine zA rfl rfl (zQ rfl yA rfl (zP 3 rfl) rfl) ?_
     refine zA rfl rfl (yF rfl el31 zr33 rfl rfl rfl rfl) ?_
     refine zA rfl rfl (qO [none, none, none, none, none, none, none, none, none, none, some 2, some 4, none] rfl zr33 pl33 rfl rfl) ?_
     refine zY rfl rfl (zU rfl sz33 rfl rfl rfl (qI 1 rfl rfl)) ?_
     refine zH ?_
     refine zB rfl ?_
     refine zA rfl rfl (zF rfl rfl) ?_
     refine zA rfl rfl (kA rfl rfl rfl ⟨by omega, by omega⟩) ?_
     refine zA rfl rfl (zC rfl rfl) ?_
     refine zH ?_
     refine ⟨⟨k - 1, nodeE 11 [outE (mEx (SR (axA d.Red n).Name g) x), w, (argN d.Body 2)]⟩, ⟨by omega, hnx, by rw [node3_wt]; omega⟩, (by dsimp only; omega), Weak.mk [false, true, true, true, true, true, true] ⟨VLe.of_eq (congrArg vI (by omega)), VLe.refl _, VLe.refl _, VLe.refl _, VLe.refl _, VLe.refl _, VLe.refl _, VLe.refl _, VLe.refl _, VLe.refl _, trivial⟩ (by exact row_eq (node_three 11 _ _ _).symm)⟩
  ·try simp only [sx, List.length_map] at c2
   rw [putW_end (k := k) (w := w) (by omega)] at hp
   rw [hp] at hC
   have hC : putD d n (axA d.Red n).Name l (c : Int) v g = some (outD d n g w (argN d.Body 2)) := hC
   have hlk : (1003003 : Nat) * (l.length - k) ≤ 1003003 * 1000 := Nat.mul_le_mul_left _ (by omega)
   refine qU ?_
   refine zE ?_
   refine zB rfl ?_
   refine zA rfl rfl (zQ rfl agg35 rfl (zP 5 rfl) rfl) ?_
   refine qC rfl rfl (qH [none, none, none, none, none, none, some 3, some 3, none, none, none, none, none, none, none, none, none, none, none, some 2, some 4, some 13] rfl zr35 rfl) ?_
   rintro _ _ ⟨b9, rfl, rfl⟩
   refine zY rfl rfl (zU rfl sz35 rfl rfl rfl (qI 0 rfl rfl)) ?_
   refine zH ?_
   refine zE ?_
   refine yG 9 mixed (by kernel_rfl) rfl rfl ?_
   refine zV rfl rfl (zQ rfl yB rfl (zP 5 rfl) rfl) ?_
   refine zV rfl rfl (zJ rfl fd88_1 rfl) ?_
   refine zV rfl rfl (zQ rfl yB rfl (zP 2 rfl) rfl) ?_
   refine zV rfl rfl (zW rfl ok132 (ref22_inside g (axA d.Red n).Size) ⟨VLe.refl _, rfl, VLe.refl _, rfl, trivial⟩) ?_
   refine zV rfl rfl (zQ rfl yA rfl (zP 1 rfl) rfl) ?_
   refine zV rfl rfl (zQ rfl yA rfl (zP 3 rfl) rfl) ?_
   refine zV rfl rfl (yF rfl el31 zr33 rfl rfl rfl rfl) ?_
   refine zV rfl rfl (qO [none, none, none, none, none, none, none, none, none, none, some 2, some 4, none] rfl zr33 pl33 rfl rfl) ?_
   refine zV rfl rfl (zJ rfl fd35_5 rfl) ?_
   refine kB ?_
   refine zY rfl rfl (zU rfl sz33 rfl rfl rfl (qI 0 rfl rfl)) ?_
   refine zH ?_
   refine zE ?_
   refine zB rfl ?_
   refine zA rfl rfl (zJ rfl fd35_3 rfl) ?_
   refine zY rfl rfl (zU rfl sz24 rfl rfl rfl (qI 0 rfl rfl)) ?_
   refine zH ?_
   refine zE ?_
   refine zE ?_
   refine zB rfl ?_
   refine yN _ (kI 88 3) ?_
   refine zA rfl rfl (zC rfl rfl) ?_
   refine zH ?_
   refine qA ?_
   refine qQ ⟨[(22, .c _), (1, .c _), (6, .c _), (12, .c _), (21, .c _)], [_, _, _, _]⟩ (Weak.mk [true, true, false, false, false, true, false, true] ⟨VLe.of_eq rfl, VLe.of_eq rfl, VLe.of_eq rfl, VLe.of_eq rfl, VLe.of_eq rfl, trivial⟩ rfl) ?_
   refine qR 1 2 rfl rfl (Nat × Value) (fun ⟨k, sv⟩ => [(22, vI k)]) (fun ⟨k, sv⟩ => [E.vec sv 88 3 (((d.Red.take k).eraseIdx n).map Ax.cells), E.row b9 35 [cS d.Name, cI d.T.Kind, cI d.T.Bits, cI d.T.Frac, cI d.T.Round, cI d.T.Over, .sl 3 (d.Dims.map Ax.cells), .lit sv, cI d.Fold, cI 11, cS (bs []), cI 0, cI 0, cI 0, cI 0, cI 0, cI 0, cI 0, cI 0, .sl 2 [], .sl 4 [], .sl 13 [(insideE g (axA d.Red n).Size).cs, w.cs, (argN d.Body 2).cs]]]) (fun ⟨k, sv⟩ => k ≤ d.Red.length) (fun ⟨k, sv⟩ => d.Red.length - k) ⟨⟨0, .slice none 0 0⟩, (by omega), Weak.mk [true, true, true, true] ⟨VLe.refl _, VLe.refl _, VLe.refl _, VLe.refl _, VLe.refl _, trivial⟩ rfl⟩ ?_
   rintro ⟨k, sv⟩ hk
   show AWP _ _ _ _ _ ⟨[(22, vI k)] ++ _, [E.vec sv 88 3 (((d.Red.take k).eraseIdx n).map Ax.cells), E.row b9 35 [cS d.Name, cI d.T.Kind, cI d.T.Bits, cI d.T.Frac, cI d.T.Round, cI d.T.Over, .sl 3 (d.Dims.map Ax.cells), .lit sv, cI d.Fold, cI 11, cS (bs []), cI 0, cI 0, cI 0, cI 0, cI 0, cI 0, cI 0, cI 0, .sl 2 [], .sl 4 [], .sl 13 [(insideE g (axA d.Red n).Size).cs, w.cs, (argN d.Body 2).cs]]] ++ _⟩
   refine zE ?_
   refine zE ?_
   refine zB rfl ?_
   refine zA rfl rfl (zF rfl rfl) ?_
   refine zA rfl rfl (zJ rfl fd35_3 rfl) ?_
   refine zA rfl rfl (zK rfl one24 rfl (zP 3 rfl) rfl) ?_
   refine zA rfl rfl (qB rfl el24 rfl) ?_
   refine zA rfl rfl (qS rfl rfl rfl) ?_
   refine zH ?_
   refine zR rfl (fun c5 => ?_) (fun c5 => ?_)
   ·try simp only [sx, List.length_map] at c5
    obtain ⟨y, hy⟩ := yL d.Red k (by omega)
    refine zT ?_
    refine zE ?_
    refine qA ?_
    refine zE ?_
    refine zB rfl ?_
    refine zA rfl rfl (zF rfl rfl) ?_
    refine zA rfl rfl (zF rfl rfl) ?_
    refine zA rfl rfl (qV rfl rfl rfl) ?_
    refine zH ?_
    refine zR rfl (fun c6 => ?_) (fun c6 => ?_)
    ·try simp only [sx, List.length_map] at c6
     refine yG 8 mixed (by kernel_rfl) rfl rfl ?_
     refine zV rfl rfl (zJ rfl fd35_3 rfl) ?_
     refine zV rfl rfl (zK rfl one24 rfl (zP 1 rfl) rfl) ?_
     refine zV rfl rfl (zJ rfl fd35_3 rfl) ?_
     refine zV rfl rfl (zK rfl one24 rfl (zP 3 rfl) rfl) ?_
     refine zV rfl rfl (zF rfl rfl) ?_
     refine zV rfl rfl (zX rfl el24 rfl rfl (by omega) (getm (by assumption))) ?_
     refine zV rfl rfl (zQ rfl agg88 rfl qK rfl) ?_
     refine zV rfl rfl (yF rfl el24 zr88 rfl rfl rfl rfl) ?_
     refine kB ?_
     refine qC rfl rfl (yO 0 rfl el24 rfl rfl rfl (by have := List.length_eraseIdx_le (d.Red.take k) n; simp only [List.length_map, List.length_append, List.length_cons, List.length_nil, List.length_take] at *; omega) (by have := List.length_eraseIdx_le (d.Red.take k) n; simp only [List.length_map, List.length_append, List.length_cons, List.length_nil, List.length_take] at *; omega)) ?_
     rintro _ _ ⟨sv10, rfl, rfl⟩
     refine zA rfl rfl (zJ rfl fd35_3 rfl) ?_
     refine zY rfl rfl (zU rfl sz24 rfl rfl rfl (qI 1 rfl rfl)) ?_
     refine zH ?_
     refine zB rfl ?_
     refine zA rfl rfl (zF rfl rfl) ?_
     refine zA rfl rfl (qL rfl rfl rfl ⟨by omega, by omega⟩) ?_
     refine zA rfl rfl (zC rfl rfl) ?_
     refine zH ?_
     refine ⟨⟨k + 1, _⟩, (by omega), (by show d.Red.length - (k + 1) < d.Red.length - k; omega), Weak.mk [true, true, true, true] ⟨VLe.refl _, VLe.refl _, VLe.refl _, VLe.refl _, VLe.refl _, trivial⟩ (by exact mem2_eq' (by rw [rem_next hy, if_neg (by omega), List.map_append]; rfl))⟩
    ·try simp only [sx, List.length_map] at c6
     refine zT ?_
     refine zB rfl ?_
     refine zA rfl rfl (zF rfl rfl) ?_
     refine zA rfl rfl (qL rfl rfl rfl ⟨by omega, by omega⟩) ?_
     refine zA rfl rfl (zC rfl rfl) ?_
     refine zH ?_
     refine ⟨⟨k + 1, _⟩, (by omega), (by show d.Red.length - (k + 1) < d.Red.length - k; omega), Weak.mk [true, true, true, true] ⟨VLe.refl _, VLe.refl _, VLe.refl _, VLe.refl _, VLe.refl _, trivial⟩ (by exact mem2_eq' (by rw [rem_next hy, if_pos (by omega), List.append_nil]))⟩
   ·try simp only [sx, List.length_map] at c5
    rw [kJ (l := d.Red) (k := k) (by omega), rem_all]
    refine qQ _ (yV 0 rfl (regs' := []) (μ' := [_, _, _]) trivial ⟨EFle.row (ds := [_, _, _, _, _, _, _, _, _, _, _, _, _, _, _, _, _, _, _, _, _, _]) ⟨.inl rfl, .inl rfl, .inl rfl, .inl rfl, .inl rfl, .inl rfl, .inl rfl, .inr ⟨rfl, rfl⟩, .inl rfl, .inl rfl, .inl rfl, .inl rfl, .inl rfl, .inl rfl, .inl rfl, .inl rfl, .inl rfl, .inl rfl, .inl rfl, .inl rfl, .inl rfl, .inl rfl, trivial⟩, EFle.refl _, EFle.refl _, trivial⟩) ?_
    refine qU ?_
    refine zE ?_
    refine zE ?_
    refine zB rfl ?_
    refine zA rfl rfl (zJ rfl fd35_3 rfl) ?_
    refine zA rfl rfl (zK rfl one24 rfl (zP 0 rfl) rfl) ?_
    refine zA rfl rfl (det_len_sl rfl el24 rfl) ?_
    refine zA rfl rfl (qJ rfl rfl rfl) ?_
    refine zH ?_
    refine zR rfl (fun c7 => ?_) (fun c7 => ?_)
    ·try simp only [sx, List.length_map] at c7
     refine zB rfl ?_
     refine zA rfl rfl (zJ rfl fd35_4 rfl) ?_
     refine zY rfl rfl (zU rfl sz3 rfl rfl rfl (qI 0 rfl rfl)) ?_
     refine zH ?_
     refine zE ?_
     refine awp_draw_c 6 0 [⟨0, .q [0]⟩, ⟨1, .q []⟩, ⟨2, .q [0]⟩, ⟨3, .q []⟩, ⟨4, .q []⟩, ⟨5, .e 1 []⟩] mixed (by kernel_rfl) (by kernel_rfl) rfl rfl rfl ?_
     refine qP rfl ?_
     refine qP rfl ?_
     refine qP rfl ?_
     refine qP rfl ?_
     refine qP rfl ?_
     refine qP rfl ?_
     refine fx_nil ?_
     refine qW rfl (by decide) rfl rfl (zQ rfl agg35 rfl (zP 0 rfl) rfl) ?_
     refine qW rfl (by decide) rfl rfl (zJ rfl fd35_5 rfl) ?_
     refine qW rfl (by decide) rfl rfl (zQ rfl yA rfl (zP 0 rfl) rfl) ?_
     refine qW rfl (by decide) rfl rfl (zW rfl ok37 (ref14_Validate_n3 (insideE g (axA d.Red n).Size) w (argN d.Body 2) (by rw [node3_wt, inside_wt]; omega)) ⟨VLe.refl _, rfl, trivial⟩) ?_
     refine qW rfl (by decide) rfl rfl (qJ rfl rfl rfl) ?_
     refine sq_op0 rfl rfl (by decide) rfl rfl (zU rfl sz35 rfl rfl rfl (qI 0 rfl rfl)) ?_
     rintro _ _ ⟨rfl, rfl⟩
     refine ⟨_, rfl, ?_⟩
     refine sq_nil rfl ?_
     refine zA rfl rfl (zC rfl rfl) ?_
     refine zH ?_
     refine zS ?_
     repeat (first | refine zO ?_ | refine zM ?_)
     refine fin2 (qD agg35 rfl (zP 1 rfl) rfl) (rs_c rfl) ?_
     rw [hC, show outD d n g w (argN d.Body 2) = _ from out_t c7]; exact congrArg (fun cs => V.tup [.agg cs, _]) (df_node _ _ _ _ _ _ _ _).symm
    ·try simp only [sx, List.length_map] at c7
     refine zT ?_
     refine zE ?_
     refine awp_draw_c 6 0 [⟨0, .q [0]⟩, ⟨1, .q []⟩, ⟨2, .q [0]⟩, ⟨3, .q []⟩, ⟨4, .q []⟩, ⟨5, .e 1 []⟩] mixed (by kernel_rfl) (by kernel_rfl) rfl rfl rfl ?_
     refine qP rfl ?_
     refine qP rfl ?_
     refine qP rfl ?_
     refine qP rfl ?_
     refine qP rfl ?_
     refine qP rfl ?_
     refine fx_nil ?_
     refine qW rfl (by decide) rfl rfl (zQ rfl agg35 rfl (zP 0 rfl) rfl) ?_
     refine qW rfl (by decide) rfl rfl (zJ rfl fd35_5 rfl) ?_
     refine qW rfl (by decide) rfl rfl (zQ rfl yA rfl (zP 0 rfl) rfl) ?_
     refine qW rfl (by decide) rfl rfl (zW rfl ok37 (ref14_Validate_n3 (insideE g (axA d.Red n).Size) w (argN d.Body 2) (by rw [node3_wt, inside_wt]; omega)) ⟨VLe.refl _, rfl, trivial⟩) ?_
     refine qW rfl (by decide) rfl rfl (qJ rfl rfl rfl) ?_
     refine sq_op0 rfl rfl (by decide) rfl rfl (zU rfl sz35 rfl rfl rfl (qI 0 rfl rfl)) ?_
     rintro _ _ ⟨rfl, rfl⟩
     refine ⟨_, rfl, ?_⟩
     refine sq_nil rfl ?_
     refine zA rfl rfl (zC rfl rfl) ?_
     refine zH ?_
     refine zS ?_
     repeat (first | refine zO ?_ | refine zM ?_)
     refine fin2 (qD agg35 rfl (zP 1 rfl) rfl) (rs_c rfl) ?_
     rw [hC, show outD d n g w (argN d.Body 2) = _ from out_f c7]; exact congrArg (fun cs => V.tup [.agg cs, _]) (df_node _ _ _ _ _ _ _ _).symm

theorem ref22_Def (d : Df) (s : ByteArray) (hw : d.Body.wt ≤ 1000) (hP : d.Body.allF Lf.rng) (h1 : d.Dims.length ≤ 1000000) (h2 : d.Red.length ≤ 1000000) (h3 : ∀ a, a ∈ d.Dims → a.Size.L.length ≤ 5864062014805) (h4 : ∀ a, a ∈ d.Red → a.Size.L.length ≤ 5864062014805) :
    Pur cfg 15 [vDf d, vS s] (.tup [vDf (dfR d s).1, vB (dfR d s).2]) := by
 refine zZ Tryz.func15 rfl Tryz.ntmps15 Tryz.results15 rfl ?_
 intro z hz
 refine zE ?_
 refine zB rfl ?_
 refine qC rfl rfl (qN rfl rfl) ?_
 rintro _ _ ⟨b1, rfl, rfl⟩
 refine qC rfl rfl (qH [none, none, none, none, none, none, some 3, some 3, none, none, none, none, none, none, none, none, none, none, none, some 2, some 4, some 13] rfl zr35 rfl) ?_
 rintro _ _ ⟨b2, rfl, rfl⟩
 refine zA rfl rfl (zC rfl rfl) ?_
 refine zH ?_
 refine zE ?_
 refine zB rfl ?_
 refine zA rfl rfl (zJ rfl fd35_3 rfl) ?_
 refine zA rfl rfl (zK rfl one24 rfl (zP 1 rfl) rfl) ?_
 refine zA rfl rfl (zF rfl rfl) ?_
 refine zA rfl rfl (zW rfl ok63 (ref22_find d.Red s (by omega)) ⟨VLe.refl _, rfl, VLe.refl _, rfl, trivial⟩) ?_
 refine zA rfl rfl (zC rfl rfl) ?_
 refine zH ?_
 refine zE ?_
 refine zB rfl ?_
 refine zA rfl rfl (zJ rfl fd35_5 rfl) ?_
 refine zA rfl rfl (zQ rfl yA rfl (zP 1 rfl) rfl) ?_
 refine zA rfl rfl (zW rfl ok64 (ref22_Guard d.Body (by omega)) ⟨VLe.refl _, rfl, trivial⟩) ?_
 refine zA rfl rfl (qT rfl rfl) ?_
 refine zA rfl rfl (qX rfl rfl rfl) ?_
 refine zA rfl rfl (yH rfl rfl rfl) ?_
 refine zA rfl rfl (qX rfl rfl rfl) ?_
 refine qC rfl rfl (qH [none, none, none, none, none, none, none, none, none, none, some 2, some 4, some 13] rfl zr33 rfl) ?_
 rintro _ _ ⟨b3, rfl, rfl⟩
 refine zA rfl rfl (zC rfl rfl) ?_
 refine zY rfl rfl (zU rfl sz33 rfl rfl rfl (qI 0 rfl rfl)) ?_
 refine zA rfl rfl (zC rfl rfl) ?_
 refine zH ?_
 refine zE ?_
 refine zE ?_
 refine zB rfl ?_
 refine zA rfl rfl (zJ rfl fd35_4 rfl) ?_
 refine zA rfl rfl (zK rfl one3 rfl (zP 2 rfl) rfl) ?_
 refine zA rfl rfl (qV rfl rfl rfl) ?_
 refine zA rfl rfl (zF rfl rfl) ?_
 refine zN [] rfl rfl rfl rfl gv1 trivial (fun g3_3 => zF rfl rfl) rfl ?_
 refine zN [(29, _)] rfl rfl rfl rfl gv1 ⟨rfl, rfl, trivial⟩ (fun g3_3 => qS rfl rfl rfl) rfl ?_
 refine zA rfl rfl (yD rfl rfl rfl rfl (fun h => (lzf h))) ?_
 refine zA rfl rfl (zF rfl rfl) ?_
 refine zN [] rfl rfl rfl rfl gv1 trivial (fun g3_7 => zF rfl rfl) rfl ?_
 refine zN [(33, _)] rfl rfl rfl rfl gv1 ⟨rfl, rfl, trivial⟩ (fun g3_7 => qY rfl rfl) rfl ?_
 refine zA rfl rfl (yD rfl rfl rfl rfl (fun h => (lzf h))) ?_
 refine zH ?_
 refine zR rfl (fun c1 => ?_) (fun c1 => ?_)
 ·try simp only [sx, List.length_map] at c1
  have hC : chainD d s = none := chain_r1 c1
  refine zE ?_
  refine zB rfl ?_
  refine zA rfl rfl (qO [none, none, none, none, none, none, some 3, some 3, none, none, none, none, none, none, none, none, none, none, none, some 2, some 4, some 13] rfl zr35 pl35 rfl rfl) ?_
  refine zY rfl rfl (zU rfl sz35 rfl rfl rfl (qI 1 rfl rfl)) ?_
  refine zA rfl rfl (zC rfl rfl) ?_
  refine zH ?_
  refine zS ?_
  repeat (first | refine zO ?_ | refine zM ?_)
  refine fin2 (qD agg35 rfl (zP 1 rfl) rfl) (rs_c rfl) ?_
  rw [dfR, hC]; rfl
 ·try simp only [sx, List.length_map] at c1
  obtain ⟨⟨hF, hn0⟩, hgo⟩ := c1
  obtain ⟨n, hn⟩ : ∃ n : Nat, axN s d.Red = n := ⟨(axN s d.Red).toNat, by omega⟩
  obtain ⟨hn2, hn3⟩ := axN_lt hn
  rw [hn]
  obtain ⟨q1, q2, q3, q4, q5⟩ := guard_parts hgo hP hw
  have hdl : (d.Red.drop (n + 1)).length = d.Red.length - (n + 1) := List.length_drop
  refine zT ?_
  refine zE ?_
  refine zE ?_
  refine zB rfl ?_
  refine zA rfl rfl (zC rfl rfl) ?_
  refine zH ?_
  refine qA ?_
  refine qQ ⟨[(10, .c _), (1, .c _), (2, .c _), (4, .c _), (6, .c _), (7, .c _), (8, .c _)], [_, _, _]⟩ (Weak.mk [true, true, true] ⟨VLe.of_eq rfl, VLe.of_eq rfl, VLe.of_eq rfl, VLe.of_eq rfl, VLe.of_eq rfl, VLe.of_eq rfl, VLe.of_eq rfl, trivial⟩ rfl) ?_
  refine qR 1 0 rfl rfl (Nat) (fun k => [(10, vI k)]) (fun k => []) (fun k => k ≤ (guardT d.Body).conds.length ∧ (((guardT d.Body).conds.take k).any (selB d n s) = false)) (fun k => (guardT d.Body).conds.length - k) ⟨0, ⟨by omega, rfl⟩, Weak.mk [true, true, true] ⟨VLe.refl _, VLe.refl _, VLe.refl _, VLe.refl _, VLe.refl _, VLe.refl _, VLe.refl _, trivial⟩ rfl⟩ ?_
  rintro k ⟨hk, hp⟩
  refine zE ?_
  refine zE ?_
  refine zB rfl ?_
  refine zA rfl rfl (zF rfl rfl) ?_
  refine zA rfl rfl (zF rfl rfl) ?_
  refine zA rfl rfl (qB rfl el31 rfl) ?_
  refine zA rfl rfl (qS rfl rfl rfl) ?_
  refine zH ?_
  refine zR rfl (fun c2 => ?_) (fun c2 => ?_)
  ·try simp only [sx, List.length_map] at c2
   obtain ⟨x, hx⟩ := yL (guardT d.Body).conds k (by omega)
   have hsl := Nat.le_trans (solve_len x s) (q1 x (qF hx)).2
   have hsk := (solve_ok s (q1 x (qF hx)).1).1
   refine zT ?_
   refine zE ?_
   refine qA ?_
   refine zE ?_
   refine zB rfl ?_
   refine zA rfl rfl (zF rfl rfl) ?_
   refine zA rfl rfl (zF rfl rfl) ?_
   refine zA rfl rfl (zX rfl el31 rfl rfl (by omega) (getmE hx)) ?_
   refine zA rfl rfl (zQ rfl yA rfl qK rfl) ?_
   refine zA rfl rfl (zF rfl rfl) ?_
   refine zA rfl rfl (zW rfl ok65 (ref22_Solve x s (by have := (q1 x (qF hx)).2; omega)) ⟨VLe.refl _, rfl, VLe.refl _, rfl, trivial⟩) ?_
   refine zA rfl rfl (qT rfl rfl) ?_
   refine zA rfl rfl (yH rfl rfl rfl) ?_
   refine zA rfl rfl (qX rfl rfl rfl) ?_
   refine qC rfl rfl (qH [none, some 2] rfl zr29 rfl) ?_
   rintro _ _ ⟨b4, rfl, rfl⟩
   refine zY rfl rfl (zU rfl sz29 rfl rfl rfl (qI 0 rfl rfl)) ?_
   refine zA rfl rfl (zC rfl rfl) ?_
   refine zH ?_
   refine zE ?_
   refine zE ?_
   refine zB rfl ?_
   refine zA rfl rfl (zF rfl rfl) ?_
   refine zA rfl rfl (qL rfl rfl rfl ⟨by omega, by omega⟩) ?_
   refine zA rfl rfl (zC rfl rfl) ?_
   refine zH ?_
   refine qA ?_
   refine qQ ⟨[(12, .c _), (13, .c _), (1, .c _), (2, .c _), (4, .c _), (6, .c _), (7, .c _), (8, .c _), (10, .c _), (11, .c _)], [_, _, _, _]⟩ (Weak.mk [true, true, true, true] ⟨VLe.of_eq rfl, VLe.of_eq rfl, VLe.of_eq rfl, VLe.of_eq rfl, VLe.of_eq rfl, VLe.of_eq rfl, VLe.of_eq rfl, VLe.of_eq rfl, VLe.of_eq rfl, VLe.of_eq rfl, trivial⟩ rfl) ?_
   refine qR 2 0 rfl rfl (Nat) (fun j => [(12, vB ((solveT x s).2 && freeL (solveT x s).1 ((d.Red.drop (n + 1)).take j))), (13, vI ((n : Int) + 1 + j))]) (fun j => []) (fun j => j ≤ (d.Red.drop (n + 1)).length) (fun j => (d.Red.drop (n + 1)).length - j) ⟨0, (by omega), Weak.mk [true, true, true, true] ⟨VLe.of_eq (congrArg vB (by rw [show freeL (solveT x s).1 ((d.Red.drop (n + 1)).take 0) = true from rfl, Bool.and_true])), VLe.of_eq (congrArg vI (by omega)), VLe.refl _, VLe.refl _, VLe.refl _, VLe.refl _, VLe.refl _, VLe.refl _, VLe.refl _, VLe.refl _, trivial⟩ rfl⟩ ?_
   rintro j hj
   refine zE ?_
   refine zE ?_
   refine zB rfl ?_
   refine zA rfl rfl (zF rfl rfl) ?_
   refine zA rfl rfl (zJ rfl fd35_3 rfl) ?_
   refine zA rfl rfl (zK rfl one24 rfl (zP 3 rfl) rfl) ?_
   refine zA rfl rfl (qB rfl el24 rfl) ?_
   refine zA rfl rfl (qS rfl rfl rfl) ?_
   refine zA rfl rfl (zF rfl rfl) ?_
   refine zN [] rfl rfl rfl rfl gv1 trivial (fun g10_5 => zF rfl rfl) rfl ?_
   refine zA rfl rfl (qM rfl rfl rfl (fun h => h) rfl) ?_
   refine zH ?_
   refine zR rfl (fun c3 => ?_) (fun c3 => ?_)
   ·try simp only [sx, List.length_map] at c3
    obtain ⟨y, hy⟩ := yL (d.Red.drop (n + 1)) j (by omega)
    have hy2 : d.Red[((n : Int) + 1 + j).toNat]? = some y := by rw [show ((n : Int) + 1 + j).toNat = n + 1 + j by omega, ← List.getElem?_drop]; exact hy
    refine zT ?_
    refine zE ?_
    refine qA ?_
    refine yG 10 mixed (by kernel_rfl) rfl rfl ?_
    refine zV rfl rfl (zQ rfl yB rfl (zP 0 rfl) rfl) ?_
    refine zV rfl rfl (zJ rfl fd35_3 rfl) ?_
    refine zV rfl rfl (zK rfl one24 rfl (zP 3 rfl) rfl) ?_
    refine zV rfl rfl (zF rfl rfl) ?_
    refine zV rfl rfl (zX rfl el24 rfl rfl (by omega) (getm hy2)) ?_
    refine zV rfl rfl (qG rfl fd88_0 rfl) ?_
    refine zV rfl rfl (zK rfl one9 rfl qK rfl) ?_
    refine zV rfl rfl (zW rfl ok66 (ref05_Coeff (solveT x s).1 y.Name (by omega)) ⟨VLe.refl _, rfl, VLe.refl _, rfl, trivial⟩) ?_
    refine zV rfl rfl (qJ rfl rfl rfl) ?_
    refine zV rfl rfl (zC rfl rfl) ?_
    refine kB ?_
    refine zH ?_
    refine zB rfl ?_
    refine zA rfl rfl (zF rfl rfl) ?_
    refine zA rfl rfl (qL rfl rfl rfl ⟨by omega, by omega⟩) ?_
    refine zA rfl rfl (zC rfl rfl) ?_
    refine zH ?_
    refine ⟨j + 1, (by omega), (by omega), Weak.mk [true, true, true, true] ⟨VLe.of_eq (congrArg vB (by rw [free_take hy, ← Bool.and_assoc, c3.2.1, c3.2.2, Bool.true_and, Bool.true_and]; exact coeff_has y.Name hsk)), VLe.of_eq (congrArg vI (by omega)), VLe.refl _, VLe.refl _, VLe.refl _, VLe.refl _, VLe.refl _, VLe.refl _, VLe.refl _, VLe.refl _, trivial⟩ rfl⟩
   ·try simp only [sx, List.length_map] at c3
    have hsel := free_stop (f := (solveT x s).1) (l := d.Red.drop (n + 1)) (j := j) (b := (solveT x s).2) (fun h => by have h5 := h.1; have h6 := h.2; rw [Bool.and_eq_true] at h6; rcases c3 with c | c | c; exact absurd h5 (by omega); rw [h6.1] at c; cases c; rw [h6.2] at c; cases c)
    rw [hsel]
    refine qU ?_
    refine zE ?_
    refine zB rfl ?_
    refine zA rfl rfl (zF rfl rfl) ?_
    refine zH ?_
    refine zR rfl (fun c4 => ?_) (fun c4 => ?_)
    ·have hs1 : selB d n s x = true := c4
     have hC := chain_put hF hn hgo (by rw [idxOf_at hx hs1 hp]; omega)
     rw [idxOf_at hx hs1 hp, show gSel d n s (guardT d.Body).conds = (solveT x s).1 by unfold gSel; rw [sel_first hx hs1 hp]] at hC
     refine zE ?_
     refine zB rfl ?_
     refine zA rfl rfl (zQ rfl agg35 rfl (zP 3 rfl) rfl) ?_
     refine zA rfl rfl (zF rfl rfl) ?_
     refine zA rfl rfl (zF rfl rfl) ?_
     refine zA rfl rfl (zF rfl rfl) ?_
     refine zA rfl rfl (zQ rfl yA rfl (zP 1 rfl) rfl) ?_
     refine zA rfl rfl (zQ rfl yB rfl (zP 0 rfl) rfl) ?_
     refine zA rfl rfl (zW rfl ok67 (ref22_put d n (guardT d.Body).conds k (guardT d.Body).val (solveT x s).1 hn2 q5 q3.2 q1 q4 q2 (solve_ok s (q1 x (qF hx)).1).2 (by omega) h2 h4) ⟨VLe.refl _, rfl, VLe.refl _, rfl, VLe.refl _, rfl, VLe.refl _, rfl, VLe.refl _, rfl, VLe.refl _, rfl, trivial⟩) ?_
     refine zA rfl rfl (yH rfl rfl rfl) ?_
     refine zA rfl rfl (qX rfl rfl rfl) ?_
     refine zY rfl rfl (zU rfl sz35 rfl rfl rfl (qI 2 rfl rfl)) ?_
     refine zA rfl rfl (zC rfl rfl) ?_
     refine zH ?_
     refine zS ?_
     repeat (first | refine zO ?_ | refine zM ?_)
     refine fin2 (qD agg35 rfl (zP 2 rfl) rfl) (rs_c rfl) ?_
     rw [hn3, dfR, hC]; rfl
    ·have hs0 : selB d n s x = false := c4
     refine zT ?_
     refine zB rfl ?_
     refine zA rfl rfl (zF rfl rfl) ?_
     refine zA rfl rfl (qL rfl rfl rfl ⟨by omega, by omega⟩) ?_
     refine zA rfl rfl (zC rfl rfl) ?_
     refine zH ?_
     refine ⟨k + 1, ⟨by omega, any_next hx hp hs0⟩, (by omega), Weak.mk [false, true, true, true] ⟨VLe.refl _, VLe.refl _, VLe.refl _, VLe.refl _, VLe.refl _, VLe.refl _, VLe.refl _, trivial⟩ rfl⟩
  ·try simp only [sx, List.length_map] at c2
   rw [kJ (by omega)] at hp
   have hC : chainD d s = none := chain_no3 hn (by rw [idxOf_none hp]; omega)
   refine qU ?_
   refine zE ?_
   refine zB rfl ?_
   refine zA rfl rfl (qO [none, none, none, none, none, none, some 3, some 3, none, none, none, none, none, none, none, none, none, none, none, some 2, some 4, some 13] rfl zr35 pl35 rfl rfl) ?_
   refine zY rfl rfl (zU rfl sz35 rfl rfl rfl (qI 1 rfl rfl)) ?_
   refine zA rfl rfl (zC rfl rfl) ?_
   refine zH ?_
   refine zS ?_
   repeat (first | refine zO ?_ | refine zM ?_)
   refine fin2 (qD agg35 rfl (zP 1 rfl) rfl) (rs_c rfl) ?_
   rw [dfR, hC]; rfl

theorem ref22_SmallDef (d : Df) (hf : d.Body.fit) :
    Pur cfg 12 [vDf d] (vB ((decide ((d.Dims.length : Int) ≤ 20) && decide ((d.Red.length : Int) ≤ 20)) && decide ((weighE d.Body 300 : Int) ≤ 300))) := by
 refine zZ Tryz.func12 rfl Tryz.ntmps12 Tryz.results12 rfl ?_
 intro z hz
 refine zE ?_
 refine zB rfl ?_
 refine qC rfl rfl (qN rfl rfl) ?_
 rintro _ _ ⟨b1, rfl, rfl⟩
 refine zA rfl rfl (zC rfl rfl) ?_
 refine zH ?_
 refine zE ?_
 refine zB rfl ?_
 refine zA rfl rfl (zJ rfl fd35_2 rfl) ?_
 refine zA rfl rfl (zK rfl one24 rfl (zP 0 rfl) rfl) ?_
 refine zA rfl rfl (qB rfl el24 rfl) ?_
 refine zA rfl rfl (kQ rfl rfl rfl) ?_
 refine zA rfl rfl (zF rfl rfl) ?_
 refine zN [] rfl rfl rfl rfl gv1 trivial (fun g1_4 => zJ rfl fd35_3 rfl) rfl ?_
 refine zN [(8, _)] rfl rfl rfl rfl gv1 ⟨rfl, rfl, trivial⟩ (fun g1_4 => zK rfl one24 rfl (zP 0 rfl) rfl) rfl ?_
 refine zN [(9, _)] rfl rfl rfl rfl gv1 ⟨rfl, rfl, trivial⟩ (fun g1_4 => qB rfl el24 rfl) rfl ?_
 refine zN [(10, _)] rfl rfl rfl rfl gv1 ⟨rfl, rfl, trivial⟩ (fun g1_4 => kQ rfl rfl rfl) rfl ?_
 refine zA rfl rfl (qM rfl rfl rfl (fun h => h) rfl) ?_
 refine zA rfl rfl (zF rfl rfl) ?_
 refine zN [] rfl rfl rfl rfl gv1 trivial (fun g1_10 => zJ rfl fd35_5 rfl) rfl ?_
 refine zN [(14, _)] rfl rfl rfl rfl gv1 ⟨rfl, rfl, trivial⟩ (fun g1_10 => zQ rfl yA rfl (zP 0 rfl) rfl) rfl ?_
 refine zN [(15, _)] rfl rfl rfl rfl gv1 ⟨rfl, rfl, trivial⟩ (fun g1_10 => zW rfl ok50 (base_Weigh d.Body 300 300 hf (by omega) rfl) ⟨VLe.refl _, rfl, VLe.refl _, rfl, trivial⟩) rfl ?_
 refine zN [(16, _)] rfl rfl rfl rfl gv1 ⟨rfl, rfl, trivial⟩ (fun g1_10 => kQ rfl rfl rfl) rfl ?_
 refine zA rfl rfl (qM rfl rfl rfl (fun h => h) rfl) ?_
 refine zA rfl rfl (zC rfl rfl) ?_
 refine zH ?_
 refine zS ?_
 repeat (first | refine zO ?_ | refine zM ?_)
 refine fin1 (rs_c rfl) ?_
 exact rfl

theorem law_DeltaDefs (d : Df) (s : ByteArray) (hf : d.fit) (hs3 : ∀ a, a ∈ d.Dims → a.Size.L.length ≤ 5864062014805) (hs4 : ∀ a, a ∈ d.Red → a.Size.L.length ≤ 5864062014805) (hP : d.Body.allF Lf.rng) :
    Pur cfg 3 [vDf d, vS s] (vB true) := by
 refine zZ Tryz.func3 rfl Tryz.ntmps3 Tryz.results3 rfl ?_
 intro z hz
 refine zE ?_
 refine zB rfl ?_
 refine qC rfl rfl (qN rfl rfl) ?_
 rintro _ _ ⟨b1, rfl, rfl⟩
 refine zA rfl rfl (zC rfl rfl) ?_
 refine zH ?_
 refine zE ?_
 refine zE ?_
 refine zB rfl ?_
 refine zA rfl rfl (zQ rfl agg35 rfl (zP 0 rfl) rfl) ?_
 refine zA rfl rfl (zW rfl ok12 (ref22_SmallDef d hf.2.2.2.2) ⟨VLe.refl _, rfl, trivial⟩) ?_
 refine zA rfl rfl (qY rfl rfl) ?_
 refine zH ?_
 refine zR rfl (fun c1 => ?_) (fun c1 => ?_)
 ·try simp only [sx, List.length_map] at c1
  refine zE ?_
  refine zB rfl ?_
  refine zA rfl rfl (zW rfl ok13 law22_alive trivial) ?_
  refine zA rfl rfl (zC rfl rfl) ?_
  refine zH ?_
  refine zS ?_
  repeat (first | refine zO ?_ | refine zM ?_)
  refine fin1 (rs_c rfl) ?_
  rfl
 ·try simp only [sx, List.length_map] at c1
  obtain ⟨⟨hd1, hd2⟩, hd3⟩ := c1
  have hw := weighE_wt d.Body 300 (by omega)
  obtain ⟨k1, k2, k3, k4, k5⟩ := dfD_fit (s := s) (by omega) hP (by omega) (by omega) hs3 hs4
  obtain ⟨e1, e2, e3⟩ := def_eq (d := d) (s := s)
  refine zT ?_
  refine zE ?_
  refine zB rfl ?_
  refine zA rfl rfl (zQ rfl agg35 rfl (zP 0 rfl) rfl) ?_
  refine zA rfl rfl (zF rfl rfl) ?_
  refine zA rfl rfl (zW rfl ok14 (delta_Def d s (by omega) hP (by omega) (by omega) hs3 hs4) ⟨VLe.refl _, rfl, VLe.refl _, rfl, trivial⟩) ?_
  refine zA rfl rfl (qT rfl rfl) ?_
  refine zA rfl rfl (yH rfl rfl rfl) ?_
  refine zA rfl rfl (qX rfl rfl rfl) ?_
  refine qC rfl rfl (qH [none, none, none, none, none, none, some 3, some 3, none, none, none, none, none, none, none, none, none, none, none, some 2, some 4, some 13] rfl zr35 rfl) ?_
  rintro _ _ ⟨b2, rfl, rfl⟩
  refine zY rfl rfl (zU rfl sz35 rfl rfl rfl (qI 0 rfl rfl)) ?_
  refine zA rfl rfl (zC rfl rfl) ?_
  refine zH ?_
  refine zE ?_
  refine zB rfl ?_
  refine zA rfl rfl (zQ rfl agg35 rfl (zP 1 rfl) rfl) ?_
  refine zA rfl rfl (zF rfl rfl) ?_
  refine zA rfl rfl (zW rfl ok15 (ref22_Def d s (by omega) hP (by omega) (by omega) hs3 hs4) ⟨VLe.refl _, rfl, VLe.refl _, rfl, trivial⟩) ?_
  refine zA rfl rfl (qT rfl rfl) ?_
  refine zA rfl rfl (yH rfl rfl rfl) ?_
  refine zA rfl rfl (qX rfl rfl rfl) ?_
  refine qC rfl rfl (qH [none, none, none, none, none, none, some 3, some 3, none, none, none, none, none, none, none, none, none, none, none, some 2, some 4, some 13] rfl zr35 rfl) ?_
  rintro _ _ ⟨b3, rfl, rfl⟩
  refine zY rfl rfl (zU rfl sz35 rfl rfl rfl (qI 0 rfl rfl)) ?_
  refine zA rfl rfl (zC rfl rfl) ?_
  refine zH ?_
  refine zE ?_
  refine zE ?_
  refine zB rfl ?_
  refine zA rfl rfl (zF rfl rfl) ?_
  refine zA rfl rfl (qY rfl rfl) ?_
  refine zH ?_
  refine zR rfl (fun c2 => ?_) (fun c2 => ?_)
  ·try simp only [sx, List.length_map] at c2
   refine zE ?_
   refine zB rfl ?_
   refine zA rfl rfl (zF rfl rfl) ?_
   refine zA rfl rfl (qY rfl rfl) ?_
   refine zA rfl rfl (zF rfl rfl) ?_
   refine zN [] rfl rfl rfl rfl gv1 trivial (fun g6_2 => zQ rfl agg35 rfl (zP 1 rfl) rfl) rfl ?_
   refine zN [] rfl rfl rfl rfl gv1 trivial (fun g6_2 => qO [none, none, none, none, none, none, some 3, some 3, none, none, none, none, none, none, none, none, none, none, none, some 2, some 4, some 13] rfl zr35 pl35 rfl rfl) rfl ?_
   refine zN [(30, _), (31, _)] rfl rfl rfl rfl gv1 ⟨rfl, rfl, rfl, rfl, trivial⟩ (fun g6_2 => zW rfl ok16 (base_Def (dfD d s).1 zD k1 k2 k3 k4 k5) ⟨VLe.refl _, rfl, VLe.refl _, rfl, trivial⟩) rfl ?_
   refine zA rfl rfl (qM rfl rfl rfl (fun h => h) rfl) ?_
   refine zA rfl rfl (zF rfl rfl) ?_
   refine zN [] rfl rfl rfl rfl gv1 trivial (fun g6_7 => zW rfl ok13 law22_alive trivial) rfl ?_
   refine zA rfl rfl (qM rfl rfl rfl (fun h => h) rfl) ?_
   refine zA rfl rfl (zC rfl rfl) ?_
   refine zH ?_
   refine zS ?_
   repeat (first | refine zO ?_ | refine zM ?_)
   refine fin1 (rs_c rfl) ?_
   rw [e3 c2]; simp
  ·try simp only [sx, List.length_map] at c2
   refine zT ?_
   refine zE ?_
   refine zB rfl ?_
   refine zA rfl rfl (zF rfl rfl) ?_
   refine zA rfl rfl (zF rfl rfl) ?_
   refine zN [] rfl rfl rfl rfl gv1 trivial (fun g7_1 => zQ rfl agg35 rfl (zP 1 rfl) rfl) rfl ?_
   refine zN [] rfl rfl rfl rfl gv1 trivial (fun g7_1 => zQ rfl agg35 rfl (zP 0 rfl) rfl) rfl ?_
   refine zN [(39, _), (40, _)] rfl rfl rfl rfl gv1 ⟨rfl, rfl, rfl, rfl, trivial⟩ (fun g7_1 => zW rfl ok16 (base_Def (dfD d s).1 (dfR d s).1 k1 k2 k3 k4 k5) ⟨VLe.refl _, rfl, VLe.refl _, rfl, trivial⟩) rfl ?_
   refine zA rfl rfl (qM rfl rfl rfl (fun h => h) rfl) ?_
   refine zA rfl rfl (zF rfl rfl) ?_
   refine zN [] rfl rfl rfl rfl gv1 trivial (fun g7_6 => zW rfl ok13 law22_alive trivial) rfl ?_
   refine zA rfl rfl (qM rfl rfl rfl (fun h => h) rfl) ?_
   refine zA rfl rfl (zC rfl rfl) ?_
   refine zH ?_
   refine zS ?_
   repeat (first | refine zO ?_ | refine zM ?_)
   refine fin1 (rs_c rfl) ?_
   rw [e2 c2]; simp [c2]

end Go.W
