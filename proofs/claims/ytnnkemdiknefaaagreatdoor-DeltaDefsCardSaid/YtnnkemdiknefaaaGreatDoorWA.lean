/-
  Walks: what functions of the program compute. Printed by wip/gen/mk2.py.
  Conditions: none.
-/
import Derived.Test.YtnnkemdiknefaaaGreatDoorFacts
import Derived.Test.YtnnkemdiknefaaaGreatDoorPlain
set_option linter.unusedSimpArgs false
set_option linter.unusedVariables false
namespace Go.W
open Go Go.Eng Go.Proofs Go.L41 Go.Br
attribute [local irreducible] AWP RWP TD
theorem kw_ascii : ∀ (j : Nat) (b : UInt8), (bs kwBytes).data.toList[j]? = some b → b.toNat < 128 := by
  intro j b h
  have : (kwBytes.all fun c => decide (c.toNat < 128)) = true := by decide
  rw [List.all_eq_true] at this
  simpa using this b (List.mem_of_getElem? h)
theorem kw_fields : (Lib.fields kwBytes).map bs = words := by decide +kernel
theorem nm1 {s : ByteArray} (h : Lz (!decide (s = bs []) && decide ((s.size : Int) ≤ 16)) true = true) : ¬ s = bs [] := by
  simp only [Lz, cond_true, Bool.and_eq_true, Bool.not_eq_true', decide_eq_false_iff_not] at h
  exact h.1
theorem nm2 {s : ByteArray} {p : Bool} (h : Lz (!decide (s = bs []) && decide ((s.size : Int) ≤ 16) && p) true = true) : s.size ≤ 1000000 := by
  simp only [Lz, cond_true, Bool.and_eq_true, decide_eq_true_eq] at h
  omega
theorem yB : aggT Tryz.prog 29 = some 2 := by kernel_rfl
theorem agg75 : aggT Tryz.prog 75 = some 2 := by kernel_rfl
theorem agg117 : aggT Tryz.prog 117 = some 4 := by kernel_rfl
theorem el27 : elemT Tryz.prog 27 = some (75, 2, 24) := by kernel_rfl
theorem el30 : elemT Tryz.prog 30 = some (117, 4, 72) := by kernel_rfl
theorem el42 : elemT Tryz.prog 42 = some (9, 1, 16) := by kernel_rfl
theorem fd29_0 : fieldT Tryz.prog 29 0 = some (0, 2) := by kernel_rfl
theorem yI : fieldT Tryz.prog 29 1 = some (1, 27) := by kernel_rfl
theorem fd75_0 : fieldT Tryz.prog 75 0 = some (0, 9) := by kernel_rfl
theorem fd75_1 : fieldT Tryz.prog 75 1 = some (1, 2) := by kernel_rfl
theorem fl75 : flatK Tryz.prog 75 = some [.str, .int] := by kernel_rfl
theorem ik21 : intT Tryz.prog 21 = some .i32 := by kernel_rfl
theorem mixed : Tryz.prog.follows .mixedOrders = true := by kernel_rfl
theorem ok36 : callOk Tryz.prog 36 = true := by kernel_rfl
theorem ok38 : callOk Tryz.prog 38 = true := by kernel_rfl
theorem ok102 : callOk Tryz.prog 102 = true := by kernel_rfl
theorem ok138 : callOk Tryz.prog 138 = true := by kernel_rfl
theorem ok152 : callOk Tryz.prog 152 = true := by kernel_rfl
theorem ok184 : callOk Tryz.prog 184 = true := by kernel_rfl
theorem ok200 : callOk Tryz.prog 200 = true := by kernel_rfl
theorem ok203 : callOk Tryz.prog 203 = true := by kernel_rfl
theorem ok227 : callOk Tryz.prog 227 = true := by kernel_rfl
theorem ok230 : callOk Tryz.prog 230 = true := by kernel_rfl
theorem ok231 : callOk Tryz.prog 231 = true := by kernel_rfl
theorem ok232 : callOk Tryz.prog 232 = true := by kernel_rfl
theorem ok233 : callOk Tryz.prog 233 = true := by kernel_rfl
theorem ok254 : callOk Tryz.prog 254 = true := by kernel_rfl
theorem ok260 : callOk Tryz.prog 260 = true := by kernel_rfl
theorem ok261 : callOk Tryz.prog 261 = true := by kernel_rfl
theorem ok273 : callOk Tryz.prog 273 = true := by kernel_rfl
theorem one2 : oneT Tryz.prog 2 = true := by kernel_rfl
theorem one9 : oneT Tryz.prog 9 = true := by kernel_rfl
theorem kH : oneT Tryz.prog 27 = true := by kernel_rfl
theorem pl29 : placesT Tryz.prog 29 = some [(0, 1), (1, 1)] := by kernel_rfl
theorem pl75 : placesT Tryz.prog 75 = some [(0, 1), (1, 1)] := by kernel_rfl
theorem sz29 : (Tryz.prog.info? 29).map (·.size) = some 2 := by kernel_rfl
theorem sz75 : (Tryz.prog.info? 75).map (·.size) = some 2 := by kernel_rfl
theorem un9 : Tryz.prog.underlying 9 = some .string := by kernel_rfl
theorem us5 : (Tryz.prog.underlying 5).isSome = true := by kernel_rfl
theorem zr9 : zeroT Tryz.prog 9 = some [(Value.string (ByteArray.mk #[]))] := by kernel_rfl
theorem zr29 : zeroT Tryz.prog 29 = some [(Value.int IntKind.i64 0), (Value.slice none 0 0)] := by kernel_rfl
theorem zr75 : zeroT Tryz.prog 75 = some [(Value.string (ByteArray.mk #[])), (Value.int IntKind.i64 0)] := by kernel_rfl
theorem lexer_letter (n : Int) :
    Pur cfg 230 [vR n] (vB (letterI n)) := by
 refine zZ Tryz.func230 rfl Tryz.ntmps230 Tryz.results230 rfl ?_
 intro z hz
 refine zE ?_
 refine zB rfl ?_
 refine zA rfl rfl (zC rfl rfl) ?_
 refine zH ?_
 refine zE ?_
 refine zB rfl ?_
 refine zA rfl rfl (zF rfl rfl) ?_
 refine zA rfl rfl (kR rfl rfl rfl) ?_
 refine zA rfl rfl (zF rfl rfl) ?_
 refine zN [] rfl rfl rfl rfl gv1 trivial (fun g1_2 => zF rfl rfl) rfl ?_
 refine zN [(6, _)] rfl rfl rfl rfl gv1 ⟨rfl, rfl, trivial⟩ (fun g1_2 => kQ rfl rfl rfl) rfl ?_
 refine zA rfl rfl (qM rfl rfl rfl (fun h => h) rfl) ?_
 refine zA rfl rfl (zC rfl rfl) ?_
 refine zH ?_
 refine zS ?_
 repeat (first | refine zO ?_ | refine zM ?_)
 refine fin1 (rs_c rfl) ?_
 exact rfl

theorem lexer_digit (n : Int) :
    Pur cfg 260 [vR n] (vB (digitI n)) := by
 refine zZ Tryz.func260 rfl Tryz.ntmps260 Tryz.results260 rfl ?_
 intro z hz
 refine zE ?_
 refine zB rfl ?_
 refine zA rfl rfl (zC rfl rfl) ?_
 refine zH ?_
 refine zE ?_
 refine zB rfl ?_
 refine zA rfl rfl (zF rfl rfl) ?_
 refine zA rfl rfl (kR rfl rfl rfl) ?_
 refine zA rfl rfl (zF rfl rfl) ?_
 refine zN [] rfl rfl rfl rfl gv1 trivial (fun g1_2 => zF rfl rfl) rfl ?_
 refine zN [(6, _)] rfl rfl rfl rfl gv1 ⟨rfl, rfl, trivial⟩ (fun g1_2 => kQ rfl rfl rfl) rfl ?_
 refine zA rfl rfl (qM rfl rfl rfl (fun h => h) rfl) ?_
 refine zA rfl rfl (zC rfl rfl) ?_
 refine zH ?_
 refine zS ?_
 repeat (first | refine zO ?_ | refine zM ?_)
 refine fin1 (rs_c rfl) ?_
 exact rfl

theorem lexer_inWord (n : Int) :
    Pur cfg 232 [vR n] (vB (inWordI n)) := by
 refine zZ Tryz.func232 rfl Tryz.ntmps232 Tryz.results232 rfl ?_
 intro z hz
 refine zE ?_
 refine zB rfl ?_
 refine zA rfl rfl (zC rfl rfl) ?_
 refine zH ?_
 refine zE ?_
 refine zB rfl ?_
 refine zA rfl rfl (zF rfl rfl) ?_
 refine zA rfl rfl (zW rfl ok230 (lexer_letter _) ⟨VLe.refl _, rfl, trivial⟩) ?_
 refine zA rfl rfl (zF rfl rfl) ?_
 refine zN [] rfl rfl rfl rfl gv1 trivial (fun g1_2 => zF rfl rfl) rfl ?_
 refine zN [(6, _)] rfl rfl rfl rfl gv1 ⟨rfl, rfl, trivial⟩ (fun g1_2 => zW rfl ok260 (lexer_digit _) ⟨VLe.refl _, rfl, trivial⟩) rfl ?_
 refine zA rfl rfl (yD rfl rfl rfl rfl (fun h => (lzf h))) ?_
 refine zA rfl rfl (zF rfl rfl) ?_
 refine zN [] rfl rfl rfl rfl gv1 trivial (fun g1_6 => zF rfl rfl) rfl ?_
 refine zN [(10, _)] rfl rfl rfl rfl gv1 ⟨rfl, rfl, trivial⟩ (fun g1_6 => qJ rfl rfl rfl) rfl ?_
 refine zA rfl rfl (yD rfl rfl rfl rfl (fun h => (lzf h))) ?_
 refine zA rfl rfl (zC rfl rfl) ?_
 refine zH ?_
 refine zS ?_
 repeat (first | refine zO ?_ | refine zM ?_)
 refine fin1 (rs_c rfl) ?_
 exact rfl

theorem lexer_span_inWord (s : ByteArray) (hs : s.size ≤ 1000000) :
    Pur cfg 231 [vS s, .c (.fn (.func 232) [] [])] (vI (spanB inWordB s.data.toList)) := by
 refine zZ Tryz.func231 rfl Tryz.ntmps231 Tryz.results231 rfl ?_
 intro z hz
 refine zE ?_
 refine zB rfl ?_
 refine zA rfl rfl (zC rfl rfl) ?_
 refine zH ?_
 refine zE ?_
 refine zB rfl ?_
 refine zA rfl rfl (zC rfl rfl) ?_
 refine zH ?_
 refine zE ?_
 refine qA ?_
 refine qQ ⟨[(5, .c _), (0, .c _), (1, .c _)], []⟩ (Weak.mk [] ⟨VLe.of_eq rfl, VLe.of_eq rfl, VLe.of_eq rfl, trivial⟩ rfl) ?_
 refine qR 1 0 rfl rfl (Nat) (fun k => [(5, vI k)]) (fun k => []) (fun k => k ≤ s.size ∧ (s.data.toList.take k).all inWordB = true) (fun k => s.size - k) ⟨0, ⟨by omega, rfl⟩, Weak.mk [] ⟨VLe.refl _, VLe.refl _, VLe.refl _, trivial⟩ rfl⟩ ?_
 rintro k ⟨hk, hp⟩
 refine zE ?_
 refine zE ?_
 refine zB rfl ?_
 refine zA rfl rfl (zF rfl rfl) ?_
 refine zA rfl rfl (zF rfl rfl) ?_
 refine zA rfl rfl (wE rfl un9 rfl) ?_
 refine zA rfl rfl (qS rfl rfl rfl) ?_
 refine zA rfl rfl (zF rfl rfl) ?_
 refine zN [] rfl rfl rfl rfl gv1 trivial (fun g2_4 => zF rfl rfl) rfl ?_
 refine zN [] rfl rfl rfl rfl gv1 trivial (fun g2_4 => zF rfl rfl) rfl ?_
 refine zN [] rfl rfl rfl rfl gv1 trivial (fun g2_4 => zF rfl rfl) rfl ?_
 refine zN [(12, _), (13, _)] rfl rfl rfl rfl gv1 ⟨rfl, rfl, rfl, rfl, trivial⟩ (fun g2_4 => det_sindexD rfl un9 rfl rfl (by omega) (by simp only [Lz, cond_true, decide_eq_true_eq] at g2_4; omega)) rfl ?_
 refine zN [(14, _)] rfl rfl rfl rfl gv1 ⟨rfl, rfl, trivial⟩ (fun g2_4 => yU rfl us5 ik21 rfl) rfl ?_
 refine zN [(11, _), (15, _)] rfl rfl rfl rfl gv1 ⟨rfl, rfl, rfl, rfl, trivial⟩ (fun g2_4 => det_call_fn0 rfl rfl ok232 (lexer_inWord _) ⟨VLe.refl _, rfl, trivial⟩) rfl ?_
 refine zA rfl rfl (qM rfl rfl rfl (fun h => h) rfl) ?_
 refine zH ?_
 refine zR rfl (fun c1 => ?_) (fun c1 => ?_)
 ·try simp only [sx, List.length_map] at c1
  obtain ⟨hlt, hcc⟩ := c1
  have hlt : k < s.size := by omega
  rw [wrap32_byte] at hcc
  refine zT ?_
  refine qA ?_
  refine zB rfl ?_
  refine zA rfl rfl (zF rfl rfl) ?_
  refine zA rfl rfl (qL rfl rfl rfl ⟨by omega, by omega⟩) ?_
  refine zA rfl rfl (zC rfl rfl) ?_
  refine zH ?_
  have hg := getD_get hlt
  refine ⟨k + 1, ⟨by omega, by rw [all_take_next hg, hp]; exact hcc⟩, (by omega), Weak.mk [] ⟨VLe.refl _, VLe.refl _, VLe.refl _, trivial⟩ rfl⟩
 ·try simp only [sx, List.length_map] at c1
  have hsp : spanB inWordB s.data.toList = k := span_stop hp (by
    by_cases hlt : k < s.size
    · right; refine ⟨_, getD_get hlt, ?_⟩; rcases c1 with c1 | c1; omega; rw [wrap32_byte] at c1; exact c1
    · left; simp; omega)
  refine qU ?_
  refine zE ?_
  refine zB rfl ?_
  refine zA rfl rfl (zF rfl rfl) ?_
  refine zA rfl rfl (zC rfl rfl) ?_
  refine zH ?_
  refine zS ?_
  repeat (first | refine zO ?_ | refine zM ?_)
  refine fin1 (rs_c rfl) ?_
  rw [hsp]

theorem slices_Index_str (l : List ByteArray) (s : ByteArray) (hl : l.length ≤ 1000000) :
    Pur cfg 200 [vSs l, vS s] (vI (idxB l s)) := by
 refine zZ Tryz.func200 rfl Tryz.ntmps200 Tryz.results200 rfl ?_
 intro z hz
 refine zE ?_
 refine zB rfl ?_
 refine zA rfl rfl (zC rfl rfl) ?_
 refine zH ?_
 refine zE ?_
 refine zE ?_
 refine zB rfl ?_
 refine zA rfl rfl (zF rfl rfl) ?_
 refine zA rfl rfl (qB rfl el42 rfl) ?_
 refine zA rfl rfl (zF rfl rfl) ?_
 refine zH ?_
 refine qA ?_
 refine qQ ⟨[(8, .c _), (0, .c _), (1, .c _), (7, .c _)], []⟩ (Weak.mk [] ⟨VLe.of_eq rfl, VLe.of_eq rfl, VLe.of_eq rfl, VLe.of_eq rfl, trivial⟩ rfl) ?_
 refine qR 1 0 rfl rfl (Nat) (fun k => [(8, vI k)]) (fun k => []) (fun k => k ≤ l.length ∧ hasB (l.take k) s = false) (fun k => l.length - k) ⟨0, ⟨by omega, rfl⟩, Weak.mk [] ⟨VLe.refl _, VLe.refl _, VLe.refl _, VLe.refl _, trivial⟩ rfl⟩ ?_
 rintro k ⟨hk, hp⟩
 refine zE ?_
 refine zB rfl ?_
 refine zA rfl rfl (qS rfl rfl rfl) ?_
 refine zH ?_
 refine zE ?_
 refine zR rfl (fun c1 => ?_) (fun c1 => ?_)
 ·try simp only [sx, List.length_map] at c1
  obtain ⟨t, ht⟩ := yL l k (by omega)
  refine zT ?_
  refine zE ?_
  refine qA ?_
  refine zE ?_
  refine zB rfl ?_
  refine zA rfl rfl (zF rfl rfl) ?_
  refine zA rfl rfl (zC rfl rfl) ?_
  refine zH ?_
  refine zE ?_
  refine zB rfl ?_
  refine zA rfl rfl (zF rfl rfl) ?_
  refine zA rfl rfl (zF rfl rfl) ?_
  refine zA rfl rfl (zF rfl rfl) ?_
  refine zA rfl rfl (zX rfl el42 rfl rfl (by omega) (getm ht)) ?_
  refine zA rfl rfl (zK rfl one9 rfl qK rfl) ?_
  refine zA rfl rfl (yJ rfl rfl rfl) ?_
  refine zH ?_
  refine zR rfl (fun c2 => ?_) (fun c2 => ?_)
  ·try simp only [sx, List.length_map] at c2
   refine zE ?_
   refine zB rfl ?_
   refine zA rfl rfl (zF rfl rfl) ?_
   refine zA rfl rfl (zC rfl rfl) ?_
   refine zH ?_
   refine zS ?_
   repeat (first | refine zO ?_ | refine zM ?_)
   refine fin1 (rs_c rfl) ?_
   rw [idxB_some ht c2 hp]
  ·try simp only [sx, List.length_map] at c2
   refine zT ?_
   refine zB rfl ?_
   refine zA rfl rfl (qL rfl rfl rfl ⟨by omega, by omega⟩) ?_
   refine zA rfl rfl (zF rfl rfl) ?_
   refine zH ?_
   refine ⟨k + 1, ⟨by omega, hasB_take_no ht hp (fun e => c2 e.symm)⟩, (by omega), Weak.mk [] ⟨VLe.refl _, VLe.refl _, VLe.refl _, VLe.refl _, trivial⟩ rfl⟩
 ·try simp only [sx, List.length_map] at c1
  refine qU ?_
  refine zE ?_
  refine zB rfl ?_
  refine zA rfl rfl (zC rfl rfl) ?_
  refine zH ?_
  refine zS ?_
  repeat (first | refine zO ?_ | refine zM ?_)
  refine fin1 (rs_c rfl) ?_
  rw [idxB_none (by rw [kJ (by omega)] at hp; exact hp)]

theorem slices_Contains_str (l : List ByteArray) (s : ByteArray) (hl : l.length ≤ 1000000) :
    Pur cfg 138 [vSs l, vS s] (vB (hasB l s)) := by
 refine zZ Tryz.func138 rfl Tryz.ntmps138 Tryz.results138 rfl ?_
 intro z hz
 refine zE ?_
 refine zB rfl ?_
 refine zA rfl rfl (zC rfl rfl) ?_
 refine zH ?_
 refine zE ?_
 refine zB rfl ?_
 refine zA rfl rfl (zF rfl rfl) ?_
 refine zA rfl rfl (zF rfl rfl) ?_
 refine zA rfl rfl (zW rfl ok200 (slices_Index_str l s hl) ⟨VLe.refl _, rfl, VLe.refl _, rfl, trivial⟩) ?_
 refine zA rfl rfl (kR rfl rfl rfl) ?_
 refine zA rfl rfl (zC rfl rfl) ?_
 refine zH ?_
 refine zS ?_
 repeat (first | refine zO ?_ | refine zM ?_)
 refine fin1 (rs_c rfl) ?_
 rw [idxB_has]

theorem lexer_keywords  :
    Pur cfg 261 [] (vSs words) := by
 refine zZ Tryz.func261 rfl Tryz.ntmps261 Tryz.results261 rfl ?_
 intro z hz
 refine zE ?_
 refine zB rfl ?_
 refine zA rfl rfl (yT 1 rfl rfl) ?_
 refine zH ?_
 refine zE ?_
 refine zB rfl ?_
 refine zA rfl rfl (zW rfl ok273 (strings_Fields _ (by decide) kw_ascii) ⟨VLe.refl _, rfl, trivial⟩) ?_
 refine zA rfl rfl (zC rfl rfl) ?_
 refine zH ?_
 refine zS ?_
 repeat (first | refine zO ?_ | refine zM ?_)
 refine fin1 (rs_c rfl) ?_
 exact congrArg vSs kw_fields

theorem lexer_IsKeyword (s : ByteArray) :
    Pur cfg 233 [vS s] (vB (hasB words s)) := by
 refine zZ Tryz.func233 rfl Tryz.ntmps233 Tryz.results233 rfl ?_
 intro z hz
 refine zE ?_
 refine zB rfl ?_
 refine zA rfl rfl (zC rfl rfl) ?_
 refine zH ?_
 refine zE ?_
 refine zB rfl ?_
 refine zA rfl rfl (zW rfl ok261 (lexer_keywords) trivial) ?_
 refine zA rfl rfl (zF rfl rfl) ?_
 refine zA rfl rfl (zW rfl ok138 (slices_Contains_str _ _ (by decide)) ⟨VLe.refl _, rfl, VLe.refl _, rfl, trivial⟩) ?_
 refine zA rfl rfl (zC rfl rfl) ?_
 refine zH ?_
 refine zS ?_
 repeat (first | refine zO ?_ | refine zM ?_)
 refine fin1 (rs_c rfl) ?_
 exact rfl

theorem lexer_IsName (s : ByteArray) :
    Pur cfg 192 [vS s] (vB (isNameB s)) := by
 refine zZ Tryz.func192 rfl Tryz.ntmps192 Tryz.results192 rfl ?_
 intro z hz
 refine zE ?_
 refine zB rfl ?_
 refine zA rfl rfl (zC rfl rfl) ?_
 refine zH ?_
 refine zE ?_
 refine zB rfl ?_
 refine zA rfl rfl (zF rfl rfl) ?_
 refine zA rfl rfl (det_sneq rfl rfl rfl) ?_
 refine zA rfl rfl (zF rfl rfl) ?_
 refine zN [] rfl rfl rfl rfl gv1 trivial (fun g1_2 => zF rfl rfl) rfl ?_
 refine zN [(6, _)] rfl rfl rfl rfl gv1 ⟨rfl, rfl, trivial⟩ (fun g1_2 => wE rfl un9 rfl) rfl ?_
 refine zN [(7, _)] rfl rfl rfl rfl gv1 ⟨rfl, rfl, trivial⟩ (fun g1_2 => kQ rfl rfl rfl) rfl ?_
 refine zA rfl rfl (qM rfl rfl rfl (fun h => h) rfl) ?_
 refine zA rfl rfl (zF rfl rfl) ?_
 refine zN [] rfl rfl rfl rfl gv1 trivial (fun g1_7 => zF rfl rfl) rfl ?_
 refine zN [(11, _)] rfl rfl rfl rfl gv1 ⟨rfl, rfl, trivial⟩ (fun g1_7 => det_sindexD rfl un9 rfl rfl (by decide) (size_pos (nm1 g1_7))) rfl ?_
 refine zN [(12, _)] rfl rfl rfl rfl gv1 ⟨rfl, rfl, trivial⟩ (fun g1_7 => yU rfl us5 ik21 rfl) rfl ?_
 refine zN [(13, _)] rfl rfl rfl rfl gv1 ⟨rfl, rfl, trivial⟩ (fun g1_7 => zW rfl ok230 (lexer_letter _) ⟨VLe.refl _, rfl, trivial⟩) rfl ?_
 refine zA rfl rfl (qM rfl rfl rfl (fun h => h) rfl) ?_
 refine zA rfl rfl (zF rfl rfl) ?_
 refine zN [] rfl rfl rfl rfl gv1 trivial (fun g1_13 => zF rfl rfl) rfl ?_
 refine zN [(17, _)] rfl rfl rfl rfl gv1 ⟨rfl, rfl, trivial⟩ (fun g1_13 => zW rfl ok231 (lexer_span_inWord s (nm2 g1_13)) ⟨VLe.refl _, rfl, VLe.refl _, rfl, trivial⟩) rfl ?_
 refine zN [] rfl rfl rfl rfl gv1 trivial (fun g1_13 => zF rfl rfl) rfl ?_
 refine zN [(19, _)] rfl rfl rfl rfl gv1 ⟨rfl, rfl, trivial⟩ (fun g1_13 => wE rfl un9 rfl) rfl ?_
 refine zN [(18, _), (20, _)] rfl rfl rfl rfl gv1 ⟨rfl, rfl, rfl, rfl, trivial⟩ (fun g1_13 => qJ rfl rfl rfl) rfl ?_
 refine zA rfl rfl (qM rfl rfl rfl (fun h => h) rfl) ?_
 refine zA rfl rfl (zF rfl rfl) ?_
 refine zN [] rfl rfl rfl rfl gv1 trivial (fun g1_20 => zF rfl rfl) rfl ?_
 refine zN [(24, _)] rfl rfl rfl rfl gv1 ⟨rfl, rfl, trivial⟩ (fun g1_20 => zW rfl ok233 (lexer_IsKeyword _) ⟨VLe.refl _, rfl, trivial⟩) rfl ?_
 refine zN [(25, _)] rfl rfl rfl rfl gv1 ⟨rfl, rfl, trivial⟩ (fun g1_20 => qY rfl rfl) rfl ?_
 refine zA rfl rfl (qM rfl rfl rfl (fun h => h) rfl) ?_
 refine zA rfl rfl (zC rfl rfl) ?_
 refine zH ?_
 refine zS ?_
 repeat (first | refine zO ?_ | refine zM ?_)
 refine fin1 (rs_c rfl) ?_
 exact congrArg vB (isName_eq s)

theorem base_Words  :
    Pur cfg 102 [] (vSs words) := by
 refine zZ Tryz.func102 rfl Tryz.ntmps102 Tryz.results102 rfl ?_
 intro z hz
 refine zE ?_
 refine zB rfl ?_
 refine zA rfl rfl (yT 1 rfl rfl) ?_
 refine zH ?_
 refine zE ?_
 refine zB rfl ?_
 refine zA rfl rfl (yF rfl el42 zr9 rfl rfl rfl rfl) ?_
 refine zA rfl rfl (zC rfl rfl) ?_
 refine zH ?_
 refine zS ?_
 repeat (first | refine zO ?_ | refine zM ?_)
 refine fin1 (rs_c rfl) ?_
 exact rfl

theorem base_Has (l : List ByteArray) (s : ByteArray) (hl : l.length ≤ 6000000000000) :
    Pur cfg 38 [vSs l, vS s] (vB (hasB l s)) := by
 refine zZ Tryz.func38 rfl Tryz.ntmps38 Tryz.results38 rfl ?_
 intro z hz
 refine zE ?_
 refine zB rfl ?_
 refine zA rfl rfl (zC rfl rfl) ?_
 refine zH ?_
 refine zE ?_
 refine zE ?_
 refine zB rfl ?_
 refine zA rfl rfl (zC rfl rfl) ?_
 refine zH ?_
 refine qA ?_
 refine qQ ⟨[(5, .c _), (0, .c _), (1, .c _)], []⟩ (Weak.mk [] ⟨VLe.of_eq rfl, VLe.of_eq rfl, VLe.of_eq rfl, trivial⟩ rfl) ?_
 refine qR 1 0 rfl rfl (Nat) (fun k => [(5, vI k)]) (fun k => []) (fun k => k ≤ l.length ∧ hasB (l.take k) s = false) (fun k => l.length - k) ⟨0, ⟨by omega, rfl⟩, Weak.mk [] ⟨VLe.refl _, VLe.refl _, VLe.refl _, trivial⟩ rfl⟩ ?_
 rintro k ⟨hk, hp⟩
 refine zE ?_
 refine zE ?_
 refine zB rfl ?_
 refine zA rfl rfl (zF rfl rfl) ?_
 refine zA rfl rfl (zF rfl rfl) ?_
 refine zA rfl rfl (qB rfl el42 rfl) ?_
 refine zA rfl rfl (qS rfl rfl rfl) ?_
 refine zH ?_
 refine zR rfl (fun c1 => ?_) (fun c1 => ?_)
 ·try simp only [sx, List.length_map] at c1
  obtain ⟨t, ht⟩ := yL l k (by omega)
  refine zT ?_
  refine zE ?_
  refine qA ?_
  refine zE ?_
  refine zB rfl ?_
  refine zA rfl rfl (zF rfl rfl) ?_
  refine zA rfl rfl (zF rfl rfl) ?_
  refine zA rfl rfl (zX rfl el42 rfl rfl (by omega) (getm ht)) ?_
  refine zA rfl rfl (zK rfl one9 rfl qK rfl) ?_
  refine zA rfl rfl (zF rfl rfl) ?_
  refine zA rfl rfl (yJ rfl rfl rfl) ?_
  refine zH ?_
  refine zR rfl (fun c2 => ?_) (fun c2 => ?_)
  ·try simp only [sx, List.length_map] at c2
   refine zE ?_
   refine zB rfl ?_
   refine zA rfl rfl (zC rfl rfl) ?_
   refine zH ?_
   refine zS ?_
   repeat (first | refine zO ?_ | refine zM ?_)
   refine fin1 (rs_c rfl) ?_
   rw [yK ht c2]
  ·try simp only [sx, List.length_map] at c2
   refine zT ?_
   refine zB rfl ?_
   refine zA rfl rfl (zF rfl rfl) ?_
   refine zA rfl rfl (qL rfl rfl rfl ⟨by omega, by omega⟩) ?_
   refine zA rfl rfl (zC rfl rfl) ?_
   refine zH ?_
   refine ⟨k + 1, ⟨by omega, hasB_take_no ht hp c2⟩, (by omega), Weak.mk [] ⟨VLe.refl _, VLe.refl _, VLe.refl _, trivial⟩ rfl⟩
 ·try simp only [sx, List.length_map] at c1
  refine qU ?_
  refine zE ?_
  refine zB rfl ?_
  refine zA rfl rfl (zC rfl rfl) ?_
  refine zH ?_
  refine zS ?_
  repeat (first | refine zO ?_ | refine zM ?_)
  refine fin1 (rs_c rfl) ?_
  rw [show hasB l s = false by rw [kJ (by omega)] at hp; exact hp]

theorem base_Name (s : ByteArray) :
    Pur cfg 36 [vS s] (vB (isNameB s)) := by
 refine zZ Tryz.func36 rfl Tryz.ntmps36 Tryz.results36 rfl ?_
 intro z hz
 refine zE ?_
 refine zB rfl ?_
 refine zA rfl rfl (zC rfl rfl) ?_
 refine zH ?_
 refine zE ?_
 refine zE ?_
 refine zB rfl ?_
 refine zA rfl rfl (zF rfl rfl) ?_
 refine zA rfl rfl (wE rfl un9 rfl) ?_
 refine zA rfl rfl (qS rfl rfl rfl) ?_
 refine zA rfl rfl (zF rfl rfl) ?_
 refine zN [] rfl rfl rfl rfl gv1 trivial (fun g1_3 => zF rfl rfl) rfl ?_
 refine zN [(9, _)] rfl rfl rfl rfl gv1 ⟨rfl, rfl, trivial⟩ (fun g1_3 => wE rfl un9 rfl) rfl ?_
 refine zN [(10, _)] rfl rfl rfl rfl gv1 ⟨rfl, rfl, trivial⟩ (fun g1_3 => yX rfl rfl rfl) rfl ?_
 refine zA rfl rfl (yD rfl rfl rfl rfl (fun h => (lzf h))) ?_
 refine zA rfl rfl (zF rfl rfl) ?_
 refine zN [] rfl rfl rfl rfl gv1 trivial (fun g1_8 => zW rfl ok102 (base_Words) trivial) rfl ?_
 refine zN [] rfl rfl rfl rfl gv1 trivial (fun g1_8 => zF rfl rfl) rfl ?_
 refine zN [(14, _), (15, _)] rfl rfl rfl rfl gv1 ⟨rfl, rfl, rfl, rfl, trivial⟩ (fun g1_8 => zW rfl ok38 (base_Has _ _ (by decide)) ⟨VLe.refl _, rfl, VLe.refl _, rfl, trivial⟩) rfl ?_
 refine zA rfl rfl (yD rfl rfl rfl rfl (fun h => (lzf h))) ?_
 refine zH ?_
 refine zR rfl (fun c1 => ?_) (fun c1 => ?_)
 ·try simp only [sx, List.length_map] at c1
  have hno := name_short (s := s) (by simpa using c1)
  refine zE ?_
  refine zB rfl ?_
  refine zA rfl rfl (zC rfl rfl) ?_
  refine zH ?_
  refine zS ?_
  repeat (first | refine zO ?_ | refine zM ?_)
  refine fin1 (rs_c rfl) ?_
  rw [hno]
 ·try simp only [sx, List.length_map] at c1
  obtain ⟨⟨n1, n2⟩, n3⟩ := c1
  have n1 : 1 ≤ s.size := by omega
  have n2 : s.size ≤ 16 := by omega
  have hne := name_end n1 n2 n3
  refine zT ?_
  refine zE ?_
  refine zE ?_
  refine zB rfl ?_
  refine zA rfl rfl (zC rfl rfl) ?_
  refine zH ?_
  refine qA ?_
  refine qQ ⟨[(3, .c _), (0, .c _)], []⟩ (Weak.mk [] ⟨VLe.of_eq rfl, VLe.of_eq rfl, trivial⟩ rfl) ?_
  refine qR 1 0 rfl rfl (Nat) (fun k => [(3, vI k)]) (fun k => []) (fun k => k ≤ s.size ∧ okTo s k = true) (fun k => s.size - k) ⟨0, ⟨by omega, rfl⟩, Weak.mk [] ⟨VLe.refl _, VLe.refl _, trivial⟩ rfl⟩ ?_
  rintro k ⟨hk, hp⟩
  refine zE ?_
  refine zE ?_
  refine zB rfl ?_
  refine zA rfl rfl (zF rfl rfl) ?_
  refine zA rfl rfl (zF rfl rfl) ?_
  refine zA rfl rfl (wE rfl un9 rfl) ?_
  refine zA rfl rfl (qS rfl rfl rfl) ?_
  refine zH ?_
  refine zR rfl (fun c2 => ?_) (fun c2 => ?_)
  ·try simp only [sx, List.length_map] at c2
   have hlt : k < s.size := by omega
   refine zT ?_
   refine zE ?_
   refine qA ?_
   refine zE ?_
   refine zB rfl ?_
   refine zA rfl rfl (zF rfl rfl) ?_
   refine zA rfl rfl (zF rfl rfl) ?_
   refine zA rfl rfl (det_sindexD rfl un9 rfl rfl (by omega) (by omega)) ?_
   refine zA rfl rfl (zC rfl rfl) ?_
   refine zH ?_
   refine zE ?_
   refine zB rfl ?_
   refine zA rfl rfl (zF rfl rfl) ?_
   refine zA rfl rfl (kR rfl rfl rfl) ?_
   refine zA rfl rfl (zF rfl rfl) ?_
   refine zN [] rfl rfl rfl rfl gv1 trivial (fun g7_2 => zF rfl rfl) rfl ?_
   refine zN [(30, _)] rfl rfl rfl rfl gv1 ⟨rfl, rfl, trivial⟩ (fun g7_2 => kQ rfl rfl rfl) rfl ?_
   refine zA rfl rfl (qM rfl rfl rfl (fun h => h) rfl) ?_
   refine zA rfl rfl (zF rfl rfl) ?_
   refine zN [] rfl rfl rfl rfl gv1 trivial (fun g7_6 => zF rfl rfl) rfl ?_
   refine zN [(34, _)] rfl rfl rfl rfl gv1 ⟨rfl, rfl, trivial⟩ (fun g7_6 => yX rfl rfl rfl) rfl ?_
   refine zN [(35, _)] rfl rfl rfl rfl gv1 ⟨rfl, rfl, trivial⟩ (fun g7_6 => zF rfl rfl) rfl ?_
   refine zN [] rfl rfl rfl rfl gv2 trivial (fun g7_9 => zF rfl rfl) rfl ?_
   refine zN [(37, _)] rfl rfl rfl rfl gv2 ⟨rfl, rfl, trivial⟩ (fun g7_9 => kR rfl rfl rfl) rfl ?_
   refine zN [(38, _)] rfl rfl rfl rfl gv2 ⟨rfl, rfl, trivial⟩ (fun g7_9 => zF rfl rfl) rfl ?_
   refine zN [] rfl rfl rfl rfl gv2 trivial (fun g7_12 => zF rfl rfl) rfl ?_
   refine zN [(40, _)] rfl rfl rfl rfl gv2 ⟨rfl, rfl, trivial⟩ (fun g7_12 => kQ rfl rfl rfl) rfl ?_
   refine zN [(39, _)] rfl rfl rfl rfl gv2 ⟨rfl, rfl, trivial⟩ (fun g7_9 => qM rfl rfl rfl (fun h => yQ (by assumption) h) rfl) rfl ?_
   refine zN [(42, _)] rfl rfl rfl rfl gv2 ⟨rfl, rfl, trivial⟩ (fun g7_9 => zF rfl rfl) rfl ?_
   refine zN [] rfl rfl rfl rfl gv2 trivial (fun g7_16 => zF rfl rfl) rfl ?_
   refine zN [(44, _)] rfl rfl rfl rfl gv2 ⟨rfl, rfl, trivial⟩ (fun g7_16 => qJ rfl rfl rfl) rfl ?_
   refine zN [(43, _)] rfl rfl rfl rfl gv2 ⟨rfl, rfl, trivial⟩ (fun g7_9 => yD rfl rfl rfl rfl (fun h => yQ (by assumption) (lzf h))) rfl ?_
   refine zN [(36, _)] rfl rfl rfl rfl gv1 ⟨rfl, rfl, trivial⟩ (fun g7_6 => qM rfl rfl rfl (fun h => yQ (by assumption) h) rfl) rfl ?_
   refine zA rfl rfl (yD rfl rfl rfl rfl (fun h => (lzf h))) ?_
   refine zA rfl rfl (qY rfl rfl) ?_
   refine zH ?_
   refine zR rfl (fun c3 => ?_) (fun c3 => ?_)
   ·have hbad : okTo s (k + 1) = false := by rw [okTo_next, show nameOk k (s.data.toList.getD k 0) = false from (Bool.not_eq_true' _).mp c3]; simp
    refine zE ?_
    refine zB rfl ?_
    refine zA rfl rfl (zC rfl rfl) ?_
    refine zH ?_
    refine zS ?_
    repeat (first | refine zO ?_ | refine zM ?_)
    refine fin1 (rs_c rfl) ?_
    rw [hne]; cases ho : okTo s s.size; rfl; exact absurd (okTo_le (k := k + 1) (by omega) ho) (by rw [hbad]; simp)
   ·have hgood : okTo s (k + 1) = true := by rw [okTo_next, hp, show nameOk k (s.data.toList.getD k 0) = true from (Bool.not_eq_false' _).mp c3]; rfl
    refine zT ?_
    refine zB rfl ?_
    refine zA rfl rfl (zF rfl rfl) ?_
    refine zA rfl rfl (qL rfl rfl rfl ⟨by omega, by omega⟩) ?_
    refine zA rfl rfl (zC rfl rfl) ?_
    refine zH ?_
    refine ⟨k + 1, ⟨by omega, hgood⟩, (by omega), Weak.mk [] ⟨VLe.refl _, VLe.refl _, trivial⟩ rfl⟩
  ·try simp only [sx, List.length_map] at c2
   refine qU ?_
   refine zE ?_
   refine zB rfl ?_
   refine zA rfl rfl (zC rfl rfl) ?_
   refine zH ?_
   refine zS ?_
   repeat (first | refine zO ?_ | refine zM ?_)
   refine fin1 (rs_c rfl) ?_
   rw [hne, show s.size = k by omega, hp]

theorem lin_reserved (s : ByteArray) :
    Pur cfg 203 [vS s] (vB (hasB words s)) := by
 refine zZ Tryz.func203 rfl Tryz.ntmps203 Tryz.results203 rfl ?_
 intro z hz
 refine zE ?_
 refine zB rfl ?_
 refine zA rfl rfl (zC rfl rfl) ?_
 refine zH ?_
 refine zE ?_
 refine zE ?_
 refine zB rfl ?_
 refine zA rfl rfl (zF rfl rfl) ?_
 refine zH ?_
 refine qA ?_
 refine zE ?_
 refine zE ?_
 refine zB rfl ?_
 refine zA rfl rfl (yJ rfl rfl rfl) ?_
 refine zA rfl rfl (zC rfl rfl) ?_
 refine zH ?_
 refine zR rfl (fun c1 => ?_) (fun c1 => ?_)
 ·try simp only [sx, List.length_map] at c1
  refine zT ?_
  refine zR rfl (fun c22 => ?_) (fun c22 => ?_)
  ·try simp only [sx, List.length_map] at c22
   refine zE ?_
   refine zB rfl ?_
   refine zA rfl rfl (zC rfl rfl) ?_
   refine zH ?_
   refine zS ?_
   repeat (first | refine zO ?_ | refine zM ?_)
   refine fin1 (rs_c rfl) ?_
   rw [yK (l := words) (k := 0) rfl c1.symm]
  ·try simp only [sx, List.length_map] at c22
   refine zT ?_
   refine zE ?_
   refine zB rfl ?_
   refine zA rfl rfl (zC rfl rfl) ?_
   refine zH ?_
   refine zS ?_
   repeat (first | refine zO ?_ | refine zM ?_)
   refine fin1 (rs_c rfl) ?_
   exact absurd c1 c22
 ·try simp only [sx, List.length_map] at c1
  refine zE ?_
  refine zB rfl ?_
  refine zA rfl rfl (yJ rfl rfl rfl) ?_
  refine zA rfl rfl (zC rfl rfl) ?_
  refine zH ?_
  refine zR rfl (fun c2 => ?_) (fun c2 => ?_)
  ·try simp only [sx, List.length_map] at c2
   refine zT ?_
   refine zR rfl (fun c22 => ?_) (fun c22 => ?_)
   ·try simp only [sx, List.length_map] at c22
    refine zE ?_
    refine zB rfl ?_
    refine zA rfl rfl (zC rfl rfl) ?_
    refine zH ?_
    refine zS ?_
    repeat (first | refine zO ?_ | refine zM ?_)
    refine fin1 (rs_c rfl) ?_
    rw [yK (l := words) (k := 1) rfl c2.symm]
   ·try simp only [sx, List.length_map] at c22
    refine zT ?_
    refine zE ?_
    refine zB rfl ?_
    refine zA rfl rfl (zC rfl rfl) ?_
    refine zH ?_
    refine zS ?_
    repeat (first | refine zO ?_ | refine zM ?_)
    refine fin1 (rs_c rfl) ?_
    exact absurd c2 c22
  ·try simp only [sx, List.length_map] at c2
   refine zE ?_
   refine zB rfl ?_
   refine zA rfl rfl (yJ rfl rfl rfl) ?_
   refine zA rfl rfl (zC rfl rfl) ?_
   refine zH ?_
   refine zR rfl (fun c3 => ?_) (fun c3 => ?_)
   ·try simp only [sx, List.length_map] at c3
    refine zT ?_
    refine zR rfl (fun c22 => ?_) (fun c22 => ?_)
    ·try simp only [sx, List.length_map] at c22
     refine zE ?_
     refine zB rfl ?_
     refine zA rfl rfl (zC rfl rfl) ?_
     refine zH ?_
     refine zS ?_
     repeat (first | refine zO ?_ | refine zM ?_)
     refine fin1 (rs_c rfl) ?_
     rw [yK (l := words) (k := 2) rfl c3.symm]
    ·try simp only [sx, List.length_map] at c22
     refine zT ?_
     refine zE ?_
     refine zB rfl ?_
     refine zA rfl rfl (zC rfl rfl) ?_
     refine zH ?_
     refine zS ?_
     repeat (first | refine zO ?_ | refine zM ?_)
     refine fin1 (rs_c rfl) ?_
     exact absurd c3 c22
   ·try simp only [sx, List.length_map] at c3
    refine zE ?_
    refine zB rfl ?_
    refine zA rfl rfl (yJ rfl rfl rfl) ?_
    refine zA rfl rfl (zC rfl rfl) ?_
    refine zH ?_
    refine zR rfl (fun c4 => ?_) (fun c4 => ?_)
    ·try simp only [sx, List.length_map] at c4
     refine zT ?_
     refine zR rfl (fun c22 => ?_) (fun c22 => ?_)
     ·try simp only [sx, List.length_map] at c22
      refine zE ?_
      refine zB rfl ?_
      refine zA rfl rfl (zC rfl rfl) ?_
      refine zH ?_
      refine zS ?_
      repeat (first | refine zO ?_ | refine zM ?_)
      refine fin1 (rs_c rfl) ?_
      rw [yK (l := words) (k := 3) rfl c4.symm]
     ·try simp only [sx, List.length_map] at c22
      refine zT ?_
      refine zE ?_
      refine zB rfl ?_
      refine zA rfl rfl (zC rfl rfl) ?_
      refine zH ?_
      refine zS ?_
      repeat (first | refine zO ?_ | refine zM ?_)
      refine fin1 (rs_c rfl) ?_
      exact absurd c4 c22
    ·try simp only [sx, List.length_map] at c4
     refine zE ?_
     refine zB rfl ?_
     refine zA rfl rfl (yJ rfl rfl rfl) ?_
     refine zA rfl rfl (zC rfl rfl) ?_
     refine zH ?_
     refine zR rfl (fun c5 => ?_) (fun c5 => ?_)
     ·try simp only [sx, List.length_map] at c5
      refine zT ?_
      refine zR rfl (fun c22 => ?_) (fun c22 => ?_)
      ·try simp only [sx, List.length_map] at c22
       refine zE ?_
       refine zB rfl ?_
       refine zA rfl rfl (zC rfl rfl) ?_
       refine zH ?_
       refine zS ?_
       repeat (first | refine zO ?_ | refine zM ?_)
       refine fin1 (rs_c rfl) ?_
       rw [yK (l := words) (k := 4) rfl c5.symm]
      ·try simp only [sx, List.length_map] at c22
       refine zT ?_
       refine zE ?_
       refine zB rfl ?_
       refine zA rfl rfl (zC rfl rfl) ?_
       refine zH ?_
       refine zS ?_
       repeat (first | refine zO ?_ | refine zM ?_)
       refine fin1 (rs_c rfl) ?_
       exact absurd c5 c22
     ·try simp only [sx, List.length_map] at c5
      refine zE ?_
      refine zB rfl ?_
      refine zA rfl rfl (yJ rfl rfl rfl) ?_
      refine zA rfl rfl (zC rfl rfl) ?_
      refine zH ?_
      refine zR rfl (fun c6 => ?_) (fun c6 => ?_)
      ·try simp only [sx, List.length_map] at c6
       refine zT ?_
       refine zR rfl (fun c22 => ?_) (fun c22 => ?_)
       ·try simp only [sx, List.length_map] at c22
        refine zE ?_
        refine zB rfl ?_
        refine zA rfl rfl (zC rfl rfl) ?_
        refine zH ?_
        refine zS ?_
        repeat (first | refine zO ?_ | refine zM ?_)
        refine fin1 (rs_c rfl) ?_
        rw [yK (l := words) (k := 5) rfl c6.symm]
       ·try simp only [sx, List.length_map] at c22
        refine zT ?_
        refine zE ?_
        refine zB rfl ?_
        refine zA rfl rfl (zC rfl rfl) ?_
        refine zH ?_
        refine zS ?_
        repeat (first | refine zO ?_ | refine zM ?_)
        refine fin1 (rs_c rfl) ?_
        exact absurd c6 c22
      ·try simp only [sx, List.length_map] at c6
       refine zE ?_
       refine zB rfl ?_
       refine zA rfl rfl (yJ rfl rfl rfl) ?_
       refine zA rfl rfl (zC rfl rfl) ?_
       refine zH ?_
       refine zR rfl (fun c7 => ?_) (fun c7 => ?_)
       ·try simp only [sx, List.length_map] at c7
        refine zT ?_
        refine zR rfl (fun c22 => ?_) (fun c22 => ?_)
        ·try simp only [sx, List.length_map] at c22
         refine zE ?_
         refine zB rfl ?_
         refine zA rfl rfl (zC rfl rfl) ?_
         refine zH ?_
         refine zS ?_
         repeat (first | refine zO ?_ | refine zM ?_)
         refine fin1 (rs_c rfl) ?_
         rw [yK (l := words) (k := 6) rfl c7.symm]
        ·try simp only [sx, List.length_map] at c22
         refine zT ?_
         refine zE ?_
         refine zB rfl ?_
         refine zA rfl rfl (zC rfl rfl) ?_
         refine zH ?_
         refine zS ?_
         repeat (first | refine zO ?_ | refine zM ?_)
         refine fin1 (rs_c rfl) ?_
         exact absurd c7 c22
       ·try simp only [sx, List.length_map] at c7
        refine zE ?_
        refine zB rfl ?_
        refine zA rfl rfl (yJ rfl rfl rfl) ?_
        refine zA rfl rfl (zC rfl rfl) ?_
        refine zH ?_
        refine zR rfl (fun c8 => ?_) (fun c8 => ?_)
        ·try simp only [sx, List.length_map] at c8
         refine zT ?_
         refine zR rfl (fun c22 => ?_) (fun c22 => ?_)
         ·try simp only [sx, List.length_map] at c22
          refine zE ?_
          refine zB rfl ?_
          refine zA rfl rfl (zC rfl rfl) ?_
          refine zH ?_
          refine zS ?_
          repeat (first | refine zO ?_ | refine zM ?_)
          refine fin1 (rs_c rfl) ?_
          rw [yK (l := words) (k := 7) rfl c8.symm]
         ·try simp only [sx, List.length_map] at c22
          refine zT ?_
          refine zE ?_
          refine zB rfl ?_
          refine zA rfl rfl (zC rfl rfl) ?_
          refine zH ?_
          refine zS ?_
          repeat (first | refine zO ?_ | refine zM ?_)
          refine fin1 (rs_c rfl) ?_
          exact absurd c8 c22
        ·try simp only [sx, List.length_map] at c8
         refine zE ?_
         refine zB rfl ?_
         refine zA rfl rfl (yJ rfl rfl rfl) ?_
         refine zA rfl rfl (zC rfl rfl) ?_
         refine zH ?_
         refine zR rfl (fun c9 => ?_) (fun c9 => ?_)
         ·try simp only [sx, List.length_map] at c9
          refine zT ?_
          refine zR rfl (fun c22 => ?_) (fun c22 => ?_)
          ·try simp only [sx, List.length_map] at c22
           refine zE ?_
           refine zB rfl ?_
           refine zA rfl rfl (zC rfl rfl) ?_
           refine zH ?_
           refine zS ?_
           repeat (first | refine zO ?_ | refine zM ?_)
           refine fin1 (rs_c rfl) ?_
           rw [yK (l := words) (k := 8) rfl c9.symm]
          ·try simp only [sx, List.length_map] at c22
           refine zT ?_
           refine zE ?_
           refine zB rfl ?_
           refine zA rfl rfl (zC rfl rfl) ?_
           refine zH ?_
           refine zS ?_
           repeat (first | refine zO ?_ | refine zM ?_)
           refine fin1 (rs_c rfl) ?_
           exact absurd c9 c22
         ·try simp only [sx, List.length_map] at c9
          refine zE ?_
          refine zB rfl ?_
          refine zA rfl rfl (yJ rfl rfl rfl) ?_
          refine zA rfl rfl (zC rfl rfl) ?_
          refine zH ?_
          refine zR rfl (fun c10 => ?_) (fun c10 => ?_)
          ·try simp only [sx, List.length_map] at c10
           refine zT ?_
           refine zR rfl (fun c22 => ?_) (fun c22 => ?_)
           ·try simp only [sx, List.length_map] at c22
            refine zE ?_
            refine zB rfl ?_
            refine zA rfl rfl (zC rfl rfl) ?_
            refine zH ?_
            refine zS ?_
            repeat (first | refine zO ?_ | refine zM ?_)
            refine fin1 (rs_c rfl) ?_
            rw [yK (l := words) (k := 9) rfl c10.symm]
           ·try simp only [sx, List.length_map] at c22
            refine zT ?_
            refine zE ?_
            refine zB rfl ?_
            refine zA rfl rfl (zC rfl rfl) ?_
            refine zH ?_
            refine zS ?_
            repeat (first | refine zO ?_ | refine zM ?_)
            refine fin1 (rs_c rfl) ?_
            exact absurd c10 c22
          ·try simp only [sx, List.length_map] at c10
           refine zE ?_
           refine zB rfl ?_
           refine zA rfl rfl (yJ rfl rfl rfl) ?_
           refine zA rfl rfl (zC rfl rfl) ?_
           refine zH ?_
           refine zR rfl (fun c11 => ?_) (fun c11 => ?_)
           ·try simp only [sx, List.length_map] at c11
            refine zT ?_
            refine zR rfl (fun c22 => ?_) (fun c22 => ?_)
            ·try simp only [sx, List.length_map] at c22
             refine zE ?_
             refine zB rfl ?_
             refine zA rfl rfl (zC rfl rfl) ?_
             refine zH ?_
             refine zS ?_
             repeat (first | refine zO ?_ | refine zM ?_)
             refine fin1 (rs_c rfl) ?_
             rw [yK (l := words) (k := 10) rfl c11.symm]
            ·try simp only [sx, List.length_map] at c22
             refine zT ?_
             refine zE ?_
             refine zB rfl ?_
             refine zA rfl rfl (zC rfl rfl) ?_
             refine zH ?_
             refine zS ?_
             repeat (first | refine zO ?_ | refine zM ?_)
             refine fin1 (rs_c rfl) ?_
             exact absurd c11 c22
           ·try simp only [sx, List.length_map] at c11
            refine zE ?_
            refine zB rfl ?_
            refine zA rfl rfl (yJ rfl rfl rfl) ?_
            refine zA rfl rfl (zC rfl rfl) ?_
            refine zH ?_
            refine zR rfl (fun c12 => ?_) (fun c12 => ?_)
            ·try simp only [sx, List.length_map] at c12
             refine zT ?_
             refine zR rfl (fun c22 => ?_) (fun c22 => ?_)
             ·try simp only [sx, List.length_map] at c22
              refine zE ?_
              refine zB rfl ?_
              refine zA rfl rfl (zC rfl rfl) ?_
              refine zH ?_
              refine zS ?_
              repeat (first | refine zO ?_ | refine zM ?_)
              refine fin1 (rs_c rfl) ?_
              rw [yK (l := words) (k := 11) rfl c12.symm]
             ·try simp only [sx, List.length_map] at c22
              refine zT ?_
              refine zE ?_
              refine zB rfl ?_
              refine zA rfl rfl (zC rfl rfl) ?_
              refine zH ?_
              refine zS ?_
              repeat (first | refine zO ?_ | refine zM ?_)
              refine fin1 (rs_c rfl) ?_
              exact absurd c12 c22
            ·try simp only [sx, List.length_map] at c12
             refine zE ?_
             refine zB rfl ?_
             refine zA rfl rfl (yJ rfl rfl rfl) ?_
             refine zA rfl rfl (zC rfl rfl) ?_
             refine zH ?_
             refine zR rfl (fun c13 => ?_) (fun c13 => ?_)
             ·try simp only [sx, List.length_map] at c13
              refine zT ?_
              refine zR rfl (fun c22 => ?_) (fun c22 => ?_)
              ·try simp only [sx, List.length_map] at c22
               refine zE ?_
               refine zB rfl ?_
               refine zA rfl rfl (zC rfl rfl) ?_
               refine zH ?_
               refine zS ?_
               repeat (first | refine zO ?_ | refine zM ?_)
               refine fin1 (rs_c rfl) ?_
               rw [yK (l := words) (k := 12) rfl c13.symm]
              ·try simp only [sx, List.length_map] at c22
               refine zT ?_
               refine zE ?_
               refine zB rfl ?_
               refine zA rfl rfl (zC rfl rfl) ?_
               refine zH ?_
               refine zS ?_
               repeat (first | refine zO ?_ | refine zM ?_)
               refine fin1 (rs_c rfl) ?_
               exact absurd c13 c22
             ·try simp only [sx, List.length_map] at c13
              refine zE ?_
              refine zB rfl ?_
              refine zA rfl rfl (yJ rfl rfl rfl) ?_
              refine zA rfl rfl (zC rfl rfl) ?_
              refine zH ?_
              refine zR rfl (fun c14 => ?_) (fun c14 => ?_)
              ·try simp only [sx, List.length_map] at c14
               refine zT ?_
               refine zR rfl (fun c22 => ?_) (fun c22 => ?_)
               ·try simp only [sx, List.length_map] at c22
                refine zE ?_
                refine zB rfl ?_
                refine zA rfl rfl (zC rfl rfl) ?_
                refine zH ?_
                refine zS ?_
                repeat (first | refine zO ?_ | refine zM ?_)
                refine fin1 (rs_c rfl) ?_
                rw [yK (l := words) (k := 13) rfl c14.symm]
               ·try simp only [sx, List.length_map] at c22
                refine zT ?_
                refine zE ?_
                refine zB rfl ?_
                refine zA rfl rfl (zC rfl rfl) ?_
                refine zH ?_
                refine zS ?_
                repeat (first | refine zO ?_ | refine zM ?_)
                refine fin1 (rs_c rfl) ?_
                exact absurd c14 c22
              ·try simp only [sx, List.length_map] at c14
               refine zE ?_
               refine zB rfl ?_
               refine zA rfl rfl (yJ rfl rfl rfl) ?_
               refine zA rfl rfl (zC rfl rfl) ?_
               refine zH ?_
               refine zR rfl (fun c15 => ?_) (fun c15 => ?_)
               ·try simp only [sx, List.length_map] at c15
                refine zT ?_
                refine zR rfl (fun c22 => ?_) (fun c22 => ?_)
                ·try simp only [sx, List.length_map] at c22
                 refine zE ?_
                 refine zB rfl ?_
                 refine zA rfl rfl (zC rfl rfl) ?_
                 refine zH ?_
                 refine zS ?_
                 repeat (first | refine zO ?_ | refine zM ?_)
                 refine fin1 (rs_c rfl) ?_
                 rw [yK (l := words) (k := 14) rfl c15.symm]
                ·try simp only [sx, List.length_map] at c22
                 refine zT ?_
                 refine zE ?_
                 refine zB rfl ?_
                 refine zA rfl rfl (zC rfl rfl) ?_
                 refine zH ?_
                 refine zS ?_
                 repeat (first | refine zO ?_ | refine zM ?_)
                 refine fin1 (rs_c rfl) ?_
                 exact absurd c15 c22
               ·try simp only [sx, List.length_map] at c15
                refine zE ?_
                refine zB rfl ?_
                refine zA rfl rfl (yJ rfl rfl rfl) ?_
                refine zA rfl rfl (zC rfl rfl) ?_
                refine zH ?_
                refine zR rfl (fun c16 => ?_) (fun c16 => ?_)
                ·try simp only [sx, List.length_map] at c16
                 refine zT ?_
                 refine zR rfl (fun c22 => ?_) (fun c22 => ?_)
                 ·try simp only [sx, List.length_map] at c22
                  refine zE ?_
                  refine zB rfl ?_
                  refine zA rfl rfl (zC rfl rfl) ?_
                  refine zH ?_
                  refine zS ?_
                  repeat (first | refine zO ?_ | refine zM ?_)
                  refine fin1 (rs_c rfl) ?_
                  rw [yK (l := words) (k := 15) rfl c16.symm]
                 ·try simp only [sx, List.length_map] at c22
                  refine zT ?_
                  refine zE ?_
                  refine zB rfl ?_
                  refine zA rfl rfl (zC rfl rfl) ?_
                  refine zH ?_
                  refine zS ?_
                  repeat (first | refine zO ?_ | refine zM ?_)
                  refine fin1 (rs_c rfl) ?_
                  exact absurd c16 c22
                ·try simp only [sx, List.length_map] at c16
                 refine zE ?_
                 refine zB rfl ?_
                 refine zA rfl rfl (yJ rfl rfl rfl) ?_
                 refine zA rfl rfl (zC rfl rfl) ?_
                 refine zH ?_
                 refine zR rfl (fun c17 => ?_) (fun c17 => ?_)
                 ·try simp only [sx, List.length_map] at c17
                  refine zT ?_
                  refine zR rfl (fun c22 => ?_) (fun c22 => ?_)
                  ·try simp only [sx, List.length_map] at c22
                   refine zE ?_
                   refine zB rfl ?_
                   refine zA rfl rfl (zC rfl rfl) ?_
                   refine zH ?_
                   refine zS ?_
                   repeat (first | refine zO ?_ | refine zM ?_)
                   refine fin1 (rs_c rfl) ?_
                   rw [yK (l := words) (k := 16) rfl c17.symm]
                  ·try simp only [sx, List.length_map] at c22
                   refine zT ?_
                   refine zE ?_
                   refine zB rfl ?_
                   refine zA rfl rfl (zC rfl rfl) ?_
                   refine zH ?_
                   refine zS ?_
                   repeat (first | refine zO ?_ | refine zM ?_)
                   refine fin1 (rs_c rfl) ?_
                   exact absurd c17 c22
                 ·try simp only [sx, List.length_map] at c17
                  refine zE ?_
                  refine zB rfl ?_
                  refine zA rfl rfl (yJ rfl rfl rfl) ?_
                  refine zA rfl rfl (zC rfl rfl) ?_
                  refine zH ?_
                  refine zR rfl (fun c18 => ?_) (fun c18 => ?_)
                  ·try simp only [sx, List.length_map] at c18
                   refine zT ?_
                   refine zR rfl (fun c22 => ?_) (fun c22 => ?_)
                   ·try simp only [sx, List.length_map] at c22
                    refine zE ?_
                    refine zB rfl ?_
                    refine zA rfl rfl (zC rfl rfl) ?_
                    refine zH ?_
                    refine zS ?_
                    repeat (first | refine zO ?_ | refine zM ?_)
                    refine fin1 (rs_c rfl) ?_
                    rw [yK (l := words) (k := 17) rfl c18.symm]
                   ·try simp only [sx, List.length_map] at c22
                    refine zT ?_
                    refine zE ?_
                    refine zB rfl ?_
                    refine zA rfl rfl (zC rfl rfl) ?_
                    refine zH ?_
                    refine zS ?_
                    repeat (first | refine zO ?_ | refine zM ?_)
                    refine fin1 (rs_c rfl) ?_
                    exact absurd c18 c22
                  ·try simp only [sx, List.length_map] at c18
                   refine zE ?_
                   refine zB rfl ?_
                   refine zA rfl rfl (yJ rfl rfl rfl) ?_
                   refine zA rfl rfl (zC rfl rfl) ?_
                   refine zH ?_
                   refine zR rfl (fun c19 => ?_) (fun c19 => ?_)
                   ·try simp only [sx, List.length_map] at c19
                    refine zT ?_
                    refine zR rfl (fun c22 => ?_) (fun c22 => ?_)
                    ·try simp only [sx, List.length_map] at c22
                     refine zE ?_
                     refine zB rfl ?_
                     refine zA rfl rfl (zC rfl rfl) ?_
                     refine zH ?_
                     refine zS ?_
                     repeat (first | refine zO ?_ | refine zM ?_)
                     refine fin1 (rs_c rfl) ?_
                     rw [yK (l := words) (k := 18) rfl c19.symm]
                    ·try simp only [sx, List.length_map] at c22
                     refine zT ?_
                     refine zE ?_
                     refine zB rfl ?_
                     refine zA rfl rfl (zC rfl rfl) ?_
                     refine zH ?_
                     refine zS ?_
                     repeat (first | refine zO ?_ | refine zM ?_)
                     refine fin1 (rs_c rfl) ?_
                     exact absurd c19 c22
                   ·try simp only [sx, List.length_map] at c19
                    refine zE ?_
                    refine zB rfl ?_
                    refine zA rfl rfl (yJ rfl rfl rfl) ?_
                    refine zA rfl rfl (zC rfl rfl) ?_
                    refine zH ?_
                    refine zR rfl (fun c20 => ?_) (fun c20 => ?_)
                    ·try simp only [sx, List.length_map] at c20
                     refine zT ?_
                     refine zR rfl (fun c22 => ?_) (fun c22 => ?_)
                     ·try simp only [sx, List.length_map] at c22
                      refine zE ?_
                      refine zB rfl ?_
                      refine zA rfl rfl (zC rfl rfl) ?_
                      refine zH ?_
                      refine zS ?_
                      repeat (first | refine zO ?_ | refine zM ?_)
                      refine fin1 (rs_c rfl) ?_
                      rw [yK (l := words) (k := 19) rfl c20.symm]
                     ·try simp only [sx, List.length_map] at c22
                      refine zT ?_
                      refine zE ?_
                      refine zB rfl ?_
                      refine zA rfl rfl (zC rfl rfl) ?_
                      refine zH ?_
                      refine zS ?_
                      repeat (first | refine zO ?_ | refine zM ?_)
                      refine fin1 (rs_c rfl) ?_
                      exact absurd c20 c22
                    ·try simp only [sx, List.length_map] at c20
                     refine zE ?_
                     refine zB rfl ?_
                     refine zA rfl rfl (yJ rfl rfl rfl) ?_
                     refine zA rfl rfl (zC rfl rfl) ?_
                     refine zH ?_
                     refine zR rfl (fun c21 => ?_) (fun c21 => ?_)
                     ·try simp only [sx, List.length_map] at c21
                      refine zT ?_
                      refine zR rfl (fun c22 => ?_) (fun c22 => ?_)
                      ·try simp only [sx, List.length_map] at c22
                       refine zE ?_
                       refine zB rfl ?_
                       refine zA rfl rfl (zC rfl rfl) ?_
                       refine zH ?_
                       refine zS ?_
                       repeat (first | refine zO ?_ | refine zM ?_)
                       refine fin1 (rs_c rfl) ?_
                       rw [yK (l := words) (k := 20) rfl c21.symm]
                      ·try simp only [sx, List.length_map] at c22
                       refine zT ?_
                       refine zE ?_
                       refine zB rfl ?_
                       refine zA rfl rfl (zC rfl rfl) ?_
                       refine zH ?_
                       refine zS ?_
                       repeat (first | refine zO ?_ | refine zM ?_)
                       refine fin1 (rs_c rfl) ?_
                       exact absurd c21 c22
                     ·try simp only [sx, List.length_map] at c21
                      refine zB rfl ?_
                      refine zA rfl rfl (yJ rfl rfl rfl) ?_
                      refine zA rfl rfl (zC rfl rfl) ?_
                      refine zH ?_
                      refine zR rfl (fun c22 => ?_) (fun c22 => ?_)
                      ·try simp only [sx, List.length_map] at c22
                       refine zE ?_
                       refine zB rfl ?_
                       refine zA rfl rfl (zC rfl rfl) ?_
                       refine zH ?_
                       refine zS ?_
                       repeat (first | refine zO ?_ | refine zM ?_)
                       refine fin1 (rs_c rfl) ?_
                       rw [yK (l := words) (k := 21) rfl c22.symm]
                      ·try simp only [sx, List.length_map] at c22
                       refine zT ?_
                       refine zE ?_
                       refine zB rfl ?_
                       refine zA rfl rfl (zC rfl rfl) ?_
                       refine zH ?_
                       refine zS ?_
                       repeat (first | refine zO ?_ | refine zM ?_)
                       refine fin1 (rs_c rfl) ?_
                       rw [show hasB words s = false by
                         simp only [hasB, words, List.any_cons, List.any_nil, Bool.or_eq_false_iff, decide_eq_false_iff_not]
                         exact ⟨fun h => c1 h.symm, fun h => c2 h.symm, fun h => c3 h.symm, fun h => c4 h.symm, fun h => c5 h.symm, fun h => c6 h.symm, fun h => c7 h.symm, fun h => c8 h.symm, fun h => c9 h.symm, fun h => c10 h.symm, fun h => c11 h.symm, fun h => c12 h.symm, fun h => c13 h.symm, fun h => c14 h.symm, fun h => c15 h.symm, fun h => c16 h.symm, fun h => c17 h.symm, fun h => c18 h.symm, fun h => c19 h.symm, fun h => c20 h.symm, fun h => c21 h.symm, fun h => c22 h.symm, trivial⟩]

theorem lin_identifier (s : ByteArray) :
    Pur cfg 152 [vS s] (vB (isNameB s)) := by
 refine zZ Tryz.func152 rfl Tryz.ntmps152 Tryz.results152 rfl ?_
 intro z hz
 refine zE ?_
 refine zB rfl ?_
 refine zA rfl rfl (zC rfl rfl) ?_
 refine zH ?_
 refine zE ?_
 refine zE ?_
 refine zB rfl ?_
 refine zA rfl rfl (zF rfl rfl) ?_
 refine zA rfl rfl (wE rfl un9 rfl) ?_
 refine zA rfl rfl (qS rfl rfl rfl) ?_
 refine zA rfl rfl (zF rfl rfl) ?_
 refine zN [] rfl rfl rfl rfl gv1 trivial (fun g1_3 => zF rfl rfl) rfl ?_
 refine zN [(9, _)] rfl rfl rfl rfl gv1 ⟨rfl, rfl, trivial⟩ (fun g1_3 => wE rfl un9 rfl) rfl ?_
 refine zN [(10, _)] rfl rfl rfl rfl gv1 ⟨rfl, rfl, trivial⟩ (fun g1_3 => yX rfl rfl rfl) rfl ?_
 refine zA rfl rfl (yD rfl rfl rfl rfl (fun h => (lzf h))) ?_
 refine zA rfl rfl (zF rfl rfl) ?_
 refine zN [] rfl rfl rfl rfl gv1 trivial (fun g1_8 => zF rfl rfl) rfl ?_
 refine zN [(14, _)] rfl rfl rfl rfl gv1 ⟨rfl, rfl, trivial⟩ (fun g1_8 => zW rfl ok203 (lin_reserved _) ⟨VLe.refl _, rfl, trivial⟩) rfl ?_
 refine zA rfl rfl (yD rfl rfl rfl rfl (fun h => (lzf h))) ?_
 refine zA rfl rfl (zF rfl rfl) ?_
 refine zN [] rfl rfl rfl rfl gv1 trivial (fun g1_12 => zF rfl rfl) rfl ?_
 refine zN [(18, _)] rfl rfl rfl rfl gv1 ⟨rfl, rfl, trivial⟩ (fun g1_12 => det_sindexD rfl un9 rfl rfl (by decide) (by simp only [Lz, cond_true, cond_false, Bool.and_eq_true, Bool.or_eq_true, Bool.not_eq_true', Bool.not_eq_false', Bool.or_eq_false_iff, Bool.and_eq_false_iff, decide_eq_true_eq, decide_eq_false_iff_not, Bool.not_eq_true, Bool.not_eq_false] at g1_12; omega)) rfl ?_
 refine zN [(19, _)] rfl rfl rfl rfl gv1 ⟨rfl, rfl, trivial⟩ (fun g1_12 => qS rfl rfl rfl) rfl ?_
 refine zA rfl rfl (yD rfl rfl rfl rfl (fun h => (lzf h))) ?_
 refine zA rfl rfl (zF rfl rfl) ?_
 refine zN [] rfl rfl rfl rfl gv1 trivial (fun g1_17 => zF rfl rfl) rfl ?_
 refine zN [(23, _)] rfl rfl rfl rfl gv1 ⟨rfl, rfl, trivial⟩ (fun g1_17 => det_sindexD rfl un9 rfl rfl (by decide) (by simp only [Lz, cond_true, cond_false, Bool.and_eq_true, Bool.or_eq_true, Bool.not_eq_true', Bool.not_eq_false', Bool.or_eq_false_iff, Bool.and_eq_false_iff, decide_eq_true_eq, decide_eq_false_iff_not, Bool.not_eq_true, Bool.not_eq_false] at g1_17; omega)) rfl ?_
 refine zN [(24, _)] rfl rfl rfl rfl gv1 ⟨rfl, rfl, trivial⟩ (fun g1_17 => yX rfl rfl rfl) rfl ?_
 refine zA rfl rfl (yD rfl rfl rfl rfl (fun h => (lzf h))) ?_
 refine zH ?_
 refine zR rfl (fun c1 => ?_) (fun c1 => ?_)
 ·have hno := ident_no c1
  refine zE ?_
  refine zB rfl ?_
  refine zA rfl rfl (zC rfl rfl) ?_
  refine zH ?_
  refine zS ?_
  repeat (first | refine zO ?_ | refine zM ?_)
  refine fin1 (rs_c rfl) ?_
  rw [hno]
 ·obtain ⟨n1, n2, hne⟩ := ident_yes c1
  refine zT ?_
  refine zE ?_
  refine zE ?_
  refine zB rfl ?_
  refine zA rfl rfl (zF rfl rfl) ?_
  refine zA rfl rfl (wE rfl un9 rfl) ?_
  refine zA rfl rfl (zF rfl rfl) ?_
  refine zH ?_
  refine qA ?_
  refine qQ ⟨[(29, .c _), (0, .c _), (28, .c _)], []⟩ (Weak.mk [] ⟨VLe.of_eq rfl, VLe.of_eq rfl, VLe.of_eq rfl, trivial⟩ rfl) ?_
  refine qR 1 0 rfl rfl (Nat) (fun k => [(29, vI k)]) (fun k => []) (fun k => k ≤ s.size ∧ (s.data.toList.take k).all inWordB = true) (fun k => s.size - k) ⟨0, ⟨by omega, rfl⟩, Weak.mk [] ⟨VLe.refl _, VLe.refl _, VLe.refl _, trivial⟩ rfl⟩ ?_
  rintro k ⟨hk, hp⟩
  refine zE ?_
  refine zB rfl ?_
  refine zA rfl rfl (qS rfl rfl rfl) ?_
  refine zH ?_
  refine zE ?_
  refine zR rfl (fun c2 => ?_) (fun c2 => ?_)
  ·try simp only [sx, List.length_map] at c2
   have hlt : k < s.size := by omega
   refine zT ?_
   refine zE ?_
   refine qA ?_
   refine zE ?_
   refine zB rfl ?_
   refine zA rfl rfl (zF rfl rfl) ?_
   refine zA rfl rfl (zC rfl rfl) ?_
   refine zH ?_
   refine zE ?_
   refine zB rfl ?_
   refine zA rfl rfl (zF rfl rfl) ?_
   refine zA rfl rfl (zF rfl rfl) ?_
   refine zA rfl rfl (det_sindexD rfl un9 rfl rfl (by omega) (by omega)) ?_
   refine zA rfl rfl (zC rfl rfl) ?_
   refine zH ?_
   refine zE ?_
   refine zB rfl ?_
   refine zA rfl rfl (zF rfl rfl) ?_
   refine zA rfl rfl (qS rfl rfl rfl) ?_
   refine zA rfl rfl (zF rfl rfl) ?_
   refine zN [] rfl rfl rfl rfl gv1 trivial (fun g7_2 => zF rfl rfl) rfl ?_
   refine zN [(38, _)] rfl rfl rfl rfl gv1 ⟨rfl, rfl, trivial⟩ (fun g7_2 => yX rfl rfl rfl) rfl ?_
   refine zA rfl rfl (yD rfl rfl rfl rfl (fun h => (lzf h))) ?_
   refine zA rfl rfl (zF rfl rfl) ?_
   refine zN [] rfl rfl rfl rfl gv1 trivial (fun g7_6 => zF rfl rfl) rfl ?_
   refine zN [(42, _)] rfl rfl rfl rfl gv1 ⟨rfl, rfl, trivial⟩ (fun g7_6 => qS rfl rfl rfl) rfl ?_
   refine zN [(43, _)] rfl rfl rfl rfl gv1 ⟨rfl, rfl, trivial⟩ (fun g7_6 => zF rfl rfl) rfl ?_
   refine zN [] rfl rfl rfl rfl gv2 trivial (fun g7_9 => zF rfl rfl) rfl ?_
   refine zN [(45, _)] rfl rfl rfl rfl gv2 ⟨rfl, rfl, trivial⟩ (fun g7_9 => yX rfl rfl rfl) rfl ?_
   refine zN [(44, _)] rfl rfl rfl rfl gv1 ⟨rfl, rfl, trivial⟩ (fun g7_6 => yD rfl rfl rfl rfl (fun h => yQ (by assumption) (lzf h))) rfl ?_
   refine zA rfl rfl (qM rfl rfl rfl (fun h => h) rfl) ?_
   refine zA rfl rfl (zF rfl rfl) ?_
   refine zN [] rfl rfl rfl rfl gv1 trivial (fun g7_14 => zF rfl rfl) rfl ?_
   refine zN [(50, _)] rfl rfl rfl rfl gv1 ⟨rfl, rfl, trivial⟩ (fun g7_14 => qV rfl rfl rfl) rfl ?_
   refine zA rfl rfl (qM rfl rfl rfl (fun h => h) rfl) ?_
   refine zH ?_
   refine zR rfl (fun c3 => ?_) (fun c3 => ?_)
   ·have hbad := word_no hlt c3
    refine zE ?_
    refine zB rfl ?_
    refine zA rfl rfl (zC rfl rfl) ?_
    refine zH ?_
    refine zS ?_
    repeat (first | refine zO ?_ | refine zM ?_)
    refine fin1 (rs_c rfl) ?_
    rw [hne, hbad]
   ·have hgood := word_yes hlt hp c3
    refine zT ?_
    refine zB rfl ?_
    refine zA rfl rfl (qL rfl rfl rfl ⟨by omega, by omega⟩) ?_
    refine zA rfl rfl (zF rfl rfl) ?_
    refine zH ?_
    refine ⟨k + 1, ⟨by omega, hgood⟩, (by omega), Weak.mk [] ⟨VLe.refl _, VLe.refl _, VLe.refl _, trivial⟩ rfl⟩
  ·try simp only [sx, List.length_map] at c2
   refine qU ?_
   refine zE ?_
   refine zB rfl ?_
   refine zA rfl rfl (zC rfl rfl) ?_
   refine zH ?_
   refine zS ?_
   repeat (first | refine zO ?_ | refine zM ?_)
   refine fin1 (rs_c rfl) ?_
   rw [hne, word_all hp (by omega)]

theorem lin_Validate (l : Lf) (hl : l.L.length ≤ 6000000000000) :
    Pur cfg 151 [vLin l] (vI (linErr l)) := by
 refine zZ Tryz.func151 rfl Tryz.ntmps151 Tryz.results151 rfl ?_
 intro z hz
 refine zE ?_
 refine zB rfl ?_
 refine qC rfl rfl (qN rfl rfl) ?_
 rintro _ _ ⟨b1, rfl, rfl⟩
 refine zA rfl rfl (zC rfl rfl) ?_
 refine zH ?_
 refine zE ?_
 refine zE ?_
 refine zB rfl ?_
 refine zA rfl rfl (zJ rfl yI rfl) ?_
 refine zA rfl rfl (zK rfl kH rfl (zP 0 rfl) rfl) ?_
 refine zA rfl rfl (qB rfl el27 rfl) ?_
 refine zA rfl rfl (zF rfl rfl) ?_
 refine zH ?_
 refine qA ?_
 refine qQ ⟨[(8, .c _), (1, .c _), (6, .c _), (7, .c _)], [_]⟩ (Weak.mk [true] ⟨VLe.of_eq rfl, VLe.of_eq rfl, VLe.of_eq rfl, VLe.of_eq rfl, trivial⟩ rfl) ?_
 refine qR 1 0 rfl rfl (Nat) (fun k => [(8, vI k)]) (fun k => []) (fun k => k ≤ l.L.length ∧ (linOk l = monosOk (prevOf l.L k) (l.L.drop k))) (fun k => l.L.length - k) ⟨0, ⟨by omega, rfl⟩, Weak.mk [true] ⟨VLe.refl _, VLe.refl _, VLe.refl _, VLe.refl _, trivial⟩ rfl⟩ ?_
 rintro k ⟨hk, hp⟩
 refine zE ?_
 refine zB rfl ?_
 refine zA rfl rfl (qS rfl rfl rfl) ?_
 refine zH ?_
 refine zE ?_
 refine zR rfl (fun c1 => ?_) (fun c1 => ?_)
 ·try simp only [sx, List.length_map] at c1
  obtain ⟨x, hx⟩ := yL l.L k (by omega)
  refine zT ?_
  refine zE ?_
  refine qA ?_
  refine zE ?_
  refine zB rfl ?_
  refine zA rfl rfl (zF rfl rfl) ?_
  refine zA rfl rfl (zX rfl el27 rfl rfl (by omega) (getm (by assumption))) ?_
  refine zA rfl rfl (zQ rfl agg75 rfl qK rfl) ?_
  refine qC rfl rfl (kK rfl zr75) ?_
  rintro _ _ ⟨b2, rfl, rfl⟩
  refine zA rfl rfl (zC rfl rfl) ?_
  refine zY rfl rfl (zU rfl sz75 rfl rfl rfl (qI 0 rfl rfl)) ?_
  refine zH ?_
  refine zE ?_
  refine yG 25 mixed (by kernel_rfl) rfl rfl ?_
  refine zV rfl rfl (zJ rfl fd75_0 rfl) ?_
  refine zV rfl rfl (zK rfl one9 rfl (zP 0 rfl) rfl) ?_
  refine zV rfl rfl (zW rfl ok152 (lin_identifier _) ⟨VLe.refl _, rfl, trivial⟩) ?_
  refine zV rfl rfl (qY rfl rfl) ?_
  refine zV rfl rfl (zF rfl rfl) ?_
  refine qE [] rfl rfl rfl rfl gv1 trivial (fun g4_4 => zJ rfl fd75_1 rfl) rfl ?_
  refine qE [(18, _)] rfl rfl rfl rfl gv1 ⟨rfl, rfl, trivial⟩ (fun g4_4 => zK rfl one2 rfl (zP 0 rfl) rfl) rfl ?_
  refine qE [(19, _)] rfl rfl rfl rfl gv1 ⟨rfl, rfl, trivial⟩ (fun g4_4 => qJ rfl rfl rfl) rfl ?_
  refine zV rfl rfl (yD rfl rfl rfl rfl (fun h => (lzf h))) ?_
  refine zV rfl rfl (zF rfl rfl) ?_
  refine qE [] rfl rfl rfl rfl gv1 trivial (fun g4_9 => zF rfl rfl) rfl ?_
  refine qE [(23, _)] rfl rfl rfl rfl gv1 ⟨rfl, rfl, trivial⟩ (fun g4_9 => yX rfl rfl rfl) rfl ?_
  refine qE [(24, _)] rfl rfl rfl rfl gv1 ⟨rfl, rfl, trivial⟩ (fun g4_9 => zF rfl rfl) rfl ?_
  refine qE [] rfl rfl rfl rfl gv2 trivial (fun g4_12 => zJ rfl yI rfl) rfl ?_
  refine qE [(26, _)] rfl rfl rfl rfl gv2 ⟨rfl, rfl, trivial⟩ (fun g4_12 => zK rfl kH rfl (zP 1 rfl) rfl) rfl ?_
  refine qE [] rfl rfl rfl rfl gv2 trivial (fun g4_12 => zF rfl rfl) rfl ?_
  refine qE [(28, _)] rfl rfl rfl rfl gv2 ⟨rfl, rfl, trivial⟩ (fun g4_12 => kA rfl rfl rfl ⟨by omega, by omega⟩) rfl ?_
  refine qE [(27, _), (29, _)] rfl rfl rfl rfl gv2 ⟨rfl, rfl, rfl, rfl, trivial⟩ (fun g4_12 => zX rfl el27 rfl rfl (by simp only [Lz, cond_true, cond_false, Bool.and_eq_true, Bool.or_eq_true, Bool.not_eq_true', Bool.not_eq_false', Bool.or_eq_false_iff, Bool.and_eq_false_iff, decide_eq_true_eq, decide_eq_false_iff_not, Bool.not_eq_true, Bool.not_eq_false] at g4_12; omega) (pv_get (by simp only [Lz, cond_true, cond_false, Bool.and_eq_true, Bool.or_eq_true, Bool.not_eq_true', Bool.not_eq_false', Bool.or_eq_false_iff, Bool.and_eq_false_iff, decide_eq_true_eq, decide_eq_false_iff_not, Bool.not_eq_true, Bool.not_eq_false] at g4_12; omega) (by omega))) rfl ?_
  refine qE [(30, _)] rfl rfl rfl rfl gv2 ⟨rfl, rfl, trivial⟩ (fun g4_12 => qG rfl fd75_0 rfl) rfl ?_
  refine qE [(31, _)] rfl rfl rfl rfl gv2 ⟨rfl, rfl, trivial⟩ (fun g4_12 => zK rfl one9 rfl qK rfl) rfl ?_
  refine qE [] rfl rfl rfl rfl gv2 trivial (fun g4_12 => zJ rfl fd75_0 rfl) rfl ?_
  refine qE [(33, _)] rfl rfl rfl rfl gv2 ⟨rfl, rfl, trivial⟩ (fun g4_12 => zK rfl one9 rfl (zP 0 rfl) rfl) rfl ?_
  refine qE [(32, _), (34, _)] rfl rfl rfl rfl gv2 ⟨rfl, rfl, rfl, rfl, trivial⟩ (fun g4_12 => det_sgeq rfl rfl rfl) rfl ?_
  refine qE [(25, _)] rfl rfl rfl rfl gv1 ⟨rfl, rfl, trivial⟩ (fun g4_9 => qM rfl rfl rfl (fun h => yQ (by assumption) h) rfl) rfl ?_
  refine zV rfl rfl (yD rfl rfl rfl rfl (fun h => (lzf h))) ?_
  refine kB ?_
  refine zH ?_
  refine zR rfl (fun c2 => ?_) (fun c2 => ?_)
  ·refine zE ?_
   refine zB rfl ?_
   refine zA rfl rfl (zC rfl rfl) ?_
   refine zH ?_
   refine zS ?_
   repeat (first | refine zO ?_ | refine zM ?_)
   refine fin1 (rs_c rfl) ?_
   rw [linErr, hp, monos_step hx, show badM l.L k x = true from c2]; rfl
  ·refine zT ?_
   refine zB rfl ?_
   refine zA rfl rfl (qL rfl rfl rfl ⟨by omega, by omega⟩) ?_
   refine zA rfl rfl (zF rfl rfl) ?_
   refine zH ?_
   refine ⟨k + 1, ⟨by omega, by rw [hp, monos_step hx, show badM l.L k x = false from c2]; rfl⟩, (by omega), Weak.mk [false, true] ⟨VLe.refl _, VLe.refl _, VLe.refl _, VLe.refl _, trivial⟩ rfl⟩
 ·try simp only [sx, List.length_map] at c1
  refine qU ?_
  refine zE ?_
  refine zB rfl ?_
  refine zA rfl rfl (zC rfl rfl) ?_
  refine zH ?_
  refine zS ?_
  repeat (first | refine zO ?_ | refine zM ?_)
  refine fin1 (rs_c rfl) ?_
  rw [linErr, hp, monos_end (by omega)]; rfl

theorem base_LinRight (l : Lf) (hl : l.L.length ≤ 6000000000000) :
    Pur cfg 35 [vLin l] (vB (linOk l)) := by
 refine zZ Tryz.func35 rfl Tryz.ntmps35 Tryz.results35 rfl ?_
 intro z hz
 refine zE ?_
 refine zB rfl ?_
 refine qC rfl rfl (qN rfl rfl) ?_
 rintro _ _ ⟨b1, rfl, rfl⟩
 refine zA rfl rfl (zC rfl rfl) ?_
 refine zH ?_
 refine zE ?_
 refine zE ?_
 refine zB rfl ?_
 refine zA rfl rfl (zC rfl rfl) ?_
 refine zH ?_
 refine qA ?_
 refine qQ ⟨[(3, .c _), (1, .c _)], [_]⟩ (Weak.mk [true] ⟨VLe.of_eq rfl, VLe.of_eq rfl, trivial⟩ rfl) ?_
 refine qR 1 0 rfl rfl (Nat) (fun k => [(3, vI k)]) (fun k => []) (fun k => k ≤ l.L.length ∧ (linOk l = monosOk (prevOf l.L k) (l.L.drop k))) (fun k => l.L.length - k) ⟨0, ⟨by omega, rfl⟩, Weak.mk [true] ⟨VLe.refl _, VLe.refl _, trivial⟩ rfl⟩ ?_
 rintro k ⟨hk, hp⟩
 refine zE ?_
 refine zE ?_
 refine zB rfl ?_
 refine zA rfl rfl (zF rfl rfl) ?_
 refine zA rfl rfl (zJ rfl yI rfl) ?_
 refine zA rfl rfl (zK rfl kH rfl (zP 0 rfl) rfl) ?_
 refine zA rfl rfl (qB rfl el27 rfl) ?_
 refine zA rfl rfl (qS rfl rfl rfl) ?_
 refine zH ?_
 refine zR rfl (fun c1 => ?_) (fun c1 => ?_)
 ·try simp only [sx, List.length_map] at c1
  obtain ⟨x, hx⟩ := yL l.L k (by omega)
  refine zT ?_
  refine zE ?_
  refine qA ?_
  refine zE ?_
  refine yG 37 mixed (by kernel_rfl) rfl rfl ?_
  refine zV rfl rfl (zJ rfl yI rfl) ?_
  refine zV rfl rfl (zK rfl kH rfl (zP 0 rfl) rfl) ?_
  refine zV rfl rfl (zF rfl rfl) ?_
  refine zV rfl rfl (zX rfl el27 rfl rfl (by omega) (getm (by assumption))) ?_
  refine zV rfl rfl (qG rfl fd75_0 rfl) ?_
  refine zV rfl rfl (zK rfl one9 rfl qK rfl) ?_
  refine zV rfl rfl (zW rfl ok36 (base_Name _) ⟨VLe.refl _, rfl, trivial⟩) ?_
  refine zV rfl rfl (qY rfl rfl) ?_
  refine zV rfl rfl (zF rfl rfl) ?_
  refine qE [] rfl rfl rfl rfl gv1 trivial (fun g4_8 => zJ rfl yI rfl) rfl ?_
  refine qE [(20, _)] rfl rfl rfl rfl gv1 ⟨rfl, rfl, trivial⟩ (fun g4_8 => zK rfl kH rfl (zP 0 rfl) rfl) rfl ?_
  refine qE [] rfl rfl rfl rfl gv1 trivial (fun g4_8 => zF rfl rfl) rfl ?_
  refine qE [(21, _), (22, _)] rfl rfl rfl rfl gv1 ⟨rfl, rfl, rfl, rfl, trivial⟩ (fun g4_8 => zX rfl el27 rfl rfl (by omega) (getm (by assumption))) rfl ?_
  refine qE [(23, _)] rfl rfl rfl rfl gv1 ⟨rfl, rfl, trivial⟩ (fun g4_8 => qG rfl fd75_1 rfl) rfl ?_
  refine qE [(24, _)] rfl rfl rfl rfl gv1 ⟨rfl, rfl, trivial⟩ (fun g4_8 => zK rfl one2 rfl qK rfl) rfl ?_
  refine qE [(25, _)] rfl rfl rfl rfl gv1 ⟨rfl, rfl, trivial⟩ (fun g4_8 => qJ rfl rfl rfl) rfl ?_
  refine zV rfl rfl (yD rfl rfl rfl rfl (fun h => (lzf h))) ?_
  refine zV rfl rfl (zF rfl rfl) ?_
  refine qE [] rfl rfl rfl rfl gv1 trivial (fun g4_17 => zF rfl rfl) rfl ?_
  refine qE [(29, _)] rfl rfl rfl rfl gv1 ⟨rfl, rfl, trivial⟩ (fun g4_17 => yX rfl rfl rfl) rfl ?_
  refine qE [(30, _)] rfl rfl rfl rfl gv1 ⟨rfl, rfl, trivial⟩ (fun g4_17 => zF rfl rfl) rfl ?_
  refine qE [] rfl rfl rfl rfl gv2 trivial (fun g4_20 => zJ rfl yI rfl) rfl ?_
  refine qE [(32, _)] rfl rfl rfl rfl gv2 ⟨rfl, rfl, trivial⟩ (fun g4_20 => zK rfl kH rfl (zP 0 rfl) rfl) rfl ?_
  refine qE [] rfl rfl rfl rfl gv2 trivial (fun g4_20 => zF rfl rfl) rfl ?_
  refine qE [(34, _)] rfl rfl rfl rfl gv2 ⟨rfl, rfl, trivial⟩ (fun g4_20 => kA rfl rfl rfl ⟨by omega, by omega⟩) rfl ?_
  refine qE [(33, _), (35, _)] rfl rfl rfl rfl gv2 ⟨rfl, rfl, rfl, rfl, trivial⟩ (fun g4_20 => zX rfl el27 rfl rfl (by simp only [Lz, cond_true, cond_false, Bool.and_eq_true, Bool.or_eq_true, Bool.not_eq_true', Bool.not_eq_false', Bool.or_eq_false_iff, Bool.and_eq_false_iff, decide_eq_true_eq, decide_eq_false_iff_not, Bool.not_eq_true, Bool.not_eq_false] at g4_20; omega) (pv_get (by simp only [Lz, cond_true, cond_false, Bool.and_eq_true, Bool.or_eq_true, Bool.not_eq_true', Bool.not_eq_false', Bool.or_eq_false_iff, Bool.and_eq_false_iff, decide_eq_true_eq, decide_eq_false_iff_not, Bool.not_eq_true, Bool.not_eq_false] at g4_20; omega) (by omega))) rfl ?_
  refine qE [(36, _)] rfl rfl rfl rfl gv2 ⟨rfl, rfl, trivial⟩ (fun g4_20 => qG rfl fd75_0 rfl) rfl ?_
  refine qE [(37, _)] rfl rfl rfl rfl gv2 ⟨rfl, rfl, trivial⟩ (fun g4_20 => zK rfl one9 rfl qK rfl) rfl ?_
  refine qE [] rfl rfl rfl rfl gv2 trivial (fun g4_20 => zJ rfl yI rfl) rfl ?_
  refine qE [(39, _)] rfl rfl rfl rfl gv2 ⟨rfl, rfl, trivial⟩ (fun g4_20 => zK rfl kH rfl (zP 0 rfl) rfl) rfl ?_
  refine qE [] rfl rfl rfl rfl gv2 trivial (fun g4_20 => zF rfl rfl) rfl ?_
  refine qE [(40, _), (41, _)] rfl rfl rfl rfl gv2 ⟨rfl, rfl, rfl, rfl, trivial⟩ (fun g4_20 => zX rfl el27 rfl rfl (by omega) (getm (by assumption))) rfl ?_
  refine qE [(42, _)] rfl rfl rfl rfl gv2 ⟨rfl, rfl, trivial⟩ (fun g4_20 => qG rfl fd75_0 rfl) rfl ?_
  refine qE [(43, _)] rfl rfl rfl rfl gv2 ⟨rfl, rfl, trivial⟩ (fun g4_20 => zK rfl one9 rfl qK rfl) rfl ?_
  refine qE [(38, _), (44, _)] rfl rfl rfl rfl gv2 ⟨rfl, rfl, rfl, rfl, trivial⟩ (fun g4_20 => det_sgeq rfl rfl rfl) rfl ?_
  refine qE [(31, _)] rfl rfl rfl rfl gv1 ⟨rfl, rfl, trivial⟩ (fun g4_17 => qM rfl rfl rfl (fun h => yQ (by assumption) h) rfl) rfl ?_
  refine zV rfl rfl (yD rfl rfl rfl rfl (fun h => (lzf h))) ?_
  refine kB ?_
  refine zH ?_
  refine zR rfl (fun c2 => ?_) (fun c2 => ?_)
  ·refine zE ?_
   refine zB rfl ?_
   refine zA rfl rfl (zC rfl rfl) ?_
   refine zH ?_
   refine zS ?_
   repeat (first | refine zO ?_ | refine zM ?_)
   refine fin1 (rs_c rfl) ?_
   rw [hp, monos_step hx, show badM l.L k x = true from c2]; rfl
  ·refine zT ?_
   refine zB rfl ?_
   refine zA rfl rfl (zF rfl rfl) ?_
   refine zA rfl rfl (qL rfl rfl rfl ⟨by omega, by omega⟩) ?_
   refine zA rfl rfl (zC rfl rfl) ?_
   refine zH ?_
   refine ⟨k + 1, ⟨by omega, by rw [hp, monos_step hx, show badM l.L k x = false from c2]; rfl⟩, (by omega), Weak.mk [true] ⟨VLe.refl _, VLe.refl _, trivial⟩ rfl⟩
 ·try simp only [sx, List.length_map] at c1
  refine qU ?_
  refine zE ?_
  refine zB rfl ?_
  refine zA rfl rfl (zC rfl rfl) ?_
  refine zH ?_
  refine zS ?_
  repeat (first | refine zO ?_ | refine zM ?_)
  refine fin1 (rs_c rfl) ?_
  rw [hp, monos_end (by omega)]

theorem lin_Var (s : ByteArray) :
    Pur cfg 120 [vS s] (vLin (varL s)) := by
 refine zZ Tryz.func120 rfl Tryz.ntmps120 Tryz.results120 rfl ?_
 intro z hz
 refine zE ?_
 refine zB rfl ?_
 refine qC rfl rfl (qH [none, some 2] rfl zr29 rfl) ?_
 rintro _ _ ⟨b1, rfl, rfl⟩
 refine zH ?_
 refine zE ?_
 refine zE ?_
 refine zB rfl ?_
 refine zA rfl rfl (zF rfl rfl) ?_
 refine zA rfl rfl (zW rfl ok152 (lin_identifier _) ⟨VLe.refl _, rfl, trivial⟩) ?_
 refine zA rfl rfl (qY rfl rfl) ?_
 refine zH ?_
 refine zR rfl (fun c1 => ?_) (fun c1 => ?_)
 ·try simp only [sx, List.length_map] at c1
  refine zE ?_
  refine zB rfl ?_
  refine zA rfl rfl (qO [none, some 2] rfl zr29 pl29 rfl rfl) ?_
  refine zY rfl rfl (zU rfl sz29 rfl rfl rfl (qI 0 rfl rfl)) ?_
  refine zH ?_
  refine zS ?_
  repeat (first | refine zO ?_ | refine zM ?_)
  refine fin1 (qD yB rfl (zP 0 rfl) rfl) ?_
  rw [varL, c1]; rfl
 ·try simp only [sx, List.length_map] at c1
  refine zT ?_
  refine zE ?_
  refine zB rfl ?_
  refine zA rfl rfl (zF rfl rfl) ?_
  refine zA rfl rfl (yE rfl zr75 pl75 rfl) ?_
  refine zA rfl rfl (yF rfl el27 zr75 rfl rfl rfl rfl) ?_
  refine zA rfl rfl (yE rfl zr29 pl29 rfl) ?_
  refine zY rfl rfl (zU rfl sz29 rfl rfl rfl (qI 0 rfl rfl)) ?_
  refine zH ?_
  refine zS ?_
  repeat (first | refine zO ?_ | refine zM ?_)
  refine fin1 (qD yB rfl (zP 0 rfl) rfl) ?_
  rw [varL, c1]; rfl

theorem lin_Const (k : Int) :
    Pur cfg 185 [vI k] (vLin ⟨k, []⟩) := by
 refine zZ Tryz.func185 rfl Tryz.ntmps185 Tryz.results185 rfl ?_
 intro z hz
 refine zE ?_
 refine zB rfl ?_
 refine qC rfl rfl (qH [none, some 2] rfl zr29 rfl) ?_
 rintro _ _ ⟨b1, rfl, rfl⟩
 refine zH ?_
 refine zE ?_
 refine zB rfl ?_
 refine zA rfl rfl (zF rfl rfl) ?_
 refine zA rfl rfl (qO [none, some 2] rfl zr29 pl29 rfl rfl) ?_
 refine zY rfl rfl (zU rfl sz29 rfl rfl rfl (qI 0 rfl rfl)) ?_
 refine zH ?_
 refine zS ?_
 repeat (first | refine zO ?_ | refine zM ?_)
 refine fin1 (qD yB rfl (zP 0 rfl) rfl) ?_
 exact rfl

theorem brocaderef05_Var (s : ByteArray) :
    Pur cfg 190 [vS s] (vLin (varL s)) := by
 refine zZ Tryz.func190 rfl Tryz.ntmps190 Tryz.results190 rfl ?_
 intro z hz
 refine zE ?_
 refine zB rfl ?_
 refine qC rfl rfl (qH [none, some 2] rfl zr29 rfl) ?_
 rintro _ _ ⟨b1, rfl, rfl⟩
 refine zH ?_
 refine zE ?_
 refine zE ?_
 refine zB rfl ?_
 refine zA rfl rfl (zF rfl rfl) ?_
 refine zA rfl rfl (zW rfl ok36 (base_Name _) ⟨VLe.refl _, rfl, trivial⟩) ?_
 refine zA rfl rfl (qY rfl rfl) ?_
 refine zH ?_
 refine zR rfl (fun c1 => ?_) (fun c1 => ?_)
 ·try simp only [sx, List.length_map] at c1
  refine zE ?_
  refine zB rfl ?_
  refine zA rfl rfl (qO [none, some 2] rfl zr29 pl29 rfl rfl) ?_
  refine zY rfl rfl (zU rfl sz29 rfl rfl rfl (qI 0 rfl rfl)) ?_
  refine zH ?_
  refine zS ?_
  repeat (first | refine zO ?_ | refine zM ?_)
  refine fin1 (qD yB rfl (zP 0 rfl) rfl) ?_
  rw [varL, c1]; rfl
 ·try simp only [sx, List.length_map] at c1
  refine zT ?_
  refine zE ?_
  refine zB rfl ?_
  refine zA rfl rfl (zF rfl rfl) ?_
  refine zA rfl rfl (yE rfl zr75 pl75 rfl) ?_
  refine zA rfl rfl (yF rfl el27 zr75 rfl rfl rfl rfl) ?_
  refine zA rfl rfl (yE rfl zr29 pl29 rfl) ?_
  refine zY rfl rfl (zU rfl sz29 rfl rfl rfl (qI 0 rfl rfl)) ?_
  refine zH ?_
  refine zS ?_
  repeat (first | refine zO ?_ | refine zM ?_)
  refine fin1 (qD yB rfl (zP 0 rfl) rfl) ?_
  rw [varL, c1]; rfl

theorem brocaderef05_Const (k : Int) :
    Pur cfg 189 [vI k] (vLin ⟨k, []⟩) := by
 refine zZ Tryz.func189 rfl Tryz.ntmps189 Tryz.results189 rfl ?_
 intro z hz
 refine zE ?_
 refine zB rfl ?_
 refine qC rfl rfl (qH [none, some 2] rfl zr29 rfl) ?_
 rintro _ _ ⟨b1, rfl, rfl⟩
 refine zH ?_
 refine zE ?_
 refine zB rfl ?_
 refine zA rfl rfl (zF rfl rfl) ?_
 refine zA rfl rfl (qO [none, some 2] rfl zr29 pl29 rfl rfl) ?_
 refine zY rfl rfl (zU rfl sz29 rfl rfl rfl (qI 0 rfl rfl)) ?_
 refine zH ?_
 refine zS ?_
 repeat (first | refine zO ?_ | refine zM ?_)
 refine fin1 (qD yB rfl (zP 0 rfl) rfl) ?_
 exact rfl

theorem slices_Equal_mono (a b : List Mono) (ha : a.length ≤ 6000000000000) :
    Pur cfg 184 [vMonos a, vMonos b] (vB (decide (a = b))) := by
 refine zZ Tryz.func184 rfl Tryz.ntmps184 Tryz.results184 rfl ?_
 intro z hz
 refine zE ?_
 refine zB rfl ?_
 refine zA rfl rfl (zC rfl rfl) ?_
 refine zH ?_
 refine zE ?_
 refine zE ?_
 refine zB rfl ?_
 refine zA rfl rfl (zF rfl rfl) ?_
 refine zA rfl rfl (qB rfl el27 rfl) ?_
 refine zA rfl rfl (zF rfl rfl) ?_
 refine zA rfl rfl (qB rfl el27 rfl) ?_
 refine zA rfl rfl (qV rfl rfl rfl) ?_
 refine zH ?_
 refine zR rfl (fun c1 => ?_) (fun c1 => ?_)
 ·try simp only [sx, List.length_map] at c1
  refine zE ?_
  refine zB rfl ?_
  refine zA rfl rfl (zC rfl rfl) ?_
  refine zH ?_
  refine zS ?_
  repeat (first | refine zO ?_ | refine zM ?_)
  refine fin1 (rs_c rfl) ?_
  rw [qZ (fun h => c1 (by rw [h]))]
 ·try simp only [sx, List.length_map] at c1
  refine zT ?_
  refine zE ?_
  refine zE ?_
  refine zB rfl ?_
  refine zA rfl rfl (zF rfl rfl) ?_
  refine zA rfl rfl (qB rfl el27 rfl) ?_
  refine zA rfl rfl (zF rfl rfl) ?_
  refine zH ?_
  refine qA ?_
  refine qQ ⟨[(13, .c _), (0, .c _), (1, .c _), (12, .c _)], []⟩ (Weak.mk [] ⟨VLe.of_eq rfl, VLe.of_eq rfl, VLe.of_eq rfl, VLe.of_eq rfl, trivial⟩ rfl) ?_
  refine qR 1 0 rfl rfl (Nat) (fun k => [(13, vI k)]) (fun k => []) (fun k => k ≤ a.length ∧ (a.take k = b.take k)) (fun k => a.length - k) ⟨0, ⟨by omega, rfl⟩, Weak.mk [] ⟨VLe.refl _, VLe.refl _, VLe.refl _, VLe.refl _, trivial⟩ rfl⟩ ?_
  rintro k ⟨hk, hp⟩
  refine zE ?_
  refine zB rfl ?_
  refine zA rfl rfl (qS rfl rfl rfl) ?_
  refine zH ?_
  refine zE ?_
  refine zR rfl (fun c2 => ?_) (fun c2 => ?_)
  ·try simp only [sx, List.length_map] at c2
   obtain ⟨x, hx⟩ := yL a k (by omega)
   obtain ⟨y, hy⟩ := yL b k (by omega)
   refine zT ?_
   refine zE ?_
   refine qA ?_
   refine zE ?_
   refine zB rfl ?_
   refine zA rfl rfl (zF rfl rfl) ?_
   refine zA rfl rfl (zC rfl rfl) ?_
   refine zH ?_
   refine zE ?_
   refine yG 9 mixed (by kernel_rfl) rfl rfl ?_
   refine zV rfl rfl (zF rfl rfl) ?_
   refine zV rfl rfl (zF rfl rfl) ?_
   refine zV rfl rfl (zX rfl el27 rfl rfl (by omega) (getm (by assumption))) ?_
   refine zV rfl rfl (zQ rfl agg75 rfl qK rfl) ?_
   refine zV rfl rfl (zF rfl rfl) ?_
   refine zV rfl rfl (zF rfl rfl) ?_
   refine zV rfl rfl (zX rfl el27 rfl rfl (by omega) (getm (by assumption))) ?_
   refine zV rfl rfl (zQ rfl agg75 rfl qK rfl) ?_
   refine zV rfl rfl (det_aneq rfl fl75 rfl rfl rfl) ?_
   refine kB ?_
   refine zH ?_
   refine zR rfl (fun c3 => ?_) (fun c3 => ?_)
   ·have hne := mono_ne c3
    refine zE ?_
    refine zB rfl ?_
    refine zA rfl rfl (zC rfl rfl) ?_
    refine zH ?_
    refine zS ?_
    repeat (first | refine zO ?_ | refine zM ?_)
    refine fin1 (rs_c rfl) ?_
    rw [qZ (ne_of_get hx hy hne)]
   ·have heq := mono_eq c3
    refine zT ?_
    refine zB rfl ?_
    refine zA rfl rfl (qL rfl rfl rfl ⟨by omega, by omega⟩) ?_
    refine zA rfl rfl (zF rfl rfl) ?_
    refine zH ?_
    refine ⟨k + 1, ⟨by omega, take_eq_next hx hy hp heq⟩, (by omega), Weak.mk [] ⟨VLe.refl _, VLe.refl _, VLe.refl _, VLe.refl _, trivial⟩ rfl⟩
  ·try simp only [sx, List.length_map] at c2
   refine qU ?_
   refine zE ?_
   refine zB rfl ?_
   refine zA rfl rfl (zC rfl rfl) ?_
   refine zH ?_
   refine zS ?_
   repeat (first | refine zO ?_ | refine zM ?_)
   refine fin1 (rs_c rfl) ?_
   rw [kG (eq_of_take hp (by omega) (by omega))]

theorem lin_Same (a b : Lf) (ha : a.L.length ≤ 6000000000000) :
    Pur cfg 121 [vLin a, vLin b] (vB (decide (a = b))) := by
 refine zZ Tryz.func121 rfl Tryz.ntmps121 Tryz.results121 rfl ?_
 intro z hz
 refine zE ?_
 refine zB rfl ?_
 refine qC rfl rfl (qN rfl rfl) ?_
 rintro _ _ ⟨b1, rfl, rfl⟩
 refine qC rfl rfl (qN rfl rfl) ?_
 rintro _ _ ⟨b2, rfl, rfl⟩
 refine zA rfl rfl (zC rfl rfl) ?_
 refine zH ?_
 refine zE ?_
 refine zB rfl ?_
 refine zA rfl rfl (zJ rfl fd29_0 rfl) ?_
 refine zA rfl rfl (zK rfl one2 rfl (zP 1 rfl) rfl) ?_
 refine zA rfl rfl (zJ rfl fd29_0 rfl) ?_
 refine zA rfl rfl (zK rfl one2 rfl (zP 0 rfl) rfl) ?_
 refine zA rfl rfl (qJ rfl rfl rfl) ?_
 refine zA rfl rfl (zF rfl rfl) ?_
 refine zN [] rfl rfl rfl rfl gv1 trivial (fun g1_5 => zJ rfl yI rfl) rfl ?_
 refine zN [(11, _)] rfl rfl rfl rfl gv1 ⟨rfl, rfl, trivial⟩ (fun g1_5 => zK rfl kH rfl (zP 1 rfl) rfl) rfl ?_
 refine zN [] rfl rfl rfl rfl gv1 trivial (fun g1_5 => zJ rfl yI rfl) rfl ?_
 refine zN [(13, _)] rfl rfl rfl rfl gv1 ⟨rfl, rfl, trivial⟩ (fun g1_5 => zK rfl kH rfl (zP 0 rfl) rfl) rfl ?_
 refine zN [(12, _), (14, _)] rfl rfl rfl rfl gv1 ⟨rfl, rfl, rfl, rfl, trivial⟩ (fun g1_5 => zW rfl ok184 (slices_Equal_mono _ _ (by omega)) ⟨VLe.refl _, rfl, VLe.refl _, rfl, trivial⟩) rfl ?_
 refine zA rfl rfl (qM rfl rfl rfl (fun h => h) rfl) ?_
 refine zA rfl rfl (zC rfl rfl) ?_
 refine zH ?_
 refine zS ?_
 repeat (first | refine zO ?_ | refine zM ?_)
 refine fin1 (rs_c rfl) ?_
 exact congrArg vB (lin_eq a b)

theorem base_Lin (a b : Lf) (ha : a.L.length ≤ 6000000000000) :
    Pur cfg 86 [vLin a, vLin b] (vB (decide (a = b))) := by
 refine zZ Tryz.func86 rfl Tryz.ntmps86 Tryz.results86 rfl ?_
 intro z hz
 refine zE ?_
 refine zB rfl ?_
 refine qC rfl rfl (qN rfl rfl) ?_
 rintro _ _ ⟨b1, rfl, rfl⟩
 refine qC rfl rfl (qN rfl rfl) ?_
 rintro _ _ ⟨b2, rfl, rfl⟩
 refine zA rfl rfl (zC rfl rfl) ?_
 refine zH ?_
 refine zE ?_
 refine zE ?_
 refine zB rfl ?_
 refine zA rfl rfl (zJ rfl fd29_0 rfl) ?_
 refine zA rfl rfl (zK rfl one2 rfl (zP 1 rfl) rfl) ?_
 refine zA rfl rfl (zJ rfl fd29_0 rfl) ?_
 refine zA rfl rfl (zK rfl one2 rfl (zP 0 rfl) rfl) ?_
 refine zA rfl rfl (qV rfl rfl rfl) ?_
 refine zA rfl rfl (zF rfl rfl) ?_
 refine zN [] rfl rfl rfl rfl gv1 trivial (fun g1_5 => zJ rfl yI rfl) rfl ?_
 refine zN [(12, _)] rfl rfl rfl rfl gv1 ⟨rfl, rfl, trivial⟩ (fun g1_5 => zK rfl kH rfl (zP 1 rfl) rfl) rfl ?_
 refine zN [(13, _)] rfl rfl rfl rfl gv1 ⟨rfl, rfl, trivial⟩ (fun g1_5 => qB rfl el27 rfl) rfl ?_
 refine zN [] rfl rfl rfl rfl gv1 trivial (fun g1_5 => zJ rfl yI rfl) rfl ?_
 refine zN [(15, _)] rfl rfl rfl rfl gv1 ⟨rfl, rfl, trivial⟩ (fun g1_5 => zK rfl kH rfl (zP 0 rfl) rfl) rfl ?_
 refine zN [(16, _)] rfl rfl rfl rfl gv1 ⟨rfl, rfl, trivial⟩ (fun g1_5 => qB rfl el27 rfl) rfl ?_
 refine zN [(14, _), (17, _)] rfl rfl rfl rfl gv1 ⟨rfl, rfl, rfl, rfl, trivial⟩ (fun g1_5 => qV rfl rfl rfl) rfl ?_
 refine zA rfl rfl (yD rfl rfl rfl rfl (fun h => (lzf h))) ?_
 refine zH ?_
 refine zR rfl (fun c1 => ?_) (fun c1 => ?_)
 ·try simp only [sx, List.length_map] at c1
  refine zE ?_
  refine zB rfl ?_
  refine zA rfl rfl (zC rfl rfl) ?_
  refine zH ?_
  refine zS ?_
  repeat (first | refine zO ?_ | refine zM ?_)
  refine fin1 (rs_c rfl) ?_
  rw [qZ (fun h => by rw [h] at c1; simp at c1)]
 ·try simp only [sx, List.length_map] at c1
  refine zT ?_
  refine zE ?_
  refine zE ?_
  refine zB rfl ?_
  refine zA rfl rfl (zC rfl rfl) ?_
  refine zH ?_
  refine qA ?_
  refine qQ ⟨[(5, .c _), (2, .c _), (3, .c _)], [_, _]⟩ (Weak.mk [true, true] ⟨VLe.of_eq rfl, VLe.of_eq rfl, VLe.of_eq rfl, trivial⟩ rfl) ?_
  refine qR 1 0 rfl rfl (Nat) (fun k => [(5, vI k)]) (fun k => []) (fun k => k ≤ a.L.length ∧ (a.L.take k = b.L.take k)) (fun k => a.L.length - k) ⟨0, ⟨by omega, rfl⟩, Weak.mk [true, true] ⟨VLe.refl _, VLe.refl _, VLe.refl _, trivial⟩ rfl⟩ ?_
  rintro k ⟨hk, hp⟩
  refine zE ?_
  refine zE ?_
  refine zB rfl ?_
  refine zA rfl rfl (zF rfl rfl) ?_
  refine zA rfl rfl (zJ rfl yI rfl) ?_
  refine zA rfl rfl (zK rfl kH rfl (zP 1 rfl) rfl) ?_
  refine zA rfl rfl (qB rfl el27 rfl) ?_
  refine zA rfl rfl (qS rfl rfl rfl) ?_
  refine zH ?_
  refine zR rfl (fun c2 => ?_) (fun c2 => ?_)
  ·try simp only [sx, List.length_map] at c2
   obtain ⟨x, hx⟩ := yL a.L k (by omega)
   obtain ⟨y, hy⟩ := yL b.L k (by omega)
   refine zT ?_
   refine zE ?_
   refine qA ?_
   refine zE ?_
   refine yG 11 mixed (by kernel_rfl) rfl rfl ?_
   refine zV rfl rfl (zJ rfl yI rfl) ?_
   refine zV rfl rfl (zK rfl kH rfl (zP 1 rfl) rfl) ?_
   refine zV rfl rfl (zF rfl rfl) ?_
   refine zV rfl rfl (zX rfl el27 rfl rfl (by omega) (getm (by assumption))) ?_
   refine zV rfl rfl (zQ rfl agg75 rfl qK rfl) ?_
   refine zV rfl rfl (zJ rfl yI rfl) ?_
   refine zV rfl rfl (zK rfl kH rfl (zP 0 rfl) rfl) ?_
   refine zV rfl rfl (zF rfl rfl) ?_
   refine zV rfl rfl (zX rfl el27 rfl rfl (by omega) (getm (by assumption))) ?_
   refine zV rfl rfl (zQ rfl agg75 rfl qK rfl) ?_
   refine zV rfl rfl (det_aneq rfl fl75 rfl rfl rfl) ?_
   refine kB ?_
   refine zH ?_
   refine zR rfl (fun c3 => ?_) (fun c3 => ?_)
   ·have hne := mono_ne c3
    refine zE ?_
    refine zB rfl ?_
    refine zA rfl rfl (zC rfl rfl) ?_
    refine zH ?_
    refine zS ?_
    repeat (first | refine zO ?_ | refine zM ?_)
    refine fin1 (rs_c rfl) ?_
    rw [qZ (fun h => ne_of_get hx hy hne (by rw [h]))]
   ·have heq := mono_eq c3
    refine zT ?_
    refine zB rfl ?_
    refine zA rfl rfl (zF rfl rfl) ?_
    refine zA rfl rfl (qL rfl rfl rfl ⟨by omega, by omega⟩) ?_
    refine zA rfl rfl (zC rfl rfl) ?_
    refine zH ?_
    refine ⟨k + 1, ⟨by omega, take_eq_next hx hy hp heq⟩, (by omega), Weak.mk [true, true] ⟨VLe.refl _, VLe.refl _, VLe.refl _, trivial⟩ rfl⟩
  ·try simp only [sx, List.length_map] at c2
   refine qU ?_
   refine zE ?_
   refine zB rfl ?_
   refine zA rfl rfl (zC rfl rfl) ?_
   refine zH ?_
   refine zS ?_
   repeat (first | refine zO ?_ | refine zM ?_)
   refine fin1 (rs_c rfl) ?_
   rw [kG (lin_mk (by omega) (eq_of_take hp (by omega) (by omega)))]

theorem ref05_Coeff (l : Lf) (s : ByteArray) (hl : l.L.length ≤ 6000000000000) :
    Pur cfg 66 [vLin l, vS s] (vI (coeffL l.L s)) := by
 refine zZ Tryz.func66 rfl Tryz.ntmps66 Tryz.results66 rfl ?_
 intro z hz
 refine zE ?_
 refine zB rfl ?_
 refine qC rfl rfl (qN rfl rfl) ?_
 rintro _ _ ⟨b1, rfl, rfl⟩
 refine zA rfl rfl (zC rfl rfl) ?_
 refine zH ?_
 refine zE ?_
 refine zE ?_
 refine zB rfl ?_
 refine zA rfl rfl (zC rfl rfl) ?_
 refine zH ?_
 refine qA ?_
 refine qQ ⟨[(5, .c _), (1, .c _), (2, .c _)], [_]⟩ (Weak.mk [true] ⟨VLe.of_eq rfl, VLe.of_eq rfl, VLe.of_eq rfl, trivial⟩ rfl) ?_
 refine qR 1 0 rfl rfl (Nat) (fun k => [(5, vI k)]) (fun k => []) (fun k => k ≤ l.L.length ∧ (coeffL l.L s = coeffL (l.L.drop k) s)) (fun k => l.L.length - k) ⟨0, ⟨by omega, rfl⟩, Weak.mk [true] ⟨VLe.refl _, VLe.refl _, VLe.refl _, trivial⟩ rfl⟩ ?_
 rintro k ⟨hk, hp⟩
 refine zE ?_
 refine zE ?_
 refine zB rfl ?_
 refine zA rfl rfl (zF rfl rfl) ?_
 refine zA rfl rfl (zJ rfl yI rfl) ?_
 refine zA rfl rfl (zK rfl kH rfl (zP 0 rfl) rfl) ?_
 refine zA rfl rfl (qB rfl el27 rfl) ?_
 refine zA rfl rfl (qS rfl rfl rfl) ?_
 refine zH ?_
 refine zR rfl (fun c1 => ?_) (fun c1 => ?_)
 ·try simp only [sx, List.length_map] at c1
  obtain ⟨x, hx⟩ := yL l.L k (by omega)
  refine zT ?_
  refine zE ?_
  refine qA ?_
  refine zE ?_
  refine zB rfl ?_
  refine zA rfl rfl (zJ rfl yI rfl) ?_
  refine zA rfl rfl (zK rfl kH rfl (zP 0 rfl) rfl) ?_
  refine zA rfl rfl (zF rfl rfl) ?_
  refine zA rfl rfl (zX rfl el27 rfl rfl (by omega) (getm (by assumption))) ?_
  refine zA rfl rfl (qG rfl fd75_0 rfl) ?_
  refine zA rfl rfl (zK rfl one9 rfl qK rfl) ?_
  refine zA rfl rfl (zF rfl rfl) ?_
  refine zA rfl rfl (yJ rfl rfl rfl) ?_
  refine zH ?_
  refine zR rfl (fun c2 => ?_) (fun c2 => ?_)
  ·try simp only [sx, List.length_map] at c2
   refine zE ?_
   refine zB rfl ?_
   refine zA rfl rfl (zJ rfl yI rfl) ?_
   refine zA rfl rfl (zK rfl kH rfl (zP 0 rfl) rfl) ?_
   refine zA rfl rfl (zF rfl rfl) ?_
   refine zA rfl rfl (zX rfl el27 rfl rfl (by omega) (getm (by assumption))) ?_
   refine zA rfl rfl (qG rfl fd75_1 rfl) ?_
   refine zA rfl rfl (zK rfl one2 rfl qK rfl) ?_
   refine zA rfl rfl (zC rfl rfl) ?_
   refine zH ?_
   refine zS ?_
   repeat (first | refine zO ?_ | refine zM ?_)
   refine fin1 (rs_c rfl) ?_
   rw [hp, yC hx, coeffL, if_pos c2]
  ·try simp only [sx, List.length_map] at c2
   refine zT ?_
   refine zB rfl ?_
   refine zA rfl rfl (zF rfl rfl) ?_
   refine zA rfl rfl (qL rfl rfl rfl ⟨by omega, by omega⟩) ?_
   refine zA rfl rfl (zC rfl rfl) ?_
   refine zH ?_
   refine ⟨k + 1, ⟨by omega, by rw [hp, yC hx, coeffL, if_neg c2]⟩, (by omega), Weak.mk [true] ⟨VLe.refl _, VLe.refl _, VLe.refl _, trivial⟩ rfl⟩
 ·try simp only [sx, List.length_map] at c1
  refine qU ?_
  refine zE ?_
  refine zB rfl ?_
  refine zA rfl rfl (zC rfl rfl) ?_
  refine zH ?_
  refine zS ?_
  repeat (first | refine zO ?_ | refine zM ?_)
  refine fin1 (rs_c rfl) ?_
  rw [hp, kL (by omega)]; rfl

theorem slices_IndexFunc_mono (l : List Mono) (c : C) (p : Mono → Bool) (hl : l.length ≤ 6000000000000) (hc : ∀ x, x ∈ l → FnPur cfg c [vMono x] (vB (p x))) :
    Pur cfg 227 [vMonos l, .c c] (vI (idxOf p l)) := by
 refine zZ Tryz.func227 rfl Tryz.ntmps227 Tryz.results227 rfl ?_
 intro z hz
 refine zE ?_
 refine zB rfl ?_
 refine zA rfl rfl (zC rfl rfl) ?_
 refine zH ?_
 refine zE ?_
 refine zE ?_
 refine zB rfl ?_
 refine zA rfl rfl (zF rfl rfl) ?_
 refine zA rfl rfl (qB rfl el27 rfl) ?_
 refine zA rfl rfl (zF rfl rfl) ?_
 refine zH ?_
 refine qA ?_
 refine qQ ⟨[(8, .c _), (0, .c _), (1, .c _), (7, .c _)], []⟩ (Weak.mk [] ⟨VLe.of_eq rfl, VLe.of_eq rfl, VLe.of_eq rfl, VLe.of_eq rfl, trivial⟩ rfl) ?_
 refine qR 1 0 rfl rfl (Nat) (fun k => [(8, vI k)]) (fun k => []) (fun k => k ≤ l.length ∧ ((l.take k).any p = false)) (fun k => l.length - k) ⟨0, ⟨by omega, rfl⟩, Weak.mk [] ⟨VLe.refl _, VLe.refl _, VLe.refl _, VLe.refl _, trivial⟩ rfl⟩ ?_
 rintro k ⟨hk, hp⟩
 refine zE ?_
 refine zB rfl ?_
 refine zA rfl rfl (qS rfl rfl rfl) ?_
 refine zH ?_
 refine zE ?_
 refine zR rfl (fun c1 => ?_) (fun c1 => ?_)
 ·try simp only [sx, List.length_map] at c1
  obtain ⟨x, hx⟩ := yL l k (by omega)
  refine zT ?_
  refine zE ?_
  refine qA ?_
  refine zE ?_
  refine zB rfl ?_
  refine zA rfl rfl (zF rfl rfl) ?_
  refine zA rfl rfl (zC rfl rfl) ?_
  refine zH ?_
  refine zE ?_
  refine zB rfl ?_
  refine zA rfl rfl (zF rfl rfl) ?_
  refine zA rfl rfl (zF rfl rfl) ?_
  refine zA rfl rfl (zF rfl rfl) ?_
  refine zA rfl rfl (zX rfl el27 rfl rfl (by omega) (getm (by assumption))) ?_
  refine zA rfl rfl (zQ rfl agg75 rfl qK rfl) ?_
  refine zA rfl rfl (det_call_val rfl rfl (hc _ (qF hx)) ⟨VLe.refl _, rfl, trivial⟩) ?_
  refine zH ?_
  refine zR rfl (fun c2 => ?_) (fun c2 => ?_)
  ·try simp only [sx, List.length_map] at c2
   refine zE ?_
   refine zB rfl ?_
   refine zA rfl rfl (zF rfl rfl) ?_
   refine zA rfl rfl (zC rfl rfl) ?_
   refine zH ?_
   refine zS ?_
   repeat (first | refine zO ?_ | refine zM ?_)
   refine fin1 (rs_c rfl) ?_
   rw [idxOf_at hx c2 hp]
  ·try simp only [sx, List.length_map] at c2
   refine zT ?_
   refine zB rfl ?_
   refine zA rfl rfl (qL rfl rfl rfl ⟨by omega, by omega⟩) ?_
   refine zA rfl rfl (zF rfl rfl) ?_
   refine zH ?_
   refine ⟨k + 1, ⟨by omega, any_next hx hp c2⟩, (by omega), Weak.mk [] ⟨VLe.refl _, VLe.refl _, VLe.refl _, VLe.refl _, trivial⟩ rfl⟩
 ·try simp only [sx, List.length_map] at c1
  refine qU ?_
  refine zE ?_
  refine zB rfl ?_
  refine zA rfl rfl (zC rfl rfl) ?_
  refine zH ?_
  refine zS ?_
  repeat (first | refine zO ?_ | refine zM ?_)
  refine fin1 (rs_c rfl) ?_
  rw [idxOf_none (by rw [kJ (by omega)] at hp; exact hp)]

theorem slices_ContainsFunc_mono (l : List Mono) (c : C) (p : Mono → Bool) (hl : l.length ≤ 6000000000000) (hc : ∀ x, x ∈ l → FnPur cfg c [vMono x] (vB (p x))) :
    Pur cfg 186 [vMonos l, .c c] (vB (l.any p)) := by
 refine zZ Tryz.func186 rfl Tryz.ntmps186 Tryz.results186 rfl ?_
 intro z hz
 refine zE ?_
 refine zB rfl ?_
 refine zA rfl rfl (zC rfl rfl) ?_
 refine zH ?_
 refine zE ?_
 refine zB rfl ?_
 refine zA rfl rfl (zF rfl rfl) ?_
 refine zA rfl rfl (zF rfl rfl) ?_
 refine zA rfl rfl (zW rfl ok227 (slices_IndexFunc_mono l c p hl hc) ⟨VLe.refl _, rfl, VLe.refl _, rfl, trivial⟩) ?_
 refine zA rfl rfl (kR rfl rfl rfl) ?_
 refine zA rfl rfl (zC rfl rfl) ?_
 refine zH ?_
 refine zS ?_
 repeat (first | refine zO ?_ | refine zM ?_)
 refine fin1 (rs_c rfl) ?_
 rw [idxOf_any]

theorem slices_IndexFunc_ix (l : List Ix) (c : C) (p : Ix → Bool) (hl : l.length ≤ 6000000000000) (hc : ∀ x, x ∈ l → FnPur cfg c [vIndex x] (vB (p x))) :
    Pur cfg 254 [vIndices l, .c c] (vI (idxOf p l)) := by
 refine zZ Tryz.func254 rfl Tryz.ntmps254 Tryz.results254 rfl ?_
 intro z hz
 refine zE ?_
 refine zB rfl ?_
 refine zA rfl rfl (zC rfl rfl) ?_
 refine zH ?_
 refine zE ?_
 refine zE ?_
 refine zB rfl ?_
 refine zA rfl rfl (zF rfl rfl) ?_
 refine zA rfl rfl (qB rfl el30 rfl) ?_
 refine zA rfl rfl (zF rfl rfl) ?_
 refine zH ?_
 refine qA ?_
 refine qQ ⟨[(8, .c _), (0, .c _), (1, .c _), (7, .c _)], []⟩ (Weak.mk [] ⟨VLe.of_eq rfl, VLe.of_eq rfl, VLe.of_eq rfl, VLe.of_eq rfl, trivial⟩ rfl) ?_
 refine qR 1 0 rfl rfl (Nat) (fun k => [(8, vI k)]) (fun k => []) (fun k => k ≤ l.length ∧ ((l.take k).any p = false)) (fun k => l.length - k) ⟨0, ⟨by omega, rfl⟩, Weak.mk [] ⟨VLe.refl _, VLe.refl _, VLe.refl _, VLe.refl _, trivial⟩ rfl⟩ ?_
 rintro k ⟨hk, hp⟩
 refine zE ?_
 refine zB rfl ?_
 refine zA rfl rfl (qS rfl rfl rfl) ?_
 refine zH ?_
 refine zE ?_
 refine zR rfl (fun c1 => ?_) (fun c1 => ?_)
 ·try simp only [sx, List.length_map] at c1
  obtain ⟨x, hx⟩ := yL l k (by omega)
  refine zT ?_
  refine zE ?_
  refine qA ?_
  refine zE ?_
  refine zB rfl ?_
  refine zA rfl rfl (zF rfl rfl) ?_
  refine zA rfl rfl (zC rfl rfl) ?_
  refine zH ?_
  refine zE ?_
  refine zB rfl ?_
  refine zA rfl rfl (zF rfl rfl) ?_
  refine zA rfl rfl (zF rfl rfl) ?_
  refine zA rfl rfl (zF rfl rfl) ?_
  refine zA rfl rfl (zX rfl el30 rfl rfl (by omega) (getm (by assumption))) ?_
  refine zA rfl rfl (zQ rfl agg117 rfl qK rfl) ?_
  refine zA rfl rfl (det_call_val rfl rfl (hc _ (qF hx)) ⟨VLe.refl _, rfl, trivial⟩) ?_
  refine zH ?_
  refine zR rfl (fun c2 => ?_) (fun c2 => ?_)
  ·try simp only [sx, List.length_map] at c2
   refine zE ?_
   refine zB rfl ?_
   refine zA rfl rfl (zF rfl rfl) ?_
   refine zA rfl rfl (zC rfl rfl) ?_
   refine zH ?_
   refine zS ?_
   repeat (first | refine zO ?_ | refine zM ?_)
   refine fin1 (rs_c rfl) ?_
   rw [idxOf_at hx c2 hp]
  ·try simp only [sx, List.length_map] at c2
   refine zT ?_
   refine zB rfl ?_
   refine zA rfl rfl (qL rfl rfl rfl ⟨by omega, by omega⟩) ?_
   refine zA rfl rfl (zF rfl rfl) ?_
   refine zH ?_
   refine ⟨k + 1, ⟨by omega, any_next hx hp c2⟩, (by omega), Weak.mk [] ⟨VLe.refl _, VLe.refl _, VLe.refl _, VLe.refl _, trivial⟩ rfl⟩
 ·try simp only [sx, List.length_map] at c1
  refine qU ?_
  refine zE ?_
  refine zB rfl ?_
  refine zA rfl rfl (zC rfl rfl) ?_
  refine zH ?_
  refine zS ?_
  repeat (first | refine zO ?_ | refine zM ?_)
  refine fin1 (rs_c rfl) ?_
  rw [idxOf_none (by rw [kJ (by omega)] at hp; exact hp)]

theorem slices_ContainsFunc_ix (l : List Ix) (c : C) (p : Ix → Bool) (hl : l.length ≤ 6000000000000) (hc : ∀ x, x ∈ l → FnPur cfg c [vIndex x] (vB (p x))) :
    Pur cfg 217 [vIndices l, .c c] (vB (l.any p)) := by
 refine zZ Tryz.func217 rfl Tryz.ntmps217 Tryz.results217 rfl ?_
 intro z hz
 refine zE ?_
 refine zB rfl ?_
 refine zA rfl rfl (zC rfl rfl) ?_
 refine zH ?_
 refine zE ?_
 refine zB rfl ?_
 refine zA rfl rfl (zF rfl rfl) ?_
 refine zA rfl rfl (zF rfl rfl) ?_
 refine zA rfl rfl (zW rfl ok254 (slices_IndexFunc_ix l c p hl hc) ⟨VLe.refl _, rfl, VLe.refl _, rfl, trivial⟩) ?_
 refine zA rfl rfl (kR rfl rfl rfl) ?_
 refine zA rfl rfl (zC rfl rfl) ?_
 refine zH ?_
 refine zS ?_
 repeat (first | refine zO ?_ | refine zM ?_)
 refine fin1 (rs_c rfl) ?_
 rw [idxOf_any]

theorem delta_contains_1 (m : Mono) (s : ByteArray) :
    Pur cfg 187 [vMono m, .c (.iptr [cS s])] (vB (decide (m.Name = s))) := by
 refine zZ Tryz.func187 rfl Tryz.ntmps187 Tryz.results187 rfl ?_
 intro z hz
 refine zE ?_
 refine zB rfl ?_
 refine qC rfl rfl (qN rfl rfl) ?_
 rintro _ _ ⟨b1, rfl, rfl⟩
 refine zA rfl rfl (zC rfl rfl) ?_
 refine zH ?_
 refine zE ?_
 refine zB rfl ?_
 refine zA rfl rfl (zJ rfl fd75_0 rfl) ?_
 refine zA rfl rfl (zK rfl one9 rfl (zP 0 rfl) rfl) ?_
 refine zA rfl rfl (zK rfl one9 rfl qK rfl) ?_
 refine zA rfl rfl (yJ rfl rfl rfl) ?_
 refine zA rfl rfl (zC rfl rfl) ?_
 refine zH ?_
 refine zS ?_
 repeat (first | refine zO ?_ | refine zM ?_)
 refine fin1 (rs_c rfl) ?_
 exact rfl

end Go.W
