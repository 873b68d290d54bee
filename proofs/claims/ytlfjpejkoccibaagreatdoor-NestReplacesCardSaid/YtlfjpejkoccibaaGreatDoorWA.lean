/-
  Walks: what functions of the program compute. Printed by wip/gen/mk2.py.
  Conditions: none.
-/
import Derived.Test.YtlfjpejkoccibaaGreatDoorFacts
import Derived.Test.YtlfjpejkoccibaaGreatDoorPlain
set_option linter.unusedSimpArgs false
set_option linter.unusedVariables false
set_option maxRecDepth 10000
namespace Go.W
open Go Go.Eng Go.Proofs Go.L41 Go.Br
attribute [local irreducible] AWP RWP TD finQ
theorem kw_ascii : ∀ (j : Nat) (b : UInt8), (bs kwBytes).data.toList[j]? = some b → b.toNat < 128 := by
  intro j b h
  have : (kwBytes.all fun c => decide (c.toNat < 128)) = true := by decide
  rw [List.all_eq_true] at this
  simpa using this b (List.mem_of_getElem? h)
theorem kw_fields : (Lib.fields kwBytes).map bs = words := by decide +kernel
theorem nm1 {s : ByteArray} (h : Lz (!decide (s = bs []) && decide ((s.size : Int) ≤ 16)) true = true) : ¬ s = bs [] := by
  simp only [Lz, cond_true, Bool.and_eq_true, Bool.not_eq_true', decide_eq_false_iff_not] at h
  exact h.1
theorem nm2 {s : ByteArray} {p : Bool} (h : Lz (!decide (s = bs []) && decide ((s.size : Int) ≤ 16) && p) true = true) : s.size ≤ 1000000 := by
  simp only [Lz, cond_true, Bool.and_eq_true, decide_eq_true_eq] at h
  omega
theorem agg41 : aggT Tryz.prog 41 = some 2 := by kernel_rfl
theorem agg69 : aggT Tryz.prog 69 = some 2 := by kernel_rfl
theorem agg72 : aggT Tryz.prog 72 = some 4 := by kernel_rfl
theorem el34 : elemT Tryz.prog 34 = some (72, 4, 72) := by kernel_rfl
theorem el39 : elemT Tryz.prog 39 = some (69, 2, 24) := by kernel_rfl
theorem el105 : elemT Tryz.prog 105 = some (9, 1, 16) := by kernel_rfl
theorem fd41_0 : fieldT Tryz.prog 41 0 = some (0, 2) := by kernel_rfl
theorem fd41_1 : fieldT Tryz.prog 41 1 = some (1, 39) := by kernel_rfl
theorem fd69_0 : fieldT Tryz.prog 69 0 = some (0, 9) := by kernel_rfl
theorem fd69_1 : fieldT Tryz.prog 69 1 = some (1, 2) := by kernel_rfl
theorem fl69 : flatK Tryz.prog 69 = some [.str, .int] := by kernel_rfl
theorem ik21 : intT Tryz.prog 21 = some .i32 := by kernel_rfl
theorem mixed : Tryz.prog.follows .mixedOrders = true := by kernel_rfl
theorem ok97 : callOk Tryz.prog 97 = true := by kernel_rfl
theorem ok98 : callOk Tryz.prog 98 = true := by kernel_rfl
theorem ok99 : callOk Tryz.prog 99 = true := by kernel_rfl
theorem ok100 : callOk Tryz.prog 100 = true := by kernel_rfl
theorem ok104 : callOk Tryz.prog 104 = true := by kernel_rfl
theorem ok142 : callOk Tryz.prog 142 = true := by kernel_rfl
theorem ok143 : callOk Tryz.prog 143 = true := by kernel_rfl
theorem ok144 : callOk Tryz.prog 144 = true := by kernel_rfl
theorem ok147 : callOk Tryz.prog 147 = true := by kernel_rfl
theorem ok177 : callOk Tryz.prog 177 = true := by kernel_rfl
theorem ok178 : callOk Tryz.prog 178 = true := by kernel_rfl
theorem ok281 : callOk Tryz.prog 281 = true := by kernel_rfl
theorem ok295 : callOk Tryz.prog 295 = true := by kernel_rfl
theorem one2 : oneT Tryz.prog 2 = true := by kernel_rfl
theorem one9 : oneT Tryz.prog 9 = true := by kernel_rfl
theorem one39 : oneT Tryz.prog 39 = true := by kernel_rfl
theorem pl41 : placesT Tryz.prog 41 = some [(0, 1), (1, 1)] := by kernel_rfl
theorem pl69 : placesT Tryz.prog 69 = some [(0, 1), (1, 1)] := by kernel_rfl
theorem sz41 : (Tryz.prog.info? 41).map (·.size) = some 2 := by kernel_rfl
theorem sz69 : (Tryz.prog.info? 69).map (·.size) = some 2 := by kernel_rfl
theorem un9 : Tryz.prog.underlying 9 = some .string := by kernel_rfl
theorem us5 : (Tryz.prog.underlying 5).isSome = true := by kernel_rfl
theorem zr9 : zeroT Tryz.prog 9 = some [(Value.string (ByteArray.mk #[]))] := by kernel_rfl
theorem zr41 : zeroT Tryz.prog 41 = some [(Value.int IntKind.i64 0), (Value.slice none 0 0)] := by kernel_rfl
theorem zr69 : zeroT Tryz.prog 69 = some [(Value.string (ByteArray.mk #[])), (Value.int IntKind.i64 0)] := by kernel_rfl
theorem lexer_letter (n : Int) :
    Pur cfg 97 [vR n] (vB (letterI n)) := by
 refine con_intro Tryz.func97 rfl Tryz.ntmps97 Tryz.results97 rfl ?_
 intro z hz
 refine sReg rfl <|
  rMv rfl <|
  rwp_nil <|
  sReg rfl <|
  rMv rfl <|
  rwp_det rfl rfl (det_geq rfl rfl rfl) <|
  rMv rfl <|
  rLz [] rfl gv1 trivial (fun g1_2 => det_move rfl rfl) rfl <|
  rLz [(6, _)] rfl gv1 ⟨rfl, rfl, trivial⟩ (fun g1_2 => det_leq rfl rfl rfl) rfl <|
  rwp_det rfl rfl (det_and rfl rfl rfl (fun h => h) rfl) <|
  rMv rfl <|
  rwp_nil <|
  awp_ret <|
  fin1 (rs_c rfl) ?_
 exact rfl

theorem lexer_digit (n : Int) :
    Pur cfg 142 [vR n] (vB (digitI n)) := by
 refine con_intro Tryz.func142 rfl Tryz.ntmps142 Tryz.results142 rfl ?_
 intro z hz
 refine sReg rfl <|
  rMv rfl <|
  rwp_nil <|
  sReg rfl <|
  rMv rfl <|
  rwp_det rfl rfl (det_geq rfl rfl rfl) <|
  rMv rfl <|
  rLz [] rfl gv1 trivial (fun g1_2 => det_move rfl rfl) rfl <|
  rLz [(6, _)] rfl gv1 ⟨rfl, rfl, trivial⟩ (fun g1_2 => det_leq rfl rfl rfl) rfl <|
  rwp_det rfl rfl (det_and rfl rfl rfl (fun h => h) rfl) <|
  rMv rfl <|
  rwp_nil <|
  awp_ret <|
  fin1 (rs_c rfl) ?_
 exact rfl

theorem lexer_inWord (n : Int) :
    Pur cfg 99 [vR n] (vB (inWordI n)) := by
 refine con_intro Tryz.func99 rfl Tryz.ntmps99 Tryz.results99 rfl ?_
 intro z hz
 refine sReg rfl <|
  rMv rfl <|
  rwp_nil <|
  sReg rfl <|
  rMv rfl <|
  rwp_det rfl rfl (det_call rfl ok97 (lexer_letter _) ⟨VLe.refl _, rfl, trivial⟩) <|
  rMv rfl <|
  rLz [] rfl gv1 trivial (fun g1_2 => det_move rfl rfl) rfl <|
  rLz [(6, _)] rfl gv1 ⟨rfl, rfl, trivial⟩ (fun g1_2 => det_call rfl ok142 (lexer_digit _) ⟨VLe.refl _, rfl, trivial⟩) rfl <|
  rwp_det rfl rfl (det_or rfl rfl rfl rfl (fun h => (lzf h))) <|
  rMv rfl <|
  rLz [] rfl gv1 trivial (fun g1_6 => det_move rfl rfl) rfl <|
  rLz [(10, _)] rfl gv1 ⟨rfl, rfl, trivial⟩ (fun g1_6 => det_eql rfl rfl rfl) rfl <|
  rwp_det rfl rfl (det_or rfl rfl rfl rfl (fun h => (lzf h))) <|
  rMv rfl <|
  rwp_nil <|
  awp_ret <|
  fin1 (rs_c rfl) ?_
 exact rfl

theorem lexer_span_inWord (s : ByteArray) (hs : s.size ≤ 1000000) :
    Pur cfg 98 [vS s, .c (.fn (.func 99) [] [])] (vI (spanB inWordB s.data.toList)) := by
 refine con_intro Tryz.func98 rfl Tryz.ntmps98 Tryz.results98 rfl ?_
 intro z hz
 refine sReg rfl <|
  rMv rfl <|
  rwp_nil <|
  sReg rfl <|
  rMv rfl <|
  rwp_nil <|
  awp_seq <|
  awp_block <|
  awp_weak ⟨[(5, .c _), (0, .c _), (1, .c _)], []⟩ (Weak.mk [] ⟨VLe.of_eq rfl, VLe.of_eq rfl, VLe.of_eq rfl, trivial⟩ rfl) <|
  awp_loop_k 1 0 rfl rfl (Nat) (fun k => [(5, vI k)]) (fun k => []) (fun k => k ≤ s.size ∧ (s.data.toList.take k).all inWordB = true) (fun k => s.size - k) ⟨0, ⟨by omega, rfl⟩, Weak.mk [] ⟨VLe.refl _, VLe.refl _, VLe.refl _, trivial⟩ rfl⟩ ?_
 rintro k ⟨hk, hp⟩
 refine awp_seq <|
  sReg rfl <|
  rMv rfl <|
  rMv rfl <|
  rwp_det rfl rfl (det_len_str rfl un9 rfl) <|
  rwp_det rfl rfl (det_lss rfl rfl rfl) <|
  rMv rfl <|
  rLz [] rfl gv1 trivial (fun g2_4 => det_move rfl rfl) rfl <|
  rLz [] rfl gv1 trivial (fun g2_4 => det_move rfl rfl) rfl <|
  rLz [] rfl gv1 trivial (fun g2_4 => det_move rfl rfl) rfl <|
  rLz [(12, _), (13, _)] rfl gv1 ⟨rfl, rfl, rfl, rfl, trivial⟩ (fun g2_4 => det_sindexD rfl un9 rfl rfl (by omega) (by simp only [Lz, cond_true, decide_eq_true_eq] at g2_4; omega)) rfl <|
  rLz [(14, _)] rfl gv1 ⟨rfl, rfl, trivial⟩ (fun g2_4 => det_conv rfl us5 ik21 rfl) rfl <|
  rLz [(11, _), (15, _)] rfl gv1 ⟨rfl, rfl, rfl, rfl, trivial⟩ (fun g2_4 => det_call_fn0 rfl rfl ok99 (lexer_inWord _) ⟨VLe.refl _, rfl, trivial⟩) rfl <|
  rwp_det rfl rfl (det_and rfl rfl rfl (fun h => h) rfl) <|
  rwp_nil <|
  awp_cond rfl (fun c1 => ?_) (fun c1 => ?_)
 ·try simp only [sx] at c1
  obtain ⟨hlt, hcc⟩ := c1
  have hlt : k < s.size := by omega
  rw [wrap32_byte] at hcc
  refine awp_skip <|
   awp_block <|
   awp_region rfl <|
   rMv rfl <|
   rwp_det rfl rfl (det_add_nw rfl rfl rfl ⟨by omega, by omega⟩) <|
   rMv rfl <|
   rwp_nil ?_
  have hg := getD_get hlt
  refine ⟨k + 1, ⟨by omega, by rw [all_take_next hg, hp]; exact hcc⟩, (by omega), Weak.mk [] ⟨VLe.refl _, VLe.refl _, VLe.refl _, trivial⟩ rfl⟩
 ·try simp only [sx] at c1
  have hsp : spanB inWordB s.data.toList = k := span_stop hp (by
    by_cases hlt : k < s.size
    · right; refine ⟨_, getD_get hlt, ?_⟩; rcases c1 with c1 | c1; omega; rw [wrap32_byte] at c1; exact c1
    · left; simp; omega)
  refine awp_exit <|
   sReg rfl <|
   rMv rfl <|
   rMv rfl <|
   rwp_nil <|
   awp_ret <|
   fin1 (rs_c rfl) ?_
  rw [hsp]

theorem slices_Index_str (l : List ByteArray) (s : ByteArray) (hl : l.length ≤ 1000000) :
    Pur cfg 177 [vSs l, vS s] (vI (idxB l s)) := by
 refine con_intro Tryz.func177 rfl Tryz.ntmps177 Tryz.results177 rfl ?_
 intro z hz
 refine sReg rfl <|
  rMv rfl <|
  rwp_nil <|
  awp_seq <|
  sReg rfl <|
  rMv rfl <|
  rwp_det rfl rfl (det_len_slm rfl el105 rfl) <|
  rMv rfl <|
  rwp_nil <|
  awp_block <|
  awp_weak ⟨[(8, .c _), (0, .c _), (1, .c _), (7, .c _)], []⟩ (Weak.mk [] ⟨VLe.of_eq rfl, VLe.of_eq rfl, VLe.of_eq rfl, VLe.of_eq rfl, trivial⟩ rfl) <|
  awp_loop_k 1 0 rfl rfl (Nat) (fun k => [(8, vI k)]) (fun k => []) (fun k => k ≤ l.length ∧ hasB (l.take k) s = false) (fun k => l.length - k) ⟨0, ⟨by omega, rfl⟩, Weak.mk [] ⟨VLe.refl _, VLe.refl _, VLe.refl _, VLe.refl _, trivial⟩ rfl⟩ ?_
 rintro k ⟨hk, hp⟩
 refine sReg rfl <|
  rwp_det rfl rfl (det_lss rfl rfl rfl) <|
  rwp_nil <|
  awp_seq <|
  awp_cond rfl (fun c1 => ?_) (fun c1 => ?_)
 ·try simp only [sx] at c1
  obtain ⟨t, ht⟩ := ex_get l k (by omega)
  refine awp_skip <|
   awp_seq <|
   awp_block <|
   sReg rfl <|
   rMv rfl <|
   rMv rfl <|
   rwp_nil <|
   sReg rfl <|
   rMv rfl <|
   rMv rfl <|
   rMv rfl <|
   rwp_det rfl rfl (det_index_sl rfl el105 rfl rfl (by omega) (getm ht)) <|
   rwp_det rfl rfl (det_load_one rfl one9 rfl ptr_imm rfl) <|
   rwp_det rfl rfl (det_seql rfl rfl rfl) <|
   rwp_nil <|
   awp_cond rfl (fun c2 => ?_) (fun c2 => ?_)
  ·try simp only [sx] at c2
   refine sReg rfl <|
    rMv rfl <|
    rMv rfl <|
    rwp_nil <|
    awp_ret <|
    fin1 (rs_c rfl) ?_
   rw [idxB_some ht c2 hp]
  ·try simp only [sx] at c2
   refine awp_skip <|
    awp_region rfl <|
    rwp_det rfl rfl (det_add_nw rfl rfl rfl ⟨by omega, by omega⟩) <|
    rMv rfl <|
    rwp_nil ?_
   refine ⟨k + 1, ⟨by omega, hasB_take_no ht hp (fun e => c2 e.symm)⟩, (by omega), Weak.mk [] ⟨VLe.refl _, VLe.refl _, VLe.refl _, VLe.refl _, trivial⟩ rfl⟩
 ·try simp only [sx] at c1
  refine awp_exit <|
   sReg rfl <|
   rMv rfl <|
   rwp_nil <|
   awp_ret <|
   fin1 (rs_c rfl) ?_
  rw [idxB_none (by rw [take_all (by omega)] at hp; exact hp)]

theorem slices_Contains_str (l : List ByteArray) (s : ByteArray) (hl : l.length ≤ 1000000) :
    Pur cfg 143 [vSs l, vS s] (vB (hasB l s)) := by
 refine con_intro Tryz.func143 rfl Tryz.ntmps143 Tryz.results143 rfl ?_
 intro z hz
 refine sReg rfl <|
  rMv rfl <|
  rwp_nil <|
  sReg rfl <|
  rMv rfl <|
  rMv rfl <|
  rwp_det rfl rfl (det_call rfl ok177 (slices_Index_str l s hl) ⟨VLe.refl _, rfl, VLe.refl _, rfl, trivial⟩) <|
  rwp_det rfl rfl (det_geq rfl rfl rfl) <|
  rMv rfl <|
  rwp_nil <|
  awp_ret <|
  fin1 (rs_c rfl) ?_
 rw [idxB_has]

theorem lexer_keywords  :
    Pur cfg 144 [] (vSs words) := by
 refine con_intro Tryz.func144 rfl Tryz.ntmps144 Tryz.results144 rfl ?_
 intro z hz
 refine sReg rfl <|
  rwp_det rfl rfl (det_assignN 1 rfl rfl) <|
  rwp_nil <|
  sReg rfl <|
  rwp_det rfl rfl (det_call rfl ok178 (strings_Fields _ (by decide) kw_ascii) ⟨VLe.refl _, rfl, trivial⟩) <|
  rMv rfl <|
  rwp_nil <|
  awp_ret <|
  fin1 (rs_c rfl) ?_
 exact congrArg vSs kw_fields

theorem lexer_IsKeyword (s : ByteArray) :
    Pur cfg 100 [vS s] (vB (hasB words s)) := by
 refine con_intro Tryz.func100 rfl Tryz.ntmps100 Tryz.results100 rfl ?_
 intro z hz
 refine sReg rfl <|
  rMv rfl <|
  rwp_nil <|
  sReg rfl <|
  rwp_det rfl rfl (det_call rfl ok144 (lexer_keywords) trivial) <|
  rMv rfl <|
  rwp_det rfl rfl (det_call rfl ok143 (slices_Contains_str _ _ (by decide)) ⟨VLe.refl _, rfl, VLe.refl _, rfl, trivial⟩) <|
  rMv rfl <|
  rwp_nil <|
  awp_ret <|
  fin1 (rs_c rfl) ?_
 exact rfl

theorem lexer_IsName (s : ByteArray) :
    Pur cfg 49 [vS s] (vB (isNameB s)) := by
 refine con_intro Tryz.func49 rfl Tryz.ntmps49 Tryz.results49 rfl ?_
 intro z hz
 refine sReg rfl <|
  rMv rfl <|
  rwp_nil <|
  sReg rfl <|
  rMv rfl <|
  rwp_det rfl rfl (det_sneq rfl rfl rfl) <|
  rMv rfl <|
  rLz [] rfl gv1 trivial (fun g1_2 => det_move rfl rfl) rfl <|
  rLz [(6, _)] rfl gv1 ⟨rfl, rfl, trivial⟩ (fun g1_2 => det_len_str rfl un9 rfl) rfl <|
  rLz [(7, _)] rfl gv1 ⟨rfl, rfl, trivial⟩ (fun g1_2 => det_leq rfl rfl rfl) rfl <|
  rwp_det rfl rfl (det_and rfl rfl rfl (fun h => h) rfl) <|
  rMv rfl <|
  rLz [] rfl gv1 trivial (fun g1_7 => det_move rfl rfl) rfl <|
  rLz [(11, _)] rfl gv1 ⟨rfl, rfl, trivial⟩ (fun g1_7 => det_sindexD rfl un9 rfl rfl (by decide) (size_pos (nm1 g1_7))) rfl <|
  rLz [(12, _)] rfl gv1 ⟨rfl, rfl, trivial⟩ (fun g1_7 => det_conv rfl us5 ik21 rfl) rfl <|
  rLz [(13, _)] rfl gv1 ⟨rfl, rfl, trivial⟩ (fun g1_7 => det_call rfl ok97 (lexer_letter _) ⟨VLe.refl _, rfl, trivial⟩) rfl <|
  rwp_det rfl rfl (det_and rfl rfl rfl (fun h => h) rfl) <|
  rMv rfl <|
  rLz [] rfl gv1 trivial (fun g1_13 => det_move rfl rfl) rfl <|
  rLz [(17, _)] rfl gv1 ⟨rfl, rfl, trivial⟩ (fun g1_13 => det_call rfl ok98 (lexer_span_inWord s (nm2 g1_13)) ⟨VLe.refl _, rfl, VLe.refl _, rfl, trivial⟩) rfl <|
  rLz [] rfl gv1 trivial (fun g1_13 => det_move rfl rfl) rfl <|
  rLz [(19, _)] rfl gv1 ⟨rfl, rfl, trivial⟩ (fun g1_13 => det_len_str rfl un9 rfl) rfl <|
  rLz [(18, _), (20, _)] rfl gv1 ⟨rfl, rfl, rfl, rfl, trivial⟩ (fun g1_13 => det_eql rfl rfl rfl) rfl <|
  rwp_det rfl rfl (det_and rfl rfl rfl (fun h => h) rfl) <|
  rMv rfl <|
  rLz [] rfl gv1 trivial (fun g1_20 => det_move rfl rfl) rfl <|
  rLz [(24, _)] rfl gv1 ⟨rfl, rfl, trivial⟩ (fun g1_20 => det_call rfl ok100 (lexer_IsKeyword _) ⟨VLe.refl _, rfl, trivial⟩) rfl <|
  rLz [(25, _)] rfl gv1 ⟨rfl, rfl, trivial⟩ (fun g1_20 => det_not rfl rfl) rfl <|
  rwp_det rfl rfl (det_and rfl rfl rfl (fun h => h) rfl) <|
  rMv rfl <|
  rwp_nil <|
  awp_ret <|
  fin1 (rs_c rfl) ?_
 exact congrArg vB (isName_eq s)

theorem lin_reserved (s : ByteArray) :
    Pur cfg 147 [vS s] (vB (hasB words s)) := by
 refine con_intro Tryz.func147 rfl Tryz.ntmps147 Tryz.results147 rfl ?_
 intro z hz
 refine sReg rfl <|
  rMv rfl <|
  rwp_nil <|
  awp_seq <|
  sReg rfl <|
  rMv rfl <|
  rwp_nil <|
  awp_block <|
  awp_seq <|
  sReg rfl <|
  rwp_det rfl rfl (det_seql rfl rfl rfl) <|
  rMv rfl <|
  rwp_nil <|
  awp_cond rfl (fun c1 => ?_) (fun c1 => ?_)
 ·try simp only [sx] at c1
  refine awp_skip <|
   awp_cond rfl (fun c22 => ?_) (fun c22 => ?_)
  ·try simp only [sx] at c22
   refine sReg rfl <|
    rMv rfl <|
    rwp_nil <|
    awp_ret <|
    fin1 (rs_c rfl) ?_
   rw [hasB_of_get (l := words) (k := 0) rfl c1.symm]
  ·try simp only [sx] at c22
   refine awp_skip <|
    sReg rfl <|
    rMv rfl <|
    rwp_nil <|
    awp_ret <|
    fin1 (rs_c rfl) ?_
   exact absurd c1 c22
 ·try simp only [sx] at c1
  refine sReg rfl <|
   rwp_det rfl rfl (det_seql rfl rfl rfl) <|
   rMv rfl <|
   rwp_nil <|
   awp_cond rfl (fun c2 => ?_) (fun c2 => ?_)
  ·try simp only [sx] at c2
   refine awp_skip <|
    awp_cond rfl (fun c22 => ?_) (fun c22 => ?_)
   ·try simp only [sx] at c22
    refine sReg rfl <|
     rMv rfl <|
     rwp_nil <|
     awp_ret <|
     fin1 (rs_c rfl) ?_
    rw [hasB_of_get (l := words) (k := 1) rfl c2.symm]
   ·try simp only [sx] at c22
    refine awp_skip <|
     sReg rfl <|
     rMv rfl <|
     rwp_nil <|
     awp_ret <|
     fin1 (rs_c rfl) ?_
    exact absurd c2 c22
  ·try simp only [sx] at c2
   refine sReg rfl <|
    rwp_det rfl rfl (det_seql rfl rfl rfl) <|
    rMv rfl <|
    rwp_nil <|
    awp_cond rfl (fun c3 => ?_) (fun c3 => ?_)
   ·try simp only [sx] at c3
    refine awp_skip <|
     awp_cond rfl (fun c22 => ?_) (fun c22 => ?_)
    ·try simp only [sx] at c22
     refine sReg rfl <|
      rMv rfl <|
      rwp_nil <|
      awp_ret <|
      fin1 (rs_c rfl) ?_
     rw [hasB_of_get (l := words) (k := 2) rfl c3.symm]
    ·try simp only [sx] at c22
     refine awp_skip <|
      sReg rfl <|
      rMv rfl <|
      rwp_nil <|
      awp_ret <|
      fin1 (rs_c rfl) ?_
     exact absurd c3 c22
   ·try simp only [sx] at c3
    refine sReg rfl <|
     rwp_det rfl rfl (det_seql rfl rfl rfl) <|
     rMv rfl <|
     rwp_nil <|
     awp_cond rfl (fun c4 => ?_) (fun c4 => ?_)
    ·try simp only [sx] at c4
     refine awp_skip <|
      awp_cond rfl (fun c22 => ?_) (fun c22 => ?_)
     ·try simp only [sx] at c22
      refine sReg rfl <|
       rMv rfl <|
       rwp_nil <|
       awp_ret <|
       fin1 (rs_c rfl) ?_
      rw [hasB_of_get (l := words) (k := 3) rfl c4.symm]
     ·try simp only [sx] at c22
      refine awp_skip <|
       sReg rfl <|
       rMv rfl <|
       rwp_nil <|
       awp_ret <|
       fin1 (rs_c rfl) ?_
      exact absurd c4 c22
    ·try simp only [sx] at c4
     refine sReg rfl <|
      rwp_det rfl rfl (det_seql rfl rfl rfl) <|
      rMv rfl <|
      rwp_nil <|
      awp_cond rfl (fun c5 => ?_) (fun c5 => ?_)
     ·try simp only [sx] at c5
      refine awp_skip <|
       awp_cond rfl (fun c22 => ?_) (fun c22 => ?_)
      ·try simp only [sx] at c22
       refine sReg rfl <|
        rMv rfl <|
        rwp_nil <|
        awp_ret <|
        fin1 (rs_c rfl) ?_
       rw [hasB_of_get (l := words) (k := 4) rfl c5.symm]
      ·try simp only [sx] at c22
       refine awp_skip <|
        sReg rfl <|
        rMv rfl <|
        rwp_nil <|
        awp_ret <|
        fin1 (rs_c rfl) ?_
       exact absurd c5 c22
     ·try simp only [sx] at c5
      refine sReg rfl <|
       rwp_det rfl rfl (det_seql rfl rfl rfl) <|
       rMv rfl <|
       rwp_nil <|
       awp_cond rfl (fun c6 => ?_) (fun c6 => ?_)
      ·try simp only [sx] at c6
       refine awp_skip <|
        awp_cond rfl (fun c22 => ?_) (fun c22 => ?_)
       ·try simp only [sx] at c22
        refine sReg rfl <|
         rMv rfl <|
         rwp_nil <|
         awp_ret <|
         fin1 (rs_c rfl) ?_
        rw [hasB_of_get (l := words) (k := 5) rfl c6.symm]
       ·try simp only [sx] at c22
        refine awp_skip <|
         sReg rfl <|
         rMv rfl <|
         rwp_nil <|
         awp_ret <|
         fin1 (rs_c rfl) ?_
        exact absurd c6 c22
      ·try simp only [sx] at c6
       refine sReg rfl <|
        rwp_det rfl rfl (det_seql rfl rfl rfl) <|
        rMv rfl <|
        rwp_nil <|
        awp_cond rfl (fun c7 => ?_) (fun c7 => ?_)
       ·try simp only [sx] at c7
        refine awp_skip <|
         awp_cond rfl (fun c22 => ?_) (fun c22 => ?_)
        ·try simp only [sx] at c22
         refine sReg rfl <|
          rMv rfl <|
          rwp_nil <|
          awp_ret <|
          fin1 (rs_c rfl) ?_
         rw [hasB_of_get (l := words) (k := 6) rfl c7.symm]
        ·try simp only [sx] at c22
         refine awp_skip <|
          sReg rfl <|
          rMv rfl <|
          rwp_nil <|
          awp_ret <|
          fin1 (rs_c rfl) ?_
         exact absurd c7 c22
       ·try simp only [sx] at c7
        refine sReg rfl <|
         rwp_det rfl rfl (det_seql rfl rfl rfl) <|
         rMv rfl <|
         rwp_nil <|
         awp_cond rfl (fun c8 => ?_) (fun c8 => ?_)
        ·try simp only [sx] at c8
         refine awp_skip <|
          awp_cond rfl (fun c22 => ?_) (fun c22 => ?_)
         ·try simp only [sx] at c22
          refine sReg rfl <|
           rMv rfl <|
           rwp_nil <|
           awp_ret <|
           fin1 (rs_c rfl) ?_
          rw [hasB_of_get (l := words) (k := 7) rfl c8.symm]
         ·try simp only [sx] at c22
          refine awp_skip <|
           sReg rfl <|
           rMv rfl <|
           rwp_nil <|
           awp_ret <|
           fin1 (rs_c rfl) ?_
          exact absurd c8 c22
        ·try simp only [sx] at c8
         refine sReg rfl <|
          rwp_det rfl rfl (det_seql rfl rfl rfl) <|
          rMv rfl <|
          rwp_nil <|
          awp_cond rfl (fun c9 => ?_) (fun c9 => ?_)
         ·try simp only [sx] at c9
          refine awp_skip <|
           awp_cond rfl (fun c22 => ?_) (fun c22 => ?_)
          ·try simp only [sx] at c22
           refine sReg rfl <|
            rMv rfl <|
            rwp_nil <|
            awp_ret <|
            fin1 (rs_c rfl) ?_
           rw [hasB_of_get (l := words) (k := 8) rfl c9.symm]
          ·try simp only [sx] at c22
           refine awp_skip <|
            sReg rfl <|
            rMv rfl <|
            rwp_nil <|
            awp_ret <|
            fin1 (rs_c rfl) ?_
           exact absurd c9 c22
         ·try simp only [sx] at c9
          refine sReg rfl <|
           rwp_det rfl rfl (det_seql rfl rfl rfl) <|
           rMv rfl <|
           rwp_nil <|
           awp_cond rfl (fun c10 => ?_) (fun c10 => ?_)
          ·try simp only [sx] at c10
           refine awp_skip <|
            awp_cond rfl (fun c22 => ?_) (fun c22 => ?_)
           ·try simp only [sx] at c22
            refine sReg rfl <|
             rMv rfl <|
             rwp_nil <|
             awp_ret <|
             fin1 (rs_c rfl) ?_
            rw [hasB_of_get (l := words) (k := 9) rfl c10.symm]
           ·try simp only [sx] at c22
            refine awp_skip <|
             sReg rfl <|
             rMv rfl <|
             rwp_nil <|
             awp_ret <|
             fin1 (rs_c rfl) ?_
            exact absurd c10 c22
          ·try simp only [sx] at c10
           refine sReg rfl <|
            rwp_det rfl rfl (det_seql rfl rfl rfl) <|
            rMv rfl <|
            rwp_nil <|
            awp_cond rfl (fun c11 => ?_) (fun c11 => ?_)
           ·try simp only [sx] at c11
            refine awp_skip <|
             awp_cond rfl (fun c22 => ?_) (fun c22 => ?_)
            ·try simp only [sx] at c22
             refine sReg rfl <|
              rMv rfl <|
              rwp_nil <|
              awp_ret <|
              fin1 (rs_c rfl) ?_
             rw [hasB_of_get (l := words) (k := 10) rfl c11.symm]
            ·try simp only [sx] at c22
             refine awp_skip <|
              sReg rfl <|
              rMv rfl <|
              rwp_nil <|
              awp_ret <|
              fin1 (rs_c rfl) ?_
             exact absurd c11 c22
           ·try simp only [sx] at c11
            refine sReg rfl <|
             rwp_det rfl rfl (det_seql rfl rfl rfl) <|
             rMv rfl <|
             rwp_nil <|
             awp_cond rfl (fun c12 => ?_) (fun c12 => ?_)
            ·try simp only [sx] at c12
             refine awp_skip <|
              awp_cond rfl (fun c22 => ?_) (fun c22 => ?_)
             ·try simp only [sx] at c22
              refine sReg rfl <|
               rMv rfl <|
               rwp_nil <|
               awp_ret <|
               fin1 (rs_c rfl) ?_
              rw [hasB_of_get (l := words) (k := 11) rfl c12.symm]
             ·try simp only [sx] at c22
              refine awp_skip <|
               sReg rfl <|
               rMv rfl <|
               rwp_nil <|
               awp_ret <|
               fin1 (rs_c rfl) ?_
              exact absurd c12 c22
            ·try simp only [sx] at c12
             refine sReg rfl <|
              rwp_det rfl rfl (det_seql rfl rfl rfl) <|
              rMv rfl <|
              rwp_nil <|
              awp_cond rfl (fun c13 => ?_) (fun c13 => ?_)
             ·try simp only [sx] at c13
              refine awp_skip <|
               awp_cond rfl (fun c22 => ?_) (fun c22 => ?_)
              ·try simp only [sx] at c22
               refine sReg rfl <|
                rMv rfl <|
                rwp_nil <|
                awp_ret <|
                fin1 (rs_c rfl) ?_
               rw [hasB_of_get (l := words) (k := 12) rfl c13.symm]
              ·try simp only [sx] at c22
               refine awp_skip <|
                sReg rfl <|
                rMv rfl <|
                rwp_nil <|
                awp_ret <|
                fin1 (rs_c rfl) ?_
               exact absurd c13 c22
             ·try simp only [sx] at c13
              refine sReg rfl <|
               rwp_det rfl rfl (det_seql rfl rfl rfl) <|
               rMv rfl <|
               rwp_nil <|
               awp_cond rfl (fun c14 => ?_) (fun c14 => ?_)
              ·try simp only [sx] at c14
               refine awp_skip <|
                awp_cond rfl (fun c22 => ?_) (fun c22 => ?_)
               ·try simp only [sx] at c22
                refine sReg rfl <|
                 rMv rfl <|
                 rwp_nil <|
                 awp_ret <|
                 fin1 (rs_c rfl) ?_
                rw [hasB_of_get (l := words) (k := 13) rfl c14.symm]
               ·try simp only [sx] at c22
                refine awp_skip <|
                 sReg rfl <|
                 rMv rfl <|
                 rwp_nil <|
                 awp_ret <|
                 fin1 (rs_c rfl) ?_
                exact absurd c14 c22
              ·try simp only [sx] at c14
               refine sReg rfl <|
                rwp_det rfl rfl (det_seql rfl rfl rfl) <|
                rMv rfl <|
                rwp_nil <|
                awp_cond rfl (fun c15 => ?_) (fun c15 => ?_)
               ·try simp only [sx] at c15
                refine awp_skip <|
                 awp_cond rfl (fun c22 => ?_) (fun c22 => ?_)
                ·try simp only [sx] at c22
                 refine sReg rfl <|
                  rMv rfl <|
                  rwp_nil <|
                  awp_ret <|
                  fin1 (rs_c rfl) ?_
                 rw [hasB_of_get (l := words) (k := 14) rfl c15.symm]
                ·try simp only [sx] at c22
                 refine awp_skip <|
                  sReg rfl <|
                  rMv rfl <|
                  rwp_nil <|
                  awp_ret <|
                  fin1 (rs_c rfl) ?_
                 exact absurd c15 c22
               ·try simp only [sx] at c15
                refine sReg rfl <|
                 rwp_det rfl rfl (det_seql rfl rfl rfl) <|
                 rMv rfl <|
                 rwp_nil <|
                 awp_cond rfl (fun c16 => ?_) (fun c16 => ?_)
                ·try simp only [sx] at c16
                 refine awp_skip <|
                  awp_cond rfl (fun c22 => ?_) (fun c22 => ?_)
                 ·try simp only [sx] at c22
                  refine sReg rfl <|
                   rMv rfl <|
                   rwp_nil <|
                   awp_ret <|
                   fin1 (rs_c rfl) ?_
                  rw [hasB_of_get (l := words) (k := 15) rfl c16.symm]
                 ·try simp only [sx] at c22
                  refine awp_skip <|
                   sReg rfl <|
                   rMv rfl <|
                   rwp_nil <|
                   awp_ret <|
                   fin1 (rs_c rfl) ?_
                  exact absurd c16 c22
                ·try simp only [sx] at c16
                 refine sReg rfl <|
                  rwp_det rfl rfl (det_seql rfl rfl rfl) <|
                  rMv rfl <|
                  rwp_nil <|
                  awp_cond rfl (fun c17 => ?_) (fun c17 => ?_)
                 ·try simp only [sx] at c17
                  refine awp_skip <|
                   awp_cond rfl (fun c22 => ?_) (fun c22 => ?_)
                  ·try simp only [sx] at c22
                   refine sReg rfl <|
                    rMv rfl <|
                    rwp_nil <|
                    awp_ret <|
                    fin1 (rs_c rfl) ?_
                   rw [hasB_of_get (l := words) (k := 16) rfl c17.symm]
                  ·try simp only [sx] at c22
                   refine awp_skip <|
                    sReg rfl <|
                    rMv rfl <|
                    rwp_nil <|
                    awp_ret <|
                    fin1 (rs_c rfl) ?_
                   exact absurd c17 c22
                 ·try simp only [sx] at c17
                  refine sReg rfl <|
                   rwp_det rfl rfl (det_seql rfl rfl rfl) <|
                   rMv rfl <|
                   rwp_nil <|
                   awp_cond rfl (fun c18 => ?_) (fun c18 => ?_)
                  ·try simp only [sx] at c18
                   refine awp_skip <|
                    awp_cond rfl (fun c22 => ?_) (fun c22 => ?_)
                   ·try simp only [sx] at c22
                    refine sReg rfl <|
                     rMv rfl <|
                     rwp_nil <|
                     awp_ret <|
                     fin1 (rs_c rfl) ?_
                    rw [hasB_of_get (l := words) (k := 17) rfl c18.symm]
                   ·try simp only [sx] at c22
                    refine awp_skip <|
                     sReg rfl <|
                     rMv rfl <|
                     rwp_nil <|
                     awp_ret <|
                     fin1 (rs_c rfl) ?_
                    exact absurd c18 c22
                  ·try simp only [sx] at c18
                   refine sReg rfl <|
                    rwp_det rfl rfl (det_seql rfl rfl rfl) <|
                    rMv rfl <|
                    rwp_nil <|
                    awp_cond rfl (fun c19 => ?_) (fun c19 => ?_)
                   ·try simp only [sx] at c19
                    refine awp_skip <|
                     awp_cond rfl (fun c22 => ?_) (fun c22 => ?_)
                    ·try simp only [sx] at c22
                     refine sReg rfl <|
                      rMv rfl <|
                      rwp_nil <|
                      awp_ret <|
                      fin1 (rs_c rfl) ?_
                     rw [hasB_of_get (l := words) (k := 18) rfl c19.symm]
                    ·try simp only [sx] at c22
                     refine awp_skip <|
                      sReg rfl <|
                      rMv rfl <|
                      rwp_nil <|
                      awp_ret <|
                      fin1 (rs_c rfl) ?_
                     exact absurd c19 c22
                   ·try simp only [sx] at c19
                    refine sReg rfl <|
                     rwp_det rfl rfl (det_seql rfl rfl rfl) <|
                     rMv rfl <|
                     rwp_nil <|
                     awp_cond rfl (fun c20 => ?_) (fun c20 => ?_)
                    ·try simp only [sx] at c20
                     refine awp_skip <|
                      awp_cond rfl (fun c22 => ?_) (fun c22 => ?_)
                     ·try simp only [sx] at c22
                      refine sReg rfl <|
                       rMv rfl <|
                       rwp_nil <|
                       awp_ret <|
                       fin1 (rs_c rfl) ?_
                      rw [hasB_of_get (l := words) (k := 19) rfl c20.symm]
                     ·try simp only [sx] at c22
                      refine awp_skip <|
                       sReg rfl <|
                       rMv rfl <|
                       rwp_nil <|
                       awp_ret <|
                       fin1 (rs_c rfl) ?_
                      exact absurd c20 c22
                    ·try simp only [sx] at c20
                     refine sReg rfl <|
                      rwp_det rfl rfl (det_seql rfl rfl rfl) <|
                      rMv rfl <|
                      rwp_nil <|
                      awp_cond rfl (fun c21 => ?_) (fun c21 => ?_)
                     ·try simp only [sx] at c21
                      refine awp_skip <|
                       awp_cond rfl (fun c22 => ?_) (fun c22 => ?_)
                      ·try simp only [sx] at c22
                       refine sReg rfl <|
                        rMv rfl <|
                        rwp_nil <|
                        awp_ret <|
                        fin1 (rs_c rfl) ?_
                       rw [hasB_of_get (l := words) (k := 20) rfl c21.symm]
                      ·try simp only [sx] at c22
                       refine awp_skip <|
                        sReg rfl <|
                        rMv rfl <|
                        rwp_nil <|
                        awp_ret <|
                        fin1 (rs_c rfl) ?_
                       exact absurd c21 c22
                     ·try simp only [sx] at c21
                      refine awp_region rfl <|
                       rwp_det rfl rfl (det_seql rfl rfl rfl) <|
                       rMv rfl <|
                       rwp_nil <|
                       awp_cond rfl (fun c22 => ?_) (fun c22 => ?_)
                      ·try simp only [sx] at c22
                       refine sReg rfl <|
                        rMv rfl <|
                        rwp_nil <|
                        awp_ret <|
                        fin1 (rs_c rfl) ?_
                       rw [hasB_of_get (l := words) (k := 21) rfl c22.symm]
                      ·try simp only [sx] at c22
                       refine awp_skip <|
                        sReg rfl <|
                        rMv rfl <|
                        rwp_nil <|
                        awp_ret <|
                        fin1 (rs_c rfl) ?_
                       rw [show hasB words s = false by
                         simp only [hasB, words, List.any_cons, List.any_nil, Bool.or_eq_false_iff, decide_eq_false_iff_not]
                         exact ⟨fun h => c1 h.symm, fun h => c2 h.symm, fun h => c3 h.symm, fun h => c4 h.symm, fun h => c5 h.symm, fun h => c6 h.symm, fun h => c7 h.symm, fun h => c8 h.symm, fun h => c9 h.symm, fun h => c10 h.symm, fun h => c11 h.symm, fun h => c12 h.symm, fun h => c13 h.symm, fun h => c14 h.symm, fun h => c15 h.symm, fun h => c16 h.symm, fun h => c17 h.symm, fun h => c18 h.symm, fun h => c19 h.symm, fun h => c20 h.symm, fun h => c21 h.symm, fun h => c22 h.symm, trivial⟩]

theorem lin_identifier (s : ByteArray) :
    Pur cfg 104 [vS s] (vB (isNameB s)) := by
 refine con_intro Tryz.func104 rfl Tryz.ntmps104 Tryz.results104 rfl ?_
 intro z hz
 refine sReg rfl <|
  rMv rfl <|
  rwp_nil <|
  awp_seq <|
  sReg rfl <|
  rMv rfl <|
  rwp_det rfl rfl (det_len_str rfl un9 rfl) <|
  rwp_det rfl rfl (det_lss rfl rfl rfl) <|
  rMv rfl <|
  rLz [] rfl gv1 trivial (fun g1_3 => det_move rfl rfl) rfl <|
  rLz [(9, _)] rfl gv1 ⟨rfl, rfl, trivial⟩ (fun g1_3 => det_len_str rfl un9 rfl) rfl <|
  rLz [(10, _)] rfl gv1 ⟨rfl, rfl, trivial⟩ (fun g1_3 => det_gtr rfl rfl rfl) rfl <|
  rwp_det rfl rfl (det_or rfl rfl rfl rfl (fun h => (lzf h))) <|
  rMv rfl <|
  rLz [] rfl gv1 trivial (fun g1_8 => det_move rfl rfl) rfl <|
  rLz [(14, _)] rfl gv1 ⟨rfl, rfl, trivial⟩ (fun g1_8 => det_call rfl ok147 (lin_reserved _) ⟨VLe.refl _, rfl, trivial⟩) rfl <|
  rwp_det rfl rfl (det_or rfl rfl rfl rfl (fun h => (lzf h))) <|
  rMv rfl <|
  rLz [] rfl gv1 trivial (fun g1_12 => det_move rfl rfl) rfl <|
  rLz [(18, _)] rfl gv1 ⟨rfl, rfl, trivial⟩ (fun g1_12 => det_sindexD rfl un9 rfl rfl (by decide) (by simp only [Lz, cond_true, cond_false, Bool.and_eq_true, Bool.or_eq_true, Bool.not_eq_true', Bool.not_eq_false', Bool.or_eq_false_iff, Bool.and_eq_false_iff, decide_eq_true_eq, decide_eq_false_iff_not, Bool.not_eq_true, Bool.not_eq_false] at g1_12; omega)) rfl <|
  rLz [(19, _)] rfl gv1 ⟨rfl, rfl, trivial⟩ (fun g1_12 => det_lss rfl rfl rfl) rfl <|
  rwp_det rfl rfl (det_or rfl rfl rfl rfl (fun h => (lzf h))) <|
  rMv rfl <|
  rLz [] rfl gv1 trivial (fun g1_17 => det_move rfl rfl) rfl <|
  rLz [(23, _)] rfl gv1 ⟨rfl, rfl, trivial⟩ (fun g1_17 => det_sindexD rfl un9 rfl rfl (by decide) (by simp only [Lz, cond_true, cond_false, Bool.and_eq_true, Bool.or_eq_true, Bool.not_eq_true', Bool.not_eq_false', Bool.or_eq_false_iff, Bool.and_eq_false_iff, decide_eq_true_eq, decide_eq_false_iff_not, Bool.not_eq_true, Bool.not_eq_false] at g1_17; omega)) rfl <|
  rLz [(24, _)] rfl gv1 ⟨rfl, rfl, trivial⟩ (fun g1_17 => det_gtr rfl rfl rfl) rfl <|
  rwp_det rfl rfl (det_or rfl rfl rfl rfl (fun h => (lzf h))) <|
  rwp_nil <|
  awp_cond rfl (fun c1 => ?_) (fun c1 => ?_)
 ·have hno := ident_no c1
  refine sReg rfl <|
   rMv rfl <|
   rwp_nil <|
   awp_ret <|
   fin1 (rs_c rfl) ?_
  rw [hno]
 ·obtain ⟨n1, n2, hne⟩ := ident_yes c1
  refine awp_skip <|
   awp_seq <|
   sReg rfl <|
   rMv rfl <|
   rwp_det rfl rfl (det_len_str rfl un9 rfl) <|
   rMv rfl <|
   rwp_nil <|
   awp_block <|
   awp_weak ⟨[(29, .c _), (0, .c _), (28, .c _)], []⟩ (Weak.mk [] ⟨VLe.of_eq rfl, VLe.of_eq rfl, VLe.of_eq rfl, trivial⟩ rfl) <|
   awp_loop_k 1 0 rfl rfl (Nat) (fun k => [(29, vI k)]) (fun k => []) (fun k => k ≤ s.size ∧ (s.data.toList.take k).all inWordB = true) (fun k => s.size - k) ⟨0, ⟨by omega, rfl⟩, Weak.mk [] ⟨VLe.refl _, VLe.refl _, VLe.refl _, trivial⟩ rfl⟩ ?_
  rintro k ⟨hk, hp⟩
  refine sReg rfl <|
   rwp_det rfl rfl (det_lss rfl rfl rfl) <|
   rwp_nil <|
   awp_seq <|
   awp_cond rfl (fun c2 => ?_) (fun c2 => ?_)
  ·try simp only [sx] at c2
   have hlt : k < s.size := by omega
   refine awp_skip <|
    awp_seq <|
    awp_block <|
    sReg rfl <|
    rMv rfl <|
    rMv rfl <|
    rwp_nil <|
    sReg rfl <|
    rMv rfl <|
    rMv rfl <|
    rwp_det rfl rfl (det_sindexD rfl un9 rfl rfl (by omega) (by omega)) <|
    rMv rfl <|
    rwp_nil <|
    sReg rfl <|
    rMv rfl <|
    rwp_det rfl rfl (det_lss rfl rfl rfl) <|
    rMv rfl <|
    rLz [] rfl gv1 trivial (fun g7_2 => det_move rfl rfl) rfl <|
    rLz [(38, _)] rfl gv1 ⟨rfl, rfl, trivial⟩ (fun g7_2 => det_gtr rfl rfl rfl) rfl <|
    rwp_det rfl rfl (det_or rfl rfl rfl rfl (fun h => (lzf h))) <|
    rMv rfl <|
    rLz [] rfl gv1 trivial (fun g7_6 => det_move rfl rfl) rfl <|
    rLz [(42, _)] rfl gv1 ⟨rfl, rfl, trivial⟩ (fun g7_6 => det_lss rfl rfl rfl) rfl <|
    rLz [(43, _)] rfl gv1 ⟨rfl, rfl, trivial⟩ (fun g7_6 => det_move rfl rfl) rfl <|
    rLz [] rfl gv2 trivial (fun g7_9 => det_move rfl rfl) rfl <|
    rLz [(45, _)] rfl gv2 ⟨rfl, rfl, trivial⟩ (fun g7_9 => det_gtr rfl rfl rfl) rfl <|
    rLz [(44, _)] rfl gv1 ⟨rfl, rfl, trivial⟩ (fun g7_6 => det_or rfl rfl rfl rfl (fun h => and_mk (by assumption) (lzf h))) rfl <|
    rwp_det rfl rfl (det_and rfl rfl rfl (fun h => h) rfl) <|
    rMv rfl <|
    rLz [] rfl gv1 trivial (fun g7_14 => det_move rfl rfl) rfl <|
    rLz [(50, _)] rfl gv1 ⟨rfl, rfl, trivial⟩ (fun g7_14 => det_neq rfl rfl rfl) rfl <|
    rwp_det rfl rfl (det_and rfl rfl rfl (fun h => h) rfl) <|
    rwp_nil <|
    awp_cond rfl (fun c3 => ?_) (fun c3 => ?_)
   ·have hbad := word_no hlt c3
    refine sReg rfl <|
     rMv rfl <|
     rwp_nil <|
     awp_ret <|
     fin1 (rs_c rfl) ?_
    rw [hne, hbad]
   ·have hgood := word_yes hlt hp c3
    refine awp_skip <|
     awp_region rfl <|
     rwp_det rfl rfl (det_add_nw rfl rfl rfl ⟨by omega, by omega⟩) <|
     rMv rfl <|
     rwp_nil ?_
    refine ⟨k + 1, ⟨by omega, hgood⟩, (by omega), Weak.mk [] ⟨VLe.refl _, VLe.refl _, VLe.refl _, trivial⟩ rfl⟩
  ·try simp only [sx] at c2
   refine awp_exit <|
    sReg rfl <|
    rMv rfl <|
    rwp_nil <|
    awp_ret <|
    fin1 (rs_c rfl) ?_
   rw [hne, word_all hp (by omega)]

theorem lin_Validate (l : Lf) (hl : l.L.length ≤ 6000000000000) :
    Pur cfg 102 [vLin l] (vI (linErr l)) := by
 refine con_intro Tryz.func102 rfl Tryz.ntmps102 Tryz.results102 rfl ?_
 intro z hz
 refine sReg rfl <|
  rwp_op rfl rfl (ope_box rfl rfl) ?_
 rintro _ _ ⟨b1, rfl, rfl⟩
 refine rMv rfl <|
  rwp_nil <|
  awp_seq <|
  sReg rfl <|
  rwp_det rfl rfl (det_field_lit rfl fd41_1 rfl) <|
  rwp_det rfl rfl (det_load_one rfl one39 rfl (ptr_row 0 rfl) rfl) <|
  rwp_det rfl rfl (det_len_slm rfl el39 rfl) <|
  rMv rfl <|
  rwp_nil <|
  awp_block <|
  awp_weak ⟨[(8, .c _), (1, .c _), (6, .c _), (7, .c _)], [_]⟩ (Weak.mk [true] ⟨VLe.of_eq rfl, VLe.of_eq rfl, VLe.of_eq rfl, VLe.of_eq rfl, trivial⟩ rfl) <|
  awp_loop_k 1 0 rfl rfl (Nat) (fun k => [(8, vI k)]) (fun k => []) (fun k => k ≤ l.L.length ∧ (linOk l = monosOk (prevOf l.L k) (l.L.drop k))) (fun k => l.L.length - k) ⟨0, ⟨by omega, rfl⟩, Weak.mk [true] ⟨VLe.refl _, VLe.refl _, VLe.refl _, VLe.refl _, trivial⟩ rfl⟩ ?_
 rintro k ⟨hk, hp⟩
 refine sReg rfl <|
  rwp_det rfl rfl (det_lss rfl rfl rfl) <|
  rwp_nil <|
  awp_seq <|
  awp_cond rfl (fun c1 => ?_) (fun c1 => ?_)
 ·try simp only [sx] at c1
  obtain ⟨x, hx⟩ := ex_get l.L k (by omega)
  refine awp_skip <|
   awp_seq <|
   awp_block <|
   sReg rfl <|
   rMv rfl <|
   rwp_det rfl rfl (det_index_sl rfl el39 rfl rfl (by omega) (getm (by assumption))) <|
   rwp_det rfl rfl (det_load_agg rfl agg69 rfl ptr_imm rfl) <|
   rwp_op rfl rfl (ope_alloc rfl zr69) ?_
  rintro _ _ ⟨b2, rfl, rfl⟩
  refine rMv rfl <|
   rwp_det0 rfl rfl (det_store rfl sz69 rfl rfl rfl (st_row 0 rfl rfl)) <|
   rwp_nil <|
   awp_seq <|
   awp_draw 25 mixed (by kernel_rfl) rfl rfl <|
   td_det rfl rfl (det_field_lit rfl fd69_0 rfl) <|
   td_det rfl rfl (det_load_one rfl one9 rfl (ptr_row 0 rfl) rfl) <|
   td_det rfl rfl (det_call rfl ok104 (lin_identifier _) ⟨VLe.refl _, rfl, trivial⟩) <|
   td_det rfl rfl (det_not rfl rfl) <|
   td_det rfl rfl (det_move rfl rfl) <|
   td_lazy [] rfl rfl rfl rfl gv1 trivial (fun g4_4 => det_field_lit rfl fd69_1 rfl) rfl <|
   td_lazy [(18, _)] rfl rfl rfl rfl gv1 ⟨rfl, rfl, trivial⟩ (fun g4_4 => det_load_one rfl one2 rfl (ptr_row 0 rfl) rfl) rfl <|
   td_lazy [(19, _)] rfl rfl rfl rfl gv1 ⟨rfl, rfl, trivial⟩ (fun g4_4 => det_eql rfl rfl rfl) rfl <|
   td_det rfl rfl (det_or rfl rfl rfl rfl (fun h => (lzf h))) <|
   td_det rfl rfl (det_move rfl rfl) <|
   td_lazy [] rfl rfl rfl rfl gv1 trivial (fun g4_9 => det_move rfl rfl) rfl <|
   td_lazy [(23, _)] rfl rfl rfl rfl gv1 ⟨rfl, rfl, trivial⟩ (fun g4_9 => det_gtr rfl rfl rfl) rfl <|
   td_lazy [(24, _)] rfl rfl rfl rfl gv1 ⟨rfl, rfl, trivial⟩ (fun g4_9 => det_move rfl rfl) rfl <|
   td_lazy [] rfl rfl rfl rfl gv2 trivial (fun g4_12 => det_field_lit rfl fd41_1 rfl) rfl <|
   td_lazy [(26, _)] rfl rfl rfl rfl gv2 ⟨rfl, rfl, trivial⟩ (fun g4_12 => det_load_one rfl one39 rfl (ptr_row 1 rfl) rfl) rfl <|
   td_lazy [] rfl rfl rfl rfl gv2 trivial (fun g4_12 => det_move rfl rfl) rfl <|
   td_lazy [(28, _)] rfl rfl rfl rfl gv2 ⟨rfl, rfl, trivial⟩ (fun g4_12 => det_sub_nw rfl rfl rfl ⟨by omega, by omega⟩) rfl <|
   td_lazy [(27, _), (29, _)] rfl rfl rfl rfl gv2 ⟨rfl, rfl, rfl, rfl, trivial⟩ (fun g4_12 => det_index_sl rfl el39 rfl rfl (by simp only [Lz, cond_true, cond_false, Bool.and_eq_true, Bool.or_eq_true, Bool.not_eq_true', Bool.not_eq_false', Bool.or_eq_false_iff, Bool.and_eq_false_iff, decide_eq_true_eq, decide_eq_false_iff_not, Bool.not_eq_true, Bool.not_eq_false] at g4_12; omega) (pv_get (by simp only [Lz, cond_true, cond_false, Bool.and_eq_true, Bool.or_eq_true, Bool.not_eq_true', Bool.not_eq_false', Bool.or_eq_false_iff, Bool.and_eq_false_iff, decide_eq_true_eq, decide_eq_false_iff_not, Bool.not_eq_true, Bool.not_eq_false] at g4_12; omega) (by omega))) rfl <|
   td_lazy [(30, _)] rfl rfl rfl rfl gv2 ⟨rfl, rfl, trivial⟩ (fun g4_12 => det_field_imm rfl fd69_0 rfl) rfl <|
   td_lazy [(31, _)] rfl rfl rfl rfl gv2 ⟨rfl, rfl, trivial⟩ (fun g4_12 => det_load_one rfl one9 rfl ptr_imm rfl) rfl <|
   td_lazy [] rfl rfl rfl rfl gv2 trivial (fun g4_12 => det_field_lit rfl fd69_0 rfl) rfl <|
   td_lazy [(33, _)] rfl rfl rfl rfl gv2 ⟨rfl, rfl, trivial⟩ (fun g4_12 => det_load_one rfl one9 rfl (ptr_row 0 rfl) rfl) rfl <|
   td_lazy [(32, _), (34, _)] rfl rfl rfl rfl gv2 ⟨rfl, rfl, rfl, rfl, trivial⟩ (fun g4_12 => det_sgeq rfl rfl rfl) rfl <|
   td_lazy [(25, _)] rfl rfl rfl rfl gv1 ⟨rfl, rfl, trivial⟩ (fun g4_9 => det_and rfl rfl rfl (fun h => and_mk (by assumption) h) rfl) rfl <|
   td_det rfl rfl (det_or rfl rfl rfl rfl (fun h => (lzf h))) <|
   td_nil <|
   rwp_nil <|
   awp_cond rfl (fun c2 => ?_) (fun c2 => ?_)
  ·refine sReg rfl <|
    rMv rfl <|
    rwp_nil <|
    awp_ret <|
    fin1 (rs_c rfl) ?_
   rw [linErr, hp, monos_step hx, show badM l.L k x = true from c2]; rfl
  ·refine awp_skip <|
    awp_region rfl <|
    rwp_det rfl rfl (det_add_nw rfl rfl rfl ⟨by omega, by omega⟩) <|
    rMv rfl <|
    rwp_nil ?_
   refine ⟨k + 1, ⟨by omega, by rw [hp, monos_step hx, show badM l.L k x = false from c2]; rfl⟩, (by omega), Weak.mk [false, true] ⟨VLe.refl _, VLe.refl _, VLe.refl _, VLe.refl _, trivial⟩ rfl⟩
 ·try simp only [sx] at c1
  refine awp_exit <|
   sReg rfl <|
   rMv rfl <|
   rwp_nil <|
   awp_ret <|
   fin1 (rs_c rfl) ?_
  rw [linErr, hp, monos_end (by omega)]; rfl

theorem base_Lin (a b : Lf) (ha : a.L.length ≤ 6000000000000) :
    Pur cfg 175 [vLin a, vLin b] (vB (decide (a = b))) := by
 refine con_intro Tryz.func175 rfl Tryz.ntmps175 Tryz.results175 rfl ?_
 intro z hz
 refine sReg rfl <|
  rwp_op rfl rfl (ope_box rfl rfl) ?_
 rintro _ _ ⟨b1, rfl, rfl⟩
 refine rwp_op rfl rfl (ope_box rfl rfl) ?_
 rintro _ _ ⟨b2, rfl, rfl⟩
 refine rMv rfl <|
  rwp_nil <|
  awp_seq <|
  sReg rfl <|
  rwp_det rfl rfl (det_field_lit rfl fd41_0 rfl) <|
  rwp_det rfl rfl (det_load_one rfl one2 rfl (ptr_row 1 rfl) rfl) <|
  rwp_det rfl rfl (det_field_lit rfl fd41_0 rfl) <|
  rwp_det rfl rfl (det_load_one rfl one2 rfl (ptr_row 0 rfl) rfl) <|
  rwp_det rfl rfl (det_neq rfl rfl rfl) <|
  rMv rfl <|
  rLz [] rfl gv1 trivial (fun g1_5 => det_field_lit rfl fd41_1 rfl) rfl <|
  rLz [(12, _)] rfl gv1 ⟨rfl, rfl, trivial⟩ (fun g1_5 => det_load_one rfl one39 rfl (ptr_row 1 rfl) rfl) rfl <|
  rLz [(13, _)] rfl gv1 ⟨rfl, rfl, trivial⟩ (fun g1_5 => det_len_slm rfl el39 rfl) rfl <|
  rLz [] rfl gv1 trivial (fun g1_5 => det_field_lit rfl fd41_1 rfl) rfl <|
  rLz [(15, _)] rfl gv1 ⟨rfl, rfl, trivial⟩ (fun g1_5 => det_load_one rfl one39 rfl (ptr_row 0 rfl) rfl) rfl <|
  rLz [(16, _)] rfl gv1 ⟨rfl, rfl, trivial⟩ (fun g1_5 => det_len_slm rfl el39 rfl) rfl <|
  rLz [(14, _), (17, _)] rfl gv1 ⟨rfl, rfl, rfl, rfl, trivial⟩ (fun g1_5 => det_neq rfl rfl rfl) rfl <|
  rwp_det rfl rfl (det_or rfl rfl rfl rfl (fun h => (lzf h))) <|
  rwp_nil <|
  awp_cond rfl (fun c1 => ?_) (fun c1 => ?_)
 ·try simp only [sx] at c1
  refine sReg rfl <|
   rMv rfl <|
   rwp_nil <|
   awp_ret <|
   fin1 (rs_c rfl) ?_
  rw [dec_false (fun h => by rw [h] at c1; simp at c1)]
 ·try simp only [sx] at c1
  refine awp_skip <|
   awp_seq <|
   sReg rfl <|
   rMv rfl <|
   rwp_nil <|
   awp_block <|
   awp_weak ⟨[(5, .c _), (2, .c _), (3, .c _)], [_, _]⟩ (Weak.mk [true, true] ⟨VLe.of_eq rfl, VLe.of_eq rfl, VLe.of_eq rfl, trivial⟩ rfl) <|
   awp_loop_k 1 0 rfl rfl (Nat) (fun k => [(5, vI k)]) (fun k => []) (fun k => k ≤ a.L.length ∧ (a.L.take k = b.L.take k)) (fun k => a.L.length - k) ⟨0, ⟨by omega, rfl⟩, Weak.mk [true, true] ⟨VLe.refl _, VLe.refl _, VLe.refl _, trivial⟩ rfl⟩ ?_
  rintro k ⟨hk, hp⟩
  refine awp_seq <|
   sReg rfl <|
   rMv rfl <|
   rwp_det rfl rfl (det_field_lit rfl fd41_1 rfl) <|
   rwp_det rfl rfl (det_load_one rfl one39 rfl (ptr_row 1 rfl) rfl) <|
   rwp_det rfl rfl (det_len_slm rfl el39 rfl) <|
   rwp_det rfl rfl (det_lss rfl rfl rfl) <|
   rwp_nil <|
   awp_cond rfl (fun c2 => ?_) (fun c2 => ?_)
  ·try simp only [sx] at c2
   obtain ⟨x, hx⟩ := ex_get a.L k (by omega)
   obtain ⟨y, hy⟩ := ex_get b.L k (by omega)
   refine awp_skip <|
    awp_seq <|
    awp_block <|
    awp_seq <|
    awp_draw 11 mixed (by kernel_rfl) rfl rfl <|
    td_det rfl rfl (det_field_lit rfl fd41_1 rfl) <|
    td_det rfl rfl (det_load_one rfl one39 rfl (ptr_row 1 rfl) rfl) <|
    td_det rfl rfl (det_move rfl rfl) <|
    td_det rfl rfl (det_index_sl rfl el39 rfl rfl (by omega) (getm (by assumption))) <|
    td_det rfl rfl (det_load_agg rfl agg69 rfl ptr_imm rfl) <|
    td_det rfl rfl (det_field_lit rfl fd41_1 rfl) <|
    td_det rfl rfl (det_load_one rfl one39 rfl (ptr_row 0 rfl) rfl) <|
    td_det rfl rfl (det_move rfl rfl) <|
    td_det rfl rfl (det_index_sl rfl el39 rfl rfl (by omega) (getm (by assumption))) <|
    td_det rfl rfl (det_load_agg rfl agg69 rfl ptr_imm rfl) <|
    td_det rfl rfl (det_aneq rfl fl69 rfl rfl rfl) <|
    td_nil <|
    rwp_nil <|
    awp_cond rfl (fun c3 => ?_) (fun c3 => ?_)
   ·have hne := mono_ne c3
    refine sReg rfl <|
     rMv rfl <|
     rwp_nil <|
     awp_ret <|
     fin1 (rs_c rfl) ?_
    rw [dec_false (fun h => ne_of_get hx hy hne (by rw [h]))]
   ·have heq := mono_eq c3
    refine awp_skip <|
     awp_region rfl <|
     rMv rfl <|
     rwp_det rfl rfl (det_add_nw rfl rfl rfl ⟨by omega, by omega⟩) <|
     rMv rfl <|
     rwp_nil ?_
    refine ⟨k + 1, ⟨by omega, take_eq_next hx hy hp heq⟩, (by omega), Weak.mk [true, true] ⟨VLe.refl _, VLe.refl _, VLe.refl _, trivial⟩ rfl⟩
  ·try simp only [sx] at c2
   refine awp_exit <|
    sReg rfl <|
    rMv rfl <|
    rwp_nil <|
    awp_ret <|
    fin1 (rs_c rfl) ?_
   rw [dec_true (lin_mk (by omega) (eq_of_take hp (by omega) (by omega)))]

theorem slices_IndexFunc_ix (l : List Ix) (c : C) (p : Ix → Bool) (hl : l.length ≤ 6000000000000) (hc : ∀ x, x ∈ l → FnPur cfg c [vIndex x] (vB (p x))) :
    Pur cfg 295 [vIndices l, .c c] (vI (idxOf p l)) := by
 refine con_intro Tryz.func295 rfl Tryz.ntmps295 Tryz.results295 rfl ?_
 intro z hz
 refine sReg rfl <|
  rMv rfl <|
  rwp_nil <|
  awp_seq <|
  sReg rfl <|
  rMv rfl <|
  rwp_det rfl rfl (det_len_slm rfl el34 rfl) <|
  rMv rfl <|
  rwp_nil <|
  awp_block <|
  awp_weak ⟨[(8, .c _), (0, .c _), (1, .c _), (7, .c _)], []⟩ (Weak.mk [] ⟨VLe.of_eq rfl, VLe.of_eq rfl, VLe.of_eq rfl, VLe.of_eq rfl, trivial⟩ rfl) <|
  awp_loop_k 1 0 rfl rfl (Nat) (fun k => [(8, vI k)]) (fun k => []) (fun k => k ≤ l.length ∧ ((l.take k).any p = false)) (fun k => l.length - k) ⟨0, ⟨by omega, rfl⟩, Weak.mk [] ⟨VLe.refl _, VLe.refl _, VLe.refl _, VLe.refl _, trivial⟩ rfl⟩ ?_
 rintro k ⟨hk, hp⟩
 refine sReg rfl <|
  rwp_det rfl rfl (det_lss rfl rfl rfl) <|
  rwp_nil <|
  awp_seq <|
  awp_cond rfl (fun c1 => ?_) (fun c1 => ?_)
 ·try simp only [sx] at c1
  obtain ⟨x, hx⟩ := ex_get l k (by omega)
  refine awp_skip <|
   awp_seq <|
   awp_block <|
   sReg rfl <|
   rMv rfl <|
   rMv rfl <|
   rwp_nil <|
   sReg rfl <|
   rMv rfl <|
   rMv rfl <|
   rMv rfl <|
   rwp_det rfl rfl (det_index_sl rfl el34 rfl rfl (by omega) (getm (by assumption))) <|
   rwp_det rfl rfl (det_load_agg rfl agg72 rfl ptr_imm rfl) <|
   rwp_det rfl rfl (det_call_val rfl rfl (hc _ (mem_of_get hx)) ⟨VLe.refl _, rfl, trivial⟩) <|
   rwp_nil <|
   awp_cond rfl (fun c2 => ?_) (fun c2 => ?_)
  ·try simp only [sx] at c2
   refine sReg rfl <|
    rMv rfl <|
    rMv rfl <|
    rwp_nil <|
    awp_ret <|
    fin1 (rs_c rfl) ?_
   rw [idxOf_at hx c2 hp]
  ·try simp only [sx] at c2
   refine awp_skip <|
    awp_region rfl <|
    rwp_det rfl rfl (det_add_nw rfl rfl rfl ⟨by omega, by omega⟩) <|
    rMv rfl <|
    rwp_nil ?_
   refine ⟨k + 1, ⟨by omega, any_next hx hp c2⟩, (by omega), Weak.mk [] ⟨VLe.refl _, VLe.refl _, VLe.refl _, VLe.refl _, trivial⟩ rfl⟩
 ·try simp only [sx] at c1
  refine awp_exit <|
   sReg rfl <|
   rMv rfl <|
   rwp_nil <|
   awp_ret <|
   fin1 (rs_c rfl) ?_
  rw [idxOf_none (by rw [take_all (by omega)] at hp; exact hp)]

theorem slices_ContainsFunc_ix (l : List Ix) (c : C) (p : Ix → Bool) (hl : l.length ≤ 6000000000000) (hc : ∀ x, x ∈ l → FnPur cfg c [vIndex x] (vB (p x))) :
    Pur cfg 271 [vIndices l, .c c] (vB (l.any p)) := by
 refine con_intro Tryz.func271 rfl Tryz.ntmps271 Tryz.results271 rfl ?_
 intro z hz
 refine sReg rfl <|
  rMv rfl <|
  rwp_nil <|
  sReg rfl <|
  rMv rfl <|
  rMv rfl <|
  rwp_det rfl rfl (det_call rfl ok295 (slices_IndexFunc_ix l c p hl hc) ⟨VLe.refl _, rfl, VLe.refl _, rfl, trivial⟩) <|
  rwp_det rfl rfl (det_geq rfl rfl rfl) <|
  rMv rfl <|
  rwp_nil <|
  awp_ret <|
  fin1 (rs_c rfl) ?_
 rw [idxOf_any]

end Go.W
