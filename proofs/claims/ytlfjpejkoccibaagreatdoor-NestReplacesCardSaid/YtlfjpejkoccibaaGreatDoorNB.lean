/-
  Walks: what functions of the program compute. Printed by wip/gen/mk2.py.
  Conditions: none.
-/
import Derived.Test.YtlfjpejkoccibaaGreatDoorNA
set_option linter.unusedSimpArgs false
set_option linter.unusedVariables false
set_option maxRecDepth 10000
namespace Go.W
open Go Go.Eng Go.Proofs Go.L41 Go.Br
attribute [local irreducible] AWP RWP TD finQ

abbrev ckN (b : Nat) (svL svS svP : Value) (n : Ns) (U S : List ByteArray) (W : List Int) : List E :=
  [.row b 123 [.sl 8 (n.Bufs.map Bf.cells), .sl 20 (n.Body.map St.cells), .lit svL, .lit svS, .lit svP], .vec svL 9 1 (U.map fun s => [cS s]), .vec svS 9 1 (S.map fun s => [cS s]), .vec svP 3 1 (W.map fun i => [cI i])]
abbrev vP (b : Nat) : V := .c (.lit (.pointer (some ⟨b, 0, none⟩)))
theorem agg25 : aggT Tryz.prog 25 = some 2 := by kernel_rfl
theorem agg46 : aggT Tryz.prog 46 = some 20 := by kernel_rfl
theorem el228 : elemT Tryz.prog 228 = some (38, 5, 40) := by kernel_rfl
theorem fd25_1 : fieldT Tryz.prog 25 1 = some (1, 23) := by kernel_rfl
theorem fd46_0 : fieldT Tryz.prog 46 0 = some (0, 3) := by kernel_rfl
theorem fd46_1 : fieldT Tryz.prog 46 1 = some (1, 9) := by kernel_rfl
theorem fd46_2 : fieldT Tryz.prog 46 2 = some (2, 3) := by kernel_rfl
theorem fd46_3 : fieldT Tryz.prog 46 3 = some (3, 3) := by kernel_rfl
theorem fd46_4 : fieldT Tryz.prog 46 4 = some (4, 3) := by kernel_rfl
theorem fd46_5 : fieldT Tryz.prog 46 5 = some (5, 34) := by kernel_rfl
theorem fd46_6 : fieldT Tryz.prog 46 6 = some (6, 44) := by kernel_rfl
theorem fd123_0 : fieldT Tryz.prog 123 0 = some (0, 25) := by kernel_rfl
theorem fd123_1 : fieldT Tryz.prog 123 1 = some (2, 105) := by kernel_rfl
theorem fd123_2 : fieldT Tryz.prog 123 2 = some (3, 105) := by kernel_rfl
theorem fd123_3 : fieldT Tryz.prog 123 3 = some (4, 26) := by kernel_rfl
theorem ok81 : callOk Tryz.prog 81 = true := by kernel_rfl
theorem ok82 : callOk Tryz.prog 82 = true := by kernel_rfl
theorem ok101 : callOk Tryz.prog 101 = true := by kernel_rfl
theorem ok129 : callOk Tryz.prog 129 = true := by kernel_rfl
theorem ok163 : callOk Tryz.prog 163 = true := by kernel_rfl
theorem ok164 : callOk Tryz.prog 164 = true := by kernel_rfl
theorem ok165 : callOk Tryz.prog 165 = true := by kernel_rfl
theorem ok167 : callOk Tryz.prog 167 = true := by kernel_rfl
theorem ok187 : callOk Tryz.prog 187 = true := by kernel_rfl
theorem ok188 : callOk Tryz.prog 188 = true := by kernel_rfl
theorem ok189 : callOk Tryz.prog 189 = true := by kernel_rfl
theorem ok190 : callOk Tryz.prog 190 = true := by kernel_rfl
theorem ok205 : callOk Tryz.prog 205 = true := by kernel_rfl
theorem ok209 : callOk Tryz.prog 209 = true := by kernel_rfl
theorem ok210 : callOk Tryz.prog 210 = true := by kernel_rfl
theorem ok211 : callOk Tryz.prog 211 = true := by kernel_rfl
theorem ok241 : callOk Tryz.prog 241 = true := by kernel_rfl
theorem ok242 : callOk Tryz.prog 242 = true := by kernel_rfl
theorem ok243 : callOk Tryz.prog 243 = true := by kernel_rfl
theorem one121 : oneT Tryz.prog 121 = true := by kernel_rfl
theorem pl123 : placesT Tryz.prog 123 = some [(0, 2), (2, 1), (3, 1), (4, 1)] := by kernel_rfl
theorem sz38 : (Tryz.prog.info? 38).map (·.size) = some 5 := by kernel_rfl
theorem sz46 : (Tryz.prog.info? 46).map (·.size) = some 20 := by kernel_rfl
theorem zr46 : zeroT Tryz.prog 46 = some [(Value.int IntKind.i64 0), (Value.string (ByteArray.mk #[])), (Value.int IntKind.i64 0), (Value.int IntKind.i64 0), (Value.int IntKind.i64 0), (Value.slice none 0 0), (Value.int IntKind.i64 0), (Value.string (ByteArray.mk #[])), (Value.int IntKind.i64 0), (Value.int IntKind.i64 0), (Value.int IntKind.i64 0), (Value.int IntKind.i64 0), (Value.int IntKind.i64 0), (Value.int IntKind.i64 0), (Value.int IntKind.i64 0), (Value.int IntKind.i64 0), (Value.slice none 0 0), (Value.slice none 0 0), (Value.slice none 0 0), (Value.slice none 0 0)] := by kernel_rfl
theorem zr123 : zeroT Tryz.prog 123 = some [(Value.slice none 0 0), (Value.slice none 0 0), (Value.slice none 0 0), (Value.slice none 0 0), (Value.slice none 0 0)] := by kernel_rfl
theorem slices_IndexFuncM_mono (l : List Mono) (c : C) (p : Mono → Bool) (μ : List E) (hl : l.length ≤ 4294967296) (hc : ∀ x, x ∈ l → FnCon cfg c [vMono x] μ fun r μ' => r = vB (p x) ∧ μ' = μ) :
    Con cfg 281 [vMonos l, .c c] μ fun r μ' => r = vI (idxOf p l) ∧ μ' = μ := by
 refine con_intro Tryz.func281 rfl Tryz.ntmps281 Tryz.results281 rfl ?_
 intro z hz
 refine sReg rfl <|
  rMv rfl <|
  rwp_nil <|
  awp_seq <|
  sReg rfl <|
  rMv rfl <|
  rwp_det rfl rfl (det_len_slm rfl el39 rfl) <|
  rMv rfl <|
  rwp_nil <|
  awp_block <|
  awp_weak ⟨[(8, .c _), (0, .c _), (1, .c _), (7, .c _)], _⟩ (Weak.regs ⟨VLe.of_eq rfl, VLe.of_eq rfl, VLe.of_eq rfl, VLe.of_eq rfl, trivial⟩) <|
  awp_loop_m 1 rfl (Nat) (fun k => [(8, vI k)]) (fun k => μ) (fun k => k ≤ l.length ∧ ((l.take k).any p = false)) (fun k => l.length - k) ⟨0, ⟨by omega, rfl⟩, Weak.regs ⟨VLe.refl _, VLe.refl _, VLe.refl _, VLe.refl _, trivial⟩⟩ ?_
 rintro k ⟨hk, hp⟩
 refine sReg rfl <|
  rwp_det rfl rfl (det_lss rfl rfl rfl) <|
  rwp_nil <|
  awp_seq <|
  awp_cond rfl (fun c1 => ?_) (fun c1 => ?_)
 ·try simp only [sx] at c1
  obtain ⟨x, hx⟩ := ex_get l k (by omega)
  refine awp_skip <|
   awp_seq <|
   awp_block <|
   sReg rfl <|
   rMv rfl <|
   rMv rfl <|
   rwp_nil <|
   sReg rfl <|
   rMv rfl <|
   rMv rfl <|
   rMv rfl <|
   rwp_det rfl rfl (det_index_sl rfl el39 rfl rfl (by omega) (getm (by assumption))) <|
   rwp_det rfl rfl (det_load_agg rfl agg69 rfl ptr_imm rfl) <|
   rwp_op rfl rfl (ope_call_val rfl rfl (hc _ (mem_of_get hx)) ⟨VLe.refl _, rfl, trivial⟩) ?_
  rintro _ _ ⟨rfl, rfl⟩
  refine rwp_nil <|
   awp_cond rfl (fun c2 => ?_) (fun c2 => ?_)
  ·try simp only [sx] at c2
   refine sReg rfl <|
    rMv rfl <|
    rMv rfl <|
    rwp_nil <|
    awp_ret <|
    fin1 (rs_c rfl) ?_
   exact ⟨by rw [idxOf_at hx c2 hp], rfl⟩
  ·try simp only [sx] at c2
   refine awp_skip <|
    awp_region rfl <|
    rwp_det rfl rfl (det_add_nw rfl rfl rfl ⟨by omega, by omega⟩) <|
    rMv rfl <|
    rwp_nil ?_
   refine ⟨k + 1, ⟨by omega, any_next hx hp c2⟩, (by omega), Weak.regs ⟨VLe.refl _, VLe.refl _, VLe.refl _, VLe.refl _, trivial⟩⟩
 ·try simp only [sx] at c1
  refine awp_exit <|
   sReg rfl <|
   rMv rfl <|
   rwp_nil <|
   awp_ret <|
   fin1 (rs_c rfl) ?_
  exact ⟨by rw [idxOf_none (by rw [take_all (by omega)] at hp; exact hp)], rfl⟩

theorem slices_ContainsFuncM_mono (l : List Mono) (c : C) (p : Mono → Bool) (μ : List E) (hl : l.length ≤ 4294967296) (hc : ∀ x, x ∈ l → FnCon cfg c [vMono x] μ fun r μ' => r = vB (p x) ∧ μ' = μ) :
    Con cfg 241 [vMonos l, .c c] μ fun r μ' => r = vB (l.any p) ∧ μ' = μ := by
 refine con_intro Tryz.func241 rfl Tryz.ntmps241 Tryz.results241 rfl ?_
 intro z hz
 refine sReg rfl <|
  rMv rfl <|
  rwp_nil <|
  sReg rfl <|
  rMv rfl <|
  rMv rfl <|
  rwp_op rfl rfl (ope_call rfl ok281 (slices_IndexFuncM_mono l c p μ hl hc) ⟨VLe.refl _, rfl, VLe.refl _, rfl, trivial⟩) ?_
 rintro _ _ ⟨rfl, rfl⟩
 refine rwp_det rfl rfl (det_geq rfl rfl rfl) <|
  rMv rfl <|
  rwp_nil <|
  awp_ret <|
  fin1 (rs_c rfl) ?_
 exact ⟨by rw [idxOf_any], rfl⟩

theorem slices_IndexFuncM_lf (l : List Lf) (c : C) (p : Lf → Bool) (μ : List E) (hl : l.length ≤ 4294967296) (hc : ∀ x, x ∈ l → FnCon cfg c [vLin x] μ fun r μ' => r = vB (p x) ∧ μ' = μ) :
    Con cfg 243 [vLins l, .c c] μ fun r μ' => r = vI (idxOf p l) ∧ μ' = μ := by
 refine con_intro Tryz.func243 rfl Tryz.ntmps243 Tryz.results243 rfl ?_
 intro z hz
 refine sReg rfl <|
  rMv rfl <|
  rwp_nil <|
  awp_seq <|
  sReg rfl <|
  rMv rfl <|
  rwp_det rfl rfl (det_len_slm rfl el70 rfl) <|
  rMv rfl <|
  rwp_nil <|
  awp_block <|
  awp_weak ⟨[(8, .c _), (0, .c _), (1, .c _), (7, .c _)], _⟩ (Weak.regs ⟨VLe.of_eq rfl, VLe.of_eq rfl, VLe.of_eq rfl, VLe.of_eq rfl, trivial⟩) <|
  awp_loop_m 1 rfl (Nat) (fun k => [(8, vI k)]) (fun k => μ) (fun k => k ≤ l.length ∧ ((l.take k).any p = false)) (fun k => l.length - k) ⟨0, ⟨by omega, rfl⟩, Weak.regs ⟨VLe.refl _, VLe.refl _, VLe.refl _, VLe.refl _, trivial⟩⟩ ?_
 rintro k ⟨hk, hp⟩
 refine sReg rfl <|
  rwp_det rfl rfl (det_lss rfl rfl rfl) <|
  rwp_nil <|
  awp_seq <|
  awp_cond rfl (fun c1 => ?_) (fun c1 => ?_)
 ·try simp only [sx] at c1
  obtain ⟨x, hx⟩ := ex_get l k (by omega)
  refine awp_skip <|
   awp_seq <|
   awp_block <|
   sReg rfl <|
   rMv rfl <|
   rMv rfl <|
   rwp_nil <|
   sReg rfl <|
   rMv rfl <|
   rMv rfl <|
   rMv rfl <|
   rwp_det rfl rfl (det_index_sl rfl el70 rfl rfl (by omega) (getm (by assumption))) <|
   rwp_det rfl rfl (det_load_agg rfl agg41 rfl ptr_imm rfl) <|
   rwp_op rfl rfl (ope_call_val rfl rfl (hc _ (mem_of_get hx)) ⟨VLe.refl _, rfl, trivial⟩) ?_
  rintro _ _ ⟨rfl, rfl⟩
  refine rwp_nil <|
   awp_cond rfl (fun c2 => ?_) (fun c2 => ?_)
  ·try simp only [sx] at c2
   refine sReg rfl <|
    rMv rfl <|
    rMv rfl <|
    rwp_nil <|
    awp_ret <|
    fin1 (rs_c rfl) ?_
   exact ⟨by rw [idxOf_at hx c2 hp], rfl⟩
  ·try simp only [sx] at c2
   refine awp_skip <|
    awp_region rfl <|
    rwp_det rfl rfl (det_add_nw rfl rfl rfl ⟨by omega, by omega⟩) <|
    rMv rfl <|
    rwp_nil ?_
   refine ⟨k + 1, ⟨by omega, any_next hx hp c2⟩, (by omega), Weak.regs ⟨VLe.refl _, VLe.refl _, VLe.refl _, VLe.refl _, trivial⟩⟩
 ·try simp only [sx] at c1
  refine awp_exit <|
   sReg rfl <|
   rMv rfl <|
   rwp_nil <|
   awp_ret <|
   fin1 (rs_c rfl) ?_
  exact ⟨by rw [idxOf_none (by rw [take_all (by omega)] at hp; exact hp)], rfl⟩

theorem slices_ContainsFuncM_lf (l : List Lf) (c : C) (p : Lf → Bool) (μ : List E) (hl : l.length ≤ 4294967296) (hc : ∀ x, x ∈ l → FnCon cfg c [vLin x] μ fun r μ' => r = vB (p x) ∧ μ' = μ) :
    Con cfg 210 [vLins l, .c c] μ fun r μ' => r = vB (l.any p) ∧ μ' = μ := by
 refine con_intro Tryz.func210 rfl Tryz.ntmps210 Tryz.results210 rfl ?_
 intro z hz
 refine sReg rfl <|
  rMv rfl <|
  rwp_nil <|
  sReg rfl <|
  rMv rfl <|
  rMv rfl <|
  rwp_op rfl rfl (ope_call rfl ok243 (slices_IndexFuncM_lf l c p μ hl hc) ⟨VLe.refl _, rfl, VLe.refl _, rfl, trivial⟩) ?_
 rintro _ _ ⟨rfl, rfl⟩
 refine rwp_det rfl rfl (det_geq rfl rfl rfl) <|
  rMv rfl <|
  rwp_nil <|
  awp_ret <|
  fin1 (rs_c rfl) ?_
 exact ⟨by rw [idxOf_any], rfl⟩

theorem inScope_1 (b : Nat) (svL svS svP : Value) (n : Ns) (U S : List ByteArray) (W : List Int) (m : Mono) (hS : S.length ≤ 1000000) :
    Con cfg 242 [vMono m, .c (.iptr [.lit (.pointer (some ⟨b, 0, none⟩))])] (ckN b svL svS svP n U S W) fun r μ' => r = vB (!hasB S m.Name) ∧ μ' = ckN b svL svS svP n U S W := by
 refine con_intro Tryz.func242 rfl Tryz.ntmps242 Tryz.results242 rfl ?_
 intro z hz
 refine sReg rfl <|
  rwp_op rfl rfl (ope_box rfl rfl) ?_
 rintro _ _ ⟨b1, rfl, rfl⟩
 refine rMv rfl <|
  rwp_nil <|
  awp_seq <|
  awp_draw 6 mixed (by kernel_rfl) rfl rfl <|
  td_det rfl rfl (det_load_one rfl one121 rfl ptr_imm rfl) <|
  td_det rfl rfl (det_nilcheck_ptr rfl rfl) <|
  td_det rfl rfl (det_field_lit rfl fd123_2 rfl) <|
  td_det rfl rfl (det_load_one rfl one105 rfl (ptr_row 1 rfl) rfl) <|
  td_det rfl rfl (det_field_lit rfl fd69_0 rfl) <|
  td_det rfl rfl (det_load_one rfl one9 rfl (ptr_row 0 rfl) rfl) <|
  td_nil <|
  rwp_det rfl rfl (det_call_lend 3 rfl ok143 rfl (slices_Contains_str S m.Name hS) rfl ⟨.inl ⟨rfl, rfl⟩, .inr ⟨VLe.refl _, rfl⟩, trivial⟩) <|
  rwp_det rfl rfl (det_not rfl rfl) <|
  rMv rfl <|
  rwp_nil <|
  awp_weak _ (Weak.mem [false, true, true, true, true] rfl) <|
  awp_ret <|
  fin1 (rs_c rfl) ?_
 exact ⟨rfl, rfl⟩

theorem ck_inScope (b : Nat) (svL svS svP : Value) (n : Ns) (U S : List ByteArray) (W : List Int) (l : Lf) (hS : S.length ≤ 1000000) (hl : l.L.length ≤ 4294967296) :
    Con cfg 209 [vP b, vLin l] (ckN b svL svS svP n U S W) fun r μ' => r = vB (inSc S l) ∧ μ' = ckN b svL svS svP n U S W := by
 refine con_intro Tryz.func209 rfl Tryz.ntmps209 Tryz.results209 rfl ?_
 intro z hz
 refine sReg rfl <|
  rwp_op rfl rfl (ope_box rfl rfl) ?_
 rintro _ _ ⟨b1, rfl, rfl⟩
 refine rwp_weak _ (weak_freeze_row 0 rfl 2 _ PLe.ptr) <|
  rwp_op rfl rfl (ope_box rfl rfl) ?_
 rintro _ _ ⟨b2, rfl, rfl⟩
 refine rMv rfl <|
  rwp_nil <|
  sReg rfl <|
  rwp_det rfl rfl (det_field_lit rfl fd41_1 rfl) <|
  rwp_det rfl rfl (det_load_one rfl one39 rfl (ptr_row 0 rfl) rfl) <|
  rwp_det rfl rfl (det_func rfl rfl rfl rfl rfl) <|
  rwp_det rfl rfl (det_call_same [1, 1, 1, 1] rfl ok241 (slices_ContainsFuncM_mono l.L _ (fun m => !hasB S m.Name) (ckN b svL svS svP n U S W) hl (fun m _ => FnCon.of_con (first := []) (cap := [.iptr [.lit (.pointer (some ⟨b, 0, none⟩))]]) ok242 (inScope_1 b svL svS svP n U S W m hS))) ⟨VLe.refl _, rfl, VLe.refl _, rfl, trivial⟩ rfl) <|
  rwp_det rfl rfl (det_not rfl rfl) <|
  rMv rfl <|
  rwp_nil <|
  awp_weak _ (Weak.mem [false, true, true, true, true] rfl) <|
  awp_ret <|
  fin1 (rs_c rfl) ?_
 exact ⟨by rw [notanynot]; rfl, rfl⟩

theorem node_1 (b : Nat) (svL svS svP : Value) (n : Ns) (U S : List ByteArray) (W : List Int) (l : Lf) (hS : S.length ≤ 1000000) (hl : l.L.length ≤ 4294967296) :
    Con cfg 211 [vLin l, .c (.iptr [.lit (.pointer (some ⟨b, 0, none⟩))])] (ckN b svL svS svP n U S W) fun r μ' => r = vB (!inSc S l) ∧ μ' = ckN b svL svS svP n U S W := by
 refine con_intro Tryz.func211 rfl Tryz.ntmps211 Tryz.results211 rfl ?_
 intro z hz
 refine sReg rfl <|
  rwp_op rfl rfl (ope_box rfl rfl) ?_
 rintro _ _ ⟨b1, rfl, rfl⟩
 refine rMv rfl <|
  rwp_nil <|
  sReg rfl <|
  rwp_det rfl rfl (det_load_one rfl one121 rfl ptr_imm rfl) <|
  rwp_det rfl rfl (det_load_agg rfl agg41 rfl (ptr_row 0 rfl) rfl) <|
  rwp_det rfl rfl (det_call_same [1, 1, 1, 1] rfl ok209 (ck_inScope b svL svS svP n U S W l hS hl) ⟨VLe.refl _, rfl, VLe.refl _, rfl, trivial⟩ rfl) <|
  rwp_det rfl rfl (det_not rfl rfl) <|
  rMv rfl <|
  rwp_nil <|
  awp_weak _ (Weak.mem [false, true, true, true, true] rfl) <|
  awp_ret <|
  fin1 (rs_c rfl) ?_
 exact ⟨rfl, rfl⟩

theorem ck_node (b : Nat) (svL svS svP : Value) (n : Ns) (U S : List ByteArray) (W : List Int) (e : Ex) (hn : n.Ok) (hS : S.length ≤ 1000000) (he : e.wt ≤ 1073741824) :
    Con cfg 189 [vP b, vE e] (ckN b svL svS svP n U S W) fun r μ' => r = vI (nodeN n.Bufs S e) ∧ μ' = ckN b svL svS svP n U S W := by
 refine con_intro Tryz.func189 rfl Tryz.ntmps189 Tryz.results189 rfl ?_
 intro z hz
 obtain ⟨hL, hI, hA⟩ := e.parts he
 have hwt := Ex.wt_eq e
 refine sReg rfl <|
  rwp_op rfl rfl (ope_box rfl rfl) ?_
 rintro _ _ ⟨b1, rfl, rfl⟩
 refine rwp_weak _ (weak_freeze_row 0 rfl 2 _ PLe.ptr) <|
  rwp_op rfl rfl (ope_box rfl rfl) ?_
 rintro _ _ ⟨b2, rfl, rfl⟩
 refine rMv rfl <|
  rwp_nil <|
  sReg rfl <|
  rwp_det rfl rfl (det_load_one rfl one121 rfl ptr_imm rfl) <|
  rwp_det rfl rfl (det_field_lit rfl fd44_4 rfl) <|
  rwp_det rfl rfl (det_load_agg rfl agg41 rfl (ptr_row 0 rfl) rfl) <|
  rwp_det rfl rfl (det_call_same [1, 1, 1, 1] rfl ok209 (ck_inScope b svL svS svP n U S W e.Lin hS (by omega)) ⟨VLe.refl _, rfl, VLe.refl _, rfl, trivial⟩ rfl) <|
  rMv rfl <|
  rwp_nil <|
  awp_seq <|
  sReg rfl <|
  rwp_det rfl rfl (det_field_lit rfl fd44_5 rfl) <|
  rwp_det rfl rfl (det_load_one rfl one34 rfl (ptr_row 0 rfl) rfl) <|
  rwp_det rfl rfl (det_len_slm rfl el34 rfl) <|
  rMv rfl <|
  rwp_nil <|
  awp_block <|
  awp_weak ⟨[(20, .c _), (5, .c _), (2, .c _), (3, .c _), (18, .c _), (19, .c _)], [_, _, _, _, _]⟩ (Weak.mk [true, true, true, true, true] ⟨VLe.of_eq rfl, VLe.of_eq rfl, VLe.of_eq rfl, VLe.of_eq rfl, VLe.of_eq rfl, VLe.of_eq rfl, trivial⟩ rfl) <|
  awp_loop_k 2 0 rfl rfl (Nat) (fun k => [(20, vI k), (5, vB (inSc S e.Lin && (e.Idx.take k).all (ixSc S)))]) (fun k => []) (fun k => k ≤ e.Idx.length) (fun k => e.Idx.length - k) ⟨0, (by omega), Weak.mk [true, true, true, true, true] ⟨VLe.refl _, VLe.of_eq (congrArg vB (by simp)), VLe.refl _, VLe.refl _, VLe.refl _, VLe.refl _, trivial⟩ rfl⟩ ?_
 rintro k hk
 refine sReg rfl <|
  rwp_det rfl rfl (det_lss rfl rfl rfl) <|
  rwp_nil <|
  awp_seq <|
  awp_cond rfl (fun c1 => ?_) (fun c1 => ?_)
 ·try simp only [sx] at c1
  obtain ⟨x, hx⟩ := ex_get e.Idx k (by omega)
  refine awp_skip <|
   awp_seq <|
   awp_block <|
   sReg rfl <|
   rwp_det rfl rfl (det_index_sl rfl el34 rfl rfl (by omega) (getm (by assumption))) <|
   rwp_det rfl rfl (det_load_agg rfl agg72 rfl ptr_imm rfl) <|
   rwp_op rfl rfl (ope_allocN [none, some 2, none, some 2] rfl zr72 rfl) ?_
  rintro _ _ ⟨b3, rfl, rfl⟩
  refine rwp_det0 rfl rfl (det_store rfl sz72 rfl rfl rfl (st_row 0 rfl rfl)) <|
   rwp_nil <|
   awp_region rfl <|
   rMv rfl <|
   rMv rfl <|
   rLz [] rfl gv1 trivial (fun g5_1 => det_load_one rfl one121 rfl ptr_imm rfl) rfl <|
   rLz [] rfl gv1 trivial (fun g5_1 => det_field_lit rfl fd72_0 rfl) rfl <|
   rLz [(27, _)] rfl gv1 ⟨rfl, rfl, trivial⟩ (fun g5_1 => det_load_agg rfl agg41 rfl (ptr_row 0 rfl) rfl) rfl <|
   rLz [(26, _), (28, _)] rfl gv1 ⟨rfl, rfl, rfl, rfl, trivial⟩ (fun g5_1 => det_call_same [2, 2, 2, 2] rfl ok209 (ck_inScope b svL svS svP n U S W x.Lin hS (by have := Ex.idx_wt (mem_of_get hx); omega)) ⟨VLe.refl _, rfl, VLe.refl _, rfl, trivial⟩ rfl) rfl <|
   rwp_det rfl rfl (det_and rfl rfl rfl (fun h => h) rfl) <|
   rMv rfl <|
   rLz [] rfl gv1 trivial (fun g5_7 => det_field_lit rfl fd72_2 rfl) rfl <|
   rLz [(32, _)] rfl gv1 ⟨rfl, rfl, trivial⟩ (fun g5_7 => det_load_one rfl one70 rfl (ptr_row 0 rfl) rfl) rfl <|
   rLz [] rfl gv1 trivial (fun g5_7 => det_func rfl rfl rfl rfl rfl) rfl <|
   rLz [(33, _), (34, _)] rfl gv1 ⟨rfl, rfl, rfl, rfl, trivial⟩ (fun g5_7 => det_call_same [2, 2, 2, 2] rfl ok210 (slices_ContainsFuncM_lf x.At _ (fun l => !inSc S l) (ckN b svL svS svP n U S W) (by have := Ex.idx_wt (mem_of_get hx); omega) (fun l hl => FnCon.of_con (first := []) (cap := [.iptr [.lit (.pointer (some ⟨b, 0, none⟩))]]) ok211 (node_1 b svL svS svP n U S W l hS (by have := Ex.idx_wt (mem_of_get hx); have := linsWt_mem hl; omega)))) ⟨VLe.refl _, rfl, VLe.refl _, rfl, trivial⟩ rfl) rfl <|
   rLz [(35, _)] rfl gv1 ⟨rfl, rfl, trivial⟩ (fun g5_7 => det_not rfl rfl) rfl <|
   rwp_det rfl rfl (det_and rfl rfl rfl (fun h => h) rfl) <|
   rMv rfl <|
   rwp_nil <|
   awp_region rfl <|
   rwp_det rfl rfl (det_add_nw rfl rfl rfl ⟨by omega, by omega⟩) <|
   rMv rfl <|
   rwp_nil ?_
  refine ⟨k + 1, (by omega), (by omega), Weak.mk [false, true, true, true, true, true] ⟨VLe.refl _, VLe.of_eq (congrArg vB (by rw [notanynot]; exact scAll_next hx)), VLe.refl _, VLe.refl _, VLe.refl _, VLe.refl _, trivial⟩ rfl⟩
 ·try simp only [sx] at c1
  rw [take_all (l := e.Idx) (k := k) (by omega)]
  refine awp_exit <|
   awp_seq <|
   sReg rfl <|
   rMv rfl <|
   rwp_det rfl rfl (det_not rfl rfl) <|
   rwp_nil <|
   awp_cond rfl (fun c2 => ?_) (fun c2 => ?_)
  ·have h9 : nodeSc S e = false := (Bool.not_eq_true' _).mp c2
   refine sReg rfl <|
    rMv rfl <|
    rwp_nil <|
    awp_weak _ (Weak.mem [false, true, true, true, true] rfl) <|
    awp_ret <|
    fin1 (rs_c rfl) ?_
   exact ⟨by rw [nodeN_9 h9], rfl⟩
  ·have h9 : nodeSc S e = true := (Bool.not_eq_false' _).mp c2
   refine awp_skip <|
    awp_seq <|
    sReg rfl <|
    rwp_det rfl rfl (det_field_lit rfl fd44_0 rfl) <|
    rwp_det rfl rfl (det_load_one rfl one3 rfl (ptr_row 0 rfl) rfl) <|
    rwp_det rfl rfl (det_neq rfl rfl rfl) <|
    rwp_nil <|
    awp_cond rfl (fun c3 => ?_) (fun c3 => ?_)
   ·try simp only [sx] at c3
    refine sReg rfl <|
     rMv rfl <|
     rwp_nil <|
     awp_weak _ (Weak.mem [false, true, true, true, true] rfl) <|
     awp_ret <|
     fin1 (rs_c rfl) ?_
    exact ⟨by rw [nodeN_o h9 c3], rfl⟩
   ·try simp only [sx] at c3
    refine awp_skip <|
     awp_seq <|
     awp_draw_c 12 1 [⟨0, .q []⟩, ⟨1, .q []⟩, ⟨2, .q []⟩, ⟨3, .q [2]⟩, ⟨4, .q []⟩, ⟨5, .q [1]⟩, ⟨6, .q []⟩, ⟨7, .q []⟩, ⟨8, .q []⟩, ⟨9, .q []⟩, ⟨10, .e 0 []⟩, ⟨11, .e 0 []⟩] mixed (by kernel_rfl) (by kernel_rfl) rfl rfl rfl <|
     fx_skip rfl <|
     fx_skip rfl <|
     fx_skip rfl <|
     fx_skip rfl <|
     fx_skip rfl <|
     fx_skip rfl <|
     fx_skip rfl <|
     fx_skip rfl <|
     fx_skip rfl <|
     fx_skip rfl <|
     fx_skip rfl <|
     fx_skip rfl <|
     fx_nil <|
     sq_det rfl (by decide) rfl rfl (det_load_one rfl one121 rfl ptr_imm rfl) <|
     sq_det rfl (by decide) rfl rfl (det_nilcheck_ptr rfl rfl) <|
     sq_det rfl (by decide) rfl rfl (det_field_lit rfl fd123_0 rfl) <|
     sq_det rfl (by decide) rfl rfl (det_load_agg rfl agg25 rfl (ptr_row 0 rfl) rfl) <|
     sq_det rfl (by decide) rfl rfl (det_field_lit rfl fd44_1 rfl) <|
     sq_det rfl (by decide) rfl rfl (det_load_one rfl one9 rfl (ptr_row 0 rfl) rfl) <|
     sq_det rfl (by decide) rfl rfl (det_call rfl ok101 (loopnest_Buffer n e.Name hn) ⟨VLe.refl _, rfl, VLe.refl _, rfl, trivial⟩) <|
     sq_det rfl (by decide) rfl rfl (det_move_tup rfl rfl) <|
     sq_det rfl (by decide) rfl rfl (det_ex_agg rfl rfl rfl) <|
     sq_det rfl (by decide) rfl rfl (det_ex_c rfl rfl rfl) <|
     sq_op rfl rfl (by decide) rfl rfl (ope_allocN [none, none, none, none, none, none, some 1, none] rfl zr65 rfl) ?_
    rintro _ _ ⟨b4, rfl, rfl⟩
    refine ⟨_, rfl, ?_⟩
    refine sq_op0 rfl rfl (by decide) rfl rfl (det_store rfl sz65 rfl rfl rfl (st_row 0 rfl rfl)) ?_
    rintro _ _ ⟨rfl, rfl⟩
    refine ⟨_, rfl, ?_⟩
    refine sq_nil rfl <|
     rMv rfl <|
     rwp_nil <|
     awp_seq <|
     sReg rfl <|
     rMv rfl <|
     rwp_det rfl rfl (det_not rfl rfl) <|
     rwp_nil <|
     awp_cond rfl (fun c4 => ?_) (fun c4 => ?_)
    ·try simp only [sx] at c4
     refine sReg rfl <|
      rMv rfl <|
      rwp_nil <|
      awp_weak _ (Weak.mem [false, false, true, true, true, true] rfl) <|
      awp_ret <|
      fin1 (rs_c rfl) ?_
     exact ⟨by rw [nodeN_n h9 (by omega) c4], rfl⟩
    ·try simp only [sx] at c4
     refine awp_skip <|
      awp_seq <|
      sReg rfl <|
      rwp_det rfl rfl (det_field_lit rfl fd65_2 rfl) <|
      rwp_det rfl rfl (det_load_one rfl one26 rfl (ptr_row 0 rfl) rfl) <|
      rwp_det rfl rfl (det_len_slm rfl el26 rfl) <|
      rwp_det rfl rfl (det_field_lit rfl fd44_5 rfl) <|
      rwp_det rfl rfl (det_load_one rfl one34 rfl (ptr_row 1 rfl) rfl) <|
      rwp_det rfl rfl (det_len_slm rfl el34 rfl) <|
      rwp_det rfl rfl (det_neq rfl rfl rfl) <|
      rwp_nil <|
      awp_cond rfl (fun c5 => ?_) (fun c5 => ?_)
     ·try simp only [sx] at c5
      refine sReg rfl <|
       rMv rfl <|
       rwp_nil <|
       awp_weak _ (Weak.mem [false, false, true, true, true, true] rfl) <|
       awp_ret <|
       fin1 (rs_c rfl) ?_
      exact ⟨by rw [nodeN_r h9 (by omega) c4 (by omega)], rfl⟩
     ·try simp only [sx] at c5
      refine awp_skip <|
       awp_seq <|
       sReg rfl <|
       rwp_det rfl rfl (det_field_lit rfl fd44_5 rfl) <|
       rwp_det rfl rfl (det_load_one rfl one34 rfl (ptr_row 1 rfl) rfl) <|
       rwp_det rfl rfl (det_len_slm rfl el34 rfl) <|
       rMv rfl <|
       rwp_nil <|
       awp_block <|
       awp_weak ⟨[(66, .c _), (2, .c _), (64, .c _), (65, .c _)], [_, _, _, _]⟩ (Weak.mk [false, false, true, true, true, true] ⟨VLe.of_eq rfl, VLe.of_eq rfl, VLe.of_eq rfl, VLe.of_eq rfl, trivial⟩ rfl) <|
       awp_loop_k 1 0 rfl rfl (Nat) (fun j => [(66, vI j)]) (fun j => []) (fun j => j ≤ e.Idx.length ∧ (gathL n.Bufs e.Idx = gathL n.Bufs (e.Idx.drop j))) (fun j => e.Idx.length - j) ⟨0, ⟨by omega, rfl⟩, Weak.mk [true, true, true, true] ⟨VLe.refl _, VLe.refl _, VLe.refl _, VLe.refl _, trivial⟩ rfl⟩ ?_
      rintro j ⟨hk, hq⟩
      refine sReg rfl <|
       rwp_det rfl rfl (det_lss rfl rfl rfl) <|
       rwp_nil <|
       awp_seq <|
       awp_cond rfl (fun c6 => ?_) (fun c6 => ?_)
      ·try simp only [sx] at c6
       obtain ⟨y, hy⟩ := ex_get e.Idx j (by omega)
       refine awp_skip <|
        awp_seq <|
        awp_block <|
        sReg rfl <|
        rwp_det rfl rfl (det_index_sl rfl el34 rfl rfl (by omega) (getm (by assumption))) <|
        rwp_det rfl rfl (det_load_agg rfl agg72 rfl ptr_imm rfl) <|
        rwp_op rfl rfl (ope_allocN [none, some 2, none, some 2] rfl zr72 rfl) ?_
       rintro _ _ ⟨b5, rfl, rfl⟩
       refine rwp_det0 rfl rfl (det_store rfl sz72 rfl rfl rfl (st_row 0 rfl rfl)) <|
        rwp_nil <|
        awp_seq <|
        sReg rfl <|
        rwp_det rfl rfl (det_field_lit rfl fd72_1 rfl) <|
        rwp_det rfl rfl (det_load_one rfl one9 rfl (ptr_row 0 rfl) rfl) <|
        rwp_det rfl rfl (det_seql rfl rfl rfl) <|
        rwp_nil <|
        awp_cond rfl (fun c7 => ?_) (fun c7 => ?_)
       ·try simp only [sx] at c7
        refine awp_exit <|
         awp_region rfl <|
         rwp_det rfl rfl (det_add_nw rfl rfl rfl ⟨by omega, by omega⟩) <|
         rMv rfl <|
         rwp_nil ?_
        refine ⟨j + 1, ⟨by omega, hq.trans (gathL_next hy (by first | exact gathE_0 c7 | exact gathE_ok c7 c8 (by omega) (by omega)))⟩, (by omega), Weak.mk [false, true, true, true, true] ⟨VLe.refl _, VLe.refl _, VLe.refl _, VLe.refl _, trivial⟩ rfl⟩
       ·try simp only [sx] at c7
        refine awp_skip <|
         awp_seq <|
         awp_draw_c 12 1 [⟨0, .q []⟩, ⟨1, .q []⟩, ⟨2, .q []⟩, ⟨3, .q [2]⟩, ⟨4, .q []⟩, ⟨5, .q [1]⟩, ⟨6, .q []⟩, ⟨7, .q []⟩, ⟨8, .q []⟩, ⟨9, .q []⟩, ⟨10, .e 0 []⟩, ⟨11, .e 0 []⟩] mixed (by kernel_rfl) (by kernel_rfl) rfl rfl rfl <|
         fx_skip rfl <|
         fx_skip rfl <|
         fx_skip rfl <|
         fx_skip rfl <|
         fx_skip rfl <|
         fx_skip rfl <|
         fx_skip rfl <|
         fx_skip rfl <|
         fx_skip rfl <|
         fx_skip rfl <|
         fx_skip rfl <|
         fx_skip rfl <|
         fx_nil <|
         sq_det rfl (by decide) rfl rfl (det_load_one rfl one121 rfl ptr_imm rfl) <|
         sq_det rfl (by decide) rfl rfl (det_nilcheck_ptr rfl rfl) <|
         sq_det rfl (by decide) rfl rfl (det_field_lit rfl fd123_0 rfl) <|
         sq_det rfl (by decide) rfl rfl (det_load_agg rfl agg25 rfl (ptr_row 0 rfl) rfl) <|
         sq_det rfl (by decide) rfl rfl (det_field_lit rfl fd72_1 rfl) <|
         sq_det rfl (by decide) rfl rfl (det_load_one rfl one9 rfl (ptr_row 0 rfl) rfl) <|
         sq_det rfl (by decide) rfl rfl (det_call rfl ok101 (loopnest_Buffer n y.From hn) ⟨VLe.refl _, rfl, VLe.refl _, rfl, trivial⟩) <|
         sq_det rfl (by decide) rfl rfl (det_move_tup rfl rfl) <|
         sq_det rfl (by decide) rfl rfl (det_ex_agg rfl rfl rfl) <|
         sq_det rfl (by decide) rfl rfl (det_ex_c rfl rfl rfl) <|
         sq_op rfl rfl (by decide) rfl rfl (ope_allocN [none, none, none, none, none, none, some 1, none] rfl zr65 rfl) ?_
        rintro _ _ ⟨b6, rfl, rfl⟩
        refine ⟨_, rfl, ?_⟩
        refine sq_op0 rfl rfl (by decide) rfl rfl (det_store rfl sz65 rfl rfl rfl (st_row 0 rfl rfl)) ?_
        rintro _ _ ⟨rfl, rfl⟩
        refine ⟨_, rfl, ?_⟩
        refine sq_nil rfl <|
         rMv rfl <|
         rwp_nil <|
         awp_block <|
         sReg rfl <|
         rMv rfl <|
         rwp_det rfl rfl (det_not rfl rfl) <|
         rMv rfl <|
         rwp_nil <|
         awp_cond rfl (fun c8 => ?_) (fun c8 => ?_)
        ·try simp only [sx] at c8
         refine sReg rfl <|
          rMv rfl <|
          rwp_nil <|
          awp_weak _ (Weak.mem [false, false, true, true, true, true] rfl) <|
          awp_ret <|
          fin1 (rs_c rfl) ?_
         exact ⟨by rw [nodeN_g h9 (by omega) c4 (by omega), hq, gathL_no hy (by rw [gathE_9 c7 c8]; decide), gathE_9 c7 c8], rfl⟩
        ·try simp only [sx] at c8
         refine sReg rfl <|
          rwp_det rfl rfl (det_field_lit rfl fd65_1 rfl) <|
          rwp_det rfl rfl (det_field_lit rfl fd38_0 rfl) <|
          rwp_det rfl rfl (det_load_one rfl one3 rfl (ptr_row 0 rfl) rfl) <|
          rwp_det rfl rfl (det_neq rfl rfl rfl) <|
          rMv rfl <|
          rwp_nil <|
          awp_cond rfl (fun c9 => ?_) (fun c9 => ?_)
         ·try simp only [sx] at c9
          refine sReg rfl <|
           rMv rfl <|
           rwp_nil <|
           awp_weak _ (Weak.mem [false, false, true, true, true, true] rfl) <|
           awp_ret <|
           fin1 (rs_c rfl) ?_
          exact ⟨by rw [nodeN_g h9 (by omega) c4 (by omega), hq, gathL_no hy (by rw [gathE_10 c7 c8 c9]; decide), gathE_10 c7 c8 c9], rfl⟩
         ·try simp only [sx] at c9
          refine sReg rfl <|
           rwp_det rfl rfl (det_field_lit rfl fd65_2 rfl) <|
           rwp_det rfl rfl (det_load_one rfl one26 rfl (ptr_row 0 rfl) rfl) <|
           rwp_det rfl rfl (det_len_slm rfl el26 rfl) <|
           rwp_det rfl rfl (det_field_lit rfl fd72_2 rfl) <|
           rwp_det rfl rfl (det_load_one rfl one70 rfl (ptr_row 1 rfl) rfl) <|
           rwp_det rfl rfl (det_len_slm rfl el70 rfl) <|
           rwp_det rfl rfl (det_neq rfl rfl rfl) <|
           rMv rfl <|
           rwp_nil <|
           awp_cond rfl (fun c10 => ?_) (fun c10 => ?_)
          ·try simp only [sx] at c10
           refine sReg rfl <|
            rMv rfl <|
            rwp_nil <|
            awp_weak _ (Weak.mem [false, false, true, true, true, true] rfl) <|
            awp_ret <|
            fin1 (rs_c rfl) ?_
           exact ⟨by rw [nodeN_g h9 (by omega) c4 (by omega), hq, gathL_no hy (by rw [gathE_11 c7 c8 c9 (by omega)]; decide), gathE_11 c7 c8 c9 (by omega)], rfl⟩
          ·try simp only [sx] at c10
           refine awp_skip <|
            awp_region rfl <|
            rwp_det rfl rfl (det_add_nw rfl rfl rfl ⟨by omega, by omega⟩) <|
            rMv rfl <|
            rwp_nil ?_
           refine ⟨j + 1, ⟨by omega, hq.trans (gathL_next hy (by first | exact gathE_0 c7 | exact gathE_ok c7 c8 (by omega) (by omega)))⟩, (by omega), Weak.mk [false, false, true, true, true, true] ⟨VLe.refl _, VLe.refl _, VLe.refl _, VLe.refl _, trivial⟩ rfl⟩
      ·try simp only [sx] at c6
       refine awp_exit <|
        sReg rfl <|
        rMv rfl <|
        rwp_nil <|
        awp_ret <|
        fin1 (rs_c rfl) ?_
       exact ⟨by rw [nodeN_g h9 (by omega) c4 (by omega), hq, drop_end (by omega)]; rfl, rfl⟩

theorem ck_typeOf_step (b : Nat) (svL svS svP : Value) (n : Ns) (U S : List ByteArray) (W : List Int) (hn : n.Ok) (e : Ex) (ih : ∀ a, a ∈ e.Args → partE a = 0 → a.wt ≤ 1073741824 → Con cfg 190 [vP b, vE a] (ckN b svL svS svP n U S W) fun r μ' => r = .tup [vTy (nodeT (tyF n.Bufs) a).1, vI (nodeT (tyF n.Bufs) a).2] ∧ μ' = ckN b svL svS svP n U S W) (hpart : partE e = 0) (he : e.wt ≤ 1073741824) :
    Con cfg 190 [vP b, vE e] (ckN b svL svS svP n U S W) fun r μ' => r = .tup [vTy (nodeT (tyF n.Bufs) e).1, vI (nodeT (tyF n.Bufs) e).2] ∧ μ' = ckN b svL svS svP n U S W := by
 refine Con.drop <|
  con_intro Tryz.func190 rfl Tryz.ntmps190 Tryz.results190 rfl ?_
 intro z hz
 obtain ⟨hLl, hIl, hAl⟩ := e.parts he
 have hwt := Ex.wt_eq e
 refine sReg rfl <|
  rwp_op rfl rfl (ope_box rfl rfl) ?_
 rintro _ _ ⟨b1, rfl, rfl⟩
 refine rwp_op rfl rfl (ope_alloc rfl zr38) ?_
 rintro _ _ ⟨b2, rfl, rfl⟩
 refine rMv rfl <|
  rwp_nil <|
  sReg rfl <|
  rMv rfl <|
  rwp_weak _ (weak_own 38 5) <|
  rwp_nil <|
  awp_seq <|
  sReg rfl <|
  rwp_det rfl rfl (det_field_lit rfl fd44_6 rfl) <|
  rwp_det rfl rfl (det_load_one rfl one42 rfl (ptr_row 2 rfl) rfl) <|
  rwp_det rfl rfl (det_len_slm rfl el42 rfl) <|
  rMv rfl <|
  rwp_nil <|
  awp_block <|
  awp_weak ⟨[(16, .c _), (6, .c _), (0, .c _), (3, .c _), (4, .c _), (14, .c _), (15, .c _)], [_, _, _, _, _, _, _]⟩ (Weak.mk [true, true, true, true, true, true, true] ⟨VLe.of_eq rfl, VLe.of_eq rfl, VLe.of_eq rfl, VLe.of_eq rfl, VLe.of_eq rfl, VLe.of_eq rfl, VLe.of_eq rfl, trivial⟩ rfl) <|
  awp_loop_k 2 1 rfl rfl (Nat × Value) (fun ⟨k, sv⟩ => [(16, vI k), (6, .c (.lit sv))]) (fun ⟨k, sv⟩ => [E.vec sv 38 5 ((nodeL (tyF n.Bufs) (e.Args.take k)).1.map tyC)]) (fun ⟨k, sv⟩ => k ≤ e.Args.length ∧ ((nodeL (tyF n.Bufs) (e.Args.take k)).2 = 0)) (fun ⟨k, sv⟩ => e.Args.length - k) ⟨⟨0, (.slice none 0 0)⟩, ⟨by omega, rfl⟩, Weak.mk [true, true, true, true, true, true, true] ⟨VLe.refl _, VLe.refl _, VLe.refl _, VLe.refl _, VLe.refl _, VLe.refl _, VLe.refl _, trivial⟩ rfl⟩ ?_
 rintro ⟨k, sv⟩ ⟨hk, hp⟩
 show AWP _ _ _ _ _ ⟨[(16, vI k), (6, .c (.lit sv))] ++ _, [E.vec sv 38 5 ((nodeL (tyF n.Bufs) (e.Args.take k)).1.map tyC)] ++ _⟩
 refine sReg rfl <|
  rwp_det rfl rfl (det_lss rfl rfl rfl) <|
  rwp_nil <|
  awp_seq <|
  awp_cond rfl (fun c1 => ?_) (fun c1 => ?_)
 ·try simp only [sx] at c1
  obtain ⟨x, hx⟩ := ex_get e.Args k (by omega)
  have hll := nodeL_len _ _ hp
  refine awp_skip <|
   awp_seq <|
   awp_block <|
   sReg rfl <|
   rwp_det rfl rfl (det_index_sl rfl el42 rfl rfl (by omega) (getmE (by assumption))) <|
   rwp_det rfl rfl (det_load_agg rfl agg44 rfl ptr_imm rfl) <|
   rwp_op rfl rfl (ope_allocN [none, none, none, none, none, none, none, none, none, none, some 2, some 4, some 13] rfl zr44 rfl) ?_
  rintro _ _ ⟨b4, rfl, rfl⟩
  refine rwp_det0 rfl rfl (det_store rfl sz44 rfl rfl rfl (st_row 0 rfl rfl)) <|
   rwp_nil <|
   sReg rfl <|
   rMv rfl <|
   rwp_det rfl rfl (det_load_agg rfl agg44 rfl (ptr_row 0 rfl) rfl) <|
   rwp_det rfl rfl (det_call_same [4, 4, 4, 4] rfl ok190 (ih x (mem_of_get hx) (partE_arg hpart (mem_of_get hx)) (by have := Ex.arg_wt (mem_of_get hx); omega)) ⟨VLe.refl _, rfl, VLe.refl _, rfl, trivial⟩ rfl) <|
   rwp_det rfl rfl (det_move_tup rfl rfl) <|
   rwp_det rfl rfl (det_ex_agg rfl rfl rfl) <|
   rwp_det rfl rfl (det_ex_c rfl rfl rfl) <|
   rwp_op rfl rfl (ope_alloc rfl zr38) ?_
  rintro _ _ ⟨b5, rfl, rfl⟩
  refine rwp_det0 rfl rfl (det_store rfl sz38 rfl rfl rfl (st_row 0 rfl rfl)) <|
   rMv rfl <|
   rwp_nil <|
   awp_seq <|
   sReg rfl <|
   rMv rfl <|
   rwp_det rfl rfl (det_neq rfl rfl rfl) <|
   rwp_nil <|
   awp_cond rfl (fun c2 => ?_) (fun c2 => ?_)
  ·try simp only [sx] at c2
   refine sReg rfl <|
    rwp_det rfl rfl (det_load_agg rfl agg38 rfl (ptr_row 0 rfl) rfl) <|
    rMv rfl <|
    rwp_det0 rfl rfl (det_store rfl sz38 rfl rfl rfl (st_row 3 rfl rfl)) <|
    rMv rfl <|
    rwp_nil <|
    awp_weak _ (Weak.mem [false, false, false, true, false, true, true, true, true] rfl) <|
    awp_ret <|
    fin2 (rs_cell_agg agg38 rfl (ptr_row 0 rfl) rfl) (rs_c rfl) ?_
   exact ⟨by rw [nodeT_no hx hp c2, nodeT_zero c2]; rfl, [_], rfl⟩
  ·try simp only [sx] at c2
   refine awp_skip <|
    awp_region rfl <|
    rMv rfl <|
    rwp_det rfl rfl (det_load_agg rfl agg38 rfl (ptr_row 0 rfl) rfl) <|
    rwp_det rfl rfl (det_bslice rfl el228 zr38 rfl rfl rfl rfl) <|
    rwp_op rfl rfl (ope_append 2 rfl el228 rfl rfl rfl (by simp only [List.length_map, List.length_cons, List.length_nil, hll, List.length_take]; omega) (by simp only [List.length_map, List.length_cons, List.length_nil, hll, List.length_take]; omega)) ?_
   rintro _ _ ⟨sv6, rfl, rfl⟩
   refine rMv rfl <|
    rwp_nil <|
    awp_region rfl <|
    rwp_det rfl rfl (det_add_nw rfl rfl rfl ⟨by omega, by omega⟩) <|
    rMv rfl <|
    rwp_nil ?_
   refine ⟨⟨k + 1, sv6⟩, ⟨by omega, by rw [nodeL_next hx hp c2]⟩, (by show e.Args.length - (k + 1) < e.Args.length - k; omega), Weak.mk [false, false, true, true, true, true, true, true, true] ⟨VLe.refl _, VLe.refl _, VLe.refl _, VLe.refl _, VLe.refl _, VLe.refl _, VLe.refl _, trivial⟩ (by show _ = [E.vec sv6 _ 5 ((nodeL (tyF n.Bufs) (e.Args.take (k + 1))).1.map tyC)] ++ _; rw [nodeL_next hx hp c2]; simp only [List.map_append]; rfl)⟩
 ·try simp only [sx] at c1
  have hll := nodeL_len _ _ hp
  have hta : e.Args.take k = e.Args := take_all (by omega)
  rw [hta] at hll
  have hg : ∀ i, i < e.Args.length → ((nodeL (tyF n.Bufs) (e.Args.take k)).1.map tyC)[i]? = some (tyC (tyAt (nodeL (tyF n.Bufs) (e.Args.take k)).1 i)) := fun i hi => tyAt_get (by rw [hta]; omega)
  have hgn : ∀ i : Nat, 1 ≤ i → i ≤ e.Args.length → ∀ j : Int, j = (((nodeL (tyF n.Bufs) (e.Args.take k)).1.length : Int) - i) → ((nodeL (tyF n.Bufs) (e.Args.take k)).1.map tyC)[j.toNat]? = some (tyC (tyAt (nodeL (tyF n.Bufs) (e.Args.take k)).1 ((nodeL (tyF n.Bufs) (e.Args.take k)).1.length - i))) := fun i h1 h2 j hj => by rw [hta] at *; rw [show j.toNat = (nodeL (tyF n.Bufs) e.Args).1.length - i by omega]; exact tyAt_get (by omega)
  have hT : nodeT (tyF n.Bufs) e = tyF n.Bufs e (nodeL (tyF n.Bufs) (e.Args.take k)).1 := nodeT_ok hta hp
  have hlk : (nodeL (tyF n.Bufs) (e.Args.take k)).1.length = e.Args.length := by rw [hta]; exact hll
  refine awp_exit <|
   awp_seq <|
   sReg rfl <|
   rwp_det rfl rfl (det_field_lit rfl fd44_0 rfl) <|
   rwp_det rfl rfl (det_load_one rfl one3 rfl (ptr_row 2 rfl) rfl) <|
   rwp_nil <|
   awp_block <|
   awp_seq <|
   sReg rfl <|
   rwp_det rfl rfl (det_eql rfl rfl rfl) <|
   rMv rfl <|
   rwp_nil <|
   awp_cond rfl (fun c3 => ?_) (fun c3 => ?_)
  ·try simp only [sx] at c3
   refine awp_skip <|
    awp_cond rfl (fun c4 => ?_) (fun c4 => ?_)
   ·try simp only [sx] at c4
    refine sReg rfl <|
     rwp_det rfl rfl (det_field_lit rfl fd44_3 rfl) <|
     rwp_det rfl rfl (det_load_agg rfl agg38 rfl (ptr_row 2 rfl) rfl) <|
     rwp_det0 rfl rfl (det_store rfl sz38 rfl rfl rfl (st_row 1 rfl rfl)) <|
     rMv rfl <|
     rwp_nil <|
     awp_weak _ (Weak.mem [false, true, false, true, true, true, true] rfl) <|
     awp_ret <|
     fin2 (rs_cell_agg agg38 rfl (ptr_row 0 rfl) rfl) (rs_c rfl) ?_
    exact ⟨by rw [hT]; first | (rw [tyF_1 (by omega)]; rfl) | (rw [tyF_2 (by omega)]; rfl) | (rw [tyF_3 (by omega)]; rfl) | (rw [tyF_8 (by omega)]; rfl) | (rw [tyF_16 (by omega)]; rfl) | (rw [tyF_10 ho h10]; rfl) | (rw [tyF_c ho h10 c12]; rfl) | (rw [tyF_e ho h10 c12]; rfl), [_], rfl⟩
   ·try simp only [sx] at c4
    refine sReg rfl <|
     rwp_det rfl rfl (det_eql rfl rfl rfl) <|
     rMv rfl <|
     rwp_nil <|
     awp_cond rfl (fun c5 => ?_) (fun c5 => ?_)
    ·try simp only [sx] at c5
     refine sReg rfl <|
      rwp_det rfl rfl (det_build rfl zr38 pl38 rfl) <|
      rwp_det0 rfl rfl (det_store rfl sz38 rfl rfl rfl (st_row 1 rfl rfl)) <|
      rMv rfl <|
      rwp_nil <|
      awp_weak _ (Weak.mem [false, true, false, true, true, true, true] rfl) <|
      awp_ret <|
      fin2 (rs_cell_agg agg38 rfl (ptr_row 0 rfl) rfl) (rs_c rfl) ?_
     exact ⟨by rw [hT]; first | (rw [tyF_1 (by omega)]; rfl) | (rw [tyF_2 (by omega)]; rfl) | (rw [tyF_3 (by omega)]; rfl) | (rw [tyF_8 (by omega)]; rfl) | (rw [tyF_16 (by omega)]; rfl) | (rw [tyF_10 ho h10]; rfl) | (rw [tyF_c ho h10 c12]; rfl) | (rw [tyF_e ho h10 c12]; rfl), [_], rfl⟩
    ·try simp only [sx] at c5
     refine sReg rfl <|
      rwp_det rfl rfl (det_eql rfl rfl rfl) <|
      rMv rfl <|
      rwp_nil <|
      awp_cond rfl (fun c6 => ?_) (fun c6 => ?_)
     ·try simp only [sx] at c6
      refine awp_seq <|
       awp_draw_c 12 1 [⟨0, .q []⟩, ⟨1, .q []⟩, ⟨2, .q []⟩, ⟨3, .q [4]⟩, ⟨4, .q []⟩, ⟨5, .q [3]⟩, ⟨6, .q []⟩, ⟨7, .q []⟩, ⟨8, .q []⟩, ⟨9, .q []⟩, ⟨10, .e 0 []⟩, ⟨11, .e 0 []⟩] mixed (by kernel_rfl) (by kernel_rfl) rfl rfl rfl <|
       fx_skip rfl <|
       fx_skip rfl <|
       fx_skip rfl <|
       fx_skip rfl <|
       fx_skip rfl <|
       fx_skip rfl <|
       fx_skip rfl <|
       fx_skip rfl <|
       fx_skip rfl <|
       fx_skip rfl <|
       fx_skip rfl <|
       fx_skip rfl <|
       fx_nil <|
       sq_det rfl (by decide) rfl rfl (det_move rfl rfl) <|
       sq_det rfl (by decide) rfl rfl (det_nilcheck_ptr rfl rfl) <|
       sq_det rfl (by decide) rfl rfl (det_field_lit rfl fd123_0 rfl) <|
       sq_det rfl (by decide) rfl rfl (det_load_agg rfl agg25 rfl (ptr_row 0 rfl) rfl) <|
       sq_det rfl (by decide) rfl rfl (det_field_lit rfl fd44_1 rfl) <|
       sq_det rfl (by decide) rfl rfl (det_load_one rfl one9 rfl (ptr_row 0 rfl) rfl) <|
       sq_det rfl (by decide) rfl rfl (det_call rfl ok101 (loopnest_Buffer n e.Name hn) ⟨VLe.refl _, rfl, VLe.refl _, rfl, trivial⟩) <|
       sq_det rfl (by decide) rfl rfl (det_move_tup rfl rfl) <|
       sq_det rfl (by decide) rfl rfl (det_ex_agg rfl rfl rfl) <|
       sq_det rfl (by decide) rfl rfl (det_ex_c rfl rfl rfl) <|
       sq_op rfl rfl (by decide) rfl rfl (ope_allocN [none, none, none, none, none, none, some 1, none] rfl zr65 rfl) ?_
      rintro _ _ ⟨b7, rfl, rfl⟩
      refine ⟨_, rfl, ?_⟩
      refine sq_op0 rfl rfl (by decide) rfl rfl (det_store rfl sz65 rfl rfl rfl (st_row 0 rfl rfl)) ?_
      rintro _ _ ⟨rfl, rfl⟩
      refine ⟨_, rfl, ?_⟩
      refine sq_nil rfl <|
       rMv rfl <|
       rwp_nil <|
       sReg rfl <|
       rwp_det rfl rfl (det_field_lit rfl fd65_1 rfl) <|
       rwp_det rfl rfl (det_load_agg rfl agg38 rfl (ptr_row 0 rfl) rfl) <|
       rwp_det0 rfl rfl (det_store rfl sz38 rfl rfl rfl (st_row 2 rfl rfl)) <|
       rMv rfl <|
       rwp_nil <|
       awp_weak _ (Weak.mem [false, false, true, false, true, true, true, true] rfl) <|
       awp_ret <|
       fin2 (rs_cell_agg agg38 rfl (ptr_row 0 rfl) rfl) (rs_c rfl) ?_
      exact ⟨by rw [hT]; first | (rw [tyF_1 (by omega)]; rfl) | (rw [tyF_2 (by omega)]; rfl) | (rw [tyF_3 (by omega)]; rfl) | (rw [tyF_8 (by omega)]; rfl) | (rw [tyF_16 (by omega)]; rfl) | (rw [tyF_10 ho h10]; rfl) | (rw [tyF_c ho h10 c12]; rfl) | (rw [tyF_e ho h10 c12]; rfl), [_], rfl⟩
     ·try simp only [sx] at c6
      refine sReg rfl <|
       rwp_det rfl rfl (det_eql rfl rfl rfl) <|
       rMv rfl <|
       rwp_nil <|
       awp_cond rfl (fun c7 => ?_) (fun c7 => ?_)
      ·try simp only [sx] at c7
       have hlen1 := args_len hpart (by omega)
       refine sReg rfl <|
        rMv rfl <|
        rwp_det rfl rfl (det_index_vec 0 rfl el228 rfl rfl rfl (by omega) (by simp only [List.length_map]; omega)) <|
        rwp_det rfl rfl (det_load_agg rfl agg38 rfl (ptr_vec 0 rfl (hg 0 (by omega))) rfl) <|
        rwp_det0 rfl rfl (det_store rfl sz38 rfl rfl rfl (st_row 1 rfl rfl)) <|
        rMv rfl <|
        rwp_nil <|
        awp_weak _ (Weak.mem [false, true, false, true, true, true, true] rfl) <|
        awp_ret <|
        fin2 (rs_cell_agg agg38 rfl (ptr_row 0 rfl) rfl) (rs_c rfl) ?_
       exact ⟨by rw [hT]; first | (rw [tyF_1 (by omega)]; rfl) | (rw [tyF_2 (by omega)]; rfl) | (rw [tyF_3 (by omega)]; rfl) | (rw [tyF_8 (by omega)]; rfl) | (rw [tyF_16 (by omega)]; rfl) | (rw [tyF_10 ho h10]; rfl) | (rw [tyF_c ho h10 c12]; rfl) | (rw [tyF_e ho h10 c12]; rfl), [_], rfl⟩
      ·try simp only [sx] at c7
       refine awp_seq <|
        sReg rfl <|
        rwp_det rfl rfl (det_eql rfl rfl rfl) <|
        rMv rfl <|
        rwp_nil <|
        awp_cond rfl (fun c8 => ?_) (fun c8 => ?_)
       ·try simp only [sx] at c8
        refine awp_skip <|
         awp_cond rfl (fun c10 => ?_) (fun c10 => ?_)
        ·try simp only [sx] at c10
         refine sReg rfl <|
          rwp_det rfl rfl (det_build rfl zr38 pl38 rfl) <|
          rwp_det0 rfl rfl (det_store rfl sz38 rfl rfl rfl (st_row 1 rfl rfl)) <|
          rMv rfl <|
          rwp_nil <|
          awp_weak _ (Weak.mem [false, true, false, true, true, true, true] rfl) <|
          awp_ret <|
          fin2 (rs_cell_agg agg38 rfl (ptr_row 0 rfl) rfl) (rs_c rfl) ?_
         exact ⟨by rw [hT]; first | (rw [tyF_1 (by omega)]; rfl) | (rw [tyF_2 (by omega)]; rfl) | (rw [tyF_3 (by omega)]; rfl) | (rw [tyF_8 (by omega)]; rfl) | (rw [tyF_16 (by omega)]; rfl) | (rw [tyF_10 ho h10]; rfl) | (rw [tyF_c ho h10 c12]; rfl) | (rw [tyF_e ho h10 c12]; rfl), [_], rfl⟩
        ·try simp only [sx] at c10
         have hlen2 := args_len2 hpart (by omega)
         have ho : ¬ opLow e.Op := by unfold opLow; omega
         refine awp_skip <|
          awp_seq <|
          awp_seq <|
          awp_draw 13 mixed (by kernel_rfl) rfl rfl <|
          td_det rfl rfl (det_move rfl rfl) <|
          td_det rfl rfl (det_move rfl rfl) <|
          td_det rfl rfl (det_len_vec 0 rfl el228 rfl rfl) <|
          td_det rfl rfl (det_sub_nw rfl rfl rfl (by simp only [List.length_map]; exact ⟨by omega, by omega⟩)) <|
          td_det rfl rfl (det_index_vec 0 rfl el228 rfl rfl rfl (by simp only [List.length_map]; omega) (by simp only [List.length_map]; omega)) <|
          td_det rfl rfl (det_load_agg rfl agg38 rfl (ptr_vec 0 rfl (hgn 2 (by omega) (by omega) _ (by simp only [List.length_map]; rfl))) rfl) <|
          td_det rfl rfl (det_move rfl rfl) <|
          td_det rfl rfl (det_move rfl rfl) <|
          td_det rfl rfl (det_len_vec 0 rfl el228 rfl rfl) <|
          td_det rfl rfl (det_sub_nw rfl rfl rfl (by simp only [List.length_map]; exact ⟨by omega, by omega⟩)) <|
          td_det rfl rfl (det_index_vec 0 rfl el228 rfl rfl rfl (by simp only [List.length_map]; omega) (by simp only [List.length_map]; omega)) <|
          td_det rfl rfl (det_load_agg rfl agg38 rfl (ptr_vec 0 rfl (hgn 1 (by omega) (by omega) _ (by simp only [List.length_map]; rfl))) rfl) <|
          td_det rfl rfl (det_aneq rfl fl38 rfl rfl rfl) <|
          td_nil <|
          rwp_nil <|
          awp_cond rfl (fun c11 => ?_) (fun c11 => ?_)
         ·have h10 := unlike_t c11
          refine sReg rfl <|
           rwp_det rfl rfl (det_build rfl zr38 pl38 rfl) <|
           rwp_det0 rfl rfl (det_store rfl sz38 rfl rfl rfl (st_row 1 rfl rfl)) <|
           rMv rfl <|
           rwp_nil <|
           awp_weak _ (Weak.mem [false, true, false, true, true, true, true] rfl) <|
           awp_ret <|
           fin2 (rs_cell_agg agg38 rfl (ptr_row 0 rfl) rfl) (rs_c rfl) ?_
          exact ⟨by rw [hT]; first | (rw [tyF_1 (by omega)]; rfl) | (rw [tyF_2 (by omega)]; rfl) | (rw [tyF_3 (by omega)]; rfl) | (rw [tyF_8 (by omega)]; rfl) | (rw [tyF_16 (by omega)]; rfl) | (rw [tyF_10 ho h10]; rfl) | (rw [tyF_c ho h10 c12]; rfl) | (rw [tyF_e ho h10 c12]; rfl), [_], rfl⟩
         ·have h10 := unlike_f c11
          refine awp_skip <|
           awp_seq <|
           sReg rfl <|
           rwp_det rfl rfl (det_load_agg rfl agg44 rfl (ptr_row 2 rfl) rfl) <|
           rwp_det rfl rfl (det_call rfl ok166 (expr_IsCondition e) ⟨VLe.refl _, rfl, trivial⟩) <|
           rwp_nil <|
           awp_cond rfl (fun c12 => ?_) (fun c12 => ?_)
          ·try simp only [sx] at c12
           refine sReg rfl <|
            rwp_det rfl rfl (det_build rfl zr38 pl38 rfl) <|
            rwp_det0 rfl rfl (det_store rfl sz38 rfl rfl rfl (st_row 1 rfl rfl)) <|
            rMv rfl <|
            rwp_nil <|
            awp_weak _ (Weak.mem [false, true, false, true, true, true, true] rfl) <|
            awp_ret <|
            fin2 (rs_cell_agg agg38 rfl (ptr_row 0 rfl) rfl) (rs_c rfl) ?_
           exact ⟨by rw [hT]; first | (rw [tyF_1 (by omega)]; rfl) | (rw [tyF_2 (by omega)]; rfl) | (rw [tyF_3 (by omega)]; rfl) | (rw [tyF_8 (by omega)]; rfl) | (rw [tyF_16 (by omega)]; rfl) | (rw [tyF_10 ho h10]; rfl) | (rw [tyF_c ho h10 c12]; rfl) | (rw [tyF_e ho h10 c12]; rfl), [_], rfl⟩
          ·try simp only [sx] at c12
           refine awp_skip <|
            sReg rfl <|
            rMv rfl <|
            rMv rfl <|
            rwp_det rfl rfl (det_len_vec 0 rfl el228 rfl rfl) <|
            rwp_det rfl rfl (det_sub_nw rfl rfl rfl (by simp only [List.length_map]; exact ⟨by omega, by omega⟩)) <|
            rwp_det rfl rfl (det_index_vec 0 rfl el228 rfl rfl rfl (by simp only [List.length_map]; omega) (by simp only [List.length_map]; omega)) <|
            rwp_det rfl rfl (det_load_agg rfl agg38 rfl (ptr_vec 0 rfl (hgn 1 (by omega) (by omega) _ (by simp only [List.length_map]; rfl))) rfl) <|
            rwp_det0 rfl rfl (det_store rfl sz38 rfl rfl rfl (st_row 1 rfl rfl)) <|
            rMv rfl <|
            rwp_nil <|
            awp_weak _ (Weak.mem [false, true, false, true, true, true, true] rfl) <|
            awp_ret <|
            fin2 (rs_cell_agg agg38 rfl (ptr_row 0 rfl) rfl) (rs_c rfl) ?_
           exact ⟨by rw [hT]; first | (rw [tyF_1 (by omega)]; rfl) | (rw [tyF_2 (by omega)]; rfl) | (rw [tyF_3 (by omega)]; rfl) | (rw [tyF_8 (by omega)]; rfl) | (rw [tyF_16 (by omega)]; rfl) | (rw [tyF_10 ho h10]; rfl) | (rw [tyF_c ho h10 c12]; rfl) | (rw [tyF_e ho h10 c12]; rfl), [_], rfl⟩
       ·try simp only [sx] at c8
        refine sReg rfl <|
         rwp_det rfl rfl (det_eql rfl rfl rfl) <|
         rMv rfl <|
         rwp_nil <|
         awp_cond rfl (fun c9 => ?_) (fun c9 => ?_)
        ·try simp only [sx] at c9
         refine awp_skip <|
          awp_cond rfl (fun c10 => ?_) (fun c10 => ?_)
         ·try simp only [sx] at c10
          refine sReg rfl <|
           rwp_det rfl rfl (det_build rfl zr38 pl38 rfl) <|
           rwp_det0 rfl rfl (det_store rfl sz38 rfl rfl rfl (st_row 1 rfl rfl)) <|
           rMv rfl <|
           rwp_nil <|
           awp_weak _ (Weak.mem [false, true, false, true, true, true, true] rfl) <|
           awp_ret <|
           fin2 (rs_cell_agg agg38 rfl (ptr_row 0 rfl) rfl) (rs_c rfl) ?_
          exact ⟨by rw [hT]; first | (rw [tyF_1 (by omega)]; rfl) | (rw [tyF_2 (by omega)]; rfl) | (rw [tyF_3 (by omega)]; rfl) | (rw [tyF_8 (by omega)]; rfl) | (rw [tyF_16 (by omega)]; rfl) | (rw [tyF_10 ho h10]; rfl) | (rw [tyF_c ho h10 c12]; rfl) | (rw [tyF_e ho h10 c12]; rfl), [_], rfl⟩
         ·try simp only [sx] at c10
          have hlen2 := args_len2 hpart (by omega)
          have ho : ¬ opLow e.Op := by unfold opLow; omega
          refine awp_skip <|
           awp_seq <|
           awp_seq <|
           awp_draw 13 mixed (by kernel_rfl) rfl rfl <|
           td_det rfl rfl (det_move rfl rfl) <|
           td_det rfl rfl (det_move rfl rfl) <|
           td_det rfl rfl (det_len_vec 0 rfl el228 rfl rfl) <|
           td_det rfl rfl (det_sub_nw rfl rfl rfl (by simp only [List.length_map]; exact ⟨by omega, by omega⟩)) <|
           td_det rfl rfl (det_index_vec 0 rfl el228 rfl rfl rfl (by simp only [List.length_map]; omega) (by simp only [List.length_map]; omega)) <|
           td_det rfl rfl (det_load_agg rfl agg38 rfl (ptr_vec 0 rfl (hgn 2 (by omega) (by omega) _ (by simp only [List.length_map]; rfl))) rfl) <|
           td_det rfl rfl (det_move rfl rfl) <|
           td_det rfl rfl (det_move rfl rfl) <|
           td_det rfl rfl (det_len_vec 0 rfl el228 rfl rfl) <|
           td_det rfl rfl (det_sub_nw rfl rfl rfl (by simp only [List.length_map]; exact ⟨by omega, by omega⟩)) <|
           td_det rfl rfl (det_index_vec 0 rfl el228 rfl rfl rfl (by simp only [List.length_map]; omega) (by simp only [List.length_map]; omega)) <|
           td_det rfl rfl (det_load_agg rfl agg38 rfl (ptr_vec 0 rfl (hgn 1 (by omega) (by omega) _ (by simp only [List.length_map]; rfl))) rfl) <|
           td_det rfl rfl (det_aneq rfl fl38 rfl rfl rfl) <|
           td_nil <|
           rwp_nil <|
           awp_cond rfl (fun c11 => ?_) (fun c11 => ?_)
          ·have h10 := unlike_t c11
           refine sReg rfl <|
            rwp_det rfl rfl (det_build rfl zr38 pl38 rfl) <|
            rwp_det0 rfl rfl (det_store rfl sz38 rfl rfl rfl (st_row 1 rfl rfl)) <|
            rMv rfl <|
            rwp_nil <|
            awp_weak _ (Weak.mem [false, true, false, true, true, true, true] rfl) <|
            awp_ret <|
            fin2 (rs_cell_agg agg38 rfl (ptr_row 0 rfl) rfl) (rs_c rfl) ?_
           exact ⟨by rw [hT]; first | (rw [tyF_1 (by omega)]; rfl) | (rw [tyF_2 (by omega)]; rfl) | (rw [tyF_3 (by omega)]; rfl) | (rw [tyF_8 (by omega)]; rfl) | (rw [tyF_16 (by omega)]; rfl) | (rw [tyF_10 ho h10]; rfl) | (rw [tyF_c ho h10 c12]; rfl) | (rw [tyF_e ho h10 c12]; rfl), [_], rfl⟩
          ·have h10 := unlike_f c11
           refine awp_skip <|
            awp_seq <|
            sReg rfl <|
            rwp_det rfl rfl (det_load_agg rfl agg44 rfl (ptr_row 2 rfl) rfl) <|
            rwp_det rfl rfl (det_call rfl ok166 (expr_IsCondition e) ⟨VLe.refl _, rfl, trivial⟩) <|
            rwp_nil <|
            awp_cond rfl (fun c12 => ?_) (fun c12 => ?_)
           ·try simp only [sx] at c12
            refine sReg rfl <|
             rwp_det rfl rfl (det_build rfl zr38 pl38 rfl) <|
             rwp_det0 rfl rfl (det_store rfl sz38 rfl rfl rfl (st_row 1 rfl rfl)) <|
             rMv rfl <|
             rwp_nil <|
             awp_weak _ (Weak.mem [false, true, false, true, true, true, true] rfl) <|
             awp_ret <|
             fin2 (rs_cell_agg agg38 rfl (ptr_row 0 rfl) rfl) (rs_c rfl) ?_
            exact ⟨by rw [hT]; first | (rw [tyF_1 (by omega)]; rfl) | (rw [tyF_2 (by omega)]; rfl) | (rw [tyF_3 (by omega)]; rfl) | (rw [tyF_8 (by omega)]; rfl) | (rw [tyF_16 (by omega)]; rfl) | (rw [tyF_10 ho h10]; rfl) | (rw [tyF_c ho h10 c12]; rfl) | (rw [tyF_e ho h10 c12]; rfl), [_], rfl⟩
           ·try simp only [sx] at c12
            refine awp_skip <|
             sReg rfl <|
             rMv rfl <|
             rMv rfl <|
             rwp_det rfl rfl (det_len_vec 0 rfl el228 rfl rfl) <|
             rwp_det rfl rfl (det_sub_nw rfl rfl rfl (by simp only [List.length_map]; exact ⟨by omega, by omega⟩)) <|
             rwp_det rfl rfl (det_index_vec 0 rfl el228 rfl rfl rfl (by simp only [List.length_map]; omega) (by simp only [List.length_map]; omega)) <|
             rwp_det rfl rfl (det_load_agg rfl agg38 rfl (ptr_vec 0 rfl (hgn 1 (by omega) (by omega) _ (by simp only [List.length_map]; rfl))) rfl) <|
             rwp_det0 rfl rfl (det_store rfl sz38 rfl rfl rfl (st_row 1 rfl rfl)) <|
             rMv rfl <|
             rwp_nil <|
             awp_weak _ (Weak.mem [false, true, false, true, true, true, true] rfl) <|
             awp_ret <|
             fin2 (rs_cell_agg agg38 rfl (ptr_row 0 rfl) rfl) (rs_c rfl) ?_
            exact ⟨by rw [hT]; first | (rw [tyF_1 (by omega)]; rfl) | (rw [tyF_2 (by omega)]; rfl) | (rw [tyF_3 (by omega)]; rfl) | (rw [tyF_8 (by omega)]; rfl) | (rw [tyF_16 (by omega)]; rfl) | (rw [tyF_10 ho h10]; rfl) | (rw [tyF_c ho h10 c12]; rfl) | (rw [tyF_e ho h10 c12]; rfl), [_], rfl⟩
        ·try simp only [sx] at c9
         refine awp_region rfl <|
          rwp_det rfl rfl (det_eql rfl rfl rfl) <|
          rMv rfl <|
          rwp_nil <|
          awp_cond rfl (fun c10 => ?_) (fun c10 => ?_)
         ·try simp only [sx] at c10
          refine sReg rfl <|
           rwp_det rfl rfl (det_build rfl zr38 pl38 rfl) <|
           rwp_det0 rfl rfl (det_store rfl sz38 rfl rfl rfl (st_row 1 rfl rfl)) <|
           rMv rfl <|
           rwp_nil <|
           awp_weak _ (Weak.mem [false, true, false, true, true, true, true] rfl) <|
           awp_ret <|
           fin2 (rs_cell_agg agg38 rfl (ptr_row 0 rfl) rfl) (rs_c rfl) ?_
          exact ⟨by rw [hT]; first | (rw [tyF_1 (by omega)]; rfl) | (rw [tyF_2 (by omega)]; rfl) | (rw [tyF_3 (by omega)]; rfl) | (rw [tyF_8 (by omega)]; rfl) | (rw [tyF_16 (by omega)]; rfl) | (rw [tyF_10 ho h10]; rfl) | (rw [tyF_c ho h10 c12]; rfl) | (rw [tyF_e ho h10 c12]; rfl), [_], rfl⟩
         ·try simp only [sx] at c10
          have hlen2 := args_len2 hpart (by omega)
          have ho : ¬ opLow e.Op := by unfold opLow; omega
          refine awp_skip <|
           awp_seq <|
           awp_seq <|
           awp_draw 13 mixed (by kernel_rfl) rfl rfl <|
           td_det rfl rfl (det_move rfl rfl) <|
           td_det rfl rfl (det_move rfl rfl) <|
           td_det rfl rfl (det_len_vec 0 rfl el228 rfl rfl) <|
           td_det rfl rfl (det_sub_nw rfl rfl rfl (by simp only [List.length_map]; exact ⟨by omega, by omega⟩)) <|
           td_det rfl rfl (det_index_vec 0 rfl el228 rfl rfl rfl (by simp only [List.length_map]; omega) (by simp only [List.length_map]; omega)) <|
           td_det rfl rfl (det_load_agg rfl agg38 rfl (ptr_vec 0 rfl (hgn 2 (by omega) (by omega) _ (by simp only [List.length_map]; rfl))) rfl) <|
           td_det rfl rfl (det_move rfl rfl) <|
           td_det rfl rfl (det_move rfl rfl) <|
           td_det rfl rfl (det_len_vec 0 rfl el228 rfl rfl) <|
           td_det rfl rfl (det_sub_nw rfl rfl rfl (by simp only [List.length_map]; exact ⟨by omega, by omega⟩)) <|
           td_det rfl rfl (det_index_vec 0 rfl el228 rfl rfl rfl (by simp only [List.length_map]; omega) (by simp only [List.length_map]; omega)) <|
           td_det rfl rfl (det_load_agg rfl agg38 rfl (ptr_vec 0 rfl (hgn 1 (by omega) (by omega) _ (by simp only [List.length_map]; rfl))) rfl) <|
           td_det rfl rfl (det_aneq rfl fl38 rfl rfl rfl) <|
           td_nil <|
           rwp_nil <|
           awp_cond rfl (fun c11 => ?_) (fun c11 => ?_)
          ·have h10 := unlike_t c11
           refine sReg rfl <|
            rwp_det rfl rfl (det_build rfl zr38 pl38 rfl) <|
            rwp_det0 rfl rfl (det_store rfl sz38 rfl rfl rfl (st_row 1 rfl rfl)) <|
            rMv rfl <|
            rwp_nil <|
            awp_weak _ (Weak.mem [false, true, false, true, true, true, true] rfl) <|
            awp_ret <|
            fin2 (rs_cell_agg agg38 rfl (ptr_row 0 rfl) rfl) (rs_c rfl) ?_
           exact ⟨by rw [hT]; first | (rw [tyF_1 (by omega)]; rfl) | (rw [tyF_2 (by omega)]; rfl) | (rw [tyF_3 (by omega)]; rfl) | (rw [tyF_8 (by omega)]; rfl) | (rw [tyF_16 (by omega)]; rfl) | (rw [tyF_10 ho h10]; rfl) | (rw [tyF_c ho h10 c12]; rfl) | (rw [tyF_e ho h10 c12]; rfl), [_], rfl⟩
          ·have h10 := unlike_f c11
           refine awp_skip <|
            awp_seq <|
            sReg rfl <|
            rwp_det rfl rfl (det_load_agg rfl agg44 rfl (ptr_row 2 rfl) rfl) <|
            rwp_det rfl rfl (det_call rfl ok166 (expr_IsCondition e) ⟨VLe.refl _, rfl, trivial⟩) <|
            rwp_nil <|
            awp_cond rfl (fun c12 => ?_) (fun c12 => ?_)
           ·try simp only [sx] at c12
            refine sReg rfl <|
             rwp_det rfl rfl (det_build rfl zr38 pl38 rfl) <|
             rwp_det0 rfl rfl (det_store rfl sz38 rfl rfl rfl (st_row 1 rfl rfl)) <|
             rMv rfl <|
             rwp_nil <|
             awp_weak _ (Weak.mem [false, true, false, true, true, true, true] rfl) <|
             awp_ret <|
             fin2 (rs_cell_agg agg38 rfl (ptr_row 0 rfl) rfl) (rs_c rfl) ?_
            exact ⟨by rw [hT]; first | (rw [tyF_1 (by omega)]; rfl) | (rw [tyF_2 (by omega)]; rfl) | (rw [tyF_3 (by omega)]; rfl) | (rw [tyF_8 (by omega)]; rfl) | (rw [tyF_16 (by omega)]; rfl) | (rw [tyF_10 ho h10]; rfl) | (rw [tyF_c ho h10 c12]; rfl) | (rw [tyF_e ho h10 c12]; rfl), [_], rfl⟩
           ·try simp only [sx] at c12
            refine awp_skip <|
             sReg rfl <|
             rMv rfl <|
             rMv rfl <|
             rwp_det rfl rfl (det_len_vec 0 rfl el228 rfl rfl) <|
             rwp_det rfl rfl (det_sub_nw rfl rfl rfl (by simp only [List.length_map]; exact ⟨by omega, by omega⟩)) <|
             rwp_det rfl rfl (det_index_vec 0 rfl el228 rfl rfl rfl (by simp only [List.length_map]; omega) (by simp only [List.length_map]; omega)) <|
             rwp_det rfl rfl (det_load_agg rfl agg38 rfl (ptr_vec 0 rfl (hgn 1 (by omega) (by omega) _ (by simp only [List.length_map]; rfl))) rfl) <|
             rwp_det0 rfl rfl (det_store rfl sz38 rfl rfl rfl (st_row 1 rfl rfl)) <|
             rMv rfl <|
             rwp_nil <|
             awp_weak _ (Weak.mem [false, true, false, true, true, true, true] rfl) <|
             awp_ret <|
             fin2 (rs_cell_agg agg38 rfl (ptr_row 0 rfl) rfl) (rs_c rfl) ?_
            exact ⟨by rw [hT]; first | (rw [tyF_1 (by omega)]; rfl) | (rw [tyF_2 (by omega)]; rfl) | (rw [tyF_3 (by omega)]; rfl) | (rw [tyF_8 (by omega)]; rfl) | (rw [tyF_16 (by omega)]; rfl) | (rw [tyF_10 ho h10]; rfl) | (rw [tyF_c ho h10 c12]; rfl) | (rw [tyF_e ho h10 c12]; rfl), [_], rfl⟩
  ·try simp only [sx] at c3
   refine awp_region rfl <|
    rwp_det rfl rfl (det_eql rfl rfl rfl) <|
    rMv rfl <|
    rwp_nil <|
    awp_cond rfl (fun c4 => ?_) (fun c4 => ?_)
   ·try simp only [sx] at c4
    refine sReg rfl <|
     rwp_det rfl rfl (det_field_lit rfl fd44_3 rfl) <|
     rwp_det rfl rfl (det_load_agg rfl agg38 rfl (ptr_row 2 rfl) rfl) <|
     rwp_det0 rfl rfl (det_store rfl sz38 rfl rfl rfl (st_row 1 rfl rfl)) <|
     rMv rfl <|
     rwp_nil <|
     awp_weak _ (Weak.mem [false, true, false, true, true, true, true] rfl) <|
     awp_ret <|
     fin2 (rs_cell_agg agg38 rfl (ptr_row 0 rfl) rfl) (rs_c rfl) ?_
    exact ⟨by rw [hT]; first | (rw [tyF_1 (by omega)]; rfl) | (rw [tyF_2 (by omega)]; rfl) | (rw [tyF_3 (by omega)]; rfl) | (rw [tyF_8 (by omega)]; rfl) | (rw [tyF_16 (by omega)]; rfl) | (rw [tyF_10 ho h10]; rfl) | (rw [tyF_c ho h10 c12]; rfl) | (rw [tyF_e ho h10 c12]; rfl), [_], rfl⟩
   ·try simp only [sx] at c4
    refine sReg rfl <|
     rwp_det rfl rfl (det_eql rfl rfl rfl) <|
     rMv rfl <|
     rwp_nil <|
     awp_cond rfl (fun c5 => ?_) (fun c5 => ?_)
    ·try simp only [sx] at c5
     refine sReg rfl <|
      rwp_det rfl rfl (det_build rfl zr38 pl38 rfl) <|
      rwp_det0 rfl rfl (det_store rfl sz38 rfl rfl rfl (st_row 1 rfl rfl)) <|
      rMv rfl <|
      rwp_nil <|
      awp_weak _ (Weak.mem [false, true, false, true, true, true, true] rfl) <|
      awp_ret <|
      fin2 (rs_cell_agg agg38 rfl (ptr_row 0 rfl) rfl) (rs_c rfl) ?_
     exact ⟨by rw [hT]; first | (rw [tyF_1 (by omega)]; rfl) | (rw [tyF_2 (by omega)]; rfl) | (rw [tyF_3 (by omega)]; rfl) | (rw [tyF_8 (by omega)]; rfl) | (rw [tyF_16 (by omega)]; rfl) | (rw [tyF_10 ho h10]; rfl) | (rw [tyF_c ho h10 c12]; rfl) | (rw [tyF_e ho h10 c12]; rfl), [_], rfl⟩
    ·try simp only [sx] at c5
     refine sReg rfl <|
      rwp_det rfl rfl (det_eql rfl rfl rfl) <|
      rMv rfl <|
      rwp_nil <|
      awp_cond rfl (fun c6 => ?_) (fun c6 => ?_)
     ·try simp only [sx] at c6
      refine awp_seq <|
       awp_draw_c 12 1 [⟨0, .q []⟩, ⟨1, .q []⟩, ⟨2, .q []⟩, ⟨3, .q [4]⟩, ⟨4, .q []⟩, ⟨5, .q [3]⟩, ⟨6, .q []⟩, ⟨7, .q []⟩, ⟨8, .q []⟩, ⟨9, .q []⟩, ⟨10, .e 0 []⟩, ⟨11, .e 0 []⟩] mixed (by kernel_rfl) (by kernel_rfl) rfl rfl rfl <|
       fx_skip rfl <|
       fx_skip rfl <|
       fx_skip rfl <|
       fx_skip rfl <|
       fx_skip rfl <|
       fx_skip rfl <|
       fx_skip rfl <|
       fx_skip rfl <|
       fx_skip rfl <|
       fx_skip rfl <|
       fx_skip rfl <|
       fx_skip rfl <|
       fx_nil <|
       sq_det rfl (by decide) rfl rfl (det_move rfl rfl) <|
       sq_det rfl (by decide) rfl rfl (det_nilcheck_ptr rfl rfl) <|
       sq_det rfl (by decide) rfl rfl (det_field_lit rfl fd123_0 rfl) <|
       sq_det rfl (by decide) rfl rfl (det_load_agg rfl agg25 rfl (ptr_row 0 rfl) rfl) <|
       sq_det rfl (by decide) rfl rfl (det_field_lit rfl fd44_1 rfl) <|
       sq_det rfl (by decide) rfl rfl (det_load_one rfl one9 rfl (ptr_row 0 rfl) rfl) <|
       sq_det rfl (by decide) rfl rfl (det_call rfl ok101 (loopnest_Buffer n e.Name hn) ⟨VLe.refl _, rfl, VLe.refl _, rfl, trivial⟩) <|
       sq_det rfl (by decide) rfl rfl (det_move_tup rfl rfl) <|
       sq_det rfl (by decide) rfl rfl (det_ex_agg rfl rfl rfl) <|
       sq_det rfl (by decide) rfl rfl (det_ex_c rfl rfl rfl) <|
       sq_op rfl rfl (by decide) rfl rfl (ope_allocN [none, none, none, none, none, none, some 1, none] rfl zr65 rfl) ?_
      rintro _ _ ⟨b8, rfl, rfl⟩
      refine ⟨_, rfl, ?_⟩
      refine sq_op0 rfl rfl (by decide) rfl rfl (det_store rfl sz65 rfl rfl rfl (st_row 0 rfl rfl)) ?_
      rintro _ _ ⟨rfl, rfl⟩
      refine ⟨_, rfl, ?_⟩
      refine sq_nil rfl <|
       rMv rfl <|
       rwp_nil <|
       sReg rfl <|
       rwp_det rfl rfl (det_field_lit rfl fd65_1 rfl) <|
       rwp_det rfl rfl (det_load_agg rfl agg38 rfl (ptr_row 0 rfl) rfl) <|
       rwp_det0 rfl rfl (det_store rfl sz38 rfl rfl rfl (st_row 2 rfl rfl)) <|
       rMv rfl <|
       rwp_nil <|
       awp_weak _ (Weak.mem [false, false, true, false, true, true, true, true] rfl) <|
       awp_ret <|
       fin2 (rs_cell_agg agg38 rfl (ptr_row 0 rfl) rfl) (rs_c rfl) ?_
      exact ⟨by rw [hT]; first | (rw [tyF_1 (by omega)]; rfl) | (rw [tyF_2 (by omega)]; rfl) | (rw [tyF_3 (by omega)]; rfl) | (rw [tyF_8 (by omega)]; rfl) | (rw [tyF_16 (by omega)]; rfl) | (rw [tyF_10 ho h10]; rfl) | (rw [tyF_c ho h10 c12]; rfl) | (rw [tyF_e ho h10 c12]; rfl), [_], rfl⟩
     ·try simp only [sx] at c6
      refine sReg rfl <|
       rwp_det rfl rfl (det_eql rfl rfl rfl) <|
       rMv rfl <|
       rwp_nil <|
       awp_cond rfl (fun c7 => ?_) (fun c7 => ?_)
      ·try simp only [sx] at c7
       have hlen1 := args_len hpart (by omega)
       refine sReg rfl <|
        rMv rfl <|
        rwp_det rfl rfl (det_index_vec 0 rfl el228 rfl rfl rfl (by omega) (by simp only [List.length_map]; omega)) <|
        rwp_det rfl rfl (det_load_agg rfl agg38 rfl (ptr_vec 0 rfl (hg 0 (by omega))) rfl) <|
        rwp_det0 rfl rfl (det_store rfl sz38 rfl rfl rfl (st_row 1 rfl rfl)) <|
        rMv rfl <|
        rwp_nil <|
        awp_weak _ (Weak.mem [false, true, false, true, true, true, true] rfl) <|
        awp_ret <|
        fin2 (rs_cell_agg agg38 rfl (ptr_row 0 rfl) rfl) (rs_c rfl) ?_
       exact ⟨by rw [hT]; first | (rw [tyF_1 (by omega)]; rfl) | (rw [tyF_2 (by omega)]; rfl) | (rw [tyF_3 (by omega)]; rfl) | (rw [tyF_8 (by omega)]; rfl) | (rw [tyF_16 (by omega)]; rfl) | (rw [tyF_10 ho h10]; rfl) | (rw [tyF_c ho h10 c12]; rfl) | (rw [tyF_e ho h10 c12]; rfl), [_], rfl⟩
      ·try simp only [sx] at c7
       refine awp_seq <|
        sReg rfl <|
        rwp_det rfl rfl (det_eql rfl rfl rfl) <|
        rMv rfl <|
        rwp_nil <|
        awp_cond rfl (fun c8 => ?_) (fun c8 => ?_)
       ·try simp only [sx] at c8
        refine awp_skip <|
         awp_cond rfl (fun c10 => ?_) (fun c10 => ?_)
        ·try simp only [sx] at c10
         refine sReg rfl <|
          rwp_det rfl rfl (det_build rfl zr38 pl38 rfl) <|
          rwp_det0 rfl rfl (det_store rfl sz38 rfl rfl rfl (st_row 1 rfl rfl)) <|
          rMv rfl <|
          rwp_nil <|
          awp_weak _ (Weak.mem [false, true, false, true, true, true, true] rfl) <|
          awp_ret <|
          fin2 (rs_cell_agg agg38 rfl (ptr_row 0 rfl) rfl) (rs_c rfl) ?_
         exact ⟨by rw [hT]; first | (rw [tyF_1 (by omega)]; rfl) | (rw [tyF_2 (by omega)]; rfl) | (rw [tyF_3 (by omega)]; rfl) | (rw [tyF_8 (by omega)]; rfl) | (rw [tyF_16 (by omega)]; rfl) | (rw [tyF_10 ho h10]; rfl) | (rw [tyF_c ho h10 c12]; rfl) | (rw [tyF_e ho h10 c12]; rfl), [_], rfl⟩
        ·try simp only [sx] at c10
         have hlen2 := args_len2 hpart (by omega)
         have ho : ¬ opLow e.Op := by unfold opLow; omega
         refine awp_skip <|
          awp_seq <|
          awp_seq <|
          awp_draw 13 mixed (by kernel_rfl) rfl rfl <|
          td_det rfl rfl (det_move rfl rfl) <|
          td_det rfl rfl (det_move rfl rfl) <|
          td_det rfl rfl (det_len_vec 0 rfl el228 rfl rfl) <|
          td_det rfl rfl (det_sub_nw rfl rfl rfl (by simp only [List.length_map]; exact ⟨by omega, by omega⟩)) <|
          td_det rfl rfl (det_index_vec 0 rfl el228 rfl rfl rfl (by simp only [List.length_map]; omega) (by simp only [List.length_map]; omega)) <|
          td_det rfl rfl (det_load_agg rfl agg38 rfl (ptr_vec 0 rfl (hgn 2 (by omega) (by omega) _ (by simp only [List.length_map]; rfl))) rfl) <|
          td_det rfl rfl (det_move rfl rfl) <|
          td_det rfl rfl (det_move rfl rfl) <|
          td_det rfl rfl (det_len_vec 0 rfl el228 rfl rfl) <|
          td_det rfl rfl (det_sub_nw rfl rfl rfl (by simp only [List.length_map]; exact ⟨by omega, by omega⟩)) <|
          td_det rfl rfl (det_index_vec 0 rfl el228 rfl rfl rfl (by simp only [List.length_map]; omega) (by simp only [List.length_map]; omega)) <|
          td_det rfl rfl (det_load_agg rfl agg38 rfl (ptr_vec 0 rfl (hgn 1 (by omega) (by omega) _ (by simp only [List.length_map]; rfl))) rfl) <|
          td_det rfl rfl (det_aneq rfl fl38 rfl rfl rfl) <|
          td_nil <|
          rwp_nil <|
          awp_cond rfl (fun c11 => ?_) (fun c11 => ?_)
         ·have h10 := unlike_t c11
          refine sReg rfl <|
           rwp_det rfl rfl (det_build rfl zr38 pl38 rfl) <|
           rwp_det0 rfl rfl (det_store rfl sz38 rfl rfl rfl (st_row 1 rfl rfl)) <|
           rMv rfl <|
           rwp_nil <|
           awp_weak _ (Weak.mem [false, true, false, true, true, true, true] rfl) <|
           awp_ret <|
           fin2 (rs_cell_agg agg38 rfl (ptr_row 0 rfl) rfl) (rs_c rfl) ?_
          exact ⟨by rw [hT]; first | (rw [tyF_1 (by omega)]; rfl) | (rw [tyF_2 (by omega)]; rfl) | (rw [tyF_3 (by omega)]; rfl) | (rw [tyF_8 (by omega)]; rfl) | (rw [tyF_16 (by omega)]; rfl) | (rw [tyF_10 ho h10]; rfl) | (rw [tyF_c ho h10 c12]; rfl) | (rw [tyF_e ho h10 c12]; rfl), [_], rfl⟩
         ·have h10 := unlike_f c11
          refine awp_skip <|
           awp_seq <|
           sReg rfl <|
           rwp_det rfl rfl (det_load_agg rfl agg44 rfl (ptr_row 2 rfl) rfl) <|
           rwp_det rfl rfl (det_call rfl ok166 (expr_IsCondition e) ⟨VLe.refl _, rfl, trivial⟩) <|
           rwp_nil <|
           awp_cond rfl (fun c12 => ?_) (fun c12 => ?_)
          ·try simp only [sx] at c12
           refine sReg rfl <|
            rwp_det rfl rfl (det_build rfl zr38 pl38 rfl) <|
            rwp_det0 rfl rfl (det_store rfl sz38 rfl rfl rfl (st_row 1 rfl rfl)) <|
            rMv rfl <|
            rwp_nil <|
            awp_weak _ (Weak.mem [false, true, false, true, true, true, true] rfl) <|
            awp_ret <|
            fin2 (rs_cell_agg agg38 rfl (ptr_row 0 rfl) rfl) (rs_c rfl) ?_
           exact ⟨by rw [hT]; first | (rw [tyF_1 (by omega)]; rfl) | (rw [tyF_2 (by omega)]; rfl) | (rw [tyF_3 (by omega)]; rfl) | (rw [tyF_8 (by omega)]; rfl) | (rw [tyF_16 (by omega)]; rfl) | (rw [tyF_10 ho h10]; rfl) | (rw [tyF_c ho h10 c12]; rfl) | (rw [tyF_e ho h10 c12]; rfl), [_], rfl⟩
          ·try simp only [sx] at c12
           refine awp_skip <|
            sReg rfl <|
            rMv rfl <|
            rMv rfl <|
            rwp_det rfl rfl (det_len_vec 0 rfl el228 rfl rfl) <|
            rwp_det rfl rfl (det_sub_nw rfl rfl rfl (by simp only [List.length_map]; exact ⟨by omega, by omega⟩)) <|
            rwp_det rfl rfl (det_index_vec 0 rfl el228 rfl rfl rfl (by simp only [List.length_map]; omega) (by simp only [List.length_map]; omega)) <|
            rwp_det rfl rfl (det_load_agg rfl agg38 rfl (ptr_vec 0 rfl (hgn 1 (by omega) (by omega) _ (by simp only [List.length_map]; rfl))) rfl) <|
            rwp_det0 rfl rfl (det_store rfl sz38 rfl rfl rfl (st_row 1 rfl rfl)) <|
            rMv rfl <|
            rwp_nil <|
            awp_weak _ (Weak.mem [false, true, false, true, true, true, true] rfl) <|
            awp_ret <|
            fin2 (rs_cell_agg agg38 rfl (ptr_row 0 rfl) rfl) (rs_c rfl) ?_
           exact ⟨by rw [hT]; first | (rw [tyF_1 (by omega)]; rfl) | (rw [tyF_2 (by omega)]; rfl) | (rw [tyF_3 (by omega)]; rfl) | (rw [tyF_8 (by omega)]; rfl) | (rw [tyF_16 (by omega)]; rfl) | (rw [tyF_10 ho h10]; rfl) | (rw [tyF_c ho h10 c12]; rfl) | (rw [tyF_e ho h10 c12]; rfl), [_], rfl⟩
       ·try simp only [sx] at c8
        refine sReg rfl <|
         rwp_det rfl rfl (det_eql rfl rfl rfl) <|
         rMv rfl <|
         rwp_nil <|
         awp_cond rfl (fun c9 => ?_) (fun c9 => ?_)
        ·try simp only [sx] at c9
         refine awp_skip <|
          awp_cond rfl (fun c10 => ?_) (fun c10 => ?_)
         ·try simp only [sx] at c10
          refine sReg rfl <|
           rwp_det rfl rfl (det_build rfl zr38 pl38 rfl) <|
           rwp_det0 rfl rfl (det_store rfl sz38 rfl rfl rfl (st_row 1 rfl rfl)) <|
           rMv rfl <|
           rwp_nil <|
           awp_weak _ (Weak.mem [false, true, false, true, true, true, true] rfl) <|
           awp_ret <|
           fin2 (rs_cell_agg agg38 rfl (ptr_row 0 rfl) rfl) (rs_c rfl) ?_
          exact ⟨by rw [hT]; first | (rw [tyF_1 (by omega)]; rfl) | (rw [tyF_2 (by omega)]; rfl) | (rw [tyF_3 (by omega)]; rfl) | (rw [tyF_8 (by omega)]; rfl) | (rw [tyF_16 (by omega)]; rfl) | (rw [tyF_10 ho h10]; rfl) | (rw [tyF_c ho h10 c12]; rfl) | (rw [tyF_e ho h10 c12]; rfl), [_], rfl⟩
         ·try simp only [sx] at c10
          have hlen2 := args_len2 hpart (by omega)
          have ho : ¬ opLow e.Op := by unfold opLow; omega
          refine awp_skip <|
           awp_seq <|
           awp_seq <|
           awp_draw 13 mixed (by kernel_rfl) rfl rfl <|
           td_det rfl rfl (det_move rfl rfl) <|
           td_det rfl rfl (det_move rfl rfl) <|
           td_det rfl rfl (det_len_vec 0 rfl el228 rfl rfl) <|
           td_det rfl rfl (det_sub_nw rfl rfl rfl (by simp only [List.length_map]; exact ⟨by omega, by omega⟩)) <|
           td_det rfl rfl (det_index_vec 0 rfl el228 rfl rfl rfl (by simp only [List.length_map]; omega) (by simp only [List.length_map]; omega)) <|
           td_det rfl rfl (det_load_agg rfl agg38 rfl (ptr_vec 0 rfl (hgn 2 (by omega) (by omega) _ (by simp only [List.length_map]; rfl))) rfl) <|
           td_det rfl rfl (det_move rfl rfl) <|
           td_det rfl rfl (det_move rfl rfl) <|
           td_det rfl rfl (det_len_vec 0 rfl el228 rfl rfl) <|
           td_det rfl rfl (det_sub_nw rfl rfl rfl (by simp only [List.length_map]; exact ⟨by omega, by omega⟩)) <|
           td_det rfl rfl (det_index_vec 0 rfl el228 rfl rfl rfl (by simp only [List.length_map]; omega) (by simp only [List.length_map]; omega)) <|
           td_det rfl rfl (det_load_agg rfl agg38 rfl (ptr_vec 0 rfl (hgn 1 (by omega) (by omega) _ (by simp only [List.length_map]; rfl))) rfl) <|
           td_det rfl rfl (det_aneq rfl fl38 rfl rfl rfl) <|
           td_nil <|
           rwp_nil <|
           awp_cond rfl (fun c11 => ?_) (fun c11 => ?_)
          ·have h10 := unlike_t c11
           refine sReg rfl <|
            rwp_det rfl rfl (det_build rfl zr38 pl38 rfl) <|
            rwp_det0 rfl rfl (det_store rfl sz38 rfl rfl rfl (st_row 1 rfl rfl)) <|
            rMv rfl <|
            rwp_nil <|
            awp_weak _ (Weak.mem [false, true, false, true, true, true, true] rfl) <|
            awp_ret <|
            fin2 (rs_cell_agg agg38 rfl (ptr_row 0 rfl) rfl) (rs_c rfl) ?_
           exact ⟨by rw [hT]; first | (rw [tyF_1 (by omega)]; rfl) | (rw [tyF_2 (by omega)]; rfl) | (rw [tyF_3 (by omega)]; rfl) | (rw [tyF_8 (by omega)]; rfl) | (rw [tyF_16 (by omega)]; rfl) | (rw [tyF_10 ho h10]; rfl) | (rw [tyF_c ho h10 c12]; rfl) | (rw [tyF_e ho h10 c12]; rfl), [_], rfl⟩
          ·have h10 := unlike_f c11
           refine awp_skip <|
            awp_seq <|
            sReg rfl <|
            rwp_det rfl rfl (det_load_agg rfl agg44 rfl (ptr_row 2 rfl) rfl) <|
            rwp_det rfl rfl (det_call rfl ok166 (expr_IsCondition e) ⟨VLe.refl _, rfl, trivial⟩) <|
            rwp_nil <|
            awp_cond rfl (fun c12 => ?_) (fun c12 => ?_)
           ·try simp only [sx] at c12
            refine sReg rfl <|
             rwp_det rfl rfl (det_build rfl zr38 pl38 rfl) <|
             rwp_det0 rfl rfl (det_store rfl sz38 rfl rfl rfl (st_row 1 rfl rfl)) <|
             rMv rfl <|
             rwp_nil <|
             awp_weak _ (Weak.mem [false, true, false, true, true, true, true] rfl) <|
             awp_ret <|
             fin2 (rs_cell_agg agg38 rfl (ptr_row 0 rfl) rfl) (rs_c rfl) ?_
            exact ⟨by rw [hT]; first | (rw [tyF_1 (by omega)]; rfl) | (rw [tyF_2 (by omega)]; rfl) | (rw [tyF_3 (by omega)]; rfl) | (rw [tyF_8 (by omega)]; rfl) | (rw [tyF_16 (by omega)]; rfl) | (rw [tyF_10 ho h10]; rfl) | (rw [tyF_c ho h10 c12]; rfl) | (rw [tyF_e ho h10 c12]; rfl), [_], rfl⟩
           ·try simp only [sx] at c12
            refine awp_skip <|
             sReg rfl <|
             rMv rfl <|
             rMv rfl <|
             rwp_det rfl rfl (det_len_vec 0 rfl el228 rfl rfl) <|
             rwp_det rfl rfl (det_sub_nw rfl rfl rfl (by simp only [List.length_map]; exact ⟨by omega, by omega⟩)) <|
             rwp_det rfl rfl (det_index_vec 0 rfl el228 rfl rfl rfl (by simp only [List.length_map]; omega) (by simp only [List.length_map]; omega)) <|
             rwp_det rfl rfl (det_load_agg rfl agg38 rfl (ptr_vec 0 rfl (hgn 1 (by omega) (by omega) _ (by simp only [List.length_map]; rfl))) rfl) <|
             rwp_det0 rfl rfl (det_store rfl sz38 rfl rfl rfl (st_row 1 rfl rfl)) <|
             rMv rfl <|
             rwp_nil <|
             awp_weak _ (Weak.mem [false, true, false, true, true, true, true] rfl) <|
             awp_ret <|
             fin2 (rs_cell_agg agg38 rfl (ptr_row 0 rfl) rfl) (rs_c rfl) ?_
            exact ⟨by rw [hT]; first | (rw [tyF_1 (by omega)]; rfl) | (rw [tyF_2 (by omega)]; rfl) | (rw [tyF_3 (by omega)]; rfl) | (rw [tyF_8 (by omega)]; rfl) | (rw [tyF_16 (by omega)]; rfl) | (rw [tyF_10 ho h10]; rfl) | (rw [tyF_c ho h10 c12]; rfl) | (rw [tyF_e ho h10 c12]; rfl), [_], rfl⟩
        ·try simp only [sx] at c9
         refine awp_region rfl <|
          rwp_det rfl rfl (det_eql rfl rfl rfl) <|
          rMv rfl <|
          rwp_nil <|
          awp_cond rfl (fun c10 => ?_) (fun c10 => ?_)
         ·try simp only [sx] at c10
          refine sReg rfl <|
           rwp_det rfl rfl (det_build rfl zr38 pl38 rfl) <|
           rwp_det0 rfl rfl (det_store rfl sz38 rfl rfl rfl (st_row 1 rfl rfl)) <|
           rMv rfl <|
           rwp_nil <|
           awp_weak _ (Weak.mem [false, true, false, true, true, true, true] rfl) <|
           awp_ret <|
           fin2 (rs_cell_agg agg38 rfl (ptr_row 0 rfl) rfl) (rs_c rfl) ?_
          exact ⟨by rw [hT]; first | (rw [tyF_1 (by omega)]; rfl) | (rw [tyF_2 (by omega)]; rfl) | (rw [tyF_3 (by omega)]; rfl) | (rw [tyF_8 (by omega)]; rfl) | (rw [tyF_16 (by omega)]; rfl) | (rw [tyF_10 ho h10]; rfl) | (rw [tyF_c ho h10 c12]; rfl) | (rw [tyF_e ho h10 c12]; rfl), [_], rfl⟩
         ·try simp only [sx] at c10
          have hlen2 := args_len2 hpart (by omega)
          have ho : ¬ opLow e.Op := by unfold opLow; omega
          refine awp_skip <|
           awp_seq <|
           awp_seq <|
           awp_draw 13 mixed (by kernel_rfl) rfl rfl <|
           td_det rfl rfl (det_move rfl rfl) <|
           td_det rfl rfl (det_move rfl rfl) <|
           td_det rfl rfl (det_len_vec 0 rfl el228 rfl rfl) <|
           td_det rfl rfl (det_sub_nw rfl rfl rfl (by simp only [List.length_map]; exact ⟨by omega, by omega⟩)) <|
           td_det rfl rfl (det_index_vec 0 rfl el228 rfl rfl rfl (by simp only [List.length_map]; omega) (by simp only [List.length_map]; omega)) <|
           td_det rfl rfl (det_load_agg rfl agg38 rfl (ptr_vec 0 rfl (hgn 2 (by omega) (by omega) _ (by simp only [List.length_map]; rfl))) rfl) <|
           td_det rfl rfl (det_move rfl rfl) <|
           td_det rfl rfl (det_move rfl rfl) <|
           td_det rfl rfl (det_len_vec 0 rfl el228 rfl rfl) <|
           td_det rfl rfl (det_sub_nw rfl rfl rfl (by simp only [List.length_map]; exact ⟨by omega, by omega⟩)) <|
           td_det rfl rfl (det_index_vec 0 rfl el228 rfl rfl rfl (by simp only [List.length_map]; omega) (by simp only [List.length_map]; omega)) <|
           td_det rfl rfl (det_load_agg rfl agg38 rfl (ptr_vec 0 rfl (hgn 1 (by omega) (by omega) _ (by simp only [List.length_map]; rfl))) rfl) <|
           td_det rfl rfl (det_aneq rfl fl38 rfl rfl rfl) <|
           td_nil <|
           rwp_nil <|
           awp_cond rfl (fun c11 => ?_) (fun c11 => ?_)
          ·have h10 := unlike_t c11
           refine sReg rfl <|
            rwp_det rfl rfl (det_build rfl zr38 pl38 rfl) <|
            rwp_det0 rfl rfl (det_store rfl sz38 rfl rfl rfl (st_row 1 rfl rfl)) <|
            rMv rfl <|
            rwp_nil <|
            awp_weak _ (Weak.mem [false, true, false, true, true, true, true] rfl) <|
            awp_ret <|
            fin2 (rs_cell_agg agg38 rfl (ptr_row 0 rfl) rfl) (rs_c rfl) ?_
           exact ⟨by rw [hT]; first | (rw [tyF_1 (by omega)]; rfl) | (rw [tyF_2 (by omega)]; rfl) | (rw [tyF_3 (by omega)]; rfl) | (rw [tyF_8 (by omega)]; rfl) | (rw [tyF_16 (by omega)]; rfl) | (rw [tyF_10 ho h10]; rfl) | (rw [tyF_c ho h10 c12]; rfl) | (rw [tyF_e ho h10 c12]; rfl), [_], rfl⟩
          ·have h10 := unlike_f c11
           refine awp_skip <|
            awp_seq <|
            sReg rfl <|
            rwp_det rfl rfl (det_load_agg rfl agg44 rfl (ptr_row 2 rfl) rfl) <|
            rwp_det rfl rfl (det_call rfl ok166 (expr_IsCondition e) ⟨VLe.refl _, rfl, trivial⟩) <|
            rwp_nil <|
            awp_cond rfl (fun c12 => ?_) (fun c12 => ?_)
           ·try simp only [sx] at c12
            refine sReg rfl <|
             rwp_det rfl rfl (det_build rfl zr38 pl38 rfl) <|
             rwp_det0 rfl rfl (det_store rfl sz38 rfl rfl rfl (st_row 1 rfl rfl)) <|
             rMv rfl <|
             rwp_nil <|
             awp_weak _ (Weak.mem [false, true, false, true, true, true, true] rfl) <|
             awp_ret <|
             fin2 (rs_cell_agg agg38 rfl (ptr_row 0 rfl) rfl) (rs_c rfl) ?_
            exact ⟨by rw [hT]; first | (rw [tyF_1 (by omega)]; rfl) | (rw [tyF_2 (by omega)]; rfl) | (rw [tyF_3 (by omega)]; rfl) | (rw [tyF_8 (by omega)]; rfl) | (rw [tyF_16 (by omega)]; rfl) | (rw [tyF_10 ho h10]; rfl) | (rw [tyF_c ho h10 c12]; rfl) | (rw [tyF_e ho h10 c12]; rfl), [_], rfl⟩
           ·try simp only [sx] at c12
            refine awp_skip <|
             sReg rfl <|
             rMv rfl <|
             rMv rfl <|
             rwp_det rfl rfl (det_len_vec 0 rfl el228 rfl rfl) <|
             rwp_det rfl rfl (det_sub_nw rfl rfl rfl (by simp only [List.length_map]; exact ⟨by omega, by omega⟩)) <|
             rwp_det rfl rfl (det_index_vec 0 rfl el228 rfl rfl rfl (by simp only [List.length_map]; omega) (by simp only [List.length_map]; omega)) <|
             rwp_det rfl rfl (det_load_agg rfl agg38 rfl (ptr_vec 0 rfl (hgn 1 (by omega) (by omega) _ (by simp only [List.length_map]; rfl))) rfl) <|
             rwp_det0 rfl rfl (det_store rfl sz38 rfl rfl rfl (st_row 1 rfl rfl)) <|
             rMv rfl <|
             rwp_nil <|
             awp_weak _ (Weak.mem [false, true, false, true, true, true, true] rfl) <|
             awp_ret <|
             fin2 (rs_cell_agg agg38 rfl (ptr_row 0 rfl) rfl) (rs_c rfl) ?_
            exact ⟨by rw [hT]; first | (rw [tyF_1 (by omega)]; rfl) | (rw [tyF_2 (by omega)]; rfl) | (rw [tyF_3 (by omega)]; rfl) | (rw [tyF_8 (by omega)]; rfl) | (rw [tyF_16 (by omega)]; rfl) | (rw [tyF_10 ho h10]; rfl) | (rw [tyF_c ho h10 c12]; rfl) | (rw [tyF_e ho h10 c12]; rfl), [_], rfl⟩

theorem ck_typeOf (b : Nat) (svL svS svP : Value) (n : Ns) (U S : List ByteArray) (W : List Int)  (e : Ex) (hn : n.Ok) (hpart : partE e = 0) (he : e.wt ≤ 1073741824) : Con cfg 190 [vP b, vE e] (ckN b svL svS svP n U S W) fun r μ' => r = .tup [vTy (nodeT (tyF n.Bufs) e).1, vI (nodeT (tyF n.Bufs) e).2] ∧ μ' = ckN b svL svS svP n U S W := by
  induction e using Ex.ind with
  | _ e ih => exact ck_typeOf_step b svL svS svP n U S W hn e (fun a ha h1 h2 => ih a ha h1 h2) hpart he

theorem ck_expression (b : Nat) (svL svS svP : Value) (n : Ns) (U S : List ByteArray) (W : List Int) (e : Ex) (hn : n.Ok) (hS : S.length ≤ 1000000) (he : e.wt ≤ 1000000000) :
    Con cfg 165 [vP b, vE e] (ckN b svL svS svP n U S W) fun r μ' => r = .tup [vTy (exprT n.Bufs S e).1, vI (exprT n.Bufs S e).2] ∧ μ' = ckN b svL svS svP n U S W := by
 refine Con.drop <|
  con_intro Tryz.func165 rfl Tryz.ntmps165 Tryz.results165 rfl ?_
 intro z hz
 refine sReg rfl <|
  rwp_op rfl rfl (ope_box rfl rfl) ?_
 rintro _ _ ⟨b1, rfl, rfl⟩
 refine rwp_weak _ (weak_freeze_row 0 rfl 2 _ PLe.ptr) <|
  rwp_op rfl rfl (ope_box rfl rfl) ?_
 rintro _ _ ⟨b2, rfl, rfl⟩
 refine rwp_op rfl rfl (ope_alloc rfl zr38) ?_
 rintro _ _ ⟨b3, rfl, rfl⟩
 refine rwp_op rfl rfl (ope_alloc rfl zr51) ?_
 rintro _ _ ⟨b4, rfl, rfl⟩
 refine rwp_nil <|
  awp_seq <|
  sReg rfl <|
  rwp_det rfl rfl (det_load_agg rfl agg44 rfl (ptr_row 2 rfl) rfl) <|
  rwp_det rfl rfl (det_call rfl ok188 (expr_Validate e (by omega)) ⟨VLe.refl _, rfl, trivial⟩) <|
  rMv rfl <|
  rwp_nil <|
  sReg rfl <|
  rMv rfl <|
  rwp_det rfl rfl (det_neq rfl rfl rfl) <|
  rwp_nil <|
  awp_cond rfl (fun c1 => ?_) (fun c1 => ?_)
 ·try simp only [sx] at c1
  refine sReg rfl <|
   rwp_det rfl rfl (det_build rfl zr38 pl38 rfl) <|
   rMv rfl <|
   rwp_det0 rfl rfl (det_store rfl sz38 rfl rfl rfl (st_row 1 rfl rfl)) <|
   rwp_det0 rfl rfl (det_store rfl sz51 rfl rfl rfl (st_row 0 rfl rfl)) <|
   rwp_nil <|
   awp_weak _ (Weak.mem [true, true, false, true, true, true, true] rfl) <|
   awp_ret <|
   fin2 (rs_cell_agg agg38 rfl (ptr_row 1 rfl) rfl) (rs_cell_one one51 rfl (ptr_row 0 rfl) rfl) ?_
  exact ⟨by rw [exprT_1 c1]; rfl, [_, _], rfl⟩
 ·try simp only [sx] at c1
  refine awp_skip <|
   awp_seq <|
   sReg rfl <|
   rwp_det rfl rfl (det_load_agg rfl agg44 rfl (ptr_row 2 rfl) rfl) <|
   rwp_det rfl rfl (det_call rfl ok123 (expr_Walk _) ⟨VLe.refl _, rfl, trivial⟩) <|
   rwp_nil <|
   awp_block <|
   awp_range_k (ps := [17]) hz 2 rfl rfl ok158 (walk_iter e (by omega)) (fun _ _ => rfl) rfl (fun pre => nodesN n.Bufs S pre = 0) (fun pre => [E.row b4 51 [cI 0], E.row b3 38 [cI 0, cI 0, cI 0, cI 0, cI 0]]) (fun c pre => (c = .ret ∧ ¬ nodesN n.Bufs S pre = 0)) (fun c pre => [E.row b4 51 [cI (nodesN n.Bufs S pre)], E.row b3 38 [cI 0, cI 0, cI 0, cI 0, cI 0]]) ⟨rfl, rfl⟩ ?_ ?_ ?_ ?_
  ·intro pre x suf hxs hi z hz
   have hxw : x.wt ≤ e.wt := node_mem_wt e x (by rw [hxs]; simp)
   refine awp_region rfl <|
    rwp_op rfl rfl (ope_allocN [none, none, none, none, none, none, none, none, none, none, some 2, some 4, some 13] rfl zr44 rfl) ?_
   rintro _ _ ⟨b5, rfl, rfl⟩
   refine rwp_det0 rfl rfl (det_store rfl sz44 rfl rfl rfl (st_row 0 rfl rfl)) <|
    rwp_nil ?_
   intro z hz
   refine awp_block <|
    sReg rfl <|
    rwp_det rfl rfl (det_load_one rfl one121 rfl ptr_imm rfl) <|
    rwp_det rfl rfl (det_load_agg rfl agg44 rfl (ptr_row 0 rfl) rfl) <|
    rwp_det rfl rfl (det_call_same [4, 4, 4, 4] rfl ok189 (ck_node b svL svS svP n U S W x hn hS (by omega)) ⟨VLe.refl _, rfl, VLe.refl _, rfl, trivial⟩ rfl) <|
    rMv rfl <|
    rwp_nil <|
    sReg rfl <|
    rMv rfl <|
    rwp_det rfl rfl (det_neq rfl rfl rfl) <|
    rwp_nil <|
    awp_cond rfl (fun c2 => ?_) (fun c2 => ?_)
   ·try simp only [sx] at c2
    refine sReg rfl <|
     rwp_det rfl rfl (det_build rfl zr38 pl38 rfl) <|
     rMv rfl <|
     rwp_det0 rfl rfl (det_store rfl sz38 rfl rfl rfl (st_row 2 rfl rfl)) <|
     rwp_det0 rfl rfl (det_store rfl sz51 rfl rfl rfl (st_row 1 rfl rfl)) <|
     rwp_nil <|
     awp_ret ?_
    exact round_fin (τ := ⟨[], _⟩) (Weak.mk [false, true, true, true, true, true, true, true] trivial rfl) ⟨⟨rfl, by rw [nodesN_one hi]; exact c2⟩, (by dsimp only; rw [nodesN_one hi]; rfl)⟩
   ·try simp only [sx] at c2
    refine awp_skip ?_
    exact round_fin (τ := ⟨[], _⟩) (Weak.mk [false, true, true, true, true, true, true, true] trivial rfl) ⟨(by dsimp only; rw [nodesN_one hi]; exact c2), rfl⟩
  ·intro hd
   refine sReg rfl <|
    rwp_det rfl rfl (det_load_one rfl one121 rfl ptr_imm rfl) <|
    rwp_det rfl rfl (det_load_agg rfl agg44 rfl (ptr_row 2 rfl) rfl) <|
    rwp_det rfl rfl (det_call_same [3, 3, 3, 3] rfl ok190 (ck_typeOf b svL svS svP n U S W e hn (valid_part c1) (by omega)) ⟨VLe.refl _, rfl, VLe.refl _, rfl, trivial⟩ rfl) <|
    rwp_det rfl rfl (det_ex_agg rfl rfl rfl) <|
    rwp_det rfl rfl (det_ex_c rfl rfl rfl) <|
    rwp_det0 rfl rfl (det_store rfl sz38 rfl rfl rfl (st_row 1 rfl rfl)) <|
    rwp_det0 rfl rfl (det_store rfl sz51 rfl rfl rfl (st_row 0 rfl rfl)) <|
    rwp_nil <|
    awp_weak _ (Weak.mem [true, true, false, true, true, true, true] rfl) <|
    awp_ret <|
    fin2 (rs_cell_agg agg38 rfl (ptr_row 1 rfl) rfl) (rs_cell_one one51 rfl (ptr_row 0 rfl) rfl) ?_
   exact ⟨by rw [exprT_3 c1 hd]; rfl, [_, _], rfl⟩
  ·rintro pre x suf hxs hx
   rcases hx with ⟨hc, hx⟩
   clear hc
   repeat (first | refine thenQ_ret ?_ | refine blockQ_ret ?_)
   refine fin2 (rs_cell_agg agg38 rfl (ptr_row 1 rfl) rfl) (rs_cell_one one51 rfl (ptr_row 0 rfl) rfl) ?_
   exact ⟨by rw [exprT_2 c1 (by rw [hxs, nodesN_pre hx]; exact hx), hxs, nodesN_pre (suf := suf) hx]; rfl, [_, _, _], rfl⟩
  ·rintro i pre x suf hxs hx
   rcases hx with ⟨hc, hx⟩
   cases hc

theorem ck_store (b : Nat) (svL svS svP : Value) (n : Ns) (U S : List ByteArray) (W : List Int) (s : St) (hn : n.Ok) (hS : S.length ≤ 1000000) (hs : s.wt ≤ 900000000) :
    Con cfg 167 [vP b, vSt s] (ckN b svL svS svP n U S W) fun r μ' => r = vI (storeE n.Bufs S s) ∧ μ' = ckN b svL svS svP n U S W := by
 refine con_intro Tryz.func167 rfl Tryz.ntmps167 Tryz.results167 rfl ?_
 intro z hz
 obtain ⟨hE, hI, hIw, hB, hBw⟩ := St.parts hs
 have hrd := rdE_wt s
 refine sReg rfl <|
  rwp_op rfl rfl (ope_box rfl rfl) ?_
 rintro _ _ ⟨b1, rfl, rfl⟩
 refine rMv rfl <|
  rwp_nil <|
  sReg rfl <|
  rMv rfl <|
  rwp_det rfl rfl (det_field_lit rfl fd46_1 rfl) <|
  rwp_det rfl rfl (det_load_one rfl one9 rfl (ptr_row 0 rfl) rfl) <|
  rwp_det rfl rfl (det_field_lit rfl fd46_5 rfl) <|
  rwp_det rfl rfl (det_load_one rfl one34 rfl (ptr_row 0 rfl) rfl) <|
  rwp_det rfl rfl (det_buildN [none, none, none, none, none, none, none, none, none, none, some 2, none, some 13] rfl zr44 pl44 rfl rfl) <|
  rwp_det rfl rfl (det_call_same [1, 1, 1, 1] rfl ok165 (ck_expression b svL svS svP n U S W (rdE s) hn hS (by omega)) ⟨VLe.refl _, rfl, VLe.refl _, rfl, trivial⟩ rfl) <|
  rwp_det rfl rfl (det_move_tup rfl rfl) <|
  rwp_det rfl rfl (det_ex_agg rfl rfl rfl) <|
  rwp_det rfl rfl (det_ex_c rfl rfl rfl) <|
  rwp_op rfl rfl (ope_alloc rfl zr38) ?_
 rintro _ _ ⟨b2, rfl, rfl⟩
 refine rwp_det0 rfl rfl (det_store rfl sz38 rfl rfl rfl (st_row 0 rfl rfl)) <|
  rMv rfl <|
  rwp_nil <|
  awp_seq <|
  sReg rfl <|
  rMv rfl <|
  rwp_det rfl rfl (det_neq rfl rfl rfl) <|
  rwp_nil <|
  awp_cond rfl (fun c1 => ?_) (fun c1 => ?_)
 ·try simp only [sx] at c1
  refine sReg rfl <|
   rMv rfl <|
   rMv rfl <|
   rwp_nil <|
   awp_weak _ (Weak.mem [false, false, true, true, true, true] rfl) <|
   awp_ret <|
   fin1 (rs_c rfl) ?_
  exact ⟨by rw [storeE_1 c1], rfl⟩
 ·try simp only [sx] at c1
  have hT := exprT_rd c1
  refine awp_skip <|
   awp_seq <|
   awp_seq <|
   awp_draw_c 12 1 [⟨0, .q []⟩, ⟨1, .q []⟩, ⟨2, .q []⟩, ⟨3, .q [3]⟩, ⟨4, .q []⟩, ⟨5, .q [2]⟩, ⟨6, .q []⟩, ⟨7, .q []⟩, ⟨8, .q []⟩, ⟨9, .q []⟩, ⟨10, .e 0 []⟩, ⟨11, .e 0 []⟩] mixed (by kernel_rfl) (by kernel_rfl) rfl rfl rfl <|
   fx_skip rfl <|
   fx_skip rfl <|
   fx_skip rfl <|
   fx_skip rfl <|
   fx_skip rfl <|
   fx_skip rfl <|
   fx_skip rfl <|
   fx_skip rfl <|
   fx_skip rfl <|
   fx_skip rfl <|
   fx_skip rfl <|
   fx_skip rfl <|
   fx_nil <|
   sq_det rfl (by decide) rfl rfl (det_move rfl rfl) <|
   sq_det rfl (by decide) rfl rfl (det_nilcheck_ptr rfl rfl) <|
   sq_det rfl (by decide) rfl rfl (det_field_lit rfl fd123_0 rfl) <|
   sq_det rfl (by decide) rfl rfl (det_load_agg rfl agg25 rfl (ptr_row 0 rfl) rfl) <|
   sq_det rfl (by decide) rfl rfl (det_field_lit rfl fd46_1 rfl) <|
   sq_det rfl (by decide) rfl rfl (det_load_one rfl one9 rfl (ptr_row 0 rfl) rfl) <|
   sq_det rfl (by decide) rfl rfl (det_call rfl ok101 (loopnest_Buffer n s.Name hn) ⟨VLe.refl _, rfl, VLe.refl _, rfl, trivial⟩) <|
   sq_det rfl (by decide) rfl rfl (det_move_tup rfl rfl) <|
   sq_det rfl (by decide) rfl rfl (det_ex_agg rfl rfl rfl) <|
   sq_det rfl (by decide) rfl rfl (det_ex_c rfl rfl rfl) <|
   sq_op rfl rfl (by decide) rfl rfl (ope_allocN [none, none, none, none, none, none, some 1, none] rfl zr65 rfl) ?_
  rintro _ _ ⟨b3, rfl, rfl⟩
  refine ⟨_, rfl, ?_⟩
  refine sq_op0 rfl rfl (by decide) rfl rfl (det_store rfl sz65 rfl rfl rfl (st_row 0 rfl rfl)) ?_
  rintro _ _ ⟨rfl, rfl⟩
  refine ⟨_, rfl, ?_⟩
  refine sq_nil rfl <|
   rMv rfl <|
   rwp_nil <|
   sReg rfl <|
   rwp_det rfl rfl (det_field_lit rfl fd65_3 rfl) <|
   rwp_det rfl rfl (det_load_one rfl one3 rfl (ptr_row 0 rfl) rfl) <|
   rwp_det rfl rfl (det_eql rfl rfl rfl) <|
   rwp_nil <|
   awp_cond rfl (fun c2 => ?_) (fun c2 => ?_)
  ·try simp only [sx] at c2
   refine sReg rfl <|
    rMv rfl <|
    rwp_nil <|
    awp_weak _ (Weak.mem [false, false, false, true, true, true, true] rfl) <|
    awp_ret <|
    fin1 (rs_c rfl) ?_
   exact ⟨by rw [storeE_u c1 (.inl c2)], rfl⟩
  ·try simp only [sx] at c2
   refine awp_skip <|
    awp_seq <|
    sReg rfl <|
    rwp_det rfl rfl (det_field_lit rfl fd46_0 rfl) <|
    rwp_det rfl rfl (det_load_one rfl one3 rfl (ptr_row 2 rfl) rfl) <|
    rwp_det rfl rfl (det_eql rfl rfl rfl) <|
    rMv rfl <|
    rLz [] rfl gv1 trivial (fun g7_3 => det_field_lit rfl fd46_4 rfl) rfl <|
    rLz [(40, _)] rfl gv1 ⟨rfl, rfl, trivial⟩ (fun g7_3 => det_load_one rfl one3 rfl (ptr_row 2 rfl) rfl) rfl <|
    rLz [(41, _)] rfl gv1 ⟨rfl, rfl, trivial⟩ (fun g7_3 => det_lss rfl rfl rfl) rfl <|
    rLz [(42, _)] rfl gv1 ⟨rfl, rfl, trivial⟩ (fun g7_3 => det_move rfl rfl) rfl <|
    rLz [] rfl gv2 trivial (fun g7_7 => det_field_lit rfl fd46_4 rfl) rfl <|
    rLz [(44, _)] rfl gv2 ⟨rfl, rfl, trivial⟩ (fun g7_7 => det_load_one rfl one3 rfl (ptr_row 2 rfl) rfl) rfl <|
    rLz [(45, _)] rfl gv2 ⟨rfl, rfl, trivial⟩ (fun g7_7 => det_gtr rfl rfl rfl) rfl <|
    rLz [(43, _)] rfl gv1 ⟨rfl, rfl, trivial⟩ (fun g7_3 => det_or rfl rfl rfl rfl (fun h => and_mk (by assumption) (lzf h))) rfl <|
    rwp_det rfl rfl (det_and rfl rfl rfl (fun h => h) rfl) <|
    rwp_nil <|
    awp_cond rfl (fun c3 => ?_) (fun c3 => ?_)
   ·try simp only [sx] at c3
    refine sReg rfl <|
     rMv rfl <|
     rwp_nil <|
     awp_weak _ (Weak.mem [false, false, false, true, true, true, true] rfl) <|
     awp_ret <|
     fin1 (rs_c rfl) ?_
    exact ⟨by rw [storeE_u c1 (.inr c3)], rfl⟩
   ·try simp only [sx] at c3
    refine awp_skip <|
     sReg rfl <|
     rMv rfl <|
     rwp_det rfl rfl (det_field_lit rfl fd46_6 rfl) <|
     rwp_det rfl rfl (det_load_agg rfl agg44 rfl (ptr_row 2 rfl) rfl) <|
     rwp_det rfl rfl (det_call_same [3, 3, 3, 3] rfl ok165 (ck_expression b svL svS svP n U S W s.E hn hS (by omega)) ⟨VLe.refl _, rfl, VLe.refl _, rfl, trivial⟩ rfl) <|
     rwp_det rfl rfl (det_move_tup rfl rfl) <|
     rwp_det rfl rfl (det_ex_agg rfl rfl rfl) <|
     rwp_det rfl rfl (det_ex_c rfl rfl rfl) <|
     rwp_op rfl rfl (ope_alloc rfl zr38) ?_
    rintro _ _ ⟨b4, rfl, rfl⟩
    refine rwp_det0 rfl rfl (det_store rfl sz38 rfl rfl rfl (st_row 0 rfl rfl)) <|
     rMv rfl <|
     rwp_nil <|
     awp_seq <|
     sReg rfl <|
     rMv rfl <|
     rwp_det rfl rfl (det_neq rfl rfl rfl) <|
     rwp_nil <|
     awp_cond rfl (fun c4 => ?_) (fun c4 => ?_)
    ·try simp only [sx] at c4
     refine sReg rfl <|
      rMv rfl <|
      rMv rfl <|
      rwp_nil <|
      awp_weak _ (Weak.mem [false, false, false, false, true, true, true, true] rfl) <|
      awp_ret <|
      fin1 (rs_c rfl) ?_
     exact ⟨by rw [storeE_2 c1 (by omega) c4], rfl⟩
    ·try simp only [sx] at c4
     refine awp_skip <|
      awp_seq <|
      sReg rfl <|
      rwp_det rfl rfl (det_field_lit rfl fd46_6 rfl) <|
      rwp_det rfl rfl (det_load_agg rfl agg44 rfl (ptr_row 3 rfl) rfl) <|
      rwp_det rfl rfl (det_call rfl ok166 (expr_IsCondition s.E) ⟨VLe.refl _, rfl, trivial⟩) <|
      rMv rfl <|
      rLz [] rfl gv1 trivial (fun g12_3 => det_load_agg rfl agg38 rfl (ptr_row 0 rfl) rfl) rfl <|
      rLz [] rfl gv1 trivial (fun g12_3 => det_load_agg rfl agg38 rfl (ptr_row 2 rfl) rfl) rfl <|
      rLz [(63, _), (64, _)] rfl gv1 ⟨rfl, rfl, rfl, rfl, trivial⟩ (fun g12_3 => det_aneq rfl fl38 rfl rfl rfl) rfl <|
      rwp_det rfl rfl (det_or rfl rfl rfl rfl (fun h => (lzf h))) <|
      rwp_nil <|
      awp_cond rfl (fun c5 => ?_) (fun c5 => ?_)
     ·have h10 := st10_t c5
      rw [hT] at h10
      refine sReg rfl <|
       rMv rfl <|
       rwp_nil <|
       awp_weak _ (Weak.mem [false, false, false, false, true, true, true, true] rfl) <|
       awp_ret <|
       fin1 (rs_c rfl) ?_
      exact ⟨by rw [storeE_10 c1 (by omega) c4 h10], rfl⟩
     ·have h10 := st10_f c5
      rw [hT] at h10
      refine awp_skip <|
       sReg rfl <|
       rMv rfl <|
       rwp_nil <|
       awp_weak _ (Weak.mem [false, false, false, false, true, true, true, true] rfl) <|
       awp_ret <|
       fin1 (rs_c rfl) ?_
      exact ⟨by rw [storeE_0 c1 (by omega) c4 h10], rfl⟩

theorem ck_loop (b : Nat) (svL svS svP : Value) (n : Ns) (U S : List ByteArray) (W : List Int) (s : St) (hn : n.Ok) (hU : U.length ≤ 1000000) :
    Con cfg 164 [vP b, vSt s] (ckN b svL svS svP n U S W) fun r μ' => r = vI (loopE n.Bufs U s) ∧ μ' = ckN b svL svS svP n U S W := by
 refine con_intro Tryz.func164 rfl Tryz.ntmps164 Tryz.results164 rfl ?_
 intro z hz
 refine sReg rfl <|
  rwp_op rfl rfl (ope_box rfl rfl) ?_
 rintro _ _ ⟨b1, rfl, rfl⟩
 refine rMv rfl <|
  rwp_nil <|
  awp_seq <|
  sReg rfl <|
  rwp_det rfl rfl (det_field_lit rfl fd46_1 rfl) <|
  rwp_det rfl rfl (det_load_one rfl one9 rfl (ptr_row 0 rfl) rfl) <|
  rwp_det rfl rfl (det_call rfl ok49 (lexer_IsName _) ⟨VLe.refl _, rfl, trivial⟩) <|
  rwp_det rfl rfl (det_not rfl rfl) <|
  rwp_nil <|
  awp_cond rfl (fun c1 => ?_) (fun c1 => ?_)
 ·try simp only [sx] at c1
  refine sReg rfl <|
   rMv rfl <|
   rwp_nil <|
   awp_weak _ (Weak.mem [false, true, true, true, true] rfl) <|
   awp_ret <|
   fin1 (rs_c rfl) ?_
  exact ⟨by rw [loopE_7 c1], rfl⟩
 ·try simp only [sx] at c1
  refine awp_skip <|
   awp_seq <|
   awp_seq <|
   awp_draw_c 12 1 [⟨0, .q []⟩, ⟨1, .q []⟩, ⟨2, .q []⟩, ⟨3, .q [2]⟩, ⟨4, .q []⟩, ⟨5, .q [1]⟩, ⟨6, .q []⟩, ⟨7, .q []⟩, ⟨8, .q []⟩, ⟨9, .q []⟩, ⟨10, .e 0 []⟩, ⟨11, .e 0 []⟩] mixed (by kernel_rfl) (by kernel_rfl) rfl rfl rfl <|
   fx_skip rfl <|
   fx_skip rfl <|
   fx_skip rfl <|
   fx_skip rfl <|
   fx_skip rfl <|
   fx_skip rfl <|
   fx_skip rfl <|
   fx_skip rfl <|
   fx_skip rfl <|
   fx_skip rfl <|
   fx_skip rfl <|
   fx_skip rfl <|
   fx_nil <|
   sq_det rfl (by decide) rfl rfl (det_move rfl rfl) <|
   sq_det rfl (by decide) rfl rfl (det_nilcheck_ptr rfl rfl) <|
   sq_det rfl (by decide) rfl rfl (det_field_lit rfl fd123_0 rfl) <|
   sq_det rfl (by decide) rfl rfl (det_load_agg rfl agg25 rfl (ptr_row 0 rfl) rfl) <|
   sq_det rfl (by decide) rfl rfl (det_field_lit rfl fd46_1 rfl) <|
   sq_det rfl (by decide) rfl rfl (det_load_one rfl one9 rfl (ptr_row 0 rfl) rfl) <|
   sq_det rfl (by decide) rfl rfl (det_call rfl ok101 (loopnest_Buffer n s.Name hn) ⟨VLe.refl _, rfl, VLe.refl _, rfl, trivial⟩) <|
   sq_det rfl (by decide) rfl rfl (det_move_tup rfl rfl) <|
   sq_det rfl (by decide) rfl rfl (det_ex_agg rfl rfl rfl) <|
   sq_det rfl (by decide) rfl rfl (det_ex_c rfl rfl rfl) <|
   sq_op rfl rfl (by decide) rfl rfl (ope_allocN [none, none, none, none, none, none, some 1, none] rfl zr65 rfl) ?_
  rintro _ _ ⟨b2, rfl, rfl⟩
  refine ⟨_, rfl, ?_⟩
  refine sq_op0 rfl rfl (by decide) rfl rfl (det_store rfl sz65 rfl rfl rfl (st_row 0 rfl rfl)) ?_
  rintro _ _ ⟨rfl, rfl⟩
  refine ⟨_, rfl, ?_⟩
  refine sq_nil rfl <|
   rMv rfl <|
   rwp_nil <|
   awp_seq <|
   awp_draw 10 mixed (by kernel_rfl) rfl rfl <|
   td_det rfl rfl (det_move rfl rfl) <|
   td_det rfl rfl (det_move rfl rfl) <|
   td_lazy [] rfl rfl rfl rfl gv1 trivial (fun g4_1 => det_move rfl rfl) rfl <|
   td_lazy [(23, _)] rfl rfl rfl rfl gv1 ⟨rfl, rfl, trivial⟩ (fun g4_1 => det_nilcheck_ptr rfl rfl) rfl <|
   td_lazy [(24, _)] rfl rfl rfl rfl gv1 ⟨rfl, rfl, trivial⟩ (fun g4_1 => det_field_lit rfl fd123_1 rfl) rfl <|
   td_lazy [(25, _)] rfl rfl rfl rfl gv1 ⟨rfl, rfl, trivial⟩ (fun g4_1 => det_load_one rfl one105 rfl (ptr_row 2 rfl) rfl) rfl <|
   td_lazy [] rfl rfl rfl rfl gv1 trivial (fun g4_1 => det_field_lit rfl fd46_1 rfl) rfl <|
   td_lazy [(27, _)] rfl rfl rfl rfl gv1 ⟨rfl, rfl, trivial⟩ (fun g4_1 => det_load_one rfl one9 rfl (ptr_row 1 rfl) rfl) rfl <|
   td_lazy [(26, _), (28, _)] rfl rfl rfl rfl gv1 ⟨rfl, rfl, rfl, rfl, trivial⟩ (fun g4_1 => det_call_lend 3 rfl ok143 rfl (slices_Contains_str U s.Name hU) rfl ⟨.inl ⟨rfl, rfl⟩, .inr ⟨VLe.refl _, rfl⟩, trivial⟩) rfl <|
   td_det rfl rfl (det_or rfl rfl rfl rfl (fun h => (lzf h))) <|
   td_nil <|
   rwp_nil <|
   awp_cond rfl (fun c2 => ?_) (fun c2 => ?_)
  ·try simp only [sx] at c2
   refine sReg rfl <|
    rMv rfl <|
    rwp_nil <|
    awp_weak _ (Weak.mem [false, false, true, true, true, true] rfl) <|
    awp_ret <|
    fin1 (rs_c rfl) ?_
   exact ⟨by rw [loopE_8 c1 c2], rfl⟩
  ·try simp only [sx] at c2
   have h8 : ¬ (hasBf n.Bufs s.Name = true ∨ hasB U s.Name = true) := by rw [c2.1, c2.2]; simp
   refine awp_skip <|
    awp_seq <|
    sReg rfl <|
    rwp_det rfl rfl (det_field_lit rfl fd46_2 rfl) <|
    rwp_det rfl rfl (det_load_one rfl one3 rfl (ptr_row 1 rfl) rfl) <|
    rwp_det rfl rfl (det_lss rfl rfl rfl) <|
    rMv rfl <|
    rLz [] rfl gv1 trivial (fun g6_3 => det_field_lit rfl fd46_2 rfl) rfl <|
    rLz [(35, _)] rfl gv1 ⟨rfl, rfl, trivial⟩ (fun g6_3 => det_load_one rfl one3 rfl (ptr_row 1 rfl) rfl) rfl <|
    rLz [(36, _)] rfl gv1 ⟨rfl, rfl, trivial⟩ (fun g6_3 => det_gtr rfl rfl rfl) rfl <|
    rwp_det rfl rfl (det_or rfl rfl rfl rfl (fun h => (lzf h))) <|
    rMv rfl <|
    rLz [] rfl gv1 trivial (fun g6_8 => det_field_lit rfl fd46_3 rfl) rfl <|
    rLz [(40, _)] rfl gv1 ⟨rfl, rfl, trivial⟩ (fun g6_8 => det_load_one rfl one3 rfl (ptr_row 1 rfl) rfl) rfl <|
    rLz [(41, _)] rfl gv1 ⟨rfl, rfl, trivial⟩ (fun g6_8 => det_lss rfl rfl rfl) rfl <|
    rwp_det rfl rfl (det_or rfl rfl rfl rfl (fun h => (lzf h))) <|
    rMv rfl <|
    rLz [] rfl gv1 trivial (fun g6_13 => det_field_lit rfl fd46_3 rfl) rfl <|
    rLz [(45, _)] rfl gv1 ⟨rfl, rfl, trivial⟩ (fun g6_13 => det_load_one rfl one3 rfl (ptr_row 1 rfl) rfl) rfl <|
    rLz [(46, _)] rfl gv1 ⟨rfl, rfl, trivial⟩ (fun g6_13 => det_gtr rfl rfl rfl) rfl <|
    rwp_det rfl rfl (det_or rfl rfl rfl rfl (fun h => (lzf h))) <|
    rwp_nil <|
    awp_cond rfl (fun c3 => ?_) (fun c3 => ?_)
   ·try simp only [sx] at c3
    refine sReg rfl <|
     rMv rfl <|
     rwp_nil <|
     awp_weak _ (Weak.mem [false, false, true, true, true, true] rfl) <|
     awp_ret <|
     fin1 (rs_c rfl) ?_
    exact ⟨by rw [loopE_1 c1 h8 (by omega)], rfl⟩
   ·try simp only [sx] at c3
    refine awp_skip <|
     sReg rfl <|
     rMv rfl <|
     rwp_nil <|
     awp_weak _ (Weak.mem [false, false, true, true, true, true] rfl) <|
     awp_ret <|
     fin1 (rs_c rfl) ?_
    exact ⟨by rw [loopE_0 c1 h8 (by omega)], rfl⟩

theorem loopnest_isZero (e : Ex) (he : e.wt ≤ 4294967296) :
    Pur cfg 187 [vE e] (vB (emptyE e)) := by
 refine con_intro Tryz.func187 rfl Tryz.ntmps187 Tryz.results187 rfl ?_
 intro z hz
 refine sReg rfl <|
  rwp_op rfl rfl (ope_box rfl rfl) ?_
 rintro _ _ ⟨b1, rfl, rfl⟩
 refine rMv rfl <|
  rwp_nil <|
  sReg rfl <|
  rwp_det rfl rfl (det_load_agg rfl agg44 rfl (ptr_row 0 rfl) rfl) <|
  rwp_det rfl rfl (det_buildN [none, none, none, none, none, none, none, none, none, none, some 2, some 4, some 13] rfl zr44 pl44 rfl rfl) <|
  rwp_det rfl rfl (det_call rfl ok205 (expr_Same e zEx he (by decide)) ⟨VLe.refl _, rfl, VLe.refl _, rfl, trivial⟩) <|
  rMv rfl <|
  rwp_nil <|
  awp_ret <|
  fin1 (rs_c rfl) ?_
 exact rfl

theorem loopnest_syntax (s : St) (hs : s.wt ≤ 900000000) :
    Pur cfg 163 [vSt s] (vB (synSt s)) := by
 refine con_intro Tryz.func163 rfl Tryz.ntmps163 Tryz.results163 rfl ?_
 intro z hz
 obtain ⟨hE, hI, hIw, hB, hBw⟩ := St.parts hs
 refine sReg rfl <|
  rwp_op rfl rfl (ope_box rfl rfl) ?_
 rintro _ _ ⟨b1, rfl, rfl⟩
 refine rMv rfl <|
  rwp_nil <|
  awp_seq <|
  awp_draw 17 mixed (by kernel_rfl) rfl rfl <|
  td_det rfl rfl (det_field_lit rfl fd46_0 rfl) <|
  td_det rfl rfl (det_load_one rfl one3 rfl (ptr_row 0 rfl) rfl) <|
  td_det rfl rfl (det_eql rfl rfl rfl) <|
  td_det rfl rfl (det_field_lit rfl fd46_0 rfl) <|
  td_det rfl rfl (det_load_one rfl one3 rfl (ptr_row 0 rfl) rfl) <|
  td_det rfl rfl (det_eql rfl rfl rfl) <|
  td_det rfl rfl (det_move rfl rfl) <|
  td_lazy [] rfl rfl rfl rfl gv1 trivial (fun g1_6 => det_field_lit rfl fd46_0 rfl) rfl <|
  td_lazy [(13, _)] rfl rfl rfl rfl gv1 ⟨rfl, rfl, trivial⟩ (fun g1_6 => det_load_one rfl one3 rfl (ptr_row 0 rfl) rfl) rfl <|
  td_lazy [(14, _)] rfl rfl rfl rfl gv1 ⟨rfl, rfl, trivial⟩ (fun g1_6 => det_eql rfl rfl rfl) rfl <|
  td_det rfl rfl (det_or rfl rfl rfl rfl (fun h => (lzf h))) <|
  td_det rfl rfl (det_field_lit rfl fd46_0 rfl) <|
  td_det rfl rfl (det_load_one rfl one3 rfl (ptr_row 0 rfl) rfl) <|
  td_det rfl rfl (det_eql rfl rfl rfl) <|
  td_det rfl rfl (det_assign rfl rfl) <|
  td_det rfl rfl (det_assign rfl rfl) <|
  td_det rfl rfl (det_assign rfl rfl) <|
  td_nil <|
  rwp_nil <|
  awp_seq <|
  awp_block <|
  sReg rfl <|
  rMv rfl <|
  rwp_det rfl rfl (det_not rfl rfl) <|
  rMv rfl <|
  rLz [] rfl gv1 trivial (fun g2_2 => det_move rfl rfl) rfl <|
  rLz [(24, _)] rfl gv1 ⟨rfl, rfl, trivial⟩ (fun g2_2 => det_not rfl rfl) rfl <|
  rwp_det rfl rfl (det_and rfl rfl rfl (fun h => h) rfl) <|
  rMv rfl <|
  rLz [] rfl gv1 trivial (fun g2_6 => det_move rfl rfl) rfl <|
  rLz [(28, _)] rfl gv1 ⟨rfl, rfl, trivial⟩ (fun g2_6 => det_not rfl rfl) rfl <|
  rwp_det rfl rfl (det_and rfl rfl rfl (fun h => h) rfl) <|
  rMv rfl <|
  rwp_nil <|
  awp_cond rfl (fun c1 => ?_) (fun c1 => ?_)
 ·refine sReg rfl <|
   rMv rfl <|
   rwp_nil <|
   awp_ret <|
   fin1 (rs_c rfl) ?_
  exact congrArg vB (syn_1 c1)
 ·refine sReg rfl <|
   rMv rfl <|
   rMv rfl <|
   rLz [] rfl gv1 trivial (fun g4_1 => det_field_lit rfl fd46_1 rfl) rfl <|
   rLz [(34, _)] rfl gv1 ⟨rfl, rfl, trivial⟩ (fun g4_1 => det_load_one rfl one9 rfl (ptr_row 0 rfl) rfl) rfl <|
   rLz [(35, _)] rfl gv1 ⟨rfl, rfl, trivial⟩ (fun g4_1 => det_sneq rfl rfl rfl) rfl <|
   rwp_det rfl rfl (det_and rfl rfl rfl (fun h => h) rfl) <|
   rMv rfl <|
   rwp_nil <|
   awp_cond rfl (fun c2 => ?_) (fun c2 => ?_)
  ·refine sReg rfl <|
    rMv rfl <|
    rwp_nil <|
    awp_ret <|
    fin1 (rs_c rfl) ?_
   exact congrArg vB (syn_2 c2)
  ·refine sReg rfl <|
    rMv rfl <|
    rwp_det rfl rfl (det_not rfl rfl) <|
    rMv rfl <|
    rLz [] rfl gv1 trivial (fun g6_2 => det_field_lit rfl fd46_2 rfl) rfl <|
    rLz [(42, _)] rfl gv1 ⟨rfl, rfl, trivial⟩ (fun g6_2 => det_load_one rfl one3 rfl (ptr_row 0 rfl) rfl) rfl <|
    rLz [(43, _)] rfl gv1 ⟨rfl, rfl, trivial⟩ (fun g6_2 => det_neq rfl rfl rfl) rfl <|
    rLz [(44, _)] rfl gv1 ⟨rfl, rfl, trivial⟩ (fun g6_2 => det_move rfl rfl) rfl <|
    rLz [] rfl gv2 trivial (fun g6_6 => det_field_lit rfl fd46_3 rfl) rfl <|
    rLz [(46, _)] rfl gv2 ⟨rfl, rfl, trivial⟩ (fun g6_6 => det_load_one rfl one3 rfl (ptr_row 0 rfl) rfl) rfl <|
    rLz [(47, _)] rfl gv2 ⟨rfl, rfl, trivial⟩ (fun g6_6 => det_neq rfl rfl rfl) rfl <|
    rLz [(45, _)] rfl gv1 ⟨rfl, rfl, trivial⟩ (fun g6_2 => det_or rfl rfl rfl rfl (fun h => and_mk (by assumption) (lzf h))) rfl <|
    rwp_det rfl rfl (det_and rfl rfl rfl (fun h => h) rfl) <|
    rMv rfl <|
    rwp_nil <|
    awp_cond rfl (fun c3 => ?_) (fun c3 => ?_)
   ·refine sReg rfl <|
     rMv rfl <|
     rwp_nil <|
     awp_ret <|
     fin1 (rs_c rfl) ?_
    exact congrArg vB (syn_3 c3)
   ·refine sReg rfl <|
     rwp_det rfl rfl (det_field_lit rfl fd46_0 rfl) <|
     rwp_det rfl rfl (det_load_one rfl one3 rfl (ptr_row 0 rfl) rfl) <|
     rwp_det rfl rfl (det_neq rfl rfl rfl) <|
     rMv rfl <|
     rLz [] rfl gv1 trivial (fun g8_3 => det_field_lit rfl fd46_4 rfl) rfl <|
     rLz [(56, _)] rfl gv1 ⟨rfl, rfl, trivial⟩ (fun g8_3 => det_load_one rfl one3 rfl (ptr_row 0 rfl) rfl) rfl <|
     rLz [(57, _)] rfl gv1 ⟨rfl, rfl, trivial⟩ (fun g8_3 => det_neq rfl rfl rfl) rfl <|
     rwp_det rfl rfl (det_and rfl rfl rfl (fun h => h) rfl) <|
     rMv rfl <|
     rwp_nil <|
     awp_cond rfl (fun c4 => ?_) (fun c4 => ?_)
    ·refine sReg rfl <|
      rMv rfl <|
      rwp_nil <|
      awp_ret <|
      fin1 (rs_c rfl) ?_
     exact congrArg vB (syn_4 c4)
    ·refine sReg rfl <|
      rMv rfl <|
      rwp_det rfl rfl (det_not rfl rfl) <|
      rMv rfl <|
      rLz [] rfl gv1 trivial (fun g10_2 => det_field_lit rfl fd46_5 rfl) rfl <|
      rLz [(64, _)] rfl gv1 ⟨rfl, rfl, trivial⟩ (fun g10_2 => det_load_one rfl one34 rfl (ptr_row 0 rfl) rfl) rfl <|
      rLz [(65, _)] rfl gv1 ⟨rfl, rfl, trivial⟩ (fun g10_2 => det_len_slm rfl el34 rfl) rfl <|
      rLz [(66, _)] rfl gv1 ⟨rfl, rfl, trivial⟩ (fun g10_2 => det_gtr rfl rfl rfl) rfl <|
      rwp_det rfl rfl (det_and rfl rfl rfl (fun h => h) rfl) <|
      rMv rfl <|
      rwp_nil <|
      awp_cond rfl (fun c5 => ?_) (fun c5 => ?_)
     ·refine sReg rfl <|
       rMv rfl <|
       rwp_nil <|
       awp_ret <|
       fin1 (rs_c rfl) ?_
      exact congrArg vB (syn_5 c5)
     ·refine sReg rfl <|
       rMv rfl <|
       rMv rfl <|
       rLz [] rfl gv1 trivial (fun g12_1 => det_field_lit rfl fd46_6 rfl) rfl <|
       rLz [(72, _)] rfl gv1 ⟨rfl, rfl, trivial⟩ (fun g12_1 => det_load_agg rfl agg44 rfl (ptr_row 0 rfl) rfl) rfl <|
       rLz [(73, _)] rfl gv1 ⟨rfl, rfl, trivial⟩ (fun g12_1 => det_call rfl ok187 (loopnest_isZero s.E (by omega)) ⟨VLe.refl _, rfl, trivial⟩) rfl <|
       rLz [(74, _)] rfl gv1 ⟨rfl, rfl, trivial⟩ (fun g12_1 => det_not rfl rfl) rfl <|
       rwp_det rfl rfl (det_and rfl rfl rfl (fun h => h) rfl) <|
       rMv rfl <|
       rwp_nil <|
       awp_cond rfl (fun c6 => ?_) (fun c6 => ?_)
      ·refine sReg rfl <|
        rMv rfl <|
        rwp_nil <|
        awp_ret <|
        fin1 (rs_c rfl) ?_
       exact congrArg vB (syn_6 c6)
      ·refine awp_skip <|
        sReg rfl <|
        rMv rfl <|
        rwp_det rfl rfl (det_not rfl rfl) <|
        rMv rfl <|
        rLz [] rfl gv1 trivial (fun g14_2 => det_field_lit rfl fd46_7 rfl) rfl <|
        rLz [(80, _)] rfl gv1 ⟨rfl, rfl, trivial⟩ (fun g14_2 => det_load_one rfl one23 rfl (ptr_row 0 rfl) rfl) rfl <|
        rLz [(81, _)] rfl gv1 ⟨rfl, rfl, trivial⟩ (fun g14_2 => det_len_slm rfl el23 rfl) rfl <|
        rLz [(82, _)] rfl gv1 ⟨rfl, rfl, trivial⟩ (fun g14_2 => det_eql rfl rfl rfl) rfl <|
        rwp_det rfl rfl (det_or rfl rfl rfl rfl (fun h => (lzf h))) <|
        rMv rfl <|
        rwp_nil <|
        awp_ret <|
        fin1 (rs_c rfl) ?_
       exact congrArg vB (syn_7 c1 c2 c3 c4 c5 c6)

theorem ck_statement (b : Nat) (svL svS svP : Value) (n : Ns) (U S : List ByteArray) (W : List Int) (s : St) (hn : n.Ok) (hS : S.length ≤ 1000000) (hU : U.length ≤ 1000000) (hs : s.wt ≤ 900000000) :
    Con cfg 129 [vP b, vSt s] (ckN b svL svS svP n U S W) fun r μ' => r = vI (stE n.Bufs U S s) ∧ μ' = ckN b svL svS svP n U S W := by
 refine con_intro Tryz.func129 rfl Tryz.ntmps129 Tryz.results129 rfl ?_
 intro z hz
 obtain ⟨hE, hI, hIw, hB, hBw⟩ := St.parts hs
 refine sReg rfl <|
  rwp_op rfl rfl (ope_box rfl rfl) ?_
 rintro _ _ ⟨b1, rfl, rfl⟩
 refine rMv rfl <|
  rwp_nil <|
  awp_seq <|
  sReg rfl <|
  rwp_det rfl rfl (det_load_agg rfl agg46 rfl (ptr_row 0 rfl) rfl) <|
  rwp_det rfl rfl (det_call rfl ok163 (loopnest_syntax s hs) ⟨VLe.refl _, rfl, trivial⟩) <|
  rwp_det rfl rfl (det_not rfl rfl) <|
  rwp_nil <|
  awp_cond rfl (fun c1 => ?_) (fun c1 => ?_)
 ·try simp only [sx] at c1
  refine sReg rfl <|
   rMv rfl <|
   rwp_nil <|
   awp_weak _ (Weak.mem [false, true, true, true, true] rfl) <|
   awp_ret <|
   fin1 (rs_c rfl) ?_
  exact ⟨by rw [stE_5 c1], rfl⟩
 ·try simp only [sx] at c1
  refine awp_skip <|
   awp_seq <|
   sReg rfl <|
   rwp_det rfl rfl (det_field_lit rfl fd46_0 rfl) <|
   rwp_det rfl rfl (det_load_one rfl one3 rfl (ptr_row 0 rfl) rfl) <|
   rwp_nil <|
   awp_block <|
   sReg rfl <|
   rwp_det rfl rfl (det_eql rfl rfl rfl) <|
   rMv rfl <|
   rwp_nil <|
   awp_cond rfl (fun c2 => ?_) (fun c2 => ?_)
  ·try simp only [sx] at c2
   refine sReg rfl <|
    rMv rfl <|
    rwp_det rfl rfl (det_load_agg rfl agg46 rfl (ptr_row 0 rfl) rfl) <|
    rwp_det rfl rfl (det_call_same [1, 1, 1, 1] rfl ok164 (ck_loop b svL svS svP n U S W s hn hU) ⟨VLe.refl _, rfl, VLe.refl _, rfl, trivial⟩ rfl) <|
    rMv rfl <|
    rwp_nil <|
    awp_weak _ (Weak.mem [false, true, true, true, true] rfl) <|
    awp_ret <|
    fin1 (rs_c rfl) ?_
   exact ⟨by rw [stE_l c1 c2], rfl⟩
  ·try simp only [sx] at c2
   refine sReg rfl <|
    rwp_det rfl rfl (det_eql rfl rfl rfl) <|
    rMv rfl <|
    rwp_nil <|
    awp_cond rfl (fun c3 => ?_) (fun c3 => ?_)
   ·try simp only [sx] at c3
    refine awp_seq <|
     sReg rfl <|
     rMv rfl <|
     rwp_det rfl rfl (det_field_lit rfl fd46_6 rfl) <|
     rwp_det rfl rfl (det_load_agg rfl agg44 rfl (ptr_row 0 rfl) rfl) <|
     rwp_det rfl rfl (det_call_same [1, 1, 1, 1] rfl ok165 (ck_expression b svL svS svP n U S W s.E hn hS (by omega)) ⟨VLe.refl _, rfl, VLe.refl _, rfl, trivial⟩ rfl) <|
     rwp_det rfl rfl (det_move_tup rfl rfl) <|
     rwp_det rfl rfl (det_ex_agg rfl rfl rfl) <|
     rwp_det rfl rfl (det_ex_c rfl rfl rfl) <|
     rwp_op rfl rfl (ope_alloc rfl zr38) ?_
    rintro _ _ ⟨b2, rfl, rfl⟩
    refine rwp_det0 rfl rfl (det_store rfl sz38 rfl rfl rfl (st_row 0 rfl rfl)) <|
     rMv rfl <|
     rwp_nil <|
     sReg rfl <|
     rMv rfl <|
     rwp_det rfl rfl (det_neq rfl rfl rfl) <|
     rwp_nil <|
     awp_cond rfl (fun c4 => ?_) (fun c4 => ?_)
    ·try simp only [sx] at c4
     refine sReg rfl <|
      rMv rfl <|
      rMv rfl <|
      rwp_nil <|
      awp_weak _ (Weak.mem [false, false, true, true, true, true] rfl) <|
      awp_ret <|
      fin1 (rs_c rfl) ?_
     exact ⟨by rw [stE_i c1 c3, ifE_x c4], rfl⟩
    ·try simp only [sx] at c4
     refine awp_skip <|
      awp_seq <|
      sReg rfl <|
      rwp_det rfl rfl (det_field_lit rfl fd46_6 rfl) <|
      rwp_det rfl rfl (det_load_agg rfl agg44 rfl (ptr_row 1 rfl) rfl) <|
      rwp_det rfl rfl (det_call rfl ok166 (expr_IsCondition s.E) ⟨VLe.refl _, rfl, trivial⟩) <|
      rwp_det rfl rfl (det_not rfl rfl) <|
      rwp_nil <|
      awp_cond rfl (fun c5 => ?_) (fun c5 => ?_)
     ·try simp only [sx] at c5
      refine sReg rfl <|
       rMv rfl <|
       rwp_nil <|
       awp_weak _ (Weak.mem [false, false, true, true, true, true] rfl) <|
       awp_ret <|
       fin1 (rs_c rfl) ?_
      exact ⟨by rw [stE_i c1 c3, ifE_10 c4 c5], rfl⟩
     ·try simp only [sx] at c5
      refine awp_skip <|
       sReg rfl <|
       rMv rfl <|
       rwp_nil <|
       awp_weak _ (Weak.mem [false, false, true, true, true, true] rfl) <|
       awp_ret <|
       fin1 (rs_c rfl) ?_
      exact ⟨by rw [stE_i c1 c3, ifE_0 c4 c5], rfl⟩
   ·try simp only [sx] at c3
    refine awp_skip <|
     sReg rfl <|
     rMv rfl <|
     rwp_det rfl rfl (det_load_agg rfl agg46 rfl (ptr_row 0 rfl) rfl) <|
     rwp_det rfl rfl (det_call_same [1, 1, 1, 1] rfl ok167 (ck_store b svL svS svP n U S W s hn hS hs) ⟨VLe.refl _, rfl, VLe.refl _, rfl, trivial⟩ rfl) <|
     rMv rfl <|
     rwp_nil <|
     awp_weak _ (Weak.mem [false, true, true, true, true] rfl) <|
     awp_ret <|
     fin1 (rs_c rfl) ?_
    exact ⟨by rw [stE_s c1 c2 c3], rfl⟩

set_option maxHeartbeats 2000000 in
theorem ck_statements_step (b : Nat) (svL svS svP : Value) (n : Ns) (U S : List ByteArray) (W : List Int) (l : List St) (hn : n.Ok) (hU : U.length + stsN l ≤ 1000000) (hS : S.length + stsN l ≤ 1000000) (hW : W.length + stsN l ≤ 1000000) (hl : stsWt l ≤ 536870912) (ih : ∀ s, s ∈ l → ∀ (svL svS svP : Value) (U S : List ByteArray) (W : List Int), U.length + stsN s.Body ≤ 1000000 → S.length + stsN s.Body ≤ 1000000 → W.length + stsN s.Body ≤ 1000000 → Con cfg 82 [vP b, vSts s.Body] (ckN b svL svS svP n U S W) fun r μ' => ∃ svL' svS' svP' U' S' W', r = vI (chkL n.Bufs U S W 0 s.Body).E ∧ ((chkL n.Bufs U S W 0 s.Body).E = 0 → U' = (chkL n.Bufs U S W 0 s.Body).U ∧ S' = S ∧ W' = W) ∧ (¬ (chkL n.Bufs U S W 0 s.Body).E = 0 → W' = (chkL n.Bufs U S W 0 s.Body).W) ∧ μ' = ckN b svL' svS' svP' n U' S' W') :
    Con cfg 82 [vP b, vSts l] (ckN b svL svS svP n U S W) fun r μ' => ∃ svL' svS' svP' U' S' W', r = vI (chkL n.Bufs U S W 0 l).E ∧ ((chkL n.Bufs U S W 0 l).E = 0 → U' = (chkL n.Bufs U S W 0 l).U ∧ S' = S ∧ W' = W) ∧ (¬ (chkL n.Bufs U S W 0 l).E = 0 → W' = (chkL n.Bufs U S W 0 l).W) ∧ μ' = ckN b svL' svS' svP' n U' S' W' := by
 refine con_intro Tryz.func82 rfl Tryz.ntmps82 Tryz.results82 rfl ?_
 intro z hz
 have hll := stsWt_len l
 have hlN := stsN_len l
 refine sReg rfl <|
  rMv rfl <|
  rwp_nil <|
  awp_seq <|
  sReg rfl <|
  rMv rfl <|
  rwp_det rfl rfl (det_len_slm rfl el23 rfl) <|
  rMv rfl <|
  rwp_nil <|
  awp_block <|
  awp_weak ⟨[(12, .c _), (0, .c _), (1, .c _), (11, .c _)], [_, _, _, _]⟩ (Weak.mk [true, true, true, true] ⟨VLe.of_eq rfl, VLe.of_eq rfl, VLe.of_eq rfl, VLe.of_eq rfl, trivial⟩ rfl) <|
  awp_loop_k 1 4 rfl rfl (Nat × Value × Value × Value × List ByteArray) (fun ⟨k, vL, vS, vP_, u⟩ => [(12, vI k)]) (fun ⟨k, vL, vS, vP_, u⟩ => [E.row b 123 [.sl 8 (n.Bufs.map Bf.cells), .sl 20 (n.Body.map St.cells), .lit vL, .lit vS, .lit vP_], E.vec vL 9 1 (u.map fun s => [cS s]), E.vec vS 9 1 (S.map fun s => [cS s]), E.vec vP_ 3 1 (W.map fun i => [cI i])]) (fun ⟨k, vL, vS, vP_, u⟩ => k ≤ l.length ∧ (u.length + stsN (l.drop k) ≤ 1000000) ∧ ((chkL n.Bufs U S W 0 l) = chkL n.Bufs u S W k (l.drop k))) (fun ⟨k, vL, vS, vP_, u⟩ => l.length - k) ⟨⟨0, svL, svS, svP, U⟩, ⟨by omega, by simpa using hU, rfl⟩, Weak.mk [true, true, true, true] ⟨VLe.refl _, VLe.refl _, VLe.refl _, VLe.refl _, trivial⟩ rfl⟩ ?_
 rintro ⟨k, vL, vS, vP_, u⟩ ⟨hk, hub, hp⟩
 show AWP _ _ _ _ _ ⟨[(12, vI k)] ++ _, [E.row b 123 [.sl 8 (n.Bufs.map Bf.cells), .sl 20 (n.Body.map St.cells), .lit vL, .lit vS, .lit vP_], E.vec vL 9 1 (u.map fun s => [cS s]), E.vec vS 9 1 (S.map fun s => [cS s]), E.vec vP_ 3 1 (W.map fun i => [cI i])] ++ _⟩
 refine sReg rfl <|
  rwp_det rfl rfl (det_lss rfl rfl rfl) <|
  rwp_nil <|
  awp_seq <|
  awp_cond rfl (fun c1 => ?_) (fun c1 => ?_)
 ·try simp only [sx] at c1
  obtain ⟨s, hs⟩ := ex_get l k (by omega)
  have hsw := stsWt_mem (mem_of_get hs)
  have hsb := St.body_wt s
  have hsn := stsN_drop hs
  have hse := stN_eq s
  have hsm := stsN_mem (mem_of_get hs)
  have hcl := chkS_len n.Bufs s u S (W ++ [(k : Int)])
  refine awp_skip <|
   awp_seq <|
   awp_block <|
   sReg rfl <|
   rMv rfl <|
   rMv rfl <|
   rwp_nil <|
   sReg rfl <|
   rMv rfl <|
   rMv rfl <|
   rwp_det rfl rfl (det_index_sl rfl el23 rfl rfl (by omega) (getmS (by assumption))) <|
   rwp_det rfl rfl (det_load_agg rfl agg46 rfl ptr_imm rfl) <|
   rwp_op rfl rfl (ope_allocN [none, none, none, none, none, some 4, none, none, none, none, none, none, none, none, none, none, some 2, some 4, some 13, some 20] rfl zr46 rfl) ?_
  rintro _ _ ⟨b1, rfl, rfl⟩
  refine rwp_det0 rfl rfl (det_store rfl sz46 rfl rfl rfl (st_row 0 rfl rfl)) <|
   rwp_nil <|
   sReg rfl <|
   rMv rfl <|
   rMv rfl <|
   rwp_det rfl rfl (det_nilcheck_ptr rfl rfl) <|
   rwp_det rfl rfl (det_field_lit rfl fd123_3 rfl) <|
   rwp_det rfl rfl (det_load_one rfl one26 rfl (ptr_row 1 rfl) rfl) <|
   rMv rfl <|
   rwp_det rfl rfl (det_bslice rfl el26 zr3 rfl rfl rfl rfl) <|
   rwp_op rfl rfl (ope_append 4 rfl el26 rfl rfl rfl (by simp only [List.length_map, List.length_append, List.length_cons, List.length_nil]; omega) (by simp only [List.length_map, List.length_append, List.length_cons, List.length_nil]; omega)) ?_
  rintro _ _ ⟨sv2, rfl, rfl⟩
  refine rwp_det rfl rfl (det_nilcheck_ptr rfl rfl) <|
   rwp_det rfl rfl (det_field_lit rfl fd123_3 rfl) <|
   rwp_det0 rfl rfl (det_store rfl sz26 rfl rfl rfl (st_row 1 rfl rfl)) <|
   rwp_nil <|
   awp_seq <|
   awp_seq <|
   awp_weak _ (Weak.vecEq 4 rfl (rows' := (W ++ [(k : Int)]).map fun i => [cI i]) (by first | rfl | simp | rw [List.take_of_length_le (by simp)])) <|
   awp_region rfl <|
   rMv rfl <|
   rwp_det rfl rfl (det_load_agg rfl agg46 rfl (ptr_row 0 rfl) rfl) <|
   rwp_det rfl rfl (det_call_same [1, 1, 1, 1] rfl ok129 (ck_statement b vL vS _ n u S (W ++ [(k : Int)]) s hn (by omega) (by omega) (by omega)) ⟨VLe.refl _, rfl, VLe.refl _, rfl, trivial⟩ rfl) <|
   rMv rfl <|
   rwp_nil <|
   sReg rfl <|
   rMv rfl <|
   rwp_det rfl rfl (det_neq rfl rfl rfl) <|
   rwp_nil <|
   awp_cond rfl (fun c2 => ?_) (fun c2 => ?_)
  ·try simp only [sx] at c2
   have hx0 := chkS_no (here := W ++ [(k : Int)]) (B := n.Bufs) (U := u) (sc := S) (s := s) c2
   refine sReg rfl <|
    rMv rfl <|
    rMv rfl <|
    rwp_nil <|
    awp_weak _ (Weak.mem [false, true, true, true, true] rfl) <|
    awp_ret <|
    fin1 (rs_c rfl) ?_
   refine ⟨_, _, _, _, _, _, ?_, fun h0 => ?_, fun _ => ?_, rfl⟩
   · rw [chkL_no hs hp (by rw [hx0]; exact c2), hx0]
   · rw [chkL_no hs hp (by rw [hx0]; exact c2), hx0] at h0; exact absurd h0 c2
   · rw [chkL_no hs hp (by rw [hx0]; exact c2), hx0]
  ·try simp only [sx] at c2
   have hin := chkS_in (here := W ++ [(k : Int)]) (B := n.Bufs) (U := u) (sc := S) (s := s) c2
   refine awp_skip <|
    sReg rfl <|
    rMv rfl <|
    rwp_det rfl rfl (det_nilcheck_ptr rfl rfl) <|
    rwp_det rfl rfl (det_field_lit rfl fd123_2 rfl) <|
    rwp_det rfl rfl (det_load_one rfl one105 rfl (ptr_row 1 rfl) rfl) <|
    rwp_det rfl rfl (det_len_vec 3 rfl el105 rfl rfl) <|
    rMv rfl <|
    rwp_nil <|
    awp_seq <|
    sReg rfl <|
    rwp_det rfl rfl (det_field_lit rfl fd46_0 rfl) <|
    rwp_det rfl rfl (det_load_one rfl one3 rfl (ptr_row 0 rfl) rfl) <|
    rwp_det rfl rfl (det_eql rfl rfl rfl) <|
    rwp_nil <|
    awp_cond rfl (fun c3 => ?_) (fun c3 => ?_)
   ·try simp only [sx] at c3
    rw [nextU_yes c3, nextU_yes c3] at hin
    refine awp_seq <|
     awp_draw_c 9 0 [⟨0, .q []⟩, ⟨1, .q []⟩, ⟨2, .q []⟩, ⟨3, .q []⟩, ⟨4, .q [1]⟩, ⟨5, .q []⟩, ⟨6, .q [0]⟩, ⟨7, .q []⟩, ⟨8, .e 2 []⟩] mixed (by kernel_rfl) (by kernel_rfl) rfl rfl rfl <|
     fx_skip rfl <|
     fx_skip rfl <|
     fx_skip rfl <|
     fx_skip rfl <|
     fx_skip rfl <|
     fx_skip rfl <|
     fx_skip rfl <|
     fx_skip rfl <|
     fx_skip rfl <|
     fx_nil <|
     sq_det rfl (by decide) rfl rfl (det_move rfl rfl) <|
     sq_det rfl (by decide) rfl rfl (det_move rfl rfl) <|
     sq_det rfl (by decide) rfl rfl (det_nilcheck_ptr rfl rfl) <|
     sq_det rfl (by decide) rfl rfl (det_field_lit rfl fd123_1 rfl) <|
     sq_det rfl (by decide) rfl rfl (det_load_one rfl one105 rfl (ptr_row 0 rfl) rfl) <|
     sq_det rfl (by decide) rfl rfl (det_field_lit rfl fd46_1 rfl) <|
     sq_det rfl (by decide) rfl rfl (det_load_one rfl one9 rfl (ptr_row 0 rfl) rfl) <|
     sq_det rfl (by decide) rfl rfl (det_bslice rfl el105 zr9 rfl rfl rfl rfl) <|
     sq_op rfl rfl (by decide) rfl rfl (ope_append 0 rfl el105 rfl rfl rfl (by simp only [List.length_map, List.length_append, List.length_cons, List.length_nil]; omega) (by simp only [List.length_map, List.length_append, List.length_cons, List.length_nil]; omega)) ?_
    rintro _ _ ⟨sv3, rfl, rfl⟩
    refine ⟨_, rfl, ?_⟩
    refine sq_nil rfl <|
     rwp_det rfl rfl (det_nilcheck_ptr rfl rfl) <|
     rwp_det rfl rfl (det_field_lit rfl fd123_1 rfl) <|
     rwp_det0 rfl rfl (det_store rfl sz105 rfl rfl rfl (st_row 1 rfl rfl)) <|
     rwp_nil <|
     awp_weak _ (Weak.vecEq 2 rfl (rows' := (u ++ [s.Name]).map fun s => [cS s]) (by first | rfl | simp | rw [List.take_of_length_le (by simp)])) <|
     awp_draw_c 9 0 [⟨0, .q []⟩, ⟨1, .q []⟩, ⟨2, .q []⟩, ⟨3, .q []⟩, ⟨4, .q [1]⟩, ⟨5, .q []⟩, ⟨6, .q [0]⟩, ⟨7, .q []⟩, ⟨8, .e 3 []⟩] mixed (by kernel_rfl) (by kernel_rfl) rfl rfl rfl <|
     fx_skip rfl <|
     fx_skip rfl <|
     fx_skip rfl <|
     fx_skip rfl <|
     fx_skip rfl <|
     fx_skip rfl <|
     fx_skip rfl <|
     fx_skip rfl <|
     fx_skip rfl <|
     fx_nil <|
     sq_det rfl (by decide) rfl rfl (det_move rfl rfl) <|
     sq_det rfl (by decide) rfl rfl (det_move rfl rfl) <|
     sq_det rfl (by decide) rfl rfl (det_nilcheck_ptr rfl rfl) <|
     sq_det rfl (by decide) rfl rfl (det_field_lit rfl fd123_2 rfl) <|
     sq_det rfl (by decide) rfl rfl (det_load_one rfl one105 rfl (ptr_row 0 rfl) rfl) <|
     sq_det rfl (by decide) rfl rfl (det_field_lit rfl fd46_1 rfl) <|
     sq_det rfl (by decide) rfl rfl (det_load_one rfl one9 rfl (ptr_row 0 rfl) rfl) <|
     sq_det rfl (by decide) rfl rfl (det_bslice rfl el105 zr9 rfl rfl rfl rfl) <|
     sq_op rfl rfl (by decide) rfl rfl (ope_append 0 rfl el105 rfl rfl rfl (by simp only [List.length_map, List.length_append, List.length_cons, List.length_nil]; omega) (by simp only [List.length_map, List.length_append, List.length_cons, List.length_nil]; omega)) ?_
    rintro _ _ ⟨sv4, rfl, rfl⟩
    refine ⟨_, rfl, ?_⟩
    refine sq_nil rfl <|
     rwp_det rfl rfl (det_nilcheck_ptr rfl rfl) <|
     rwp_det rfl rfl (det_field_lit rfl fd123_2 rfl) <|
     rwp_det0 rfl rfl (det_store rfl sz105 rfl rfl rfl (st_row 1 rfl rfl)) <|
     rwp_nil <|
     awp_seq <|
     awp_seq <|
     awp_weak _ (Weak.vecEq 3 rfl (rows' := (S ++ [s.Name]).map fun s => [cS s]) (by first | rfl | simp | rw [List.take_of_length_le (by simp)])) <|
     awp_weak ⟨_, E.row _ _ _ :: ckN b _ _ _ n (u ++ [s.Name]) (S ++ [s.Name]) (W ++ [(k : Int)])⟩ (Weak.mem [true, true, true, true, true] rfl) <|
     awp_region rfl <|
     rMv rfl <|
     rwp_det rfl rfl (det_field_lit rfl fd46_7 rfl) <|
     rwp_det rfl rfl (det_load_one rfl one23 rfl (ptr_row 0 rfl) rfl) <|
     rwp_op rfl rfl (ope_call_mem [1, 1, 1, 1] rfl ok82 (ih s (mem_of_get hs) _ _ _ (u ++ [s.Name]) (S ++ [s.Name]) (W ++ [(k : Int)]) (by first | omega | (simp; omega)) (by first | omega | (simp; omega)) (by simp; omega)) ⟨VLe.refl _, rfl, VLe.refl _, rfl, trivial⟩ rfl) ?_
    rintro _ _ ⟨_, ⟨svL1, svS1, svP1, U1, S1, W1, rfl, hok, hno, rfl⟩, rfl⟩
    refine rMv rfl <|
     rwp_nil <|
     sReg rfl <|
     rMv rfl <|
     rwp_det rfl rfl (det_neq rfl rfl rfl) <|
     rwp_nil <|
     awp_cond rfl (fun c4 => ?_) (fun c4 => ?_)
    ·try simp only [sx] at c4
     rw [← hin] at c4 hno
     refine sReg rfl <|
      rMv rfl <|
      rMv rfl <|
      rwp_nil <|
      awp_weak _ (Weak.mem [false, true, true, true, true] rfl) <|
      awp_ret <|
      fin1 (rs_c rfl) ?_
     refine ⟨_, _, _, _, _, _, ?_, fun h0 => ?_, fun _ => ?_, rfl⟩
     · rw [chkL_no hs hp c4, hin]
     · rw [chkL_no hs hp c4] at h0; exact absurd h0 c4
     · rw [chkL_no hs hp c4]; exact hno c4
    ·try simp only [sx] at c4
     rw [← hin] at c4 hok
     obtain ⟨hU1, hS1, hW1⟩ := hok c4
     have hS2 := hS1.symm
     subst hU1 hS2 hW1
     refine awp_skip <|
      sReg rfl <|
      rMv rfl <|
      rMv rfl <|
      rwp_det rfl rfl (det_nilcheck_ptr rfl rfl) <|
      rwp_det rfl rfl (det_field_lit rfl fd123_2 rfl) <|
      rwp_det rfl rfl (det_load_one rfl one105 rfl (ptr_row 1 rfl) rfl) <|
      rMv rfl <|
      rwp_op rfl rfl (ope_cut_own (k := S.length) 3 rfl el105 rfl rfl rfl (by simp) (by simp)) ?_
     rintro _ _ ⟨sv5, rfl, rfl⟩
     refine rwp_det rfl rfl (det_nilcheck_ptr rfl rfl) <|
      rwp_det rfl rfl (det_field_lit rfl fd123_2 rfl) <|
      rwp_det0 rfl rfl (det_store rfl sz105 rfl rfl rfl (st_row 1 rfl rfl)) <|
      rwp_nil <|
      awp_weak _ (Weak.vecEq 3 rfl (rows' := S.map fun s => [cS s]) (by first | rfl | simp | rw [List.take_of_length_le (by simp)])) <|
      awp_draw_c 12 0 [⟨0, .q []⟩, ⟨1, .q []⟩, ⟨2, .q []⟩, ⟨3, .q []⟩, ⟨4, .q [1]⟩, ⟨5, .q []⟩, ⟨6, .q []⟩, ⟨7, .q []⟩, ⟨8, .q [1]⟩, ⟨9, .q [4]⟩, ⟨10, .q []⟩, ⟨11, .e 4 []⟩] mixed (by kernel_rfl) (by kernel_rfl) rfl rfl rfl <|
      fx_skip rfl <|
      fx_skip rfl <|
      fx_skip rfl <|
      fx_skip rfl <|
      fx_skip rfl <|
      fx_skip rfl <|
      fx_skip rfl <|
      fx_skip rfl <|
      fx_skip rfl <|
      fx_skip rfl <|
      fx_skip rfl <|
      fx_skip rfl <|
      fx_nil <|
      sq_det rfl (by decide) rfl rfl (det_move rfl rfl) <|
      sq_det rfl (by decide) rfl rfl (det_move rfl rfl) <|
      sq_det rfl (by decide) rfl rfl (det_nilcheck_ptr rfl rfl) <|
      sq_det rfl (by decide) rfl rfl (det_field_lit rfl fd123_3 rfl) <|
      sq_det rfl (by decide) rfl rfl (det_load_one rfl one26 rfl (ptr_row 0 rfl) rfl) <|
      sq_det rfl (by decide) rfl rfl (det_move rfl rfl) <|
      sq_det rfl (by decide) rfl rfl (det_nilcheck_ptr rfl rfl) <|
      sq_det rfl (by decide) rfl rfl (det_field_lit rfl fd123_3 rfl) <|
      sq_det rfl (by decide) rfl rfl (det_load_one rfl one26 rfl (ptr_row 0 rfl) rfl) <|
      sq_det rfl (by decide) rfl rfl (det_len_vec 0 rfl el26 rfl rfl) <|
      sq_det rfl (by decide) rfl rfl (det_sub_nw rfl rfl rfl (by simp only [List.length_map, List.length_append, List.length_cons, List.length_nil]; exact ⟨by omega, by omega⟩)) <|
      sq_op rfl rfl (by decide) rfl rfl (ope_cut_own (k := W.length) 0 rfl el26 rfl rfl rfl (by simp only [List.length_map, List.length_append, List.length_cons, List.length_nil]; omega) (by simp)) ?_
     rintro _ _ ⟨sv6, rfl, rfl⟩
     refine ⟨_, rfl, ?_⟩
     refine sq_nil rfl <|
      rwp_det rfl rfl (det_nilcheck_ptr rfl rfl) <|
      rwp_det rfl rfl (det_field_lit rfl fd123_3 rfl) <|
      rwp_det0 rfl rfl (det_store rfl sz26 rfl rfl rfl (st_row 1 rfl rfl)) <|
      rwp_nil <|
      awp_weak _ (Weak.vecEq 4 rfl (rows' := W.map fun i => [cI i]) (by first | rfl | simp | rw [List.take_of_length_le (by simp)])) <|
      awp_region rfl <|
      rwp_det rfl rfl (det_add_nw rfl rfl rfl ⟨by omega, by omega⟩) <|
      rMv rfl <|
      rwp_nil ?_
     refine ⟨⟨k + 1, _, _, _, (chkS n.Bufs u S (W ++ [(k : Int)]) s).U⟩, ⟨by omega, by omega, chkL_next hs hp c4⟩, (by show l.length - (k + 1) < l.length - k; omega), Weak.mk [false, true, true, true, true] ⟨VLe.refl _, VLe.refl _, VLe.refl _, VLe.refl _, trivial⟩ rfl⟩
   ·try simp only [sx] at c3
    rw [nextU_no c3, nextU_no c3] at hin
    refine awp_skip <|
     awp_seq <|
     awp_seq <|
     awp_weak ⟨_, E.row _ _ _ :: ckN b _ _ _ n u S (W ++ [(k : Int)])⟩ (Weak.mem [true, true, true, true, true] rfl) <|
     awp_region rfl <|
     rMv rfl <|
     rwp_det rfl rfl (det_field_lit rfl fd46_7 rfl) <|
     rwp_det rfl rfl (det_load_one rfl one23 rfl (ptr_row 0 rfl) rfl) <|
     rwp_op rfl rfl (ope_call_mem [1, 1, 1, 1] rfl ok82 (ih s (mem_of_get hs) _ _ _ u S (W ++ [(k : Int)]) (by first | omega | (simp; omega)) (by first | omega | (simp; omega)) (by simp; omega)) ⟨VLe.refl _, rfl, VLe.refl _, rfl, trivial⟩ rfl) ?_
    rintro _ _ ⟨_, ⟨svL1, svS1, svP1, U1, S1, W1, rfl, hok, hno, rfl⟩, rfl⟩
    refine rMv rfl <|
     rwp_nil <|
     sReg rfl <|
     rMv rfl <|
     rwp_det rfl rfl (det_neq rfl rfl rfl) <|
     rwp_nil <|
     awp_cond rfl (fun c4 => ?_) (fun c4 => ?_)
    ·try simp only [sx] at c4
     rw [← hin] at c4 hno
     refine sReg rfl <|
      rMv rfl <|
      rMv rfl <|
      rwp_nil <|
      awp_weak _ (Weak.mem [false, true, true, true, true] rfl) <|
      awp_ret <|
      fin1 (rs_c rfl) ?_
     refine ⟨_, _, _, _, _, _, ?_, fun h0 => ?_, fun _ => ?_, rfl⟩
     · rw [chkL_no hs hp c4, hin]
     · rw [chkL_no hs hp c4] at h0; exact absurd h0 c4
     · rw [chkL_no hs hp c4]; exact hno c4
    ·try simp only [sx] at c4
     rw [← hin] at c4 hok
     obtain ⟨hU1, hS1, hW1⟩ := hok c4
     have hS2 := hS1.symm
     subst hU1 hS2 hW1
     refine awp_skip <|
      sReg rfl <|
      rMv rfl <|
      rMv rfl <|
      rwp_det rfl rfl (det_nilcheck_ptr rfl rfl) <|
      rwp_det rfl rfl (det_field_lit rfl fd123_2 rfl) <|
      rwp_det rfl rfl (det_load_one rfl one105 rfl (ptr_row 1 rfl) rfl) <|
      rMv rfl <|
      rwp_op rfl rfl (ope_cut_own (k := S.length) 3 rfl el105 rfl rfl rfl (by simp) (by simp)) ?_
     rintro _ _ ⟨sv7, rfl, rfl⟩
     refine rwp_det rfl rfl (det_nilcheck_ptr rfl rfl) <|
      rwp_det rfl rfl (det_field_lit rfl fd123_2 rfl) <|
      rwp_det0 rfl rfl (det_store rfl sz105 rfl rfl rfl (st_row 1 rfl rfl)) <|
      rwp_nil <|
      awp_weak _ (Weak.vecEq 3 rfl (rows' := S.map fun s => [cS s]) (by first | rfl | simp | rw [List.take_of_length_le (by simp)])) <|
      awp_draw_c 12 0 [⟨0, .q []⟩, ⟨1, .q []⟩, ⟨2, .q []⟩, ⟨3, .q []⟩, ⟨4, .q [1]⟩, ⟨5, .q []⟩, ⟨6, .q []⟩, ⟨7, .q []⟩, ⟨8, .q [1]⟩, ⟨9, .q [4]⟩, ⟨10, .q []⟩, ⟨11, .e 4 []⟩] mixed (by kernel_rfl) (by kernel_rfl) rfl rfl rfl <|
      fx_skip rfl <|
      fx_skip rfl <|
      fx_skip rfl <|
      fx_skip rfl <|
      fx_skip rfl <|
      fx_skip rfl <|
      fx_skip rfl <|
      fx_skip rfl <|
      fx_skip rfl <|
      fx_skip rfl <|
      fx_skip rfl <|
      fx_skip rfl <|
      fx_nil <|
      sq_det rfl (by decide) rfl rfl (det_move rfl rfl) <|
      sq_det rfl (by decide) rfl rfl (det_move rfl rfl) <|
      sq_det rfl (by decide) rfl rfl (det_nilcheck_ptr rfl rfl) <|
      sq_det rfl (by decide) rfl rfl (det_field_lit rfl fd123_3 rfl) <|
      sq_det rfl (by decide) rfl rfl (det_load_one rfl one26 rfl (ptr_row 0 rfl) rfl) <|
      sq_det rfl (by decide) rfl rfl (det_move rfl rfl) <|
      sq_det rfl (by decide) rfl rfl (det_nilcheck_ptr rfl rfl) <|
      sq_det rfl (by decide) rfl rfl (det_field_lit rfl fd123_3 rfl) <|
      sq_det rfl (by decide) rfl rfl (det_load_one rfl one26 rfl (ptr_row 0 rfl) rfl) <|
      sq_det rfl (by decide) rfl rfl (det_len_vec 0 rfl el26 rfl rfl) <|
      sq_det rfl (by decide) rfl rfl (det_sub_nw rfl rfl rfl (by simp only [List.length_map, List.length_append, List.length_cons, List.length_nil]; exact ⟨by omega, by omega⟩)) <|
      sq_op rfl rfl (by decide) rfl rfl (ope_cut_own (k := W.length) 0 rfl el26 rfl rfl rfl (by simp only [List.length_map, List.length_append, List.length_cons, List.length_nil]; omega) (by simp)) ?_
     rintro _ _ ⟨sv8, rfl, rfl⟩
     refine ⟨_, rfl, ?_⟩
     refine sq_nil rfl <|
      rwp_det rfl rfl (det_nilcheck_ptr rfl rfl) <|
      rwp_det rfl rfl (det_field_lit rfl fd123_3 rfl) <|
      rwp_det0 rfl rfl (det_store rfl sz26 rfl rfl rfl (st_row 1 rfl rfl)) <|
      rwp_nil <|
      awp_weak _ (Weak.vecEq 4 rfl (rows' := W.map fun i => [cI i]) (by first | rfl | simp | rw [List.take_of_length_le (by simp)])) <|
      awp_region rfl <|
      rwp_det rfl rfl (det_add_nw rfl rfl rfl ⟨by omega, by omega⟩) <|
      rMv rfl <|
      rwp_nil ?_
     refine ⟨⟨k + 1, _, _, _, (chkS n.Bufs u S (W ++ [(k : Int)]) s).U⟩, ⟨by omega, by omega, chkL_next hs hp c4⟩, (by show l.length - (k + 1) < l.length - k; omega), Weak.mk [false, true, true, true, true] ⟨VLe.refl _, VLe.refl _, VLe.refl _, VLe.refl _, trivial⟩ rfl⟩
 ·try simp only [sx] at c1
  refine awp_exit <|
   sReg rfl <|
   rMv rfl <|
   rwp_nil <|
   awp_ret <|
   fin1 (rs_c rfl) ?_
  refine ⟨_, _, _, _, _, _, ?_, fun _ => ⟨?_, rfl, rfl⟩, fun h0 => ?_, rfl⟩
  · rw [chkL_end hp (by omega)]
  · rw [chkL_end hp (by omega)]
  · rw [chkL_end hp (by omega)] at h0; exact absurd rfl h0

theorem ck_statements_body (b : Nat) (n : Ns) (hn : n.Ok) (s : St) (hl : stsWt s.Body ≤ 536870912) : ∀ (svL svS svP : Value) (U S : List ByteArray) (W : List Int), U.length + stsN s.Body ≤ 1000000 → S.length + stsN s.Body ≤ 1000000 → W.length + stsN s.Body ≤ 1000000 → Con cfg 82 [vP b, vSts s.Body] (ckN b svL svS svP n U S W) fun r μ' => ∃ svL' svS' svP' U' S' W', r = vI (chkL n.Bufs U S W 0 s.Body).E ∧ ((chkL n.Bufs U S W 0 s.Body).E = 0 → U' = (chkL n.Bufs U S W 0 s.Body).U ∧ S' = S ∧ W' = W) ∧ (¬ (chkL n.Bufs U S W 0 s.Body).E = 0 → W' = (chkL n.Bufs U S W 0 s.Body).W) ∧ μ' = ckN b svL' svS' svP' n U' S' W' := by
  induction s using St.ind with
  | _ s ih =>
    intro svL svS svP U S W hU hS hW
    refine ck_statements_step b svL svS svP n U S W s.Body hn hU hS hW hl fun a ha => ih a ha ?_
    have := stsWt_mem ha; have := St.body_wt a; omega
theorem ck_statements (b : Nat) (svL svS svP : Value) (n : Ns) (U S : List ByteArray) (W : List Int) (l : List St) (hn : n.Ok) (hU : U.length + stsN l ≤ 1000000) (hS : S.length + stsN l ≤ 1000000) (hW : W.length + stsN l ≤ 1000000) (hl : stsWt l ≤ 536870912) : Con cfg 82 [vP b, vSts l] (ckN b svL svS svP n U S W) fun r μ' => ∃ svL' svS' svP' U' S' W', r = vI (chkL n.Bufs U S W 0 l).E ∧ ((chkL n.Bufs U S W 0 l).E = 0 → U' = (chkL n.Bufs U S W 0 l).U ∧ S' = S ∧ W' = W) ∧ (¬ (chkL n.Bufs U S W 0 l).E = 0 → W' = (chkL n.Bufs U S W 0 l).W) ∧ μ' = ckN b svL' svS' svP' n U' S' W' :=
  ck_statements_step b svL svS svP n U S W l hn hU hS hW hl fun s hs => ck_statements_body b n hn s (by have := stsWt_mem hs; have := St.body_wt s; omega)

theorem loopnest_Validate (n : Ns) (hn : n.Ok) :
    Pur cfg 34 [vNs n] (.tup [vIs (validN n).1, vI (validN n).2]) := by
 refine con_intro Tryz.func34 rfl Tryz.ntmps34 Tryz.results34 rfl ?_
 intro z hz
 have hnb := hn.body
 refine sReg rfl <|
  rwp_op rfl rfl (ope_box rfl rfl) ?_
 rintro _ _ ⟨b1, rfl, rfl⟩
 refine rwp_det rfl rfl (det_assignN 1 rfl rfl) <|
  rMv rfl <|
  rwp_nil <|
  awp_seq <|
  sReg rfl <|
  rwp_det rfl rfl (det_field_lit rfl fd25_1 rfl) <|
  rwp_det rfl rfl (det_load_one rfl one23 rfl (ptr_row 0 rfl) rfl) <|
  rwp_det rfl rfl (det_call rfl ok79 (loopnest_within 40 n.Body 40 (by omega) (by omega) rfl) ⟨VLe.refl _, rfl, VLe.refl _, rfl, trivial⟩) <|
  rwp_det rfl rfl (det_not rfl rfl) <|
  rwp_nil <|
  awp_cond rfl (fun c1 => ?_) (fun c1 => ?_)
 ·try simp only [sx] at c1
  refine sReg rfl <|
   rwp_det rfl rfl (det_assignN 1 rfl rfl) <|
   rMv rfl <|
   rwp_nil <|
   awp_ret <|
   fin2 (rs_c rfl) (rs_c rfl) ?_
  rw [validN_13 c1]; rfl
 ·try simp only [sx] at c1
  refine awp_skip <|
   awp_seq <|
   sReg rfl <|
   rwp_det rfl rfl (det_field_lit rfl fd25_1 rfl) <|
   rwp_det rfl rfl (det_load_one rfl one23 rfl (ptr_row 0 rfl) rfl) <|
   rwp_det rfl rfl (det_call rfl ok80 (loopnest_countUpTo n.Body 2000 2000 (by omega) (by omega) rfl) ⟨VLe.refl _, rfl, VLe.refl _, rfl, trivial⟩) <|
   rwp_det rfl rfl (det_gtr rfl rfl rfl) <|
   rMv rfl <|
   rLz [] rfl gv1 trivial (fun g3_4 => det_field_lit rfl fd25_0 rfl) rfl <|
   rLz [(16, _)] rfl gv1 ⟨rfl, rfl, trivial⟩ (fun g3_4 => det_load_one rfl one22 rfl (ptr_row 0 rfl) rfl) rfl <|
   rLz [(17, _)] rfl gv1 ⟨rfl, rfl, trivial⟩ (fun g3_4 => det_len_slm rfl el22 rfl) rfl <|
   rLz [(18, _)] rfl gv1 ⟨rfl, rfl, trivial⟩ (fun g3_4 => det_gtr rfl rfl rfl) rfl <|
   rwp_det rfl rfl (det_or rfl rfl rfl rfl (fun h => (lzf h))) <|
   rwp_nil <|
   awp_cond rfl (fun c2 => ?_) (fun c2 => ?_)
  ·try simp only [sx] at c2
   refine sReg rfl <|
    rwp_det rfl rfl (det_assignN 1 rfl rfl) <|
    rMv rfl <|
    rwp_nil <|
    awp_ret <|
    fin2 (rs_c rfl) (rs_c rfl) ?_
   rw [validN_2 c1 (by omega)]; rfl
  ·try simp only [sx] at c2
   have hnum := numB_ok (l := n.Body) (m := 2000) (by omega)
   refine awp_skip <|
    awp_seq <|
    sReg rfl <|
    rwp_det rfl rfl (det_field_lit rfl fd25_0 rfl) <|
    rwp_det rfl rfl (det_load_one rfl one22 rfl (ptr_row 0 rfl) rfl) <|
    rwp_det rfl rfl (det_call rfl ok81 (loopnest_checkBuffers n.Bufs hn.bufs hn.dims) ⟨VLe.refl _, rfl, trivial⟩) <|
    rMv rfl <|
    rwp_nil <|
    sReg rfl <|
    rMv rfl <|
    rwp_det rfl rfl (det_neq rfl rfl rfl) <|
    rwp_nil <|
    awp_cond rfl (fun c3 => ?_) (fun c3 => ?_)
   ·try simp only [sx] at c3
    refine sReg rfl <|
     rMv rfl <|
     rwp_det rfl rfl (det_assignN 1 rfl rfl) <|
     rMv rfl <|
     rwp_nil <|
     awp_ret <|
     fin2 (rs_c rfl) (rs_c rfl) ?_
    rw [validN_b c1 (by omega) c3]; rfl
   ·try simp only [sx] at c3
    refine awp_skip <|
     sReg rfl <|
     rwp_det rfl rfl (det_load_agg rfl agg25 rfl (ptr_row 0 rfl) rfl) <|
     rwp_det rfl rfl (det_build rfl zr123 pl123 rfl) <|
     rwp_op rfl rfl (ope_box rfl rfl) ?_
    rintro _ _ ⟨b2, rfl, rfl⟩
    refine rwp_weak _ (weak_own 9 1) <|
     rwp_weak _ (weak_own 9 1) <|
     rwp_weak _ (weak_own 3 1) <|
     rMv rfl <|
     rwp_nil <|
     awp_seq <|
     sReg rfl <|
     rMv rfl <|
     rwp_det rfl rfl (det_field_lit rfl fd25_1 rfl) <|
     rwp_det rfl rfl (det_load_one rfl one23 rfl (ptr_row 4 rfl) rfl) <|
     rwp_op rfl rfl (ope_call_mem [3, 2, 1, 0] rfl ok82 (ck_statements b2 _ _ _ n [] [] [] n.Body hn (by simp; omega) (by simp; omega) (by simp; omega) hnb) ⟨VLe.refl _, rfl, VLe.refl _, rfl, trivial⟩ rfl) ?_
    rintro _ _ ⟨_, ⟨svL1, svS1, svP1, U1, S1, W1, rfl, hok, hno, rfl⟩, rfl⟩
    refine rMv rfl <|
     rwp_nil <|
     sReg rfl <|
     rMv rfl <|
     rwp_det rfl rfl (det_neq rfl rfl rfl) <|
     rwp_nil <|
     awp_cond rfl (fun c4 => ?_) (fun c4 => ?_)
    ·try simp only [sx] at c4
     have hW1 := hno c4
     subst hW1
     refine awp_weak _ (weak_freezeM 0 rfl (regs' := []) (μ' := [_, _, _, _]) trivial ⟨EFle.refl _, EFle.refl _, EFle.row (ds := [_, _, _, _, _]) ⟨.inl rfl, .inl rfl, .inl rfl, .inl rfl, .inr ⟨rfl, rfl⟩, trivial⟩, EFle.refl _, trivial⟩) <|
      sReg rfl <|
      rMv rfl <|
      rwp_det rfl rfl (det_nilcheck_ptr rfl rfl) <|
      rwp_det rfl rfl (det_field_lit rfl fd123_3 rfl) <|
      rwp_det rfl rfl (det_load_one rfl one26 rfl (ptr_row 2 rfl) rfl) <|
      rMv rfl <|
      rMv rfl <|
      rMv rfl <|
      rwp_nil <|
      awp_ret <|
      fin2 (rs_c rfl) (rs_c rfl) ?_
     rw [validN_c c1 (by omega) c3]
    ·try simp only [sx] at c4
     refine awp_skip <|
      sReg rfl <|
      rwp_det rfl rfl (det_assignN 1 rfl rfl) <|
      rMv rfl <|
      rwp_nil <|
      awp_ret <|
      fin2 (rs_c rfl) (rs_c rfl) ?_
     rw [validN_c c1 (by omega) c3, chkL_ok c4, c4]; rfl

end Go.W
