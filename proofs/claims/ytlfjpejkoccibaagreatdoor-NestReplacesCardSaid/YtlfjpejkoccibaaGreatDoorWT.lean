/-
  Walks: what functions of the program compute. Printed by wip/gen/mk2.py.
  Conditions: none.
-/
import Derived.Test.YtlfjpejkoccibaaGreatDoorWE
import Derived.Test.YtlfjpejkoccibaaGreatDoorPlain
import Derived.Test.YtlfjpejkoccibaaGreatDoorEngZ
set_option linter.unusedSimpArgs false
set_option linter.unusedVariables false
set_option maxRecDepth 10000
namespace Go.W
open Go Go.Eng Go.Proofs Go.L41 Go.Br
attribute [local irreducible] AWP RWP TD finQ
theorem el26 : elemT Tryz.prog 26 = some (3, 1, 8) := by kernel_rfl
theorem ok234 : callOk Tryz.prog 234 = true := by kernel_rfl
theorem ok261 : callOk Tryz.prog 261 = true := by kernel_rfl
theorem ok262 : callOk Tryz.prog 262 = true := by kernel_rfl
theorem ok263 : callOk Tryz.prog 263 = true := by kernel_rfl
theorem ok264 : callOk Tryz.prog 264 = true := by kernel_rfl
theorem ok265 : callOk Tryz.prog 265 = true := by kernel_rfl
theorem ok266 : callOk Tryz.prog 266 = true := by kernel_rfl
theorem ok267 : callOk Tryz.prog 267 = true := by kernel_rfl
theorem ok268 : callOk Tryz.prog 268 = true := by kernel_rfl
theorem ok269 : callOk Tryz.prog 269 = true := by kernel_rfl
theorem ok286 : callOk Tryz.prog 286 = true := by kernel_rfl
theorem ok288 : callOk Tryz.prog 288 = true := by kernel_rfl
theorem ok289 : callOk Tryz.prog 289 = true := by kernel_rfl
theorem ok290 : callOk Tryz.prog 290 = true := by kernel_rfl
theorem ok291 : callOk Tryz.prog 291 = true := by kernel_rfl
theorem ok292 : callOk Tryz.prog 292 = true := by kernel_rfl
theorem ok293 : callOk Tryz.prog 293 = true := by kernel_rfl
theorem ok294 : callOk Tryz.prog 294 = true := by kernel_rfl
theorem ok303 : callOk Tryz.prog 303 = true := by kernel_rfl
theorem cmp_isNaN_int (a : Int) :
    Pur cfg 286 [vI a] (vB false) := by
 refine con_intro Tryz.func286 rfl Tryz.ntmps286 Tryz.results286 rfl ?_
 intro z hz
 refine sReg rfl <|
  rMv rfl <|
  rwp_nil <|
  sReg rfl <|
  rMv rfl <|
  rMv rfl <|
  rwp_det rfl rfl (det_neq rfl rfl rfl) <|
  rMv rfl <|
  rwp_nil <|
  awp_ret <|
  fin1 (rs_c rfl) ?_
 exact congrArg vB (by simp)

theorem cmp_Compare_int (a b : Int) :
    Pur cfg 262 [vI a, vI b] (vI (cmpI a b)) := by
 refine con_intro Tryz.func262 rfl Tryz.ntmps262 Tryz.results262 rfl ?_
 intro z hz
 refine sReg rfl <|
  rMv rfl <|
  rwp_nil <|
  sReg rfl <|
  rMv rfl <|
  rwp_det rfl rfl (det_call rfl ok286 (cmp_isNaN_int a) ⟨VLe.refl _, rfl, trivial⟩) <|
  rMv rfl <|
  rwp_nil <|
  sReg rfl <|
  rMv rfl <|
  rwp_det rfl rfl (det_call rfl ok286 (cmp_isNaN_int b) ⟨VLe.refl _, rfl, trivial⟩) <|
  rMv rfl <|
  rwp_nil <|
  awp_seq <|
  sReg rfl <|
  rMv rfl <|
  rwp_nil <|
  awp_cond rfl (fun c1 => ?_) (fun c1 => ?_)
 ·exact absurd c1 (by decide)
 ·refine awp_skip <|
   awp_seq <|
   sReg rfl <|
   rMv rfl <|
   rwp_nil <|
   awp_cond rfl (fun c3 => ?_) (fun c3 => ?_)
  ·exact absurd c3 (by decide)
  ·refine awp_skip <|
    awp_seq <|
    sReg rfl <|
    rMv rfl <|
    rMv rfl <|
    rwp_det rfl rfl (det_lss rfl rfl rfl) <|
    rwp_nil <|
    awp_cond rfl (fun c4 => ?_) (fun c4 => ?_)
   ·try simp only [sx] at c4
    refine sReg rfl <|
     rMv rfl <|
     rwp_nil <|
     awp_ret <|
     fin1 (rs_c rfl) ?_
    rw [cmpI_lt c4]
   ·try simp only [sx] at c4
    refine awp_skip <|
     awp_seq <|
     sReg rfl <|
     rMv rfl <|
     rMv rfl <|
     rwp_det rfl rfl (det_gtr rfl rfl rfl) <|
     rwp_nil <|
     awp_cond rfl (fun c5 => ?_) (fun c5 => ?_)
    ·try simp only [sx] at c5
     refine sReg rfl <|
      rMv rfl <|
      rwp_nil <|
      awp_ret <|
      fin1 (rs_c rfl) ?_
     rw [cmpI_gt c5]
    ·try simp only [sx] at c5
     refine awp_skip <|
      sReg rfl <|
      rMv rfl <|
      rwp_nil <|
      awp_ret <|
      fin1 (rs_c rfl) ?_
     rw [cmpI_eq (by omega) (by omega)]

theorem cmp_isNaN_i64 (a : Int) :
    Pur cfg 288 [vI a] (vB false) := by
 refine con_intro Tryz.func288 rfl Tryz.ntmps288 Tryz.results288 rfl ?_
 intro z hz
 refine sReg rfl <|
  rMv rfl <|
  rwp_nil <|
  sReg rfl <|
  rMv rfl <|
  rMv rfl <|
  rwp_det rfl rfl (det_neq rfl rfl rfl) <|
  rMv rfl <|
  rwp_nil <|
  awp_ret <|
  fin1 (rs_c rfl) ?_
 exact congrArg vB (by simp)

theorem cmp_Compare_i64 (a b : Int) :
    Pur cfg 264 [vI a, vI b] (vI (cmpI a b)) := by
 refine con_intro Tryz.func264 rfl Tryz.ntmps264 Tryz.results264 rfl ?_
 intro z hz
 refine sReg rfl <|
  rMv rfl <|
  rwp_nil <|
  sReg rfl <|
  rMv rfl <|
  rwp_det rfl rfl (det_call rfl ok288 (cmp_isNaN_i64 a) ⟨VLe.refl _, rfl, trivial⟩) <|
  rMv rfl <|
  rwp_nil <|
  sReg rfl <|
  rMv rfl <|
  rwp_det rfl rfl (det_call rfl ok288 (cmp_isNaN_i64 b) ⟨VLe.refl _, rfl, trivial⟩) <|
  rMv rfl <|
  rwp_nil <|
  awp_seq <|
  sReg rfl <|
  rMv rfl <|
  rwp_nil <|
  awp_cond rfl (fun c1 => ?_) (fun c1 => ?_)
 ·exact absurd c1 (by decide)
 ·refine awp_skip <|
   awp_seq <|
   sReg rfl <|
   rMv rfl <|
   rwp_nil <|
   awp_cond rfl (fun c3 => ?_) (fun c3 => ?_)
  ·exact absurd c3 (by decide)
  ·refine awp_skip <|
    awp_seq <|
    sReg rfl <|
    rMv rfl <|
    rMv rfl <|
    rwp_det rfl rfl (det_lss rfl rfl rfl) <|
    rwp_nil <|
    awp_cond rfl (fun c4 => ?_) (fun c4 => ?_)
   ·try simp only [sx] at c4
    refine sReg rfl <|
     rMv rfl <|
     rwp_nil <|
     awp_ret <|
     fin1 (rs_c rfl) ?_
    rw [cmpI_lt c4]
   ·try simp only [sx] at c4
    refine awp_skip <|
     awp_seq <|
     sReg rfl <|
     rMv rfl <|
     rMv rfl <|
     rwp_det rfl rfl (det_gtr rfl rfl rfl) <|
     rwp_nil <|
     awp_cond rfl (fun c5 => ?_) (fun c5 => ?_)
    ·try simp only [sx] at c5
     refine sReg rfl <|
      rMv rfl <|
      rwp_nil <|
      awp_ret <|
      fin1 (rs_c rfl) ?_
     rw [cmpI_gt c5]
    ·try simp only [sx] at c5
     refine awp_skip <|
      sReg rfl <|
      rMv rfl <|
      rwp_nil <|
      awp_ret <|
      fin1 (rs_c rfl) ?_
     rw [cmpI_eq (by omega) (by omega)]

theorem cmp_Or_int (l : List Int) (hl : l.length ≤ 4294967296) :
    Pur cfg 261 [.c (.sl 1 (l.map fun n => [cI n]))] (vI (orI l)) := by
 refine con_intro Tryz.func261 rfl Tryz.ntmps261 Tryz.results261 rfl ?_
 intro z hz
 refine sReg rfl <|
  rMv rfl <|
  rwp_nil <|
  sReg rfl <|
  rMv rfl <|
  rwp_nil <|
  awp_seq <|
  sReg rfl <|
  rMv rfl <|
  rwp_det rfl rfl (det_len_slm rfl el26 rfl) <|
  rMv rfl <|
  rwp_nil <|
  awp_block <|
  awp_weak ⟨[(8, .c _), (3, .c _), (6, .c _), (7, .c _)], []⟩ (Weak.mk [] ⟨VLe.of_eq rfl, VLe.of_eq rfl, VLe.of_eq rfl, VLe.of_eq rfl, trivial⟩ rfl) <|
  awp_loop_k 1 0 rfl rfl (Nat) (fun k => [(8, vI k)]) (fun k => []) (fun k => k ≤ l.length ∧ (orI l = orI (l.drop k))) (fun k => l.length - k) ⟨0, ⟨by omega, rfl⟩, Weak.mk [] ⟨VLe.refl _, VLe.refl _, VLe.refl _, VLe.refl _, trivial⟩ rfl⟩ ?_
 rintro k ⟨hk, hp⟩
 refine sReg rfl <|
  rwp_det rfl rfl (det_lss rfl rfl rfl) <|
  rwp_nil <|
  awp_seq <|
  awp_cond rfl (fun c1 => ?_) (fun c1 => ?_)
 ·try simp only [sx] at c1
  obtain ⟨x, hx⟩ := ex_get l k (by omega)
  refine awp_skip <|
   awp_seq <|
   awp_block <|
   sReg rfl <|
   rwp_det rfl rfl (det_index_sl rfl el26 rfl rfl (by omega) (getm (by assumption))) <|
   rwp_det rfl rfl (det_load_one rfl one3 rfl ptr_imm rfl) <|
   rMv rfl <|
   rwp_nil <|
   sReg rfl <|
   rMv rfl <|
   rMv rfl <|
   rwp_det rfl rfl (det_neq rfl rfl rfl) <|
   rwp_nil <|
   awp_cond rfl (fun c2 => ?_) (fun c2 => ?_)
  ·try simp only [sx] at c2
   refine sReg rfl <|
    rMv rfl <|
    rMv rfl <|
    rwp_nil <|
    awp_ret <|
    fin1 (rs_c rfl) ?_
   rw [hp, orI_at hx c2]
  ·try simp only [sx] at c2
   refine awp_skip <|
    awp_region rfl <|
    rwp_det rfl rfl (det_add_nw rfl rfl rfl ⟨by omega, by omega⟩) <|
    rMv rfl <|
    rwp_nil ?_
   refine ⟨k + 1, ⟨by omega, hp.trans (orI_next hx c2)⟩, (by omega), Weak.mk [] ⟨VLe.refl _, VLe.refl _, VLe.refl _, VLe.refl _, trivial⟩ rfl⟩
 ·try simp only [sx] at c1
  refine awp_exit <|
   sReg rfl <|
   rMv rfl <|
   rMv rfl <|
   rwp_nil <|
   awp_ret <|
   fin1 (rs_c rfl) ?_
  rw [hp, drop_end (by omega)]; rfl


theorem slices_CompareFunc_Mono (a b : List Mono) (c : C) (f : Mono → Mono → Int) (ha : a.length ≤ 4294967296) (hb : b.length ≤ 4294967296) (hc : ∀ x, x ∈ a → ∀ y, y ∈ b → FnPur cfg c [vMono x, vMono y] (vI (f x y))) :
    Pur cfg 289 [.c (.sl 2 (a.map Mono.cells)), .c (.sl 2 (b.map Mono.cells)), .c c] (vI (cmpL f a b)) := by
 refine con_intro Tryz.func289 rfl Tryz.ntmps289 Tryz.results289 rfl ?_
 intro z hz
 refine sReg rfl <|
  rMv rfl <|
  rwp_nil <|
  awp_seq <|
  sReg rfl <|
  rMv rfl <|
  rwp_det rfl rfl (det_len_slm rfl el39 rfl) <|
  rMv rfl <|
  rwp_nil <|
  awp_block <|
  awp_weak ⟨[(13, .c _), (0, .c _), (1, .c _), (2, .c _), (11, .c _), (12, .c _)], []⟩ (Weak.mk [] ⟨VLe.of_eq rfl, VLe.of_eq rfl, VLe.of_eq rfl, VLe.of_eq rfl, VLe.of_eq rfl, VLe.of_eq rfl, trivial⟩ rfl) <|
  awp_loop_k 1 0 rfl rfl (Nat) (fun k => [(13, vI k)]) (fun k => []) (fun k => k ≤ a.length ∧ (cmpL f a b = cmpL f (a.drop k) (b.drop k)) ∧ (k ≤ b.length)) (fun k => a.length - k) ⟨0, ⟨by omega, rfl, by omega⟩, Weak.mk [] ⟨VLe.refl _, VLe.refl _, VLe.refl _, VLe.refl _, VLe.refl _, VLe.refl _, trivial⟩ rfl⟩ ?_
 rintro k ⟨hk, hp, hq⟩
 refine sReg rfl <|
  rwp_det rfl rfl (det_lss rfl rfl rfl) <|
  rwp_nil <|
  awp_seq <|
  awp_cond rfl (fun c1 => ?_) (fun c1 => ?_)
 ·try simp only [sx] at c1
  obtain ⟨x, hx⟩ := ex_get a k (by omega)
  refine awp_skip <|
   awp_seq <|
   awp_block <|
   sReg rfl <|
   rMv rfl <|
   rwp_det rfl rfl (det_index_sl rfl el39 rfl rfl (by omega) (getm (by assumption))) <|
   rwp_det rfl rfl (det_load_agg rfl agg69 rfl ptr_imm rfl) <|
   rwp_op rfl rfl (ope_alloc rfl zr69) ?_
  rintro _ _ ⟨b1, rfl, rfl⟩
  refine rMv rfl <|
   rwp_det0 rfl rfl (det_store rfl sz69 rfl rfl rfl (st_row 0 rfl rfl)) <|
   rwp_nil <|
   awp_seq <|
   sReg rfl <|
   rMv rfl <|
   rMv rfl <|
   rwp_det rfl rfl (det_len_slm rfl el39 rfl) <|
   rwp_det rfl rfl (det_geq rfl rfl rfl) <|
   rwp_nil <|
   awp_cond rfl (fun c2 => ?_) (fun c2 => ?_)
  ·try simp only [sx] at c2
   refine sReg rfl <|
    rMv rfl <|
    rwp_nil <|
    awp_ret <|
    fin1 (rs_c rfl) ?_
   rw [hp, cmpL_one hx (by omega)]
  ·try simp only [sx] at c2
   obtain ⟨y, hy⟩ := ex_get b k (by omega)
   refine awp_skip <|
    sReg rfl <|
    rMv rfl <|
    rMv rfl <|
    rwp_det rfl rfl (det_index_sl rfl el39 rfl rfl (by omega) (getm (by assumption))) <|
    rwp_det rfl rfl (det_load_agg rfl agg69 rfl ptr_imm rfl) <|
    rwp_op rfl rfl (ope_alloc rfl zr69) ?_
   rintro _ _ ⟨b2, rfl, rfl⟩
   refine rwp_det0 rfl rfl (det_store rfl sz69 rfl rfl rfl (st_row 0 rfl rfl)) <|
    rwp_nil <|
    sReg rfl <|
    rMv rfl <|
    rwp_det rfl rfl (det_load_agg rfl agg69 rfl (ptr_row 1 rfl) rfl) <|
    rwp_det rfl rfl (det_load_agg rfl agg69 rfl (ptr_row 0 rfl) rfl) <|
    rwp_det rfl rfl (det_call_val rfl rfl (hc _ (mem_of_get hx) _ (mem_of_get hy)) ⟨VLe.refl _, rfl, VLe.refl _, rfl, trivial⟩) <|
    rMv rfl <|
    rwp_nil <|
    sReg rfl <|
    rMv rfl <|
    rwp_det rfl rfl (det_neq rfl rfl rfl) <|
    rwp_nil <|
    awp_cond rfl (fun c3 => ?_) (fun c3 => ?_)
   ·try simp only [sx] at c3
    refine sReg rfl <|
     rMv rfl <|
     rMv rfl <|
     rwp_nil <|
     awp_ret <|
     fin1 (rs_c rfl) ?_
    rw [hp, cmpL_ne hx hy c3]
   ·try simp only [sx] at c3
    refine awp_skip <|
     awp_region rfl <|
     rwp_det rfl rfl (det_add_nw rfl rfl rfl ⟨by omega, by omega⟩) <|
     rMv rfl <|
     rwp_nil ?_
    refine ⟨k + 1, ⟨by omega, hp.trans (cmpL_next hx hy c3), by omega⟩, (by omega), Weak.mk [false, false] ⟨VLe.refl _, VLe.refl _, VLe.refl _, VLe.refl _, VLe.refl _, VLe.refl _, trivial⟩ rfl⟩
 ·try simp only [sx] at c1
  refine awp_exit <|
   awp_seq <|
   sReg rfl <|
   rMv rfl <|
   rwp_det rfl rfl (det_len_slm rfl el39 rfl) <|
   rMv rfl <|
   rwp_det rfl rfl (det_len_slm rfl el39 rfl) <|
   rwp_det rfl rfl (det_lss rfl rfl rfl) <|
   rwp_nil <|
   awp_cond rfl (fun c4 => ?_) (fun c4 => ?_)
  ·try simp only [sx] at c4
   refine sReg rfl <|
    rMv rfl <|
    rwp_nil <|
    awp_ret <|
    fin1 (rs_c rfl) ?_
   rw [hp, cmpL_less (by omega) (by omega)]
  ·try simp only [sx] at c4
   refine awp_skip <|
    sReg rfl <|
    rMv rfl <|
    rwp_nil <|
    awp_ret <|
    fin1 (rs_c rfl) ?_
   rw [hp, cmpL_end (by omega) (by omega)]

theorem slices_CompareFunc_Ix (a b : List Ix) (c : C) (f : Ix → Ix → Int) (ha : a.length ≤ 4294967296) (hb : b.length ≤ 4294967296) (hc : ∀ x, x ∈ a → ∀ y, y ∈ b → FnPur cfg c [vIndex x, vIndex y] (vI (f x y))) :
    Pur cfg 292 [.c (.sl 4 (a.map Ix.cells)), .c (.sl 4 (b.map Ix.cells)), .c c] (vI (cmpL f a b)) := by
 refine con_intro Tryz.func292 rfl Tryz.ntmps292 Tryz.results292 rfl ?_
 intro z hz
 refine sReg rfl <|
  rMv rfl <|
  rwp_nil <|
  awp_seq <|
  sReg rfl <|
  rMv rfl <|
  rwp_det rfl rfl (det_len_slm rfl el34 rfl) <|
  rMv rfl <|
  rwp_nil <|
  awp_block <|
  awp_weak ⟨[(13, .c _), (0, .c _), (1, .c _), (2, .c _), (11, .c _), (12, .c _)], []⟩ (Weak.mk [] ⟨VLe.of_eq rfl, VLe.of_eq rfl, VLe.of_eq rfl, VLe.of_eq rfl, VLe.of_eq rfl, VLe.of_eq rfl, trivial⟩ rfl) <|
  awp_loop_k 1 0 rfl rfl (Nat) (fun k => [(13, vI k)]) (fun k => []) (fun k => k ≤ a.length ∧ (cmpL f a b = cmpL f (a.drop k) (b.drop k)) ∧ (k ≤ b.length)) (fun k => a.length - k) ⟨0, ⟨by omega, rfl, by omega⟩, Weak.mk [] ⟨VLe.refl _, VLe.refl _, VLe.refl _, VLe.refl _, VLe.refl _, VLe.refl _, trivial⟩ rfl⟩ ?_
 rintro k ⟨hk, hp, hq⟩
 refine sReg rfl <|
  rwp_det rfl rfl (det_lss rfl rfl rfl) <|
  rwp_nil <|
  awp_seq <|
  awp_cond rfl (fun c1 => ?_) (fun c1 => ?_)
 ·try simp only [sx] at c1
  obtain ⟨x, hx⟩ := ex_get a k (by omega)
  refine awp_skip <|
   awp_seq <|
   awp_block <|
   sReg rfl <|
   rMv rfl <|
   rwp_det rfl rfl (det_index_sl rfl el34 rfl rfl (by omega) (getm (by assumption))) <|
   rwp_det rfl rfl (det_load_agg rfl agg72 rfl ptr_imm rfl) <|
   rwp_op rfl rfl (ope_allocN [none, some 2, none, some 2] rfl zr72 rfl) ?_
  rintro _ _ ⟨b1, rfl, rfl⟩
  refine rMv rfl <|
   rwp_det0 rfl rfl (det_store rfl sz72 rfl rfl rfl (st_row 0 rfl rfl)) <|
   rwp_nil <|
   awp_seq <|
   sReg rfl <|
   rMv rfl <|
   rMv rfl <|
   rwp_det rfl rfl (det_len_slm rfl el34 rfl) <|
   rwp_det rfl rfl (det_geq rfl rfl rfl) <|
   rwp_nil <|
   awp_cond rfl (fun c2 => ?_) (fun c2 => ?_)
  ·try simp only [sx] at c2
   refine sReg rfl <|
    rMv rfl <|
    rwp_nil <|
    awp_ret <|
    fin1 (rs_c rfl) ?_
   rw [hp, cmpL_one hx (by omega)]
  ·try simp only [sx] at c2
   obtain ⟨y, hy⟩ := ex_get b k (by omega)
   refine awp_skip <|
    sReg rfl <|
    rMv rfl <|
    rMv rfl <|
    rwp_det rfl rfl (det_index_sl rfl el34 rfl rfl (by omega) (getm (by assumption))) <|
    rwp_det rfl rfl (det_load_agg rfl agg72 rfl ptr_imm rfl) <|
    rwp_op rfl rfl (ope_allocN [none, some 2, none, some 2] rfl zr72 rfl) ?_
   rintro _ _ ⟨b2, rfl, rfl⟩
   refine rwp_det0 rfl rfl (det_store rfl sz72 rfl rfl rfl (st_row 0 rfl rfl)) <|
    rwp_nil <|
    sReg rfl <|
    rMv rfl <|
    rwp_det rfl rfl (det_load_agg rfl agg72 rfl (ptr_row 1 rfl) rfl) <|
    rwp_det rfl rfl (det_load_agg rfl agg72 rfl (ptr_row 0 rfl) rfl) <|
    rwp_det rfl rfl (det_call_val rfl rfl (hc _ (mem_of_get hx) _ (mem_of_get hy)) ⟨VLe.refl _, rfl, VLe.refl _, rfl, trivial⟩) <|
    rMv rfl <|
    rwp_nil <|
    sReg rfl <|
    rMv rfl <|
    rwp_det rfl rfl (det_neq rfl rfl rfl) <|
    rwp_nil <|
    awp_cond rfl (fun c3 => ?_) (fun c3 => ?_)
   ·try simp only [sx] at c3
    refine sReg rfl <|
     rMv rfl <|
     rMv rfl <|
     rwp_nil <|
     awp_ret <|
     fin1 (rs_c rfl) ?_
    rw [hp, cmpL_ne hx hy c3]
   ·try simp only [sx] at c3
    refine awp_skip <|
     awp_region rfl <|
     rwp_det rfl rfl (det_add_nw rfl rfl rfl ⟨by omega, by omega⟩) <|
     rMv rfl <|
     rwp_nil ?_
    refine ⟨k + 1, ⟨by omega, hp.trans (cmpL_next hx hy c3), by omega⟩, (by omega), Weak.mk [false, false] ⟨VLe.refl _, VLe.refl _, VLe.refl _, VLe.refl _, VLe.refl _, VLe.refl _, trivial⟩ rfl⟩
 ·try simp only [sx] at c1
  refine awp_exit <|
   awp_seq <|
   sReg rfl <|
   rMv rfl <|
   rwp_det rfl rfl (det_len_slm rfl el34 rfl) <|
   rMv rfl <|
   rwp_det rfl rfl (det_len_slm rfl el34 rfl) <|
   rwp_det rfl rfl (det_lss rfl rfl rfl) <|
   rwp_nil <|
   awp_cond rfl (fun c4 => ?_) (fun c4 => ?_)
  ·try simp only [sx] at c4
   refine sReg rfl <|
    rMv rfl <|
    rwp_nil <|
    awp_ret <|
    fin1 (rs_c rfl) ?_
   rw [hp, cmpL_less (by omega) (by omega)]
  ·try simp only [sx] at c4
   refine awp_skip <|
    sReg rfl <|
    rMv rfl <|
    rwp_nil <|
    awp_ret <|
    fin1 (rs_c rfl) ?_
   rw [hp, cmpL_end (by omega) (by omega)]

theorem slices_CompareFunc_Lf (a b : List Lf) (c : C) (f : Lf → Lf → Int) (ha : a.length ≤ 4294967296) (hb : b.length ≤ 4294967296) (hc : ∀ x, x ∈ a → ∀ y, y ∈ b → FnPur cfg c [vLin x, vLin y] (vI (f x y))) :
    Pur cfg 303 [.c (.sl 2 (a.map Lf.cells)), .c (.sl 2 (b.map Lf.cells)), .c c] (vI (cmpL f a b)) := by
 refine con_intro Tryz.func303 rfl Tryz.ntmps303 Tryz.results303 rfl ?_
 intro z hz
 refine sReg rfl <|
  rMv rfl <|
  rwp_nil <|
  awp_seq <|
  sReg rfl <|
  rMv rfl <|
  rwp_det rfl rfl (det_len_slm rfl el70 rfl) <|
  rMv rfl <|
  rwp_nil <|
  awp_block <|
  awp_weak ⟨[(13, .c _), (0, .c _), (1, .c _), (2, .c _), (11, .c _), (12, .c _)], []⟩ (Weak.mk [] ⟨VLe.of_eq rfl, VLe.of_eq rfl, VLe.of_eq rfl, VLe.of_eq rfl, VLe.of_eq rfl, VLe.of_eq rfl, trivial⟩ rfl) <|
  awp_loop_k 1 0 rfl rfl (Nat) (fun k => [(13, vI k)]) (fun k => []) (fun k => k ≤ a.length ∧ (cmpL f a b = cmpL f (a.drop k) (b.drop k)) ∧ (k ≤ b.length)) (fun k => a.length - k) ⟨0, ⟨by omega, rfl, by omega⟩, Weak.mk [] ⟨VLe.refl _, VLe.refl _, VLe.refl _, VLe.refl _, VLe.refl _, VLe.refl _, trivial⟩ rfl⟩ ?_
 rintro k ⟨hk, hp, hq⟩
 refine sReg rfl <|
  rwp_det rfl rfl (det_lss rfl rfl rfl) <|
  rwp_nil <|
  awp_seq <|
  awp_cond rfl (fun c1 => ?_) (fun c1 => ?_)
 ·try simp only [sx] at c1
  obtain ⟨x, hx⟩ := ex_get a k (by omega)
  refine awp_skip <|
   awp_seq <|
   awp_block <|
   sReg rfl <|
   rMv rfl <|
   rwp_det rfl rfl (det_index_sl rfl el70 rfl rfl (by omega) (getm (by assumption))) <|
   rwp_det rfl rfl (det_load_agg rfl agg41 rfl ptr_imm rfl) <|
   rwp_op rfl rfl (ope_allocN [none, some 2] rfl zr41 rfl) ?_
  rintro _ _ ⟨b1, rfl, rfl⟩
  refine rMv rfl <|
   rwp_det0 rfl rfl (det_store rfl sz41 rfl rfl rfl (st_row 0 rfl rfl)) <|
   rwp_nil <|
   awp_seq <|
   sReg rfl <|
   rMv rfl <|
   rMv rfl <|
   rwp_det rfl rfl (det_len_slm rfl el70 rfl) <|
   rwp_det rfl rfl (det_geq rfl rfl rfl) <|
   rwp_nil <|
   awp_cond rfl (fun c2 => ?_) (fun c2 => ?_)
  ·try simp only [sx] at c2
   refine sReg rfl <|
    rMv rfl <|
    rwp_nil <|
    awp_ret <|
    fin1 (rs_c rfl) ?_
   rw [hp, cmpL_one hx (by omega)]
  ·try simp only [sx] at c2
   obtain ⟨y, hy⟩ := ex_get b k (by omega)
   refine awp_skip <|
    sReg rfl <|
    rMv rfl <|
    rMv rfl <|
    rwp_det rfl rfl (det_index_sl rfl el70 rfl rfl (by omega) (getm (by assumption))) <|
    rwp_det rfl rfl (det_load_agg rfl agg41 rfl ptr_imm rfl) <|
    rwp_op rfl rfl (ope_allocN [none, some 2] rfl zr41 rfl) ?_
   rintro _ _ ⟨b2, rfl, rfl⟩
   refine rwp_det0 rfl rfl (det_store rfl sz41 rfl rfl rfl (st_row 0 rfl rfl)) <|
    rwp_nil <|
    sReg rfl <|
    rMv rfl <|
    rwp_det rfl rfl (det_load_agg rfl agg41 rfl (ptr_row 1 rfl) rfl) <|
    rwp_det rfl rfl (det_load_agg rfl agg41 rfl (ptr_row 0 rfl) rfl) <|
    rwp_det rfl rfl (det_call_val rfl rfl (hc _ (mem_of_get hx) _ (mem_of_get hy)) ⟨VLe.refl _, rfl, VLe.refl _, rfl, trivial⟩) <|
    rMv rfl <|
    rwp_nil <|
    sReg rfl <|
    rMv rfl <|
    rwp_det rfl rfl (det_neq rfl rfl rfl) <|
    rwp_nil <|
    awp_cond rfl (fun c3 => ?_) (fun c3 => ?_)
   ·try simp only [sx] at c3
    refine sReg rfl <|
     rMv rfl <|
     rMv rfl <|
     rwp_nil <|
     awp_ret <|
     fin1 (rs_c rfl) ?_
    rw [hp, cmpL_ne hx hy c3]
   ·try simp only [sx] at c3
    refine awp_skip <|
     awp_region rfl <|
     rwp_det rfl rfl (det_add_nw rfl rfl rfl ⟨by omega, by omega⟩) <|
     rMv rfl <|
     rwp_nil ?_
    refine ⟨k + 1, ⟨by omega, hp.trans (cmpL_next hx hy c3), by omega⟩, (by omega), Weak.mk [false, false] ⟨VLe.refl _, VLe.refl _, VLe.refl _, VLe.refl _, VLe.refl _, VLe.refl _, trivial⟩ rfl⟩
 ·try simp only [sx] at c1
  refine awp_exit <|
   awp_seq <|
   sReg rfl <|
   rMv rfl <|
   rwp_det rfl rfl (det_len_slm rfl el70 rfl) <|
   rMv rfl <|
   rwp_det rfl rfl (det_len_slm rfl el70 rfl) <|
   rwp_det rfl rfl (det_lss rfl rfl rfl) <|
   rwp_nil <|
   awp_cond rfl (fun c4 => ?_) (fun c4 => ?_)
  ·try simp only [sx] at c4
   refine sReg rfl <|
    rMv rfl <|
    rwp_nil <|
    awp_ret <|
    fin1 (rs_c rfl) ?_
   rw [hp, cmpL_less (by omega) (by omega)]
  ·try simp only [sx] at c4
   refine awp_skip <|
    sReg rfl <|
    rMv rfl <|
    rwp_nil <|
    awp_ret <|
    fin1 (rs_c rfl) ?_
   rw [hp, cmpL_end (by omega) (by omega)]

theorem slices_CompareFunc_Ex (a b : List Ex) (c : C) (f : Ex → Ex → Int) (ha : a.length ≤ 4294967296) (hb : b.length ≤ 4294967296) (hc : ∀ x, x ∈ a → ∀ y, y ∈ b → FnPur cfg c [vE x, vE y] (vI (f x y))) :
    Pur cfg 294 [.c (.sl 13 (a.map Ex.cells)), .c (.sl 13 (b.map Ex.cells)), .c c] (vI (cmpL f a b)) := by
 refine con_intro Tryz.func294 rfl Tryz.ntmps294 Tryz.results294 rfl ?_
 intro z hz
 refine sReg rfl <|
  rMv rfl <|
  rwp_nil <|
  awp_seq <|
  sReg rfl <|
  rMv rfl <|
  rwp_det rfl rfl (det_len_slm rfl el42 rfl) <|
  rMv rfl <|
  rwp_nil <|
  awp_block <|
  awp_weak ⟨[(13, .c _), (0, .c _), (1, .c _), (2, .c _), (11, .c _), (12, .c _)], []⟩ (Weak.mk [] ⟨VLe.of_eq rfl, VLe.of_eq rfl, VLe.of_eq rfl, VLe.of_eq rfl, VLe.of_eq rfl, VLe.of_eq rfl, trivial⟩ rfl) <|
  awp_loop_k 1 0 rfl rfl (Nat) (fun k => [(13, vI k)]) (fun k => []) (fun k => k ≤ a.length ∧ (cmpL f a b = cmpL f (a.drop k) (b.drop k)) ∧ (k ≤ b.length)) (fun k => a.length - k) ⟨0, ⟨by omega, rfl, by omega⟩, Weak.mk [] ⟨VLe.refl _, VLe.refl _, VLe.refl _, VLe.refl _, VLe.refl _, VLe.refl _, trivial⟩ rfl⟩ ?_
 rintro k ⟨hk, hp, hq⟩
 refine sReg rfl <|
  rwp_det rfl rfl (det_lss rfl rfl rfl) <|
  rwp_nil <|
  awp_seq <|
  awp_cond rfl (fun c1 => ?_) (fun c1 => ?_)
 ·try simp only [sx] at c1
  obtain ⟨x, hx⟩ := ex_get a k (by omega)
  refine awp_skip <|
   awp_seq <|
   awp_block <|
   sReg rfl <|
   rMv rfl <|
   rwp_det rfl rfl (det_index_sl rfl el42 rfl rfl (by omega) (getmE (by assumption))) <|
   rwp_det rfl rfl (det_load_agg rfl agg44 rfl ptr_imm rfl) <|
   rwp_op rfl rfl (ope_allocN [none, none, none, none, none, none, none, none, none, none, some 2, some 4, some 13] rfl zr44 rfl) ?_
  rintro _ _ ⟨b1, rfl, rfl⟩
  refine rMv rfl <|
   rwp_det0 rfl rfl (det_store rfl sz44 rfl rfl rfl (st_row 0 rfl rfl)) <|
   rwp_nil <|
   awp_seq <|
   sReg rfl <|
   rMv rfl <|
   rMv rfl <|
   rwp_det rfl rfl (det_len_slm rfl el42 rfl) <|
   rwp_det rfl rfl (det_geq rfl rfl rfl) <|
   rwp_nil <|
   awp_cond rfl (fun c2 => ?_) (fun c2 => ?_)
  ·try simp only [sx] at c2
   refine sReg rfl <|
    rMv rfl <|
    rwp_nil <|
    awp_ret <|
    fin1 (rs_c rfl) ?_
   rw [hp, cmpL_one hx (by omega)]
  ·try simp only [sx] at c2
   obtain ⟨y, hy⟩ := ex_get b k (by omega)
   refine awp_skip <|
    sReg rfl <|
    rMv rfl <|
    rMv rfl <|
    rwp_det rfl rfl (det_index_sl rfl el42 rfl rfl (by omega) (getmE (by assumption))) <|
    rwp_det rfl rfl (det_load_agg rfl agg44 rfl ptr_imm rfl) <|
    rwp_op rfl rfl (ope_allocN [none, none, none, none, none, none, none, none, none, none, some 2, some 4, some 13] rfl zr44 rfl) ?_
   rintro _ _ ⟨b2, rfl, rfl⟩
   refine rwp_det0 rfl rfl (det_store rfl sz44 rfl rfl rfl (st_row 0 rfl rfl)) <|
    rwp_nil <|
    sReg rfl <|
    rMv rfl <|
    rwp_det rfl rfl (det_load_agg rfl agg44 rfl (ptr_row 1 rfl) rfl) <|
    rwp_det rfl rfl (det_load_agg rfl agg44 rfl (ptr_row 0 rfl) rfl) <|
    rwp_det rfl rfl (det_call_val rfl rfl (hc _ (mem_of_get hx) _ (mem_of_get hy)) ⟨VLe.refl _, rfl, VLe.refl _, rfl, trivial⟩) <|
    rMv rfl <|
    rwp_nil <|
    sReg rfl <|
    rMv rfl <|
    rwp_det rfl rfl (det_neq rfl rfl rfl) <|
    rwp_nil <|
    awp_cond rfl (fun c3 => ?_) (fun c3 => ?_)
   ·try simp only [sx] at c3
    refine sReg rfl <|
     rMv rfl <|
     rMv rfl <|
     rwp_nil <|
     awp_ret <|
     fin1 (rs_c rfl) ?_
    rw [hp, cmpL_ne hx hy c3]
   ·try simp only [sx] at c3
    refine awp_skip <|
     awp_region rfl <|
     rwp_det rfl rfl (det_add_nw rfl rfl rfl ⟨by omega, by omega⟩) <|
     rMv rfl <|
     rwp_nil ?_
    refine ⟨k + 1, ⟨by omega, hp.trans (cmpL_next hx hy c3), by omega⟩, (by omega), Weak.mk [false, false] ⟨VLe.refl _, VLe.refl _, VLe.refl _, VLe.refl _, VLe.refl _, VLe.refl _, trivial⟩ rfl⟩
 ·try simp only [sx] at c1
  refine awp_exit <|
   awp_seq <|
   sReg rfl <|
   rMv rfl <|
   rwp_det rfl rfl (det_len_slm rfl el42 rfl) <|
   rMv rfl <|
   rwp_det rfl rfl (det_len_slm rfl el42 rfl) <|
   rwp_det rfl rfl (det_lss rfl rfl rfl) <|
   rwp_nil <|
   awp_cond rfl (fun c4 => ?_) (fun c4 => ?_)
  ·try simp only [sx] at c4
   refine sReg rfl <|
    rMv rfl <|
    rwp_nil <|
    awp_ret <|
    fin1 (rs_c rfl) ?_
   rw [hp, cmpL_less (by omega) (by omega)]
  ·try simp only [sx] at c4
   refine awp_skip <|
    sReg rfl <|
    rMv rfl <|
    rwp_nil <|
    awp_ret <|
    fin1 (rs_c rfl) ?_
   rw [hp, cmpL_end (by omega) (by omega)]

theorem compareLists_Ix (a b : List Ix) (c : C) (f : Ix → Ix → Int) (ha : a.length ≤ 4294967296) (hb : b.length ≤ 4294967296) (hc : ∀ x, x ∈ a → ∀ y, y ∈ b → FnPur cfg c [vIndex x, vIndex y] (vI (f x y))) :
    Pur cfg 267 [.c (.sl 4 (a.map Ix.cells)), .c (.sl 4 (b.map Ix.cells)), .c c] (vI (cmpLs f a b)) := by
 refine con_intro Tryz.func267 rfl Tryz.ntmps267 Tryz.results267 rfl ?_
 intro z hz
 refine sReg rfl <|
  rMv rfl <|
  rwp_nil <|
  awp_seq <|
  sReg rfl <|
  rMv rfl <|
  rwp_det rfl rfl (det_len_slm rfl el34 rfl) <|
  rMv rfl <|
  rwp_det rfl rfl (det_len_slm rfl el34 rfl) <|
  rwp_det rfl rfl (det_call rfl ok262 (cmp_Compare_int _ _) ⟨VLe.refl _, rfl, VLe.refl _, rfl, trivial⟩) <|
  rMv rfl <|
  rwp_nil <|
  sReg rfl <|
  rMv rfl <|
  rwp_det rfl rfl (det_neq rfl rfl rfl) <|
  rwp_nil <|
  awp_cond rfl (fun c1 => ?_) (fun c1 => ?_)
 ·try simp only [sx] at c1
  refine sReg rfl <|
   rMv rfl <|
   rMv rfl <|
   rwp_nil <|
   awp_ret <|
   fin1 (rs_c rfl) ?_
  rw [cmpLs, if_neg c1]
 ·try simp only [sx] at c1
  refine awp_skip <|
   sReg rfl <|
   rMv rfl <|
   rMv rfl <|
   rMv rfl <|
   rwp_det rfl rfl (det_call rfl ok292 (slices_CompareFunc_Ix a b c f ha hb hc) ⟨VLe.refl _, rfl, VLe.refl _, rfl, VLe.refl _, rfl, trivial⟩) <|
   rMv rfl <|
   rwp_nil <|
   awp_ret <|
   fin1 (rs_c rfl) ?_
  rw [cmpLs, if_pos c1]

theorem compareLists_Lf (a b : List Lf) (c : C) (f : Lf → Lf → Int) (ha : a.length ≤ 4294967296) (hb : b.length ≤ 4294967296) (hc : ∀ x, x ∈ a → ∀ y, y ∈ b → FnPur cfg c [vLin x, vLin y] (vI (f x y))) :
    Pur cfg 293 [.c (.sl 2 (a.map Lf.cells)), .c (.sl 2 (b.map Lf.cells)), .c c] (vI (cmpLs f a b)) := by
 refine con_intro Tryz.func293 rfl Tryz.ntmps293 Tryz.results293 rfl ?_
 intro z hz
 refine sReg rfl <|
  rMv rfl <|
  rwp_nil <|
  awp_seq <|
  sReg rfl <|
  rMv rfl <|
  rwp_det rfl rfl (det_len_slm rfl el70 rfl) <|
  rMv rfl <|
  rwp_det rfl rfl (det_len_slm rfl el70 rfl) <|
  rwp_det rfl rfl (det_call rfl ok262 (cmp_Compare_int _ _) ⟨VLe.refl _, rfl, VLe.refl _, rfl, trivial⟩) <|
  rMv rfl <|
  rwp_nil <|
  sReg rfl <|
  rMv rfl <|
  rwp_det rfl rfl (det_neq rfl rfl rfl) <|
  rwp_nil <|
  awp_cond rfl (fun c1 => ?_) (fun c1 => ?_)
 ·try simp only [sx] at c1
  refine sReg rfl <|
   rMv rfl <|
   rMv rfl <|
   rwp_nil <|
   awp_ret <|
   fin1 (rs_c rfl) ?_
  rw [cmpLs, if_neg c1]
 ·try simp only [sx] at c1
  refine awp_skip <|
   sReg rfl <|
   rMv rfl <|
   rMv rfl <|
   rMv rfl <|
   rwp_det rfl rfl (det_call rfl ok303 (slices_CompareFunc_Lf a b c f ha hb hc) ⟨VLe.refl _, rfl, VLe.refl _, rfl, VLe.refl _, rfl, trivial⟩) <|
   rMv rfl <|
   rwp_nil <|
   awp_ret <|
   fin1 (rs_c rfl) ?_
  rw [cmpLs, if_pos c1]

theorem compareLists_Ex (a b : List Ex) (c : C) (f : Ex → Ex → Int) (ha : a.length ≤ 4294967296) (hb : b.length ≤ 4294967296) (hc : ∀ x, x ∈ a → ∀ y, y ∈ b → FnPur cfg c [vE x, vE y] (vI (f x y))) :
    Pur cfg 269 [.c (.sl 13 (a.map Ex.cells)), .c (.sl 13 (b.map Ex.cells)), .c c] (vI (cmpLs f a b)) := by
 refine con_intro Tryz.func269 rfl Tryz.ntmps269 Tryz.results269 rfl ?_
 intro z hz
 refine sReg rfl <|
  rMv rfl <|
  rwp_nil <|
  awp_seq <|
  sReg rfl <|
  rMv rfl <|
  rwp_det rfl rfl (det_len_slm rfl el42 rfl) <|
  rMv rfl <|
  rwp_det rfl rfl (det_len_slm rfl el42 rfl) <|
  rwp_det rfl rfl (det_call rfl ok262 (cmp_Compare_int _ _) ⟨VLe.refl _, rfl, VLe.refl _, rfl, trivial⟩) <|
  rMv rfl <|
  rwp_nil <|
  sReg rfl <|
  rMv rfl <|
  rwp_det rfl rfl (det_neq rfl rfl rfl) <|
  rwp_nil <|
  awp_cond rfl (fun c1 => ?_) (fun c1 => ?_)
 ·try simp only [sx] at c1
  refine sReg rfl <|
   rMv rfl <|
   rMv rfl <|
   rwp_nil <|
   awp_ret <|
   fin1 (rs_c rfl) ?_
  rw [cmpLs, if_neg c1]
 ·try simp only [sx] at c1
  refine awp_skip <|
   sReg rfl <|
   rMv rfl <|
   rMv rfl <|
   rMv rfl <|
   rwp_det rfl rfl (det_call rfl ok294 (slices_CompareFunc_Ex a b c f ha hb hc) ⟨VLe.refl _, rfl, VLe.refl _, rfl, VLe.refl _, rfl, trivial⟩) <|
   rMv rfl <|
   rwp_nil <|
   awp_ret <|
   fin1 (rs_c rfl) ?_
  rw [cmpLs, if_pos c1]

theorem lin_order (a b : Int) :
    Pur cfg 291 [vI a, vI b] (vI (cmpI a b)) := by
 refine con_intro Tryz.func291 rfl Tryz.ntmps291 Tryz.results291 rfl ?_
 intro z hz
 refine sReg rfl <|
  rMv rfl <|
  rwp_nil <|
  awp_seq <|
  awp_block <|
  sReg rfl <|
  rMv rfl <|
  rMv rfl <|
  rwp_det rfl rfl (det_lss rfl rfl rfl) <|
  rMv rfl <|
  rwp_nil <|
  awp_cond rfl (fun c1 => ?_) (fun c1 => ?_)
 ·try simp only [sx] at c1
  refine sReg rfl <|
   rMv rfl <|
   rwp_nil <|
   awp_ret <|
   fin1 (rs_c rfl) ?_
  rw [cmpI_lt c1]
 ·try simp only [sx] at c1
  refine sReg rfl <|
   rMv rfl <|
   rMv rfl <|
   rwp_det rfl rfl (det_gtr rfl rfl rfl) <|
   rMv rfl <|
   rwp_nil <|
   awp_cond rfl (fun c2 => ?_) (fun c2 => ?_)
  ·try simp only [sx] at c2
   refine sReg rfl <|
    rMv rfl <|
    rwp_nil <|
    awp_ret <|
    fin1 (rs_c rfl) ?_
   rw [cmpI_gt c2]
  ·try simp only [sx] at c2
   refine awp_skip <|
    sReg rfl <|
    rMv rfl <|
    rwp_nil <|
    awp_ret <|
    fin1 (rs_c rfl) ?_
   rw [cmpI_eq (by omega) (by omega)]

theorem lin_Compare_1 (x y : Mono) :
    Pur cfg 290 [vMono x, vMono y] (vI (cmpM x y)) := by
 refine con_intro Tryz.func290 rfl Tryz.ntmps290 Tryz.results290 rfl ?_
 intro z hz
 refine sReg rfl <|
  rwp_op rfl rfl (ope_box rfl rfl) ?_
 rintro _ _ ⟨b1, rfl, rfl⟩
 refine rwp_op rfl rfl (ope_box rfl rfl) ?_
 rintro _ _ ⟨b2, rfl, rfl⟩
 refine rMv rfl <|
  rwp_nil <|
  awp_seq <|
  sReg rfl <|
  rwp_det rfl rfl (det_field_lit rfl fd69_0 rfl) <|
  rwp_det rfl rfl (det_load_one rfl one9 rfl (ptr_row 1 rfl) rfl) <|
  rwp_det rfl rfl (det_field_lit rfl fd69_0 rfl) <|
  rwp_det rfl rfl (det_load_one rfl one9 rfl (ptr_row 0 rfl) rfl) <|
  rwp_det rfl rfl (det_sneq rfl rfl rfl) <|
  rwp_nil <|
  awp_cond rfl (fun c1 => ?_) (fun c1 => ?_)
 ·try simp only [sx] at c1
  refine sReg rfl <|
   rwp_det rfl rfl (det_field_lit rfl fd69_0 rfl) <|
   rwp_det rfl rfl (det_load_one rfl one9 rfl (ptr_row 1 rfl) rfl) <|
   rwp_det rfl rfl (det_field_lit rfl fd69_0 rfl) <|
   rwp_det rfl rfl (det_load_one rfl one9 rfl (ptr_row 0 rfl) rfl) <|
   rwp_det rfl rfl (det_call rfl ok263 (strings_Compare _ _) ⟨VLe.refl _, rfl, VLe.refl _, rfl, trivial⟩) <|
   rMv rfl <|
   rwp_nil <|
   awp_ret <|
   fin1 (rs_c rfl) ?_
  rw [cmpM, if_neg c1]
 ·try simp only [sx] at c1
  refine awp_skip <|
   sReg rfl <|
   rwp_det rfl rfl (det_field_lit rfl fd69_1 rfl) <|
   rwp_det rfl rfl (det_load_one rfl one2 rfl (ptr_row 1 rfl) rfl) <|
   rwp_det rfl rfl (det_field_lit rfl fd69_1 rfl) <|
   rwp_det rfl rfl (det_load_one rfl one2 rfl (ptr_row 0 rfl) rfl) <|
   rwp_det rfl rfl (det_call rfl ok291 (lin_order _ _) ⟨VLe.refl _, rfl, VLe.refl _, rfl, trivial⟩) <|
   rMv rfl <|
   rwp_nil <|
   awp_ret <|
   fin1 (rs_c rfl) ?_
  rw [cmpM, if_pos c1]

theorem lin_Compare (a b : Lf) (ha : a.L.length ≤ 4294967296) (hb : b.L.length ≤ 4294967296) :
    Pur cfg 266 [vLin a, vLin b] (vI (cmpLf a b)) := by
 refine con_intro Tryz.func266 rfl Tryz.ntmps266 Tryz.results266 rfl ?_
 intro z hz
 refine sReg rfl <|
  rwp_op rfl rfl (ope_box rfl rfl) ?_
 rintro _ _ ⟨b1, rfl, rfl⟩
 refine rwp_op rfl rfl (ope_box rfl rfl) ?_
 rintro _ _ ⟨b2, rfl, rfl⟩
 refine rMv rfl <|
  rwp_nil <|
  sReg rfl <|
  rwp_det rfl rfl (det_field_lit rfl fd41_1 rfl) <|
  rwp_det rfl rfl (det_load_one rfl one39 rfl (ptr_row 1 rfl) rfl) <|
  rwp_det rfl rfl (det_field_lit rfl fd41_1 rfl) <|
  rwp_det rfl rfl (det_load_one rfl one39 rfl (ptr_row 0 rfl) rfl) <|
  rwp_det rfl rfl (det_call rfl ok289 (slices_CompareFunc_Mono a.L b.L _ cmpM ha hb (fun x _ y _ => FnPur.of_pur (first := []) (cap := []) ok290 (lin_Compare_1 x y))) ⟨VLe.refl _, rfl, VLe.refl _, rfl, VLe.refl _, rfl, trivial⟩) <|
  rMv rfl <|
  rwp_nil <|
  awp_seq <|
  sReg rfl <|
  rMv rfl <|
  rwp_det rfl rfl (det_neq rfl rfl rfl) <|
  rwp_nil <|
  awp_cond rfl (fun c1 => ?_) (fun c1 => ?_)
 ·try simp only [sx] at c1
  refine sReg rfl <|
   rMv rfl <|
   rMv rfl <|
   rwp_nil <|
   awp_ret <|
   fin1 (rs_c rfl) ?_
  rw [cmpLf, if_neg c1]
 ·try simp only [sx] at c1
  refine awp_skip <|
   sReg rfl <|
   rwp_det rfl rfl (det_field_lit rfl fd41_0 rfl) <|
   rwp_det rfl rfl (det_load_one rfl one2 rfl (ptr_row 1 rfl) rfl) <|
   rwp_det rfl rfl (det_field_lit rfl fd41_0 rfl) <|
   rwp_det rfl rfl (det_load_one rfl one2 rfl (ptr_row 0 rfl) rfl) <|
   rwp_det rfl rfl (det_call rfl ok291 (lin_order _ _) ⟨VLe.refl _, rfl, VLe.refl _, rfl, trivial⟩) <|
   rMv rfl <|
   rwp_nil <|
   awp_ret <|
   fin1 (rs_c rfl) ?_
  rw [cmpLf, if_pos c1]

theorem expr_compareIndex (a b : Ix) (ha : a.wt ≤ 4294967296) (hb : b.wt ≤ 4294967296) :
    Pur cfg 268 [vIndex a, vIndex b] (vI (cmpIx a b)) := by
 refine con_intro Tryz.func268 rfl Tryz.ntmps268 Tryz.results268 rfl ?_
 intro z hz
 have hwa := ha
 have hwb := hb
 unfold Ix.wt at hwa hwb
 refine sReg rfl <|
  rwp_op rfl rfl (ope_box rfl rfl) ?_
 rintro _ _ ⟨b1, rfl, rfl⟩
 refine rwp_op rfl rfl (ope_box rfl rfl) ?_
 rintro _ _ ⟨b2, rfl, rfl⟩
 refine rMv rfl <|
  rwp_nil <|
  awp_seq <|
  sReg rfl <|
  rwp_det rfl rfl (det_field_lit rfl fd72_1 rfl) <|
  rwp_det rfl rfl (det_load_one rfl one9 rfl (ptr_row 1 rfl) rfl) <|
  rwp_det rfl rfl (det_field_lit rfl fd72_1 rfl) <|
  rwp_det rfl rfl (det_load_one rfl one9 rfl (ptr_row 0 rfl) rfl) <|
  rwp_det rfl rfl (det_call rfl ok263 (strings_Compare _ _) ⟨VLe.refl _, rfl, VLe.refl _, rfl, trivial⟩) <|
  rMv rfl <|
  rwp_nil <|
  sReg rfl <|
  rMv rfl <|
  rwp_det rfl rfl (det_neq rfl rfl rfl) <|
  rwp_nil <|
  awp_cond rfl (fun c1 => ?_) (fun c1 => ?_)
 ·try simp only [sx] at c1
  refine sReg rfl <|
   rMv rfl <|
   rMv rfl <|
   rwp_nil <|
   awp_ret <|
   fin1 (rs_c rfl) ?_
  rw [cmpIx, if_neg c1]
 ·try simp only [sx] at c1
  refine awp_skip <|
   awp_seq <|
   sReg rfl <|
   rwp_det rfl rfl (det_field_lit rfl fd72_0 rfl) <|
   rwp_det rfl rfl (det_load_agg rfl agg41 rfl (ptr_row 1 rfl) rfl) <|
   rwp_det rfl rfl (det_field_lit rfl fd72_0 rfl) <|
   rwp_det rfl rfl (det_load_agg rfl agg41 rfl (ptr_row 0 rfl) rfl) <|
   rwp_det rfl rfl (det_call rfl ok266 (lin_Compare a.Lin b.Lin (by omega) (by omega)) ⟨VLe.refl _, rfl, VLe.refl _, rfl, trivial⟩) <|
   rMv rfl <|
   rwp_nil <|
   sReg rfl <|
   rMv rfl <|
   rwp_det rfl rfl (det_neq rfl rfl rfl) <|
   rwp_nil <|
   awp_cond rfl (fun c2 => ?_) (fun c2 => ?_)
  ·try simp only [sx] at c2
   refine sReg rfl <|
    rMv rfl <|
    rMv rfl <|
    rwp_nil <|
    awp_ret <|
    fin1 (rs_c rfl) ?_
   rw [cmpIx, if_pos c1, if_neg c2]
  ·try simp only [sx] at c2
   refine awp_skip <|
    sReg rfl <|
    rwp_det rfl rfl (det_field_lit rfl fd72_2 rfl) <|
    rwp_det rfl rfl (det_load_one rfl one70 rfl (ptr_row 1 rfl) rfl) <|
    rwp_det rfl rfl (det_field_lit rfl fd72_2 rfl) <|
    rwp_det rfl rfl (det_load_one rfl one70 rfl (ptr_row 0 rfl) rfl) <|
    rwp_det rfl rfl (det_call rfl ok293 (compareLists_Lf a.At b.At _ cmpLf (by omega) (by omega) (fun x hx y hy => FnPur.of_pur (first := []) (cap := []) ok266 (lin_Compare x y (by have := linsWt_mem hx; omega) (by have := linsWt_mem hy; omega)))) ⟨VLe.refl _, rfl, VLe.refl _, rfl, VLe.refl _, rfl, trivial⟩) <|
    rMv rfl <|
    rwp_nil <|
    awp_ret <|
    fin1 (rs_c rfl) ?_
   rw [cmpIx, if_pos c1, if_pos c2]

theorem expr_compareType (a b : Ty) :
    Pur cfg 265 [vTy a, vTy b] (vI (cmpTy a b)) := by
 refine con_intro Tryz.func265 rfl Tryz.ntmps265 Tryz.results265 rfl ?_
 intro z hz
 refine sReg rfl <|
  rwp_op rfl rfl (ope_box rfl rfl) ?_
 rintro _ _ ⟨b1, rfl, rfl⟩
 refine rwp_op rfl rfl (ope_box rfl rfl) ?_
 rintro _ _ ⟨b2, rfl, rfl⟩
 refine rMv rfl <|
  rwp_nil <|
  awp_seq <|
  awp_draw 28 mixed (by kernel_rfl) rfl rfl <|
  td_det rfl rfl (det_field_lit rfl fd38_0 rfl) <|
  td_det rfl rfl (det_load_one rfl one3 rfl (ptr_row 1 rfl) rfl) <|
  td_det rfl rfl (det_field_lit rfl fd38_0 rfl) <|
  td_det rfl rfl (det_load_one rfl one3 rfl (ptr_row 0 rfl) rfl) <|
  td_det rfl rfl (det_call rfl ok262 (cmp_Compare_int _ _) ⟨VLe.refl _, rfl, VLe.refl _, rfl, trivial⟩) <|
  td_det rfl rfl (det_field_lit rfl fd38_1 rfl) <|
  td_det rfl rfl (det_load_one rfl one3 rfl (ptr_row 1 rfl) rfl) <|
  td_det rfl rfl (det_field_lit rfl fd38_1 rfl) <|
  td_det rfl rfl (det_load_one rfl one3 rfl (ptr_row 0 rfl) rfl) <|
  td_det rfl rfl (det_call rfl ok262 (cmp_Compare_int _ _) ⟨VLe.refl _, rfl, VLe.refl _, rfl, trivial⟩) <|
  td_det rfl rfl (det_field_lit rfl fd38_2 rfl) <|
  td_det rfl rfl (det_load_one rfl one3 rfl (ptr_row 1 rfl) rfl) <|
  td_det rfl rfl (det_field_lit rfl fd38_2 rfl) <|
  td_det rfl rfl (det_load_one rfl one3 rfl (ptr_row 0 rfl) rfl) <|
  td_det rfl rfl (det_call rfl ok262 (cmp_Compare_int _ _) ⟨VLe.refl _, rfl, VLe.refl _, rfl, trivial⟩) <|
  td_det rfl rfl (det_field_lit rfl fd38_3 rfl) <|
  td_det rfl rfl (det_load_one rfl one3 rfl (ptr_row 1 rfl) rfl) <|
  td_det rfl rfl (det_field_lit rfl fd38_3 rfl) <|
  td_det rfl rfl (det_load_one rfl one3 rfl (ptr_row 0 rfl) rfl) <|
  td_det rfl rfl (det_call rfl ok262 (cmp_Compare_int _ _) ⟨VLe.refl _, rfl, VLe.refl _, rfl, trivial⟩) <|
  td_det rfl rfl (det_field_lit rfl fd38_4 rfl) <|
  td_det rfl rfl (det_load_one rfl one3 rfl (ptr_row 1 rfl) rfl) <|
  td_det rfl rfl (det_field_lit rfl fd38_4 rfl) <|
  td_det rfl rfl (det_load_one rfl one3 rfl (ptr_row 0 rfl) rfl) <|
  td_det rfl rfl (det_call rfl ok262 (cmp_Compare_int _ _) ⟨VLe.refl _, rfl, VLe.refl _, rfl, trivial⟩) <|
  td_det rfl rfl (det_bslice rfl el26 zr3 rfl rfl rfl rfl) <|
  td_det rfl rfl (det_call rfl ok261 (cmp_Or_int [cmpI a.Kind b.Kind, cmpI a.Bits b.Bits, cmpI a.Frac b.Frac, cmpI a.Round b.Round, cmpI a.Over b.Over] (by simp)) ⟨VLe.refl _, rfl, trivial⟩) <|
  td_det rfl rfl (det_assign rfl rfl) <|
  td_nil <|
  rwp_nil <|
  awp_ret <|
  fin1 (rs_c rfl) ?_
 exact rfl

theorem expr_Compare_step (a b : Ex) (ih : ∀ x, x ∈ a.Args → ∀ y, x.wt ≤ 4294967296 → y.wt ≤ 4294967296 → Pur cfg 234 [vE x, vE y] (vI (cmpE x y))) (ha : a.wt ≤ 4294967296) (hb : b.wt ≤ 4294967296) :
    Pur cfg 234 [vE a, vE b] (vI (cmpE a b)) := by
 refine con_intro Tryz.func234 rfl Tryz.ntmps234 Tryz.results234 rfl ?_
 intro z hz
 obtain ⟨hLa, hIa, hAa⟩ := a.parts ha
 obtain ⟨hLb, hIb, hAb⟩ := b.parts hb
 have hwa := Ex.wt_eq a
 have hwb := Ex.wt_eq b
 refine sReg rfl <|
  rwp_op rfl rfl (ope_box rfl rfl) ?_
 rintro _ _ ⟨b1, rfl, rfl⟩
 refine rwp_op rfl rfl (ope_box rfl rfl) ?_
 rintro _ _ ⟨b2, rfl, rfl⟩
 refine rMv rfl <|
  rwp_nil <|
  awp_seq <|
  awp_draw 37 mixed (by kernel_rfl) rfl rfl <|
  td_det rfl rfl (det_field_lit rfl fd44_0 rfl) <|
  td_det rfl rfl (det_load_one rfl one3 rfl (ptr_row 1 rfl) rfl) <|
  td_det rfl rfl (det_field_lit rfl fd44_0 rfl) <|
  td_det rfl rfl (det_load_one rfl one3 rfl (ptr_row 0 rfl) rfl) <|
  td_det rfl rfl (det_call rfl ok262 (cmp_Compare_int _ _) ⟨VLe.refl _, rfl, VLe.refl _, rfl, trivial⟩) <|
  td_det rfl rfl (det_field_lit rfl fd44_1 rfl) <|
  td_det rfl rfl (det_load_one rfl one9 rfl (ptr_row 1 rfl) rfl) <|
  td_det rfl rfl (det_field_lit rfl fd44_1 rfl) <|
  td_det rfl rfl (det_load_one rfl one9 rfl (ptr_row 0 rfl) rfl) <|
  td_det rfl rfl (det_call rfl ok263 (strings_Compare _ _) ⟨VLe.refl _, rfl, VLe.refl _, rfl, trivial⟩) <|
  td_det rfl rfl (det_field_lit rfl fd44_2 rfl) <|
  td_det rfl rfl (det_field_lit rfl fd36_0 rfl) <|
  td_det rfl rfl (det_load_one rfl one2 rfl (ptr_row 1 rfl) rfl) <|
  td_det rfl rfl (det_field_lit rfl fd44_2 rfl) <|
  td_det rfl rfl (det_field_lit rfl fd36_0 rfl) <|
  td_det rfl rfl (det_load_one rfl one2 rfl (ptr_row 0 rfl) rfl) <|
  td_det rfl rfl (det_call rfl ok264 (cmp_Compare_i64 _ _) ⟨VLe.refl _, rfl, VLe.refl _, rfl, trivial⟩) <|
  td_det rfl rfl (det_field_lit rfl fd44_2 rfl) <|
  td_det rfl rfl (det_field_lit rfl fd36_1 rfl) <|
  td_det rfl rfl (det_load_one rfl one2 rfl (ptr_row 1 rfl) rfl) <|
  td_det rfl rfl (det_field_lit rfl fd44_2 rfl) <|
  td_det rfl rfl (det_field_lit rfl fd36_1 rfl) <|
  td_det rfl rfl (det_load_one rfl one2 rfl (ptr_row 0 rfl) rfl) <|
  td_det rfl rfl (det_call rfl ok264 (cmp_Compare_i64 _ _) ⟨VLe.refl _, rfl, VLe.refl _, rfl, trivial⟩) <|
  td_det rfl rfl (det_field_lit rfl fd44_3 rfl) <|
  td_det rfl rfl (det_load_agg rfl agg38 rfl (ptr_row 1 rfl) rfl) <|
  td_det rfl rfl (det_field_lit rfl fd44_3 rfl) <|
  td_det rfl rfl (det_load_agg rfl agg38 rfl (ptr_row 0 rfl) rfl) <|
  td_det rfl rfl (det_call rfl ok265 (expr_compareType _ _) ⟨VLe.refl _, rfl, VLe.refl _, rfl, trivial⟩) <|
  td_det rfl rfl (det_field_lit rfl fd44_4 rfl) <|
  td_det rfl rfl (det_load_agg rfl agg41 rfl (ptr_row 1 rfl) rfl) <|
  td_det rfl rfl (det_field_lit rfl fd44_4 rfl) <|
  td_det rfl rfl (det_load_agg rfl agg41 rfl (ptr_row 0 rfl) rfl) <|
  td_det rfl rfl (det_call rfl ok266 (lin_Compare a.Lin b.Lin hLa hLb) ⟨VLe.refl _, rfl, VLe.refl _, rfl, trivial⟩) <|
  td_det rfl rfl (det_bslice rfl el26 zr3 rfl rfl rfl rfl) <|
  td_det rfl rfl (det_call rfl ok261 (cmp_Or_int [cmpI a.Op b.Op, cmpS a.Name b.Name, cmpI a.Val.N b.Val.N, cmpI a.Val.D b.Val.D, cmpTy a.Ty b.Ty, cmpLf a.Lin b.Lin] (by simp)) ⟨VLe.refl _, rfl, trivial⟩) <|
  td_det rfl rfl (det_assign rfl rfl) <|
  td_nil <|
  rwp_nil <|
  awp_seq <|
  sReg rfl <|
  rMv rfl <|
  rwp_det rfl rfl (det_neq rfl rfl rfl) <|
  rwp_nil <|
  awp_cond rfl (fun c1 => ?_) (fun c1 => ?_)
 ·try simp only [sx] at c1
  refine sReg rfl <|
   rMv rfl <|
   rMv rfl <|
   rwp_nil <|
   awp_ret <|
   fin1 (rs_c rfl) ?_
  rw [cmpE_eq, if_neg (show ¬ cmpHd a b = 0 from c1)]; rfl
 ·try simp only [sx] at c1
  refine awp_skip <|
   awp_seq <|
   sReg rfl <|
   rwp_det rfl rfl (det_field_lit rfl fd44_5 rfl) <|
   rwp_det rfl rfl (det_load_one rfl one34 rfl (ptr_row 1 rfl) rfl) <|
   rwp_det rfl rfl (det_field_lit rfl fd44_5 rfl) <|
   rwp_det rfl rfl (det_load_one rfl one34 rfl (ptr_row 0 rfl) rfl) <|
   rwp_det rfl rfl (det_call rfl ok267 (compareLists_Ix a.Idx b.Idx _ cmpIx hIa hIb (fun x hx y hy => FnPur.of_pur (first := []) (cap := []) ok268 (expr_compareIndex x y (by have := idxWt_mem hx; omega) (by have := idxWt_mem hy; omega)))) ⟨VLe.refl _, rfl, VLe.refl _, rfl, VLe.refl _, rfl, trivial⟩) <|
   rMv rfl <|
   rwp_nil <|
   sReg rfl <|
   rMv rfl <|
   rwp_det rfl rfl (det_neq rfl rfl rfl) <|
   rwp_nil <|
   awp_cond rfl (fun c2 => ?_) (fun c2 => ?_)
  ·try simp only [sx] at c2
   refine sReg rfl <|
    rMv rfl <|
    rMv rfl <|
    rwp_nil <|
    awp_ret <|
    fin1 (rs_c rfl) ?_
   rw [cmpE_eq, if_pos (show cmpHd a b = 0 from c1), if_neg c2]
  ·try simp only [sx] at c2
   refine awp_skip <|
    sReg rfl <|
    rwp_det rfl rfl (det_field_lit rfl fd44_6 rfl) <|
    rwp_det rfl rfl (det_load_one rfl one42 rfl (ptr_row 1 rfl) rfl) <|
    rwp_det rfl rfl (det_field_lit rfl fd44_6 rfl) <|
    rwp_det rfl rfl (det_load_one rfl one42 rfl (ptr_row 0 rfl) rfl) <|
    rwp_det rfl rfl (det_call rfl ok269 (compareLists_Ex a.Args b.Args _ cmpE hAa hAb (fun x hx y hy => FnPur.of_pur (first := []) (cap := []) ok234 (ih x hx y (by have := Ex.arg_wt hx; omega) (by have := Ex.arg_wt hy; omega)))) ⟨VLe.refl _, rfl, VLe.refl _, rfl, VLe.refl _, rfl, trivial⟩) <|
    rMv rfl <|
    rwp_nil <|
    awp_ret <|
    fin1 (rs_c rfl) ?_
   rw [cmpE_eq, if_pos (show cmpHd a b = 0 from c1), if_pos c2]

theorem expr_Compare (a b : Ex) (ha : a.wt ≤ 4294967296) (hb : b.wt ≤ 4294967296) : Pur cfg 234 [vE a, vE b] (vI (cmpE a b)) := by
  induction a using Ex.ind generalizing b with
  | _ a ih => exact expr_Compare_step a b (fun x hx y h1 h2 => ih x hx y h1 h2) ha hb

theorem expr_Same (a b : Ex) (ha : a.wt ≤ 4294967296) (hb : b.wt ≤ 4294967296) :
    Pur cfg 205 [vE a, vE b] (vB (decide (a = b))) := by
 refine con_intro Tryz.func205 rfl Tryz.ntmps205 Tryz.results205 rfl ?_
 intro z hz
 refine sReg rfl <|
  rwp_op rfl rfl (ope_box rfl rfl) ?_
 rintro _ _ ⟨b1, rfl, rfl⟩
 refine rwp_op rfl rfl (ope_box rfl rfl) ?_
 rintro _ _ ⟨b2, rfl, rfl⟩
 refine rMv rfl <|
  rwp_nil <|
  sReg rfl <|
  rwp_det rfl rfl (det_load_agg rfl agg44 rfl (ptr_row 1 rfl) rfl) <|
  rwp_det rfl rfl (det_load_agg rfl agg44 rfl (ptr_row 0 rfl) rfl) <|
  rwp_det rfl rfl (det_call rfl ok234 (expr_Compare a b ha hb) ⟨VLe.refl _, rfl, VLe.refl _, rfl, trivial⟩) <|
  rwp_det rfl rfl (det_eql rfl rfl rfl) <|
  rMv rfl <|
  rwp_nil <|
  awp_ret <|
  fin1 (rs_c rfl) ?_
 exact congrArg vB (decide_eq_decide.2 (cmpE_zero a b))

end Go.W
