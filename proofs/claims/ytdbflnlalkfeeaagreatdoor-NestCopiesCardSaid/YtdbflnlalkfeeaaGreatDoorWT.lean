/-
  Walks: what functions of the program compute. Printed by wip/gen/mk2.py.
  Conditions: none.
-/
import Derived.Test.YtdbflnlalkfeeaaGreatDoorWE
import Derived.Test.YtdbflnlalkfeeaaGreatDoorPlain
import Derived.Test.YtdbflnlalkfeeaaGreatDoorEngZ
set_option linter.unusedSimpArgs false
set_option linter.unusedVariables false
set_option maxRecDepth 10000
namespace Go.W
open Go Go.Eng Go.Proofs Go.L41 Go.Br
attribute [local irreducible] AWP RWP TD finQ
theorem el33 : elemT Tryz.prog 33 = some (3, 1, 8) := by kernel_rfl
theorem ok185 : callOk Tryz.prog 185 = true := by kernel_rfl
theorem ok204 : callOk Tryz.prog 204 = true := by kernel_rfl
theorem ok205 : callOk Tryz.prog 205 = true := by kernel_rfl
theorem ok206 : callOk Tryz.prog 206 = true := by kernel_rfl
theorem ok207 : callOk Tryz.prog 207 = true := by kernel_rfl
theorem ok208 : callOk Tryz.prog 208 = true := by kernel_rfl
theorem ok209 : callOk Tryz.prog 209 = true := by kernel_rfl
theorem ok210 : callOk Tryz.prog 210 = true := by kernel_rfl
theorem ok211 : callOk Tryz.prog 211 = true := by kernel_rfl
theorem ok212 : callOk Tryz.prog 212 = true := by kernel_rfl
theorem ok242 : callOk Tryz.prog 242 = true := by kernel_rfl
theorem ok244 : callOk Tryz.prog 244 = true := by kernel_rfl
theorem ok245 : callOk Tryz.prog 245 = true := by kernel_rfl
theorem ok246 : callOk Tryz.prog 246 = true := by kernel_rfl
theorem ok247 : callOk Tryz.prog 247 = true := by kernel_rfl
theorem ok248 : callOk Tryz.prog 248 = true := by kernel_rfl
theorem ok249 : callOk Tryz.prog 249 = true := by kernel_rfl
theorem ok250 : callOk Tryz.prog 250 = true := by kernel_rfl
theorem ok277 : callOk Tryz.prog 277 = true := by kernel_rfl
theorem cmp_isNaN_int (a : Int) :
    Pur cfg 242 [vI a] (vB false) := by
 refine con_intro Tryz.func242 rfl Tryz.ntmps242 Tryz.results242 rfl ?_
 intro z hz
 refine sReg rfl <|
  rMv rfl <|
  rwp_nil <|
  sReg rfl <|
  rMv rfl <|
  rMv rfl <|
  rwp_det rfl rfl (det_neq rfl rfl rfl) <|
  rMv rfl <|
  rwp_nil <|
  awp_ret <|
  fin1 (rs_c rfl) ?_
 exact congrArg vB (by simp)

theorem cmp_Compare_int (a b : Int) :
    Pur cfg 205 [vI a, vI b] (vI (cmpI a b)) := by
 refine con_intro Tryz.func205 rfl Tryz.ntmps205 Tryz.results205 rfl ?_
 intro z hz
 refine sReg rfl <|
  rMv rfl <|
  rwp_nil <|
  sReg rfl <|
  rMv rfl <|
  rwp_det rfl rfl (det_call rfl ok242 (cmp_isNaN_int a) ⟨VLe.refl _, rfl, trivial⟩) <|
  rMv rfl <|
  rwp_nil <|
  sReg rfl <|
  rMv rfl <|
  rwp_det rfl rfl (det_call rfl ok242 (cmp_isNaN_int b) ⟨VLe.refl _, rfl, trivial⟩) <|
  rMv rfl <|
  rwp_nil <|
  awp_seq <|
  sReg rfl <|
  rMv rfl <|
  rwp_nil <|
  awp_cond rfl (fun c1 => ?_) (fun c1 => ?_)
 ·exact absurd c1 (by decide)
 ·refine awp_skip <|
   awp_seq <|
   sReg rfl <|
   rMv rfl <|
   rwp_nil <|
   awp_cond rfl (fun c3 => ?_) (fun c3 => ?_)
  ·exact absurd c3 (by decide)
  ·refine awp_skip <|
    awp_seq <|
    sReg rfl <|
    rMv rfl <|
    rMv rfl <|
    rwp_det rfl rfl (det_lss rfl rfl rfl) <|
    rwp_nil <|
    awp_cond rfl (fun c4 => ?_) (fun c4 => ?_)
   ·try simp only [sx] at c4
    refine sReg rfl <|
     rMv rfl <|
     rwp_nil <|
     awp_ret <|
     fin1 (rs_c rfl) ?_
    rw [cmpI_lt c4]
   ·try simp only [sx] at c4
    refine awp_skip <|
     awp_seq <|
     sReg rfl <|
     rMv rfl <|
     rMv rfl <|
     rwp_det rfl rfl (det_gtr rfl rfl rfl) <|
     rwp_nil <|
     awp_cond rfl (fun c5 => ?_) (fun c5 => ?_)
    ·try simp only [sx] at c5
     refine sReg rfl <|
      rMv rfl <|
      rwp_nil <|
      awp_ret <|
      fin1 (rs_c rfl) ?_
     rw [cmpI_gt c5]
    ·try simp only [sx] at c5
     refine awp_skip <|
      sReg rfl <|
      rMv rfl <|
      rwp_nil <|
      awp_ret <|
      fin1 (rs_c rfl) ?_
     rw [cmpI_eq (by omega) (by omega)]

theorem cmp_isNaN_i64 (a : Int) :
    Pur cfg 244 [vI a] (vB false) := by
 refine con_intro Tryz.func244 rfl Tryz.ntmps244 Tryz.results244 rfl ?_
 intro z hz
 refine sReg rfl <|
  rMv rfl <|
  rwp_nil <|
  sReg rfl <|
  rMv rfl <|
  rMv rfl <|
  rwp_det rfl rfl (det_neq rfl rfl rfl) <|
  rMv rfl <|
  rwp_nil <|
  awp_ret <|
  fin1 (rs_c rfl) ?_
 exact congrArg vB (by simp)

theorem cmp_Compare_i64 (a b : Int) :
    Pur cfg 207 [vI a, vI b] (vI (cmpI a b)) := by
 refine con_intro Tryz.func207 rfl Tryz.ntmps207 Tryz.results207 rfl ?_
 intro z hz
 refine sReg rfl <|
  rMv rfl <|
  rwp_nil <|
  sReg rfl <|
  rMv rfl <|
  rwp_det rfl rfl (det_call rfl ok244 (cmp_isNaN_i64 a) ⟨VLe.refl _, rfl, trivial⟩) <|
  rMv rfl <|
  rwp_nil <|
  sReg rfl <|
  rMv rfl <|
  rwp_det rfl rfl (det_call rfl ok244 (cmp_isNaN_i64 b) ⟨VLe.refl _, rfl, trivial⟩) <|
  rMv rfl <|
  rwp_nil <|
  awp_seq <|
  sReg rfl <|
  rMv rfl <|
  rwp_nil <|
  awp_cond rfl (fun c1 => ?_) (fun c1 => ?_)
 ·exact absurd c1 (by decide)
 ·refine awp_skip <|
   awp_seq <|
   sReg rfl <|
   rMv rfl <|
   rwp_nil <|
   awp_cond rfl (fun c3 => ?_) (fun c3 => ?_)
  ·exact absurd c3 (by decide)
  ·refine awp_skip <|
    awp_seq <|
    sReg rfl <|
    rMv rfl <|
    rMv rfl <|
    rwp_det rfl rfl (det_lss rfl rfl rfl) <|
    rwp_nil <|
    awp_cond rfl (fun c4 => ?_) (fun c4 => ?_)
   ·try simp only [sx] at c4
    refine sReg rfl <|
     rMv rfl <|
     rwp_nil <|
     awp_ret <|
     fin1 (rs_c rfl) ?_
    rw [cmpI_lt c4]
   ·try simp only [sx] at c4
    refine awp_skip <|
     awp_seq <|
     sReg rfl <|
     rMv rfl <|
     rMv rfl <|
     rwp_det rfl rfl (det_gtr rfl rfl rfl) <|
     rwp_nil <|
     awp_cond rfl (fun c5 => ?_) (fun c5 => ?_)
    ·try simp only [sx] at c5
     refine sReg rfl <|
      rMv rfl <|
      rwp_nil <|
      awp_ret <|
      fin1 (rs_c rfl) ?_
     rw [cmpI_gt c5]
    ·try simp only [sx] at c5
     refine awp_skip <|
      sReg rfl <|
      rMv rfl <|
      rwp_nil <|
      awp_ret <|
      fin1 (rs_c rfl) ?_
     rw [cmpI_eq (by omega) (by omega)]

theorem cmp_Or_int (l : List Int) (hl : l.length ≤ 4294967296) :
    Pur cfg 204 [.c (.sl 1 (l.map fun n => [cI n]))] (vI (orI l)) := by
 refine con_intro Tryz.func204 rfl Tryz.ntmps204 Tryz.results204 rfl ?_
 intro z hz
 refine sReg rfl <|
  rMv rfl <|
  rwp_nil <|
  sReg rfl <|
  rMv rfl <|
  rwp_nil <|
  awp_seq <|
  sReg rfl <|
  rMv rfl <|
  rwp_det rfl rfl (det_len_slm rfl el33 rfl) <|
  rMv rfl <|
  rwp_nil <|
  awp_block <|
  awp_weak ⟨[(8, .c _), (3, .c _), (6, .c _), (7, .c _)], []⟩ (Weak.mk [] ⟨VLe.of_eq rfl, VLe.of_eq rfl, VLe.of_eq rfl, VLe.of_eq rfl, trivial⟩ rfl) <|
  awp_loop_k 1 0 rfl rfl (Nat) (fun k => [(8, vI k)]) (fun k => []) (fun k => k ≤ l.length ∧ (orI l = orI (l.drop k))) (fun k => l.length - k) ⟨0, ⟨by omega, rfl⟩, Weak.mk [] ⟨VLe.refl _, VLe.refl _, VLe.refl _, VLe.refl _, trivial⟩ rfl⟩ ?_
 rintro k ⟨hk, hp⟩
 refine sReg rfl <|
  rwp_det rfl rfl (det_lss rfl rfl rfl) <|
  rwp_nil <|
  awp_seq <|
  awp_cond rfl (fun c1 => ?_) (fun c1 => ?_)
 ·try simp only [sx] at c1
  obtain ⟨x, hx⟩ := ex_get l k (by omega)
  refine awp_skip <|
   awp_seq <|
   awp_block <|
   sReg rfl <|
   rwp_det rfl rfl (det_index_sl rfl el33 rfl rfl (by omega) (getm (by assumption))) <|
   rwp_det rfl rfl (det_load_one rfl one3 rfl ptr_imm rfl) <|
   rMv rfl <|
   rwp_nil <|
   sReg rfl <|
   rMv rfl <|
   rMv rfl <|
   rwp_det rfl rfl (det_neq rfl rfl rfl) <|
   rwp_nil <|
   awp_cond rfl (fun c2 => ?_) (fun c2 => ?_)
  ·try simp only [sx] at c2
   refine sReg rfl <|
    rMv rfl <|
    rMv rfl <|
    rwp_nil <|
    awp_ret <|
    fin1 (rs_c rfl) ?_
   rw [hp, orI_at hx c2]
  ·try simp only [sx] at c2
   refine awp_skip <|
    awp_region rfl <|
    rwp_det rfl rfl (det_add_nw rfl rfl rfl ⟨by omega, by omega⟩) <|
    rMv rfl <|
    rwp_nil ?_
   refine ⟨k + 1, ⟨by omega, hp.trans (orI_next hx c2)⟩, (by omega), Weak.mk [] ⟨VLe.refl _, VLe.refl _, VLe.refl _, VLe.refl _, trivial⟩ rfl⟩
 ·try simp only [sx] at c1
  refine awp_exit <|
   sReg rfl <|
   rMv rfl <|
   rMv rfl <|
   rwp_nil <|
   awp_ret <|
   fin1 (rs_c rfl) ?_
  rw [hp, drop_end (by omega)]; rfl


theorem slices_CompareFunc_Mono (a b : List Mono) (c : C) (f : Mono → Mono → Int) (ha : a.length ≤ 4294967296) (hb : b.length ≤ 4294967296) (hc : ∀ x, x ∈ a → ∀ y, y ∈ b → FnPur cfg c [vMono x, vMono y] (vI (f x y))) :
    Pur cfg 245 [.c (.sl 2 (a.map Mono.cells)), .c (.sl 2 (b.map Mono.cells)), .c c] (vI (cmpL f a b)) := by
 refine con_intro Tryz.func245 rfl Tryz.ntmps245 Tryz.results245 rfl ?_
 intro z hz
 refine sReg rfl <|
  rMv rfl <|
  rwp_nil <|
  awp_seq <|
  sReg rfl <|
  rMv rfl <|
  rwp_det rfl rfl (det_len_slm rfl el47 rfl) <|
  rMv rfl <|
  rwp_nil <|
  awp_block <|
  awp_weak ⟨[(13, .c _), (0, .c _), (1, .c _), (2, .c _), (11, .c _), (12, .c _)], []⟩ (Weak.mk [] ⟨VLe.of_eq rfl, VLe.of_eq rfl, VLe.of_eq rfl, VLe.of_eq rfl, VLe.of_eq rfl, VLe.of_eq rfl, trivial⟩ rfl) <|
  awp_loop_k 1 0 rfl rfl (Nat) (fun k => [(13, vI k)]) (fun k => []) (fun k => k ≤ a.length ∧ (cmpL f a b = cmpL f (a.drop k) (b.drop k)) ∧ (k ≤ b.length)) (fun k => a.length - k) ⟨0, ⟨by omega, rfl, by omega⟩, Weak.mk [] ⟨VLe.refl _, VLe.refl _, VLe.refl _, VLe.refl _, VLe.refl _, VLe.refl _, trivial⟩ rfl⟩ ?_
 rintro k ⟨hk, hp, hq⟩
 refine sReg rfl <|
  rwp_det rfl rfl (det_lss rfl rfl rfl) <|
  rwp_nil <|
  awp_seq <|
  awp_cond rfl (fun c1 => ?_) (fun c1 => ?_)
 ·try simp only [sx] at c1
  obtain ⟨x, hx⟩ := ex_get a k (by omega)
  refine awp_skip <|
   awp_seq <|
   awp_block <|
   sReg rfl <|
   rMv rfl <|
   rwp_det rfl rfl (det_index_sl rfl el47 rfl rfl (by omega) (getm (by assumption))) <|
   rwp_det rfl rfl (det_load_agg rfl agg111 rfl ptr_imm rfl) <|
   rwp_op rfl rfl (ope_alloc rfl zr111) ?_
  rintro _ _ ⟨b1, rfl, rfl⟩
  refine rMv rfl <|
   rwp_det0 rfl rfl (det_store rfl sz111 rfl rfl rfl (st_row 0 rfl rfl)) <|
   rwp_nil <|
   awp_seq <|
   sReg rfl <|
   rMv rfl <|
   rMv rfl <|
   rwp_det rfl rfl (det_len_slm rfl el47 rfl) <|
   rwp_det rfl rfl (det_geq rfl rfl rfl) <|
   rwp_nil <|
   awp_cond rfl (fun c2 => ?_) (fun c2 => ?_)
  ·try simp only [sx] at c2
   refine sReg rfl <|
    rMv rfl <|
    rwp_nil <|
    awp_ret <|
    fin1 (rs_c rfl) ?_
   rw [hp, cmpL_one hx (by omega)]
  ·try simp only [sx] at c2
   obtain ⟨y, hy⟩ := ex_get b k (by omega)
   refine awp_skip <|
    sReg rfl <|
    rMv rfl <|
    rMv rfl <|
    rwp_det rfl rfl (det_index_sl rfl el47 rfl rfl (by omega) (getm (by assumption))) <|
    rwp_det rfl rfl (det_load_agg rfl agg111 rfl ptr_imm rfl) <|
    rwp_op rfl rfl (ope_alloc rfl zr111) ?_
   rintro _ _ ⟨b2, rfl, rfl⟩
   refine rwp_det0 rfl rfl (det_store rfl sz111 rfl rfl rfl (st_row 0 rfl rfl)) <|
    rwp_nil <|
    sReg rfl <|
    rMv rfl <|
    rwp_det rfl rfl (det_load_agg rfl agg111 rfl (ptr_row 1 rfl) rfl) <|
    rwp_det rfl rfl (det_load_agg rfl agg111 rfl (ptr_row 0 rfl) rfl) <|
    rwp_det rfl rfl (det_call_val rfl rfl (hc _ (mem_of_get hx) _ (mem_of_get hy)) ⟨VLe.refl _, rfl, VLe.refl _, rfl, trivial⟩) <|
    rMv rfl <|
    rwp_nil <|
    sReg rfl <|
    rMv rfl <|
    rwp_det rfl rfl (det_neq rfl rfl rfl) <|
    rwp_nil <|
    awp_cond rfl (fun c3 => ?_) (fun c3 => ?_)
   ·try simp only [sx] at c3
    refine sReg rfl <|
     rMv rfl <|
     rMv rfl <|
     rwp_nil <|
     awp_ret <|
     fin1 (rs_c rfl) ?_
    rw [hp, cmpL_ne hx hy c3]
   ·try simp only [sx] at c3
    refine awp_skip <|
     awp_region rfl <|
     rwp_det rfl rfl (det_add_nw rfl rfl rfl ⟨by omega, by omega⟩) <|
     rMv rfl <|
     rwp_nil ?_
    refine ⟨k + 1, ⟨by omega, hp.trans (cmpL_next hx hy c3), by omega⟩, (by omega), Weak.mk [false, false] ⟨VLe.refl _, VLe.refl _, VLe.refl _, VLe.refl _, VLe.refl _, VLe.refl _, trivial⟩ rfl⟩
 ·try simp only [sx] at c1
  refine awp_exit <|
   awp_seq <|
   sReg rfl <|
   rMv rfl <|
   rwp_det rfl rfl (det_len_slm rfl el47 rfl) <|
   rMv rfl <|
   rwp_det rfl rfl (det_len_slm rfl el47 rfl) <|
   rwp_det rfl rfl (det_lss rfl rfl rfl) <|
   rwp_nil <|
   awp_cond rfl (fun c4 => ?_) (fun c4 => ?_)
  ·try simp only [sx] at c4
   refine sReg rfl <|
    rMv rfl <|
    rwp_nil <|
    awp_ret <|
    fin1 (rs_c rfl) ?_
   rw [hp, cmpL_less (by omega) (by omega)]
  ·try simp only [sx] at c4
   refine awp_skip <|
    sReg rfl <|
    rMv rfl <|
    rwp_nil <|
    awp_ret <|
    fin1 (rs_c rfl) ?_
   rw [hp, cmpL_end (by omega) (by omega)]

theorem slices_CompareFunc_Ix (a b : List Ix) (c : C) (f : Ix → Ix → Int) (ha : a.length ≤ 4294967296) (hb : b.length ≤ 4294967296) (hc : ∀ x, x ∈ a → ∀ y, y ∈ b → FnPur cfg c [vIndex x, vIndex y] (vI (f x y))) :
    Pur cfg 248 [.c (.sl 4 (a.map Ix.cells)), .c (.sl 4 (b.map Ix.cells)), .c c] (vI (cmpL f a b)) := by
 refine con_intro Tryz.func248 rfl Tryz.ntmps248 Tryz.results248 rfl ?_
 intro z hz
 refine sReg rfl <|
  rMv rfl <|
  rwp_nil <|
  awp_seq <|
  sReg rfl <|
  rMv rfl <|
  rwp_det rfl rfl (det_len_slm rfl el44 rfl) <|
  rMv rfl <|
  rwp_nil <|
  awp_block <|
  awp_weak ⟨[(13, .c _), (0, .c _), (1, .c _), (2, .c _), (11, .c _), (12, .c _)], []⟩ (Weak.mk [] ⟨VLe.of_eq rfl, VLe.of_eq rfl, VLe.of_eq rfl, VLe.of_eq rfl, VLe.of_eq rfl, VLe.of_eq rfl, trivial⟩ rfl) <|
  awp_loop_k 1 0 rfl rfl (Nat) (fun k => [(13, vI k)]) (fun k => []) (fun k => k ≤ a.length ∧ (cmpL f a b = cmpL f (a.drop k) (b.drop k)) ∧ (k ≤ b.length)) (fun k => a.length - k) ⟨0, ⟨by omega, rfl, by omega⟩, Weak.mk [] ⟨VLe.refl _, VLe.refl _, VLe.refl _, VLe.refl _, VLe.refl _, VLe.refl _, trivial⟩ rfl⟩ ?_
 rintro k ⟨hk, hp, hq⟩
 refine sReg rfl <|
  rwp_det rfl rfl (det_lss rfl rfl rfl) <|
  rwp_nil <|
  awp_seq <|
  awp_cond rfl (fun c1 => ?_) (fun c1 => ?_)
 ·try simp only [sx] at c1
  obtain ⟨x, hx⟩ := ex_get a k (by omega)
  refine awp_skip <|
   awp_seq <|
   awp_block <|
   sReg rfl <|
   rMv rfl <|
   rwp_det rfl rfl (det_index_sl rfl el44 rfl rfl (by omega) (getm (by assumption))) <|
   rwp_det rfl rfl (det_load_agg rfl agg114 rfl ptr_imm rfl) <|
   rwp_op rfl rfl (ope_allocN [none, some 2, none, some 2] rfl zr114 rfl) ?_
  rintro _ _ ⟨b1, rfl, rfl⟩
  refine rMv rfl <|
   rwp_det0 rfl rfl (det_store rfl sz114 rfl rfl rfl (st_row 0 rfl rfl)) <|
   rwp_nil <|
   awp_seq <|
   sReg rfl <|
   rMv rfl <|
   rMv rfl <|
   rwp_det rfl rfl (det_len_slm rfl el44 rfl) <|
   rwp_det rfl rfl (det_geq rfl rfl rfl) <|
   rwp_nil <|
   awp_cond rfl (fun c2 => ?_) (fun c2 => ?_)
  ·try simp only [sx] at c2
   refine sReg rfl <|
    rMv rfl <|
    rwp_nil <|
    awp_ret <|
    fin1 (rs_c rfl) ?_
   rw [hp, cmpL_one hx (by omega)]
  ·try simp only [sx] at c2
   obtain ⟨y, hy⟩ := ex_get b k (by omega)
   refine awp_skip <|
    sReg rfl <|
    rMv rfl <|
    rMv rfl <|
    rwp_det rfl rfl (det_index_sl rfl el44 rfl rfl (by omega) (getm (by assumption))) <|
    rwp_det rfl rfl (det_load_agg rfl agg114 rfl ptr_imm rfl) <|
    rwp_op rfl rfl (ope_allocN [none, some 2, none, some 2] rfl zr114 rfl) ?_
   rintro _ _ ⟨b2, rfl, rfl⟩
   refine rwp_det0 rfl rfl (det_store rfl sz114 rfl rfl rfl (st_row 0 rfl rfl)) <|
    rwp_nil <|
    sReg rfl <|
    rMv rfl <|
    rwp_det rfl rfl (det_load_agg rfl agg114 rfl (ptr_row 1 rfl) rfl) <|
    rwp_det rfl rfl (det_load_agg rfl agg114 rfl (ptr_row 0 rfl) rfl) <|
    rwp_det rfl rfl (det_call_val rfl rfl (hc _ (mem_of_get hx) _ (mem_of_get hy)) ⟨VLe.refl _, rfl, VLe.refl _, rfl, trivial⟩) <|
    rMv rfl <|
    rwp_nil <|
    sReg rfl <|
    rMv rfl <|
    rwp_det rfl rfl (det_neq rfl rfl rfl) <|
    rwp_nil <|
    awp_cond rfl (fun c3 => ?_) (fun c3 => ?_)
   ·try simp only [sx] at c3
    refine sReg rfl <|
     rMv rfl <|
     rMv rfl <|
     rwp_nil <|
     awp_ret <|
     fin1 (rs_c rfl) ?_
    rw [hp, cmpL_ne hx hy c3]
   ·try simp only [sx] at c3
    refine awp_skip <|
     awp_region rfl <|
     rwp_det rfl rfl (det_add_nw rfl rfl rfl ⟨by omega, by omega⟩) <|
     rMv rfl <|
     rwp_nil ?_
    refine ⟨k + 1, ⟨by omega, hp.trans (cmpL_next hx hy c3), by omega⟩, (by omega), Weak.mk [false, false] ⟨VLe.refl _, VLe.refl _, VLe.refl _, VLe.refl _, VLe.refl _, VLe.refl _, trivial⟩ rfl⟩
 ·try simp only [sx] at c1
  refine awp_exit <|
   awp_seq <|
   sReg rfl <|
   rMv rfl <|
   rwp_det rfl rfl (det_len_slm rfl el44 rfl) <|
   rMv rfl <|
   rwp_det rfl rfl (det_len_slm rfl el44 rfl) <|
   rwp_det rfl rfl (det_lss rfl rfl rfl) <|
   rwp_nil <|
   awp_cond rfl (fun c4 => ?_) (fun c4 => ?_)
  ·try simp only [sx] at c4
   refine sReg rfl <|
    rMv rfl <|
    rwp_nil <|
    awp_ret <|
    fin1 (rs_c rfl) ?_
   rw [hp, cmpL_less (by omega) (by omega)]
  ·try simp only [sx] at c4
   refine awp_skip <|
    sReg rfl <|
    rMv rfl <|
    rwp_nil <|
    awp_ret <|
    fin1 (rs_c rfl) ?_
   rw [hp, cmpL_end (by omega) (by omega)]

theorem slices_CompareFunc_Lf (a b : List Lf) (c : C) (f : Lf → Lf → Int) (ha : a.length ≤ 4294967296) (hb : b.length ≤ 4294967296) (hc : ∀ x, x ∈ a → ∀ y, y ∈ b → FnPur cfg c [vLin x, vLin y] (vI (f x y))) :
    Pur cfg 277 [.c (.sl 2 (a.map Lf.cells)), .c (.sl 2 (b.map Lf.cells)), .c c] (vI (cmpL f a b)) := by
 refine con_intro Tryz.func277 rfl Tryz.ntmps277 Tryz.results277 rfl ?_
 intro z hz
 refine sReg rfl <|
  rMv rfl <|
  rwp_nil <|
  awp_seq <|
  sReg rfl <|
  rMv rfl <|
  rwp_det rfl rfl (det_len_slm rfl el112 rfl) <|
  rMv rfl <|
  rwp_nil <|
  awp_block <|
  awp_weak ⟨[(13, .c _), (0, .c _), (1, .c _), (2, .c _), (11, .c _), (12, .c _)], []⟩ (Weak.mk [] ⟨VLe.of_eq rfl, VLe.of_eq rfl, VLe.of_eq rfl, VLe.of_eq rfl, VLe.of_eq rfl, VLe.of_eq rfl, trivial⟩ rfl) <|
  awp_loop_k 1 0 rfl rfl (Nat) (fun k => [(13, vI k)]) (fun k => []) (fun k => k ≤ a.length ∧ (cmpL f a b = cmpL f (a.drop k) (b.drop k)) ∧ (k ≤ b.length)) (fun k => a.length - k) ⟨0, ⟨by omega, rfl, by omega⟩, Weak.mk [] ⟨VLe.refl _, VLe.refl _, VLe.refl _, VLe.refl _, VLe.refl _, VLe.refl _, trivial⟩ rfl⟩ ?_
 rintro k ⟨hk, hp, hq⟩
 refine sReg rfl <|
  rwp_det rfl rfl (det_lss rfl rfl rfl) <|
  rwp_nil <|
  awp_seq <|
  awp_cond rfl (fun c1 => ?_) (fun c1 => ?_)
 ·try simp only [sx] at c1
  obtain ⟨x, hx⟩ := ex_get a k (by omega)
  refine awp_skip <|
   awp_seq <|
   awp_block <|
   sReg rfl <|
   rMv rfl <|
   rwp_det rfl rfl (det_index_sl rfl el112 rfl rfl (by omega) (getm (by assumption))) <|
   rwp_det rfl rfl (det_load_agg rfl agg49 rfl ptr_imm rfl) <|
   rwp_op rfl rfl (ope_allocN [none, some 2] rfl zr49 rfl) ?_
  rintro _ _ ⟨b1, rfl, rfl⟩
  refine rMv rfl <|
   rwp_det0 rfl rfl (det_store rfl sz49 rfl rfl rfl (st_row 0 rfl rfl)) <|
   rwp_nil <|
   awp_seq <|
   sReg rfl <|
   rMv rfl <|
   rMv rfl <|
   rwp_det rfl rfl (det_len_slm rfl el112 rfl) <|
   rwp_det rfl rfl (det_geq rfl rfl rfl) <|
   rwp_nil <|
   awp_cond rfl (fun c2 => ?_) (fun c2 => ?_)
  ·try simp only [sx] at c2
   refine sReg rfl <|
    rMv rfl <|
    rwp_nil <|
    awp_ret <|
    fin1 (rs_c rfl) ?_
   rw [hp, cmpL_one hx (by omega)]
  ·try simp only [sx] at c2
   obtain ⟨y, hy⟩ := ex_get b k (by omega)
   refine awp_skip <|
    sReg rfl <|
    rMv rfl <|
    rMv rfl <|
    rwp_det rfl rfl (det_index_sl rfl el112 rfl rfl (by omega) (getm (by assumption))) <|
    rwp_det rfl rfl (det_load_agg rfl agg49 rfl ptr_imm rfl) <|
    rwp_op rfl rfl (ope_allocN [none, some 2] rfl zr49 rfl) ?_
   rintro _ _ ⟨b2, rfl, rfl⟩
   refine rwp_det0 rfl rfl (det_store rfl sz49 rfl rfl rfl (st_row 0 rfl rfl)) <|
    rwp_nil <|
    sReg rfl <|
    rMv rfl <|
    rwp_det rfl rfl (det_load_agg rfl agg49 rfl (ptr_row 1 rfl) rfl) <|
    rwp_det rfl rfl (det_load_agg rfl agg49 rfl (ptr_row 0 rfl) rfl) <|
    rwp_det rfl rfl (det_call_val rfl rfl (hc _ (mem_of_get hx) _ (mem_of_get hy)) ⟨VLe.refl _, rfl, VLe.refl _, rfl, trivial⟩) <|
    rMv rfl <|
    rwp_nil <|
    sReg rfl <|
    rMv rfl <|
    rwp_det rfl rfl (det_neq rfl rfl rfl) <|
    rwp_nil <|
    awp_cond rfl (fun c3 => ?_) (fun c3 => ?_)
   ·try simp only [sx] at c3
    refine sReg rfl <|
     rMv rfl <|
     rMv rfl <|
     rwp_nil <|
     awp_ret <|
     fin1 (rs_c rfl) ?_
    rw [hp, cmpL_ne hx hy c3]
   ·try simp only [sx] at c3
    refine awp_skip <|
     awp_region rfl <|
     rwp_det rfl rfl (det_add_nw rfl rfl rfl ⟨by omega, by omega⟩) <|
     rMv rfl <|
     rwp_nil ?_
    refine ⟨k + 1, ⟨by omega, hp.trans (cmpL_next hx hy c3), by omega⟩, (by omega), Weak.mk [false, false] ⟨VLe.refl _, VLe.refl _, VLe.refl _, VLe.refl _, VLe.refl _, VLe.refl _, trivial⟩ rfl⟩
 ·try simp only [sx] at c1
  refine awp_exit <|
   awp_seq <|
   sReg rfl <|
   rMv rfl <|
   rwp_det rfl rfl (det_len_slm rfl el112 rfl) <|
   rMv rfl <|
   rwp_det rfl rfl (det_len_slm rfl el112 rfl) <|
   rwp_det rfl rfl (det_lss rfl rfl rfl) <|
   rwp_nil <|
   awp_cond rfl (fun c4 => ?_) (fun c4 => ?_)
  ·try simp only [sx] at c4
   refine sReg rfl <|
    rMv rfl <|
    rwp_nil <|
    awp_ret <|
    fin1 (rs_c rfl) ?_
   rw [hp, cmpL_less (by omega) (by omega)]
  ·try simp only [sx] at c4
   refine awp_skip <|
    sReg rfl <|
    rMv rfl <|
    rwp_nil <|
    awp_ret <|
    fin1 (rs_c rfl) ?_
   rw [hp, cmpL_end (by omega) (by omega)]

theorem slices_CompareFunc_Ex (a b : List Ex) (c : C) (f : Ex → Ex → Int) (ha : a.length ≤ 4294967296) (hb : b.length ≤ 4294967296) (hc : ∀ x, x ∈ a → ∀ y, y ∈ b → FnPur cfg c [vE x, vE y] (vI (f x y))) :
    Pur cfg 250 [.c (.sl 13 (a.map Ex.cells)), .c (.sl 13 (b.map Ex.cells)), .c c] (vI (cmpL f a b)) := by
 refine con_intro Tryz.func250 rfl Tryz.ntmps250 Tryz.results250 rfl ?_
 intro z hz
 refine sReg rfl <|
  rMv rfl <|
  rwp_nil <|
  awp_seq <|
  sReg rfl <|
  rMv rfl <|
  rwp_det rfl rfl (det_len_slm rfl el50 rfl) <|
  rMv rfl <|
  rwp_nil <|
  awp_block <|
  awp_weak ⟨[(13, .c _), (0, .c _), (1, .c _), (2, .c _), (11, .c _), (12, .c _)], []⟩ (Weak.mk [] ⟨VLe.of_eq rfl, VLe.of_eq rfl, VLe.of_eq rfl, VLe.of_eq rfl, VLe.of_eq rfl, VLe.of_eq rfl, trivial⟩ rfl) <|
  awp_loop_k 1 0 rfl rfl (Nat) (fun k => [(13, vI k)]) (fun k => []) (fun k => k ≤ a.length ∧ (cmpL f a b = cmpL f (a.drop k) (b.drop k)) ∧ (k ≤ b.length)) (fun k => a.length - k) ⟨0, ⟨by omega, rfl, by omega⟩, Weak.mk [] ⟨VLe.refl _, VLe.refl _, VLe.refl _, VLe.refl _, VLe.refl _, VLe.refl _, trivial⟩ rfl⟩ ?_
 rintro k ⟨hk, hp, hq⟩
 refine sReg rfl <|
  rwp_det rfl rfl (det_lss rfl rfl rfl) <|
  rwp_nil <|
  awp_seq <|
  awp_cond rfl (fun c1 => ?_) (fun c1 => ?_)
 ·try simp only [sx] at c1
  obtain ⟨x, hx⟩ := ex_get a k (by omega)
  refine awp_skip <|
   awp_seq <|
   awp_block <|
   sReg rfl <|
   rMv rfl <|
   rwp_det rfl rfl (det_index_sl rfl el50 rfl rfl (by omega) (getmE (by assumption))) <|
   rwp_det rfl rfl (det_load_agg rfl agg52 rfl ptr_imm rfl) <|
   rwp_op rfl rfl (ope_allocN [none, none, none, none, none, none, none, none, none, none, some 2, some 4, some 13] rfl zr52 rfl) ?_
  rintro _ _ ⟨b1, rfl, rfl⟩
  refine rMv rfl <|
   rwp_det0 rfl rfl (det_store rfl sz52 rfl rfl rfl (st_row 0 rfl rfl)) <|
   rwp_nil <|
   awp_seq <|
   sReg rfl <|
   rMv rfl <|
   rMv rfl <|
   rwp_det rfl rfl (det_len_slm rfl el50 rfl) <|
   rwp_det rfl rfl (det_geq rfl rfl rfl) <|
   rwp_nil <|
   awp_cond rfl (fun c2 => ?_) (fun c2 => ?_)
  ·try simp only [sx] at c2
   refine sReg rfl <|
    rMv rfl <|
    rwp_nil <|
    awp_ret <|
    fin1 (rs_c rfl) ?_
   rw [hp, cmpL_one hx (by omega)]
  ·try simp only [sx] at c2
   obtain ⟨y, hy⟩ := ex_get b k (by omega)
   refine awp_skip <|
    sReg rfl <|
    rMv rfl <|
    rMv rfl <|
    rwp_det rfl rfl (det_index_sl rfl el50 rfl rfl (by omega) (getmE (by assumption))) <|
    rwp_det rfl rfl (det_load_agg rfl agg52 rfl ptr_imm rfl) <|
    rwp_op rfl rfl (ope_allocN [none, none, none, none, none, none, none, none, none, none, some 2, some 4, some 13] rfl zr52 rfl) ?_
   rintro _ _ ⟨b2, rfl, rfl⟩
   refine rwp_det0 rfl rfl (det_store rfl sz52 rfl rfl rfl (st_row 0 rfl rfl)) <|
    rwp_nil <|
    sReg rfl <|
    rMv rfl <|
    rwp_det rfl rfl (det_load_agg rfl agg52 rfl (ptr_row 1 rfl) rfl) <|
    rwp_det rfl rfl (det_load_agg rfl agg52 rfl (ptr_row 0 rfl) rfl) <|
    rwp_det rfl rfl (det_call_val rfl rfl (hc _ (mem_of_get hx) _ (mem_of_get hy)) ⟨VLe.refl _, rfl, VLe.refl _, rfl, trivial⟩) <|
    rMv rfl <|
    rwp_nil <|
    sReg rfl <|
    rMv rfl <|
    rwp_det rfl rfl (det_neq rfl rfl rfl) <|
    rwp_nil <|
    awp_cond rfl (fun c3 => ?_) (fun c3 => ?_)
   ·try simp only [sx] at c3
    refine sReg rfl <|
     rMv rfl <|
     rMv rfl <|
     rwp_nil <|
     awp_ret <|
     fin1 (rs_c rfl) ?_
    rw [hp, cmpL_ne hx hy c3]
   ·try simp only [sx] at c3
    refine awp_skip <|
     awp_region rfl <|
     rwp_det rfl rfl (det_add_nw rfl rfl rfl ⟨by omega, by omega⟩) <|
     rMv rfl <|
     rwp_nil ?_
    refine ⟨k + 1, ⟨by omega, hp.trans (cmpL_next hx hy c3), by omega⟩, (by omega), Weak.mk [false, false] ⟨VLe.refl _, VLe.refl _, VLe.refl _, VLe.refl _, VLe.refl _, VLe.refl _, trivial⟩ rfl⟩
 ·try simp only [sx] at c1
  refine awp_exit <|
   awp_seq <|
   sReg rfl <|
   rMv rfl <|
   rwp_det rfl rfl (det_len_slm rfl el50 rfl) <|
   rMv rfl <|
   rwp_det rfl rfl (det_len_slm rfl el50 rfl) <|
   rwp_det rfl rfl (det_lss rfl rfl rfl) <|
   rwp_nil <|
   awp_cond rfl (fun c4 => ?_) (fun c4 => ?_)
  ·try simp only [sx] at c4
   refine sReg rfl <|
    rMv rfl <|
    rwp_nil <|
    awp_ret <|
    fin1 (rs_c rfl) ?_
   rw [hp, cmpL_less (by omega) (by omega)]
  ·try simp only [sx] at c4
   refine awp_skip <|
    sReg rfl <|
    rMv rfl <|
    rwp_nil <|
    awp_ret <|
    fin1 (rs_c rfl) ?_
   rw [hp, cmpL_end (by omega) (by omega)]

theorem compareLists_Ix (a b : List Ix) (c : C) (f : Ix → Ix → Int) (ha : a.length ≤ 4294967296) (hb : b.length ≤ 4294967296) (hc : ∀ x, x ∈ a → ∀ y, y ∈ b → FnPur cfg c [vIndex x, vIndex y] (vI (f x y))) :
    Pur cfg 210 [.c (.sl 4 (a.map Ix.cells)), .c (.sl 4 (b.map Ix.cells)), .c c] (vI (cmpLs f a b)) := by
 refine con_intro Tryz.func210 rfl Tryz.ntmps210 Tryz.results210 rfl ?_
 intro z hz
 refine sReg rfl <|
  rMv rfl <|
  rwp_nil <|
  awp_seq <|
  sReg rfl <|
  rMv rfl <|
  rwp_det rfl rfl (det_len_slm rfl el44 rfl) <|
  rMv rfl <|
  rwp_det rfl rfl (det_len_slm rfl el44 rfl) <|
  rwp_det rfl rfl (det_call rfl ok205 (cmp_Compare_int _ _) ⟨VLe.refl _, rfl, VLe.refl _, rfl, trivial⟩) <|
  rMv rfl <|
  rwp_nil <|
  sReg rfl <|
  rMv rfl <|
  rwp_det rfl rfl (det_neq rfl rfl rfl) <|
  rwp_nil <|
  awp_cond rfl (fun c1 => ?_) (fun c1 => ?_)
 ·try simp only [sx] at c1
  refine sReg rfl <|
   rMv rfl <|
   rMv rfl <|
   rwp_nil <|
   awp_ret <|
   fin1 (rs_c rfl) ?_
  rw [cmpLs, if_neg c1]
 ·try simp only [sx] at c1
  refine awp_skip <|
   sReg rfl <|
   rMv rfl <|
   rMv rfl <|
   rMv rfl <|
   rwp_det rfl rfl (det_call rfl ok248 (slices_CompareFunc_Ix a b c f ha hb hc) ⟨VLe.refl _, rfl, VLe.refl _, rfl, VLe.refl _, rfl, trivial⟩) <|
   rMv rfl <|
   rwp_nil <|
   awp_ret <|
   fin1 (rs_c rfl) ?_
  rw [cmpLs, if_pos c1]

theorem compareLists_Lf (a b : List Lf) (c : C) (f : Lf → Lf → Int) (ha : a.length ≤ 4294967296) (hb : b.length ≤ 4294967296) (hc : ∀ x, x ∈ a → ∀ y, y ∈ b → FnPur cfg c [vLin x, vLin y] (vI (f x y))) :
    Pur cfg 249 [.c (.sl 2 (a.map Lf.cells)), .c (.sl 2 (b.map Lf.cells)), .c c] (vI (cmpLs f a b)) := by
 refine con_intro Tryz.func249 rfl Tryz.ntmps249 Tryz.results249 rfl ?_
 intro z hz
 refine sReg rfl <|
  rMv rfl <|
  rwp_nil <|
  awp_seq <|
  sReg rfl <|
  rMv rfl <|
  rwp_det rfl rfl (det_len_slm rfl el112 rfl) <|
  rMv rfl <|
  rwp_det rfl rfl (det_len_slm rfl el112 rfl) <|
  rwp_det rfl rfl (det_call rfl ok205 (cmp_Compare_int _ _) ⟨VLe.refl _, rfl, VLe.refl _, rfl, trivial⟩) <|
  rMv rfl <|
  rwp_nil <|
  sReg rfl <|
  rMv rfl <|
  rwp_det rfl rfl (det_neq rfl rfl rfl) <|
  rwp_nil <|
  awp_cond rfl (fun c1 => ?_) (fun c1 => ?_)
 ·try simp only [sx] at c1
  refine sReg rfl <|
   rMv rfl <|
   rMv rfl <|
   rwp_nil <|
   awp_ret <|
   fin1 (rs_c rfl) ?_
  rw [cmpLs, if_neg c1]
 ·try simp only [sx] at c1
  refine awp_skip <|
   sReg rfl <|
   rMv rfl <|
   rMv rfl <|
   rMv rfl <|
   rwp_det rfl rfl (det_call rfl ok277 (slices_CompareFunc_Lf a b c f ha hb hc) ⟨VLe.refl _, rfl, VLe.refl _, rfl, VLe.refl _, rfl, trivial⟩) <|
   rMv rfl <|
   rwp_nil <|
   awp_ret <|
   fin1 (rs_c rfl) ?_
  rw [cmpLs, if_pos c1]

theorem compareLists_Ex (a b : List Ex) (c : C) (f : Ex → Ex → Int) (ha : a.length ≤ 4294967296) (hb : b.length ≤ 4294967296) (hc : ∀ x, x ∈ a → ∀ y, y ∈ b → FnPur cfg c [vE x, vE y] (vI (f x y))) :
    Pur cfg 212 [.c (.sl 13 (a.map Ex.cells)), .c (.sl 13 (b.map Ex.cells)), .c c] (vI (cmpLs f a b)) := by
 refine con_intro Tryz.func212 rfl Tryz.ntmps212 Tryz.results212 rfl ?_
 intro z hz
 refine sReg rfl <|
  rMv rfl <|
  rwp_nil <|
  awp_seq <|
  sReg rfl <|
  rMv rfl <|
  rwp_det rfl rfl (det_len_slm rfl el50 rfl) <|
  rMv rfl <|
  rwp_det rfl rfl (det_len_slm rfl el50 rfl) <|
  rwp_det rfl rfl (det_call rfl ok205 (cmp_Compare_int _ _) ⟨VLe.refl _, rfl, VLe.refl _, rfl, trivial⟩) <|
  rMv rfl <|
  rwp_nil <|
  sReg rfl <|
  rMv rfl <|
  rwp_det rfl rfl (det_neq rfl rfl rfl) <|
  rwp_nil <|
  awp_cond rfl (fun c1 => ?_) (fun c1 => ?_)
 ·try simp only [sx] at c1
  refine sReg rfl <|
   rMv rfl <|
   rMv rfl <|
   rwp_nil <|
   awp_ret <|
   fin1 (rs_c rfl) ?_
  rw [cmpLs, if_neg c1]
 ·try simp only [sx] at c1
  refine awp_skip <|
   sReg rfl <|
   rMv rfl <|
   rMv rfl <|
   rMv rfl <|
   rwp_det rfl rfl (det_call rfl ok250 (slices_CompareFunc_Ex a b c f ha hb hc) ⟨VLe.refl _, rfl, VLe.refl _, rfl, VLe.refl _, rfl, trivial⟩) <|
   rMv rfl <|
   rwp_nil <|
   awp_ret <|
   fin1 (rs_c rfl) ?_
  rw [cmpLs, if_pos c1]

theorem lin_order (a b : Int) :
    Pur cfg 247 [vI a, vI b] (vI (cmpI a b)) := by
 refine con_intro Tryz.func247 rfl Tryz.ntmps247 Tryz.results247 rfl ?_
 intro z hz
 refine sReg rfl <|
  rMv rfl <|
  rwp_nil <|
  awp_seq <|
  awp_block <|
  sReg rfl <|
  rMv rfl <|
  rMv rfl <|
  rwp_det rfl rfl (det_lss rfl rfl rfl) <|
  rMv rfl <|
  rwp_nil <|
  awp_cond rfl (fun c1 => ?_) (fun c1 => ?_)
 ·try simp only [sx] at c1
  refine sReg rfl <|
   rMv rfl <|
   rwp_nil <|
   awp_ret <|
   fin1 (rs_c rfl) ?_
  rw [cmpI_lt c1]
 ·try simp only [sx] at c1
  refine sReg rfl <|
   rMv rfl <|
   rMv rfl <|
   rwp_det rfl rfl (det_gtr rfl rfl rfl) <|
   rMv rfl <|
   rwp_nil <|
   awp_cond rfl (fun c2 => ?_) (fun c2 => ?_)
  ·try simp only [sx] at c2
   refine sReg rfl <|
    rMv rfl <|
    rwp_nil <|
    awp_ret <|
    fin1 (rs_c rfl) ?_
   rw [cmpI_gt c2]
  ·try simp only [sx] at c2
   refine awp_skip <|
    sReg rfl <|
    rMv rfl <|
    rwp_nil <|
    awp_ret <|
    fin1 (rs_c rfl) ?_
   rw [cmpI_eq (by omega) (by omega)]

theorem lin_Compare_1 (x y : Mono) :
    Pur cfg 246 [vMono x, vMono y] (vI (cmpM x y)) := by
 refine con_intro Tryz.func246 rfl Tryz.ntmps246 Tryz.results246 rfl ?_
 intro z hz
 refine sReg rfl <|
  rwp_op rfl rfl (ope_box rfl rfl) ?_
 rintro _ _ ⟨b1, rfl, rfl⟩
 refine rwp_op rfl rfl (ope_box rfl rfl) ?_
 rintro _ _ ⟨b2, rfl, rfl⟩
 refine rMv rfl <|
  rwp_nil <|
  awp_seq <|
  sReg rfl <|
  rwp_det rfl rfl (det_field_lit rfl fd111_0 rfl) <|
  rwp_det rfl rfl (det_load_one rfl one9 rfl (ptr_row 1 rfl) rfl) <|
  rwp_det rfl rfl (det_field_lit rfl fd111_0 rfl) <|
  rwp_det rfl rfl (det_load_one rfl one9 rfl (ptr_row 0 rfl) rfl) <|
  rwp_det rfl rfl (det_sneq rfl rfl rfl) <|
  rwp_nil <|
  awp_cond rfl (fun c1 => ?_) (fun c1 => ?_)
 ·try simp only [sx] at c1
  refine sReg rfl <|
   rwp_det rfl rfl (det_field_lit rfl fd111_0 rfl) <|
   rwp_det rfl rfl (det_load_one rfl one9 rfl (ptr_row 1 rfl) rfl) <|
   rwp_det rfl rfl (det_field_lit rfl fd111_0 rfl) <|
   rwp_det rfl rfl (det_load_one rfl one9 rfl (ptr_row 0 rfl) rfl) <|
   rwp_det rfl rfl (det_call rfl ok206 (strings_Compare _ _) ⟨VLe.refl _, rfl, VLe.refl _, rfl, trivial⟩) <|
   rMv rfl <|
   rwp_nil <|
   awp_ret <|
   fin1 (rs_c rfl) ?_
  rw [cmpM, if_neg c1]
 ·try simp only [sx] at c1
  refine awp_skip <|
   sReg rfl <|
   rwp_det rfl rfl (det_field_lit rfl fd111_1 rfl) <|
   rwp_det rfl rfl (det_load_one rfl one2 rfl (ptr_row 1 rfl) rfl) <|
   rwp_det rfl rfl (det_field_lit rfl fd111_1 rfl) <|
   rwp_det rfl rfl (det_load_one rfl one2 rfl (ptr_row 0 rfl) rfl) <|
   rwp_det rfl rfl (det_call rfl ok247 (lin_order _ _) ⟨VLe.refl _, rfl, VLe.refl _, rfl, trivial⟩) <|
   rMv rfl <|
   rwp_nil <|
   awp_ret <|
   fin1 (rs_c rfl) ?_
  rw [cmpM, if_pos c1]

theorem lin_Compare (a b : Lf) (ha : a.L.length ≤ 4294967296) (hb : b.L.length ≤ 4294967296) :
    Pur cfg 209 [vLin a, vLin b] (vI (cmpLf a b)) := by
 refine con_intro Tryz.func209 rfl Tryz.ntmps209 Tryz.results209 rfl ?_
 intro z hz
 refine sReg rfl <|
  rwp_op rfl rfl (ope_box rfl rfl) ?_
 rintro _ _ ⟨b1, rfl, rfl⟩
 refine rwp_op rfl rfl (ope_box rfl rfl) ?_
 rintro _ _ ⟨b2, rfl, rfl⟩
 refine rMv rfl <|
  rwp_nil <|
  sReg rfl <|
  rwp_det rfl rfl (det_field_lit rfl fd49_1 rfl) <|
  rwp_det rfl rfl (det_load_one rfl one47 rfl (ptr_row 1 rfl) rfl) <|
  rwp_det rfl rfl (det_field_lit rfl fd49_1 rfl) <|
  rwp_det rfl rfl (det_load_one rfl one47 rfl (ptr_row 0 rfl) rfl) <|
  rwp_det rfl rfl (det_call rfl ok245 (slices_CompareFunc_Mono a.L b.L _ cmpM ha hb (fun x _ y _ => FnPur.of_pur (first := []) (cap := []) ok246 (lin_Compare_1 x y))) ⟨VLe.refl _, rfl, VLe.refl _, rfl, VLe.refl _, rfl, trivial⟩) <|
  rMv rfl <|
  rwp_nil <|
  awp_seq <|
  sReg rfl <|
  rMv rfl <|
  rwp_det rfl rfl (det_neq rfl rfl rfl) <|
  rwp_nil <|
  awp_cond rfl (fun c1 => ?_) (fun c1 => ?_)
 ·try simp only [sx] at c1
  refine sReg rfl <|
   rMv rfl <|
   rMv rfl <|
   rwp_nil <|
   awp_ret <|
   fin1 (rs_c rfl) ?_
  rw [cmpLf, if_neg c1]
 ·try simp only [sx] at c1
  refine awp_skip <|
   sReg rfl <|
   rwp_det rfl rfl (det_field_lit rfl fd49_0 rfl) <|
   rwp_det rfl rfl (det_load_one rfl one2 rfl (ptr_row 1 rfl) rfl) <|
   rwp_det rfl rfl (det_field_lit rfl fd49_0 rfl) <|
   rwp_det rfl rfl (det_load_one rfl one2 rfl (ptr_row 0 rfl) rfl) <|
   rwp_det rfl rfl (det_call rfl ok247 (lin_order _ _) ⟨VLe.refl _, rfl, VLe.refl _, rfl, trivial⟩) <|
   rMv rfl <|
   rwp_nil <|
   awp_ret <|
   fin1 (rs_c rfl) ?_
  rw [cmpLf, if_pos c1]

theorem expr_compareIndex (a b : Ix) (ha : a.wt ≤ 4294967296) (hb : b.wt ≤ 4294967296) :
    Pur cfg 211 [vIndex a, vIndex b] (vI (cmpIx a b)) := by
 refine con_intro Tryz.func211 rfl Tryz.ntmps211 Tryz.results211 rfl ?_
 intro z hz
 have hwa := ha
 have hwb := hb
 unfold Ix.wt at hwa hwb
 refine sReg rfl <|
  rwp_op rfl rfl (ope_box rfl rfl) ?_
 rintro _ _ ⟨b1, rfl, rfl⟩
 refine rwp_op rfl rfl (ope_box rfl rfl) ?_
 rintro _ _ ⟨b2, rfl, rfl⟩
 refine rMv rfl <|
  rwp_nil <|
  awp_seq <|
  sReg rfl <|
  rwp_det rfl rfl (det_field_lit rfl fd114_1 rfl) <|
  rwp_det rfl rfl (det_load_one rfl one9 rfl (ptr_row 1 rfl) rfl) <|
  rwp_det rfl rfl (det_field_lit rfl fd114_1 rfl) <|
  rwp_det rfl rfl (det_load_one rfl one9 rfl (ptr_row 0 rfl) rfl) <|
  rwp_det rfl rfl (det_call rfl ok206 (strings_Compare _ _) ⟨VLe.refl _, rfl, VLe.refl _, rfl, trivial⟩) <|
  rMv rfl <|
  rwp_nil <|
  sReg rfl <|
  rMv rfl <|
  rwp_det rfl rfl (det_neq rfl rfl rfl) <|
  rwp_nil <|
  awp_cond rfl (fun c1 => ?_) (fun c1 => ?_)
 ·try simp only [sx] at c1
  refine sReg rfl <|
   rMv rfl <|
   rMv rfl <|
   rwp_nil <|
   awp_ret <|
   fin1 (rs_c rfl) ?_
  rw [cmpIx, if_neg c1]
 ·try simp only [sx] at c1
  refine awp_skip <|
   awp_seq <|
   sReg rfl <|
   rwp_det rfl rfl (det_field_lit rfl fd114_0 rfl) <|
   rwp_det rfl rfl (det_load_agg rfl agg49 rfl (ptr_row 1 rfl) rfl) <|
   rwp_det rfl rfl (det_field_lit rfl fd114_0 rfl) <|
   rwp_det rfl rfl (det_load_agg rfl agg49 rfl (ptr_row 0 rfl) rfl) <|
   rwp_det rfl rfl (det_call rfl ok209 (lin_Compare a.Lin b.Lin (by omega) (by omega)) ⟨VLe.refl _, rfl, VLe.refl _, rfl, trivial⟩) <|
   rMv rfl <|
   rwp_nil <|
   sReg rfl <|
   rMv rfl <|
   rwp_det rfl rfl (det_neq rfl rfl rfl) <|
   rwp_nil <|
   awp_cond rfl (fun c2 => ?_) (fun c2 => ?_)
  ·try simp only [sx] at c2
   refine sReg rfl <|
    rMv rfl <|
    rMv rfl <|
    rwp_nil <|
    awp_ret <|
    fin1 (rs_c rfl) ?_
   rw [cmpIx, if_pos c1, if_neg c2]
  ·try simp only [sx] at c2
   refine awp_skip <|
    sReg rfl <|
    rwp_det rfl rfl (det_field_lit rfl fd114_2 rfl) <|
    rwp_det rfl rfl (det_load_one rfl one112 rfl (ptr_row 1 rfl) rfl) <|
    rwp_det rfl rfl (det_field_lit rfl fd114_2 rfl) <|
    rwp_det rfl rfl (det_load_one rfl one112 rfl (ptr_row 0 rfl) rfl) <|
    rwp_det rfl rfl (det_call rfl ok249 (compareLists_Lf a.At b.At _ cmpLf (by omega) (by omega) (fun x hx y hy => FnPur.of_pur (first := []) (cap := []) ok209 (lin_Compare x y (by have := linsWt_mem hx; omega) (by have := linsWt_mem hy; omega)))) ⟨VLe.refl _, rfl, VLe.refl _, rfl, VLe.refl _, rfl, trivial⟩) <|
    rMv rfl <|
    rwp_nil <|
    awp_ret <|
    fin1 (rs_c rfl) ?_
   rw [cmpIx, if_pos c1, if_pos c2]

theorem expr_compareType (a b : Ty) :
    Pur cfg 208 [vTy a, vTy b] (vI (cmpTy a b)) := by
 refine con_intro Tryz.func208 rfl Tryz.ntmps208 Tryz.results208 rfl ?_
 intro z hz
 refine sReg rfl <|
  rwp_op rfl rfl (ope_box rfl rfl) ?_
 rintro _ _ ⟨b1, rfl, rfl⟩
 refine rwp_op rfl rfl (ope_box rfl rfl) ?_
 rintro _ _ ⟨b2, rfl, rfl⟩
 refine rMv rfl <|
  rwp_nil <|
  awp_seq <|
  awp_draw 28 mixed (by kernel_rfl) rfl rfl <|
  td_det rfl rfl (det_field_lit rfl fd40_0 rfl) <|
  td_det rfl rfl (det_load_one rfl one3 rfl (ptr_row 1 rfl) rfl) <|
  td_det rfl rfl (det_field_lit rfl fd40_0 rfl) <|
  td_det rfl rfl (det_load_one rfl one3 rfl (ptr_row 0 rfl) rfl) <|
  td_det rfl rfl (det_call rfl ok205 (cmp_Compare_int _ _) ⟨VLe.refl _, rfl, VLe.refl _, rfl, trivial⟩) <|
  td_det rfl rfl (det_field_lit rfl fd40_1 rfl) <|
  td_det rfl rfl (det_load_one rfl one3 rfl (ptr_row 1 rfl) rfl) <|
  td_det rfl rfl (det_field_lit rfl fd40_1 rfl) <|
  td_det rfl rfl (det_load_one rfl one3 rfl (ptr_row 0 rfl) rfl) <|
  td_det rfl rfl (det_call rfl ok205 (cmp_Compare_int _ _) ⟨VLe.refl _, rfl, VLe.refl _, rfl, trivial⟩) <|
  td_det rfl rfl (det_field_lit rfl fd40_2 rfl) <|
  td_det rfl rfl (det_load_one rfl one3 rfl (ptr_row 1 rfl) rfl) <|
  td_det rfl rfl (det_field_lit rfl fd40_2 rfl) <|
  td_det rfl rfl (det_load_one rfl one3 rfl (ptr_row 0 rfl) rfl) <|
  td_det rfl rfl (det_call rfl ok205 (cmp_Compare_int _ _) ⟨VLe.refl _, rfl, VLe.refl _, rfl, trivial⟩) <|
  td_det rfl rfl (det_field_lit rfl fd40_3 rfl) <|
  td_det rfl rfl (det_load_one rfl one3 rfl (ptr_row 1 rfl) rfl) <|
  td_det rfl rfl (det_field_lit rfl fd40_3 rfl) <|
  td_det rfl rfl (det_load_one rfl one3 rfl (ptr_row 0 rfl) rfl) <|
  td_det rfl rfl (det_call rfl ok205 (cmp_Compare_int _ _) ⟨VLe.refl _, rfl, VLe.refl _, rfl, trivial⟩) <|
  td_det rfl rfl (det_field_lit rfl fd40_4 rfl) <|
  td_det rfl rfl (det_load_one rfl one3 rfl (ptr_row 1 rfl) rfl) <|
  td_det rfl rfl (det_field_lit rfl fd40_4 rfl) <|
  td_det rfl rfl (det_load_one rfl one3 rfl (ptr_row 0 rfl) rfl) <|
  td_det rfl rfl (det_call rfl ok205 (cmp_Compare_int _ _) ⟨VLe.refl _, rfl, VLe.refl _, rfl, trivial⟩) <|
  td_det rfl rfl (det_bslice rfl el33 zr3 rfl rfl rfl rfl) <|
  td_det rfl rfl (det_call rfl ok204 (cmp_Or_int [cmpI a.Kind b.Kind, cmpI a.Bits b.Bits, cmpI a.Frac b.Frac, cmpI a.Round b.Round, cmpI a.Over b.Over] (by simp)) ⟨VLe.refl _, rfl, trivial⟩) <|
  td_det rfl rfl (det_assign rfl rfl) <|
  td_nil <|
  rwp_nil <|
  awp_ret <|
  fin1 (rs_c rfl) ?_
 exact rfl

theorem expr_Compare_step (a b : Ex) (ih : ∀ x, x ∈ a.Args → ∀ y, x.wt ≤ 4294967296 → y.wt ≤ 4294967296 → Pur cfg 185 [vE x, vE y] (vI (cmpE x y))) (ha : a.wt ≤ 4294967296) (hb : b.wt ≤ 4294967296) :
    Pur cfg 185 [vE a, vE b] (vI (cmpE a b)) := by
 refine con_intro Tryz.func185 rfl Tryz.ntmps185 Tryz.results185 rfl ?_
 intro z hz
 obtain ⟨hLa, hIa, hAa⟩ := a.parts ha
 obtain ⟨hLb, hIb, hAb⟩ := b.parts hb
 have hwa := Ex.wt_eq a
 have hwb := Ex.wt_eq b
 refine sReg rfl <|
  rwp_op rfl rfl (ope_box rfl rfl) ?_
 rintro _ _ ⟨b1, rfl, rfl⟩
 refine rwp_op rfl rfl (ope_box rfl rfl) ?_
 rintro _ _ ⟨b2, rfl, rfl⟩
 refine rMv rfl <|
  rwp_nil <|
  awp_seq <|
  awp_draw 37 mixed (by kernel_rfl) rfl rfl <|
  td_det rfl rfl (det_field_lit rfl fd52_0 rfl) <|
  td_det rfl rfl (det_load_one rfl one3 rfl (ptr_row 1 rfl) rfl) <|
  td_det rfl rfl (det_field_lit rfl fd52_0 rfl) <|
  td_det rfl rfl (det_load_one rfl one3 rfl (ptr_row 0 rfl) rfl) <|
  td_det rfl rfl (det_call rfl ok205 (cmp_Compare_int _ _) ⟨VLe.refl _, rfl, VLe.refl _, rfl, trivial⟩) <|
  td_det rfl rfl (det_field_lit rfl fd52_1 rfl) <|
  td_det rfl rfl (det_load_one rfl one9 rfl (ptr_row 1 rfl) rfl) <|
  td_det rfl rfl (det_field_lit rfl fd52_1 rfl) <|
  td_det rfl rfl (det_load_one rfl one9 rfl (ptr_row 0 rfl) rfl) <|
  td_det rfl rfl (det_call rfl ok206 (strings_Compare _ _) ⟨VLe.refl _, rfl, VLe.refl _, rfl, trivial⟩) <|
  td_det rfl rfl (det_field_lit rfl fd52_2 rfl) <|
  td_det rfl rfl (det_field_lit rfl fd46_0 rfl) <|
  td_det rfl rfl (det_load_one rfl one2 rfl (ptr_row 1 rfl) rfl) <|
  td_det rfl rfl (det_field_lit rfl fd52_2 rfl) <|
  td_det rfl rfl (det_field_lit rfl fd46_0 rfl) <|
  td_det rfl rfl (det_load_one rfl one2 rfl (ptr_row 0 rfl) rfl) <|
  td_det rfl rfl (det_call rfl ok207 (cmp_Compare_i64 _ _) ⟨VLe.refl _, rfl, VLe.refl _, rfl, trivial⟩) <|
  td_det rfl rfl (det_field_lit rfl fd52_2 rfl) <|
  td_det rfl rfl (det_field_lit rfl fd46_1 rfl) <|
  td_det rfl rfl (det_load_one rfl one2 rfl (ptr_row 1 rfl) rfl) <|
  td_det rfl rfl (det_field_lit rfl fd52_2 rfl) <|
  td_det rfl rfl (det_field_lit rfl fd46_1 rfl) <|
  td_det rfl rfl (det_load_one rfl one2 rfl (ptr_row 0 rfl) rfl) <|
  td_det rfl rfl (det_call rfl ok207 (cmp_Compare_i64 _ _) ⟨VLe.refl _, rfl, VLe.refl _, rfl, trivial⟩) <|
  td_det rfl rfl (det_field_lit rfl fd52_3 rfl) <|
  td_det rfl rfl (det_load_agg rfl agg40 rfl (ptr_row 1 rfl) rfl) <|
  td_det rfl rfl (det_field_lit rfl fd52_3 rfl) <|
  td_det rfl rfl (det_load_agg rfl agg40 rfl (ptr_row 0 rfl) rfl) <|
  td_det rfl rfl (det_call rfl ok208 (expr_compareType _ _) ⟨VLe.refl _, rfl, VLe.refl _, rfl, trivial⟩) <|
  td_det rfl rfl (det_field_lit rfl fd52_4 rfl) <|
  td_det rfl rfl (det_load_agg rfl agg49 rfl (ptr_row 1 rfl) rfl) <|
  td_det rfl rfl (det_field_lit rfl fd52_4 rfl) <|
  td_det rfl rfl (det_load_agg rfl agg49 rfl (ptr_row 0 rfl) rfl) <|
  td_det rfl rfl (det_call rfl ok209 (lin_Compare a.Lin b.Lin hLa hLb) ⟨VLe.refl _, rfl, VLe.refl _, rfl, trivial⟩) <|
  td_det rfl rfl (det_bslice rfl el33 zr3 rfl rfl rfl rfl) <|
  td_det rfl rfl (det_call rfl ok204 (cmp_Or_int [cmpI a.Op b.Op, cmpS a.Name b.Name, cmpI a.Val.N b.Val.N, cmpI a.Val.D b.Val.D, cmpTy a.Ty b.Ty, cmpLf a.Lin b.Lin] (by simp)) ⟨VLe.refl _, rfl, trivial⟩) <|
  td_det rfl rfl (det_assign rfl rfl) <|
  td_nil <|
  rwp_nil <|
  awp_seq <|
  sReg rfl <|
  rMv rfl <|
  rwp_det rfl rfl (det_neq rfl rfl rfl) <|
  rwp_nil <|
  awp_cond rfl (fun c1 => ?_) (fun c1 => ?_)
 ·try simp only [sx] at c1
  refine sReg rfl <|
   rMv rfl <|
   rMv rfl <|
   rwp_nil <|
   awp_ret <|
   fin1 (rs_c rfl) ?_
  rw [cmpE_eq, if_neg (show ¬ cmpHd a b = 0 from c1)]; rfl
 ·try simp only [sx] at c1
  refine awp_skip <|
   awp_seq <|
   sReg rfl <|
   rwp_det rfl rfl (det_field_lit rfl fd52_5 rfl) <|
   rwp_det rfl rfl (det_load_one rfl one44 rfl (ptr_row 1 rfl) rfl) <|
   rwp_det rfl rfl (det_field_lit rfl fd52_5 rfl) <|
   rwp_det rfl rfl (det_load_one rfl one44 rfl (ptr_row 0 rfl) rfl) <|
   rwp_det rfl rfl (det_call rfl ok210 (compareLists_Ix a.Idx b.Idx _ cmpIx hIa hIb (fun x hx y hy => FnPur.of_pur (first := []) (cap := []) ok211 (expr_compareIndex x y (by have := idxWt_mem hx; omega) (by have := idxWt_mem hy; omega)))) ⟨VLe.refl _, rfl, VLe.refl _, rfl, VLe.refl _, rfl, trivial⟩) <|
   rMv rfl <|
   rwp_nil <|
   sReg rfl <|
   rMv rfl <|
   rwp_det rfl rfl (det_neq rfl rfl rfl) <|
   rwp_nil <|
   awp_cond rfl (fun c2 => ?_) (fun c2 => ?_)
  ·try simp only [sx] at c2
   refine sReg rfl <|
    rMv rfl <|
    rMv rfl <|
    rwp_nil <|
    awp_ret <|
    fin1 (rs_c rfl) ?_
   rw [cmpE_eq, if_pos (show cmpHd a b = 0 from c1), if_neg c2]
  ·try simp only [sx] at c2
   refine awp_skip <|
    sReg rfl <|
    rwp_det rfl rfl (det_field_lit rfl fd52_6 rfl) <|
    rwp_det rfl rfl (det_load_one rfl one50 rfl (ptr_row 1 rfl) rfl) <|
    rwp_det rfl rfl (det_field_lit rfl fd52_6 rfl) <|
    rwp_det rfl rfl (det_load_one rfl one50 rfl (ptr_row 0 rfl) rfl) <|
    rwp_det rfl rfl (det_call rfl ok212 (compareLists_Ex a.Args b.Args _ cmpE hAa hAb (fun x hx y hy => FnPur.of_pur (first := []) (cap := []) ok185 (ih x hx y (by have := Ex.arg_wt hx; omega) (by have := Ex.arg_wt hy; omega)))) ⟨VLe.refl _, rfl, VLe.refl _, rfl, VLe.refl _, rfl, trivial⟩) <|
    rMv rfl <|
    rwp_nil <|
    awp_ret <|
    fin1 (rs_c rfl) ?_
   rw [cmpE_eq, if_pos (show cmpHd a b = 0 from c1), if_pos c2]

theorem expr_Compare (a b : Ex) (ha : a.wt ≤ 4294967296) (hb : b.wt ≤ 4294967296) : Pur cfg 185 [vE a, vE b] (vI (cmpE a b)) := by
  induction a using Ex.ind generalizing b with
  | _ a ih => exact expr_Compare_step a b (fun x hx y h1 h2 => ih x hx y h1 h2) ha hb

theorem expr_Same (a b : Ex) (ha : a.wt ≤ 4294967296) (hb : b.wt ≤ 4294967296) :
    Pur cfg 150 [vE a, vE b] (vB (decide (a = b))) := by
 refine con_intro Tryz.func150 rfl Tryz.ntmps150 Tryz.results150 rfl ?_
 intro z hz
 refine sReg rfl <|
  rwp_op rfl rfl (ope_box rfl rfl) ?_
 rintro _ _ ⟨b1, rfl, rfl⟩
 refine rwp_op rfl rfl (ope_box rfl rfl) ?_
 rintro _ _ ⟨b2, rfl, rfl⟩
 refine rMv rfl <|
  rwp_nil <|
  sReg rfl <|
  rwp_det rfl rfl (det_load_agg rfl agg52 rfl (ptr_row 1 rfl) rfl) <|
  rwp_det rfl rfl (det_load_agg rfl agg52 rfl (ptr_row 0 rfl) rfl) <|
  rwp_det rfl rfl (det_call rfl ok185 (expr_Compare a b ha hb) ⟨VLe.refl _, rfl, VLe.refl _, rfl, trivial⟩) <|
  rwp_det rfl rfl (det_eql rfl rfl rfl) <|
  rMv rfl <|
  rwp_nil <|
  awp_ret <|
  fin1 (rs_c rfl) ?_
 exact congrArg vB (decide_eq_decide.2 (cmpE_zero a b))

end Go.W
