/-
  Walks: what functions of the program compute. Printed by wip/gen/mk2.py.
  Conditions: none.
-/
import Derived.Test.YtlfjpejkoccibaaGreatDoorWC
set_option linter.unusedSimpArgs false
set_option linter.unusedVariables false
set_option maxRecDepth 10000
namespace Go.W
open Go Go.Eng Go.Proofs Go.L41 Go.Br
attribute [local irreducible] AWP RWP TD finQ
theorem ok102 : callOk Tryz.prog 102 = true := by kernel_rfl
theorem ok123 : callOk Tryz.prog 123 = true := by kernel_rfl
theorem ok131 : callOk Tryz.prog 131 = true := by kernel_rfl
theorem ok158 : callOk Tryz.prog 158 = true := by kernel_rfl
theorem ok159 : callOk Tryz.prog 159 = true := by kernel_rfl
theorem ok169 : callOk Tryz.prog 169 = true := by kernel_rfl
theorem ok206 : callOk Tryz.prog 206 = true := by kernel_rfl
theorem ok207 : callOk Tryz.prog 207 = true := by kernel_rfl
theorem ok208 : callOk Tryz.prog 208 = true := by kernel_rfl
theorem ok236 : callOk Tryz.prog 236 = true := by kernel_rfl
theorem ok237 : callOk Tryz.prog 237 = true := by kernel_rfl
theorem ok238 : callOk Tryz.prog 238 = true := by kernel_rfl
theorem ok239 : callOk Tryz.prog 239 = true := by kernel_rfl
theorem ok240 : callOk Tryz.prog 240 = true := by kernel_rfl
theorem one51 : oneT Tryz.prog 51 = true := by kernel_rfl
theorem sz3 : (Tryz.prog.info? 3).map (·.size) = some 1 := by kernel_rfl
theorem sz51 : (Tryz.prog.info? 51).map (·.size) = some 1 := by kernel_rfl
theorem zr3 : zeroT Tryz.prog 3 = some [(Value.int IntKind.i64 0)] := by kernel_rfl
theorem zr51 : zeroT Tryz.prog 51 = some [(Value.int IntKind.i64 0)] := by kernel_rfl
theorem expr_forms (e : Ex) :
    Pur cfg 131 [vE e] (.c (.fn (.func 169) [] [.iptr e.cs])) := by
 refine con_intro Tryz.func131 rfl Tryz.ntmps131 Tryz.results131 rfl ?_
 intro z hz
 refine sReg rfl <|
  rwp_op rfl rfl (ope_box rfl rfl) ?_
 rintro _ _ ⟨b1, rfl, rfl⟩
 refine rMv rfl <|
  rwp_nil <|
  sReg rfl <|
  rwp_det rfl rfl (det_func rfl rfl rfl rfl rfl) <|
  rwp_weak _ (weak_freeze_row 0 rfl 3 (.c (.fn _ _ [_])) (PLe.fn ⟨.inr ⟨rfl, rfl⟩, trivial⟩)) <|
  rMv rfl <|
  rwp_nil <|
  awp_ret <|
  fin1 (rs_c rfl) ?_
 exact rfl

theorem forms_iter (e : Ex) (he : e.wt ≤ 6000000000000) :
    Iter cfg 169 [] [.iptr e.cs] (formsL e) fun l => [vLin l] := by
 obtain ⟨hL, hI, hA⟩ := e.parts he
 intro y J Jx μ hy0 h0
 have hy := fun pre x suf μ h1 h2 => fn_bool (hy0 pre x suf μ h1 h2)
 refine con_intro Tryz.func169 rfl Tryz.ntmps169 Tryz.results169 rfl ?_
 intro z hz
 refine awp_seq <|
  sReg rfl <|
  rMv rfl <|
  rwp_det rfl rfl (det_field_imm rfl fd44_4 rfl) <|
  rwp_det rfl rfl (det_load_agg rfl agg41 rfl ptr_imm rfl) <|
  rwp_op rfl rfl (ope_call_val rfl rfl (hy [] e.Lin _ _ rfl h0) ⟨VLe.refl _, rfl, trivial⟩) ?_
 rintro _ m0 ⟨y0, rfl, t0, f0⟩
 refine rwp_det rfl rfl (det_not rfl rfl) <|
  rwp_nil <|
  awp_cond rfl (fun c1 => ?_) (fun c1 => ?_)
 ·try simp only [sx] at c1
  refine awp_ret <|
   fin0 ?_
  exact .inr ⟨[], e.Lin, _, rfl, f0 c1⟩
 ·try simp only [sx] at c1
  refine awp_skip <|
   sReg rfl <|
   rwp_det rfl rfl (det_field_imm rfl fd44_5 rfl) <|
   rwp_det rfl rfl (det_load_one rfl one34 rfl ptr_imm rfl) <|
   rwp_det rfl rfl (det_len_slm rfl el34 rfl) <|
   rMv rfl <|
   rwp_nil <|
   awp_block <|
   awp_weak ⟨[(15, .c _), (0, .c _), (13, .c _), (14, .c _)], _⟩ (Weak.regs ⟨VLe.of_eq rfl, VLe.of_eq rfl, VLe.of_eq rfl, VLe.of_eq rfl, trivial⟩) <|
   awp_loop_m 1 rfl (Nat × List E) (fun ⟨k, m⟩ => [(15, vI k)]) (fun ⟨k, m⟩ => m) (fun ⟨k, m⟩ => k ≤ e.Idx.length ∧ (J (e.Lin :: (e.Idx.take k).flatMap ixF) m)) (fun ⟨k, m⟩ => e.Idx.length - k) ⟨⟨0, m0⟩, ⟨by omega, t0 c1⟩, Weak.regs ⟨VLe.refl _, VLe.refl _, VLe.refl _, VLe.refl _, trivial⟩⟩ ?_
  rintro ⟨k, m⟩ ⟨hk, hJ⟩
  refine sReg rfl <|
   rwp_det rfl rfl (det_lss rfl rfl rfl) <|
   rwp_nil <|
   awp_seq <|
   awp_cond rfl (fun c2 => ?_) (fun c2 => ?_)
  ·try simp only [sx] at c2
   obtain ⟨x, hx⟩ := ex_get e.Idx k (by omega)
   have hxw := Ex.idx_wt (mem_of_get hx)
   refine awp_skip <|
    awp_seq <|
    awp_block <|
    sReg rfl <|
    rwp_det rfl rfl (det_index_sl rfl el34 rfl rfl (by omega) (getm (by assumption))) <|
    rwp_det rfl rfl (det_load_agg rfl agg72 rfl ptr_imm rfl) <|
    rwp_op rfl rfl (ope_allocN [none, some 2, none, some 2] rfl zr72 rfl) ?_
   rintro _ _ ⟨b1, rfl, rfl⟩
   refine rwp_det0 rfl rfl (det_store rfl sz72 rfl rfl rfl (st_row 0 rfl rfl)) <|
    rwp_weak _ (weak_freeze_row 0 rfl 4 _ PLe.ptr) <|
    rwp_nil <|
    awp_seq <|
    sReg rfl <|
    rMv rfl <|
    rwp_det rfl rfl (det_field_imm rfl fd72_0 rfl) <|
    rwp_det rfl rfl (det_load_agg rfl agg41 rfl ptr_imm rfl) <|
    rwp_op rfl rfl (ope_call_val rfl rfl (hy _ x.Lin _ _ (forms_at hx) hJ) ⟨VLe.refl _, rfl, trivial⟩) ?_
   rintro _ m1 ⟨y1, rfl, t1, f1⟩
   refine rwp_det rfl rfl (det_not rfl rfl) <|
    rwp_nil <|
    awp_cond rfl (fun c3 => ?_) (fun c3 => ?_)
   ·try simp only [sx] at c3
    refine awp_ret <|
     fin0 ?_
    exact .inr ⟨_, x.Lin, _, forms_at hx, f1 c3⟩
   ·try simp only [sx] at c3
    refine awp_skip <|
     sReg rfl <|
     rwp_det rfl rfl (det_field_imm rfl fd72_2 rfl) <|
     rwp_det rfl rfl (det_load_one rfl one70 rfl ptr_imm rfl) <|
     rwp_det rfl rfl (det_len_slm rfl el70 rfl) <|
     rMv rfl <|
     rwp_nil <|
     awp_block <|
     awp_weak ⟨[(27, .c _), (0, .c _), (13, .c _), (14, .c _), (15, .c _), (25, .c _), (26, .c _)], _⟩ (Weak.regs ⟨VLe.of_eq rfl, VLe.of_eq rfl, VLe.of_eq rfl, VLe.of_eq rfl, VLe.of_eq rfl, VLe.of_eq rfl, VLe.of_eq rfl, trivial⟩) <|
     awp_loop_m 1 rfl (Nat × List E) (fun ⟨j, n⟩ => [(27, vI j)]) (fun ⟨j, n⟩ => n) (fun ⟨j, n⟩ => j ≤ x.At.length ∧ (J ((e.Lin :: (e.Idx.take k).flatMap ixF) ++ [x.Lin] ++ x.At.take j) n)) (fun ⟨j, n⟩ => x.At.length - j) ⟨⟨0, m1⟩, ⟨by omega, by simpa using t1 c3⟩, Weak.regs ⟨VLe.refl _, VLe.refl _, VLe.refl _, VLe.refl _, VLe.refl _, VLe.refl _, VLe.refl _, trivial⟩⟩ ?_
    rintro ⟨j, n⟩ ⟨hj, hJ2⟩
    refine sReg rfl <|
     rwp_det rfl rfl (det_lss rfl rfl rfl) <|
     rwp_nil <|
     awp_seq <|
     awp_cond rfl (fun c4 => ?_) (fun c4 => ?_)
    ·try simp only [sx] at c4
     obtain ⟨l, hl⟩ := ex_get x.At j (by omega)
     refine awp_skip <|
      awp_seq <|
      awp_block <|
      sReg rfl <|
      rwp_det rfl rfl (det_index_sl rfl el70 rfl rfl (by omega) (getm (by assumption))) <|
      rwp_det rfl rfl (det_load_agg rfl agg41 rfl ptr_imm rfl) <|
      rwp_op rfl rfl (ope_allocN [none, some 2] rfl zr41 rfl) ?_
     rintro _ _ ⟨b2, rfl, rfl⟩
     refine rwp_det0 rfl rfl (det_store rfl sz41 rfl rfl rfl (st_row 0 rfl rfl)) <|
      rwp_weak _ (weak_freeze_row 0 rfl 6 _ PLe.ptr) <|
      rwp_nil <|
      sReg rfl <|
      rMv rfl <|
      rwp_det rfl rfl (det_load_agg rfl agg41 rfl ptr_imm rfl) <|
      rwp_op rfl rfl (ope_call_val rfl rfl (hy _ l _ _ (forms_at2 hx hl) hJ2) ⟨VLe.refl _, rfl, trivial⟩) ?_
     rintro _ m2 ⟨y2, rfl, t2, f2⟩
     refine rwp_det rfl rfl (det_not rfl rfl) <|
      rwp_nil <|
      awp_cond rfl (fun c5 => ?_) (fun c5 => ?_)
     ·try simp only [sx] at c5
      refine awp_ret <|
       fin0 ?_
      exact .inr ⟨_, l, _, forms_at2 hx hl, f2 c5⟩
     ·try simp only [sx] at c5
      refine awp_skip <|
       awp_region rfl <|
       rwp_det rfl rfl (det_add_nw rfl rfl rfl ⟨by omega, by omega⟩) <|
       rMv rfl <|
       rwp_nil ?_
      refine ⟨⟨j + 1, m2⟩, ⟨by omega, by rw [take_next hl]; simpa [List.append_assoc] using t2 c5⟩, (by show x.At.length - (j + 1) < x.At.length - j; omega), Weak.regs ⟨VLe.refl _, VLe.refl _, VLe.refl _, VLe.refl _, VLe.refl _, VLe.refl _, VLe.refl _, trivial⟩⟩
    ·try simp only [sx] at c4
     refine awp_exit <|
      awp_region rfl <|
      rwp_det rfl rfl (det_add_nw rfl rfl rfl ⟨by omega, by omega⟩) <|
      rMv rfl <|
      rwp_nil ?_
     refine ⟨⟨k + 1, n⟩, ⟨by omega, by rw [forms_next hx]; rw [take_all (l := x.At) (by omega)] at hJ2; exact hJ2⟩, (by show e.Idx.length - (k + 1) < e.Idx.length - k; omega), Weak.regs ⟨VLe.refl _, VLe.refl _, VLe.refl _, VLe.refl _, trivial⟩⟩
  ·try simp only [sx] at c2
   refine awp_exit ?_
   repeat (first | refine then_exit ?_ | refine block_exit ?_)
   refine fin_end <| fin0 ?_
   rw [take_all (by omega)] at hJ; exact .inl hJ

theorem expr_Walk (e : Ex) :
    Pur cfg 123 [vE e] (.c (.fn (.func 158) [] [.iptr e.cs])) := by
 refine con_intro Tryz.func123 rfl Tryz.ntmps123 Tryz.results123 rfl ?_
 intro z hz
 refine sReg rfl <|
  rwp_op rfl rfl (ope_box rfl rfl) ?_
 rintro _ _ ⟨b1, rfl, rfl⟩
 refine rMv rfl <|
  rwp_nil <|
  sReg rfl <|
  rwp_det rfl rfl (det_func rfl rfl rfl rfl rfl) <|
  rwp_weak _ (weak_freeze_row 0 rfl 3 (.c (.fn _ _ [_])) (PLe.fn ⟨.inr ⟨rfl, rfl⟩, trivial⟩)) <|
  rMv rfl <|
  rwp_nil <|
  awp_ret <|
  fin1 (rs_c rfl) ?_
 exact rfl

theorem walk_step (e : Ex) (he : e.wt ≤ 6000000000000) (ih : ∀ a, a ∈ e.Args → a.wt ≤ 6000000000000 → (∀ (y : C) (J Jx : List Ex → List E → Prop) (pre0 : List Ex) (μ : List E), (∀ pre x suf μ, nodes a = pre ++ x :: suf → J (pre0 ++ pre) μ → FnCon cfg y [vE x] μ fun r μ' => ∃ b, r = .c (.lit (.bool b)) ∧ (b = true → J (pre0 ++ pre ++ [x]) μ') ∧ (b = false → Jx (pre0 ++ pre ++ [x]) μ')) → J pre0 μ → Con cfg 159 [vE a, .c y] μ fun r μ' => ∃ b, r = .c (.lit (.bool b)) ∧ (b = true → J (pre0 ++ nodes a) μ') ∧ (b = false → ∃ pre x suf, nodes a = pre ++ x :: suf ∧ Jx (pre0 ++ pre ++ [x]) μ'))) :
    ∀ (y : C) (J Jx : List Ex → List E → Prop) (pre0 : List Ex) (μ : List E), (∀ pre x suf μ, nodes e = pre ++ x :: suf → J (pre0 ++ pre) μ → FnCon cfg y [vE x] μ fun r μ' => ∃ b, r = .c (.lit (.bool b)) ∧ (b = true → J (pre0 ++ pre ++ [x]) μ') ∧ (b = false → Jx (pre0 ++ pre ++ [x]) μ')) → J pre0 μ → Con cfg 159 [vE e, .c y] μ fun r μ' => ∃ b, r = .c (.lit (.bool b)) ∧ (b = true → J (pre0 ++ nodes e) μ') ∧ (b = false → ∃ pre x suf, nodes e = pre ++ x :: suf ∧ Jx (pre0 ++ pre ++ [x]) μ') := by
 obtain ⟨hL, hI, hA⟩ := e.parts he
 intro y J Jx pre0 μ hy h0
 refine con_intro Tryz.func159 rfl Tryz.ntmps159 Tryz.results159 rfl ?_
 intro z hz
 refine sReg rfl <|
  rwp_op rfl rfl (ope_box rfl rfl) ?_
 rintro _ _ ⟨b1, rfl, rfl⟩
 refine rwp_weak _ (weak_freeze_row 0 rfl 2 _ PLe.ptr) <|
  rMv rfl <|
  rwp_nil <|
  awp_seq <|
  sReg rfl <|
  rMv rfl <|
  rwp_det rfl rfl (det_load_agg rfl agg44 rfl ptr_imm rfl) <|
  rwp_op rfl rfl (ope_call_val rfl rfl (hy [] e _ _ (nodes_eq e) (show J (pre0 ++ []) μ by simpa using h0)) ⟨VLe.refl _, rfl, trivial⟩) ?_
 rintro _ m0 ⟨y0, rfl, t0, f0⟩
 refine rwp_det rfl rfl (det_not rfl rfl) <|
  rwp_nil <|
  awp_cond rfl (fun c1 => ?_) (fun c1 => ?_)
 ·try simp only [sx] at c1
  refine sReg rfl <|
   rMv rfl <|
   rwp_nil <|
   awp_ret <|
   fin1 (rs_c rfl) ?_
  exact ⟨false, rfl, fun h => (by cases h), fun _ => ⟨[], e, _, nodes_eq e, by simpa using f0 c1⟩⟩
 ·try simp only [sx] at c1
  refine awp_skip <|
   awp_seq <|
   sReg rfl <|
   rwp_det rfl rfl (det_field_imm rfl fd44_6 rfl) <|
   rwp_det rfl rfl (det_load_one rfl one42 rfl ptr_imm rfl) <|
   rwp_det rfl rfl (det_len_slm rfl el42 rfl) <|
   rMv rfl <|
   rwp_nil <|
   awp_block <|
   awp_weak ⟨[(14, .c _), (1, .c _), (12, .c _), (13, .c _)], _⟩ (Weak.regs ⟨VLe.of_eq rfl, VLe.of_eq rfl, VLe.of_eq rfl, VLe.of_eq rfl, trivial⟩) <|
   awp_loop_m 1 rfl (Nat × List E) (fun ⟨k, m⟩ => [(14, vI k)]) (fun ⟨k, m⟩ => m) (fun ⟨k, m⟩ => k ≤ e.Args.length ∧ (J (pre0 ++ e :: nodesL (e.Args.take k)) m)) (fun ⟨k, m⟩ => e.Args.length - k) ⟨⟨0, m0⟩, ⟨by omega, by simpa [nodesL] using t0 c1⟩, Weak.regs ⟨VLe.refl _, VLe.refl _, VLe.refl _, VLe.refl _, trivial⟩⟩ ?_
  rintro ⟨k, m⟩ ⟨hk, hJ⟩
  refine sReg rfl <|
   rwp_det rfl rfl (det_lss rfl rfl rfl) <|
   rwp_nil <|
   awp_seq <|
   awp_cond rfl (fun c2 => ?_) (fun c2 => ?_)
  ·try simp only [sx] at c2
   obtain ⟨a, ha⟩ := ex_get e.Args k (by omega)
   refine awp_skip <|
    awp_seq <|
    awp_block <|
    sReg rfl <|
    rwp_det rfl rfl (det_index_sl rfl el42 rfl rfl (by omega) (getmE (by assumption))) <|
    rwp_det rfl rfl (det_load_agg rfl agg44 rfl ptr_imm rfl) <|
    rwp_op rfl rfl (ope_allocN [none, none, none, none, none, none, none, none, none, none, some 2, some 4, some 13] rfl zr44 rfl) ?_
   rintro _ _ ⟨b2, rfl, rfl⟩
   refine rwp_det0 rfl rfl (det_store rfl sz44 rfl rfl rfl (st_row 0 rfl rfl)) <|
    rwp_weak _ (weak_freeze_row 0 rfl 6 _ PLe.ptr) <|
    rwp_nil <|
    sReg rfl <|
    rwp_det rfl rfl (det_load_agg rfl agg44 rfl ptr_imm rfl) <|
    rMv rfl <|
    rwp_op rfl rfl (ope_call rfl ok159 (ih a (mem_of_get ha) (by have := Ex.arg_wt (mem_of_get ha); omega) y J Jx (pre0 ++ e :: nodesL (e.Args.take k)) _ (fun pre x suf μ hx hj => by have := hy _ x _ μ (nodes_at ha hx) (by simpa using hj); simpa using this) hJ) ⟨VLe.refl _, rfl, VLe.refl _, rfl, trivial⟩) ?_
   rintro _ m1 ⟨y1, rfl, t1, f1⟩
   refine rwp_det rfl rfl (det_not rfl rfl) <|
    rwp_nil <|
    awp_cond rfl (fun c3 => ?_) (fun c3 => ?_)
   ·try simp only [sx] at c3
    refine sReg rfl <|
     rMv rfl <|
     rwp_nil <|
     awp_ret <|
     fin1 (rs_c rfl) ?_
    obtain ⟨pre, x, suf, h1, h2⟩ := f1 c3
    exact ⟨false, rfl, fun h => (by cases h), fun _ => ⟨_, x, _, nodes_at ha h1, by simpa using h2⟩⟩
   ·try simp only [sx] at c3
    refine awp_skip <|
     awp_region rfl <|
     rwp_det rfl rfl (det_add_nw rfl rfl rfl ⟨by omega, by omega⟩) <|
     rMv rfl <|
     rwp_nil ?_
    refine ⟨⟨k + 1, m1⟩, ⟨by omega, by rw [nodesL_next ha]; simpa using t1 c3⟩, (by show e.Args.length - (k + 1) < e.Args.length - k; omega), Weak.regs ⟨VLe.refl _, VLe.refl _, VLe.refl _, VLe.refl _, trivial⟩⟩
  ·try simp only [sx] at c2
   refine awp_exit <|
    sReg rfl <|
    rMv rfl <|
    rwp_nil <|
    awp_ret <|
    fin1 (rs_c rfl) ?_
   rw [take_all (by omega)] at hJ
   exact ⟨true, rfl, fun _ => (by rw [nodes_eq]; exact hJ), fun h => (by cases h)⟩

theorem walk_con (e : Ex) (he : e.wt ≤ 6000000000000) : ∀ (y : C) (J Jx : List Ex → List E → Prop) (pre0 : List Ex) (μ : List E), (∀ pre x suf μ, nodes e = pre ++ x :: suf → J (pre0 ++ pre) μ → FnCon cfg y [vE x] μ fun r μ' => ∃ b, r = .c (.lit (.bool b)) ∧ (b = true → J (pre0 ++ pre ++ [x]) μ') ∧ (b = false → Jx (pre0 ++ pre ++ [x]) μ')) → J pre0 μ → Con cfg 159 [vE e, .c y] μ fun r μ' => ∃ b, r = .c (.lit (.bool b)) ∧ (b = true → J (pre0 ++ nodes e) μ') ∧ (b = false → ∃ pre x suf, nodes e = pre ++ x :: suf ∧ Jx (pre0 ++ pre ++ [x]) μ') := by
  induction e using Ex.ind with
  | _ e ih => exact walk_step e he ih

theorem walk_iter (e : Ex) (he : e.wt ≤ 6000000000000) :
    Iter cfg 158 [] [.iptr e.cs] (nodes e) fun x => [vE x] := by
 intro y J Jx μ hy0 h0
 have hy := fun pre x suf μ h1 h2 => fn_bool (hy0 pre x suf μ h1 h2)
 refine con_intro Tryz.func158 rfl Tryz.ntmps158 Tryz.results158 rfl ?_
 intro z hz
 refine awp_region rfl <|
  rwp_det rfl rfl (det_load_agg rfl agg44 rfl ptr_imm rfl) <|
  rMv rfl <|
  rwp_op rfl rfl (ope_call rfl ok159 (walk_con e he y J Jx [] _ (fun pre x suf μ h1 h2 => hy pre x suf μ h1 h2) h0) ⟨VLe.refl _, rfl, VLe.refl _, rfl, trivial⟩) ?_
 rintro _ m0 ⟨y0, rfl, t0, f0⟩
 refine rwp_nil ?_
 repeat (first | refine then_exit ?_ | refine block_exit ?_)
 refine fin_end <| fin0 ?_
 cases y0
 · exact .inr (f0 rfl)
 · exact .inl (t0 rfl)

theorem expr_validNode (e : Ex) (he : e.wt ≤ 6000000000000) :
    Pur cfg 208 [vE e] (vI (nodeErr e)) := by
 refine con_intro Tryz.func208 rfl Tryz.ntmps208 Tryz.results208 rfl ?_
 intro z hz
 obtain ⟨hL, hI, hA⟩ := e.parts he
 refine sReg rfl <|
  rwp_op rfl rfl (ope_box rfl rfl) ?_
 rintro _ _ ⟨b1, rfl, rfl⟩
 refine rwp_op rfl rfl (ope_alloc rfl zr51) ?_
 rintro _ _ ⟨b2, rfl, rfl⟩
 refine rwp_nil <|
  awp_seq <|
  awp_block <|
  sReg rfl <|
  rwp_det rfl rfl (det_load_agg rfl agg44 rfl (ptr_row 1 rfl) rfl) <|
  rwp_det rfl rfl (det_call rfl ok236 (expr_syntax e he) ⟨VLe.refl _, rfl, trivial⟩) <|
  rwp_det rfl rfl (det_not rfl rfl) <|
  rMv rfl <|
  rwp_nil <|
  awp_cond rfl (fun c1 => ?_) (fun c1 => ?_)
 ·try simp only [sx] at c1
  refine sReg rfl <|
   rwp_det0 rfl rfl (det_store rfl sz51 rfl rfl rfl (st_row 0 rfl rfl)) <|
   rwp_nil <|
   awp_ret <|
   fin1 (rs_cell_one one51 rfl (ptr_row 0 rfl) rfl) ?_
  rw [nodeErr, c1]; rfl
 ·try simp only [sx] at c1
  refine sReg rfl <|
   rwp_det rfl rfl (det_load_agg rfl agg44 rfl (ptr_row 1 rfl) rfl) <|
   rwp_det rfl rfl (det_call rfl ok237 (expr_names e he) ⟨VLe.refl _, rfl, trivial⟩) <|
   rwp_det rfl rfl (det_not rfl rfl) <|
   rMv rfl <|
   rwp_nil <|
   awp_cond rfl (fun c2 => ?_) (fun c2 => ?_)
  ·try simp only [sx] at c2
   refine sReg rfl <|
    rwp_det0 rfl rfl (det_store rfl sz51 rfl rfl rfl (st_row 0 rfl rfl)) <|
    rwp_nil <|
    awp_ret <|
    fin1 (rs_cell_one one51 rfl (ptr_row 0 rfl) rfl) ?_
   rw [nodeErr, c1, c2]; rfl
  ·try simp only [sx] at c2
   refine sReg rfl <|
    rwp_det rfl rfl (det_load_agg rfl agg44 rfl (ptr_row 1 rfl) rfl) <|
    rwp_det rfl rfl (det_call rfl ok238 (expr_rank e he) ⟨VLe.refl _, rfl, trivial⟩) <|
    rwp_det rfl rfl (det_not rfl rfl) <|
    rMv rfl <|
    rwp_nil <|
    awp_cond rfl (fun c3 => ?_) (fun c3 => ?_)
   ·try simp only [sx] at c3
    refine sReg rfl <|
     rwp_det0 rfl rfl (det_store rfl sz51 rfl rfl rfl (st_row 0 rfl rfl)) <|
     rwp_nil <|
     awp_ret <|
     fin1 (rs_cell_one one51 rfl (ptr_row 0 rfl) rfl) ?_
    rw [nodeErr, c1, c2, c3]; rfl
   ·try simp only [sx] at c3
    refine sReg rfl <|
     rwp_det rfl rfl (det_load_agg rfl agg44 rfl (ptr_row 1 rfl) rfl) <|
     rwp_det rfl rfl (det_call rfl ok239 (expr_types e he) ⟨VLe.refl _, rfl, trivial⟩) <|
     rwp_det rfl rfl (det_not rfl rfl) <|
     rMv rfl <|
     rwp_nil <|
     awp_cond rfl (fun c4 => ?_) (fun c4 => ?_)
    ·try simp only [sx] at c4
     refine sReg rfl <|
      rwp_det0 rfl rfl (det_store rfl sz51 rfl rfl rfl (st_row 0 rfl rfl)) <|
      rwp_nil <|
      awp_ret <|
      fin1 (rs_cell_one one51 rfl (ptr_row 0 rfl) rfl) ?_
     rw [nodeErr, c1, c2, c3, c4]; rfl
    ·try simp only [sx] at c4
     refine sReg rfl <|
      rwp_det rfl rfl (det_field_lit rfl fd44_0 rfl) <|
      rwp_det rfl rfl (det_load_one rfl one3 rfl (ptr_row 1 rfl) rfl) <|
      rwp_det rfl rfl (det_eql rfl rfl rfl) <|
      rMv rfl <|
      rLz [] rfl gv1 trivial (fun g9_3 => det_field_lit rfl fd44_3 rfl) rfl <|
      rLz [(25, _)] rfl gv1 ⟨rfl, rfl, trivial⟩ (fun g9_3 => det_load_agg rfl agg38 rfl (ptr_row 1 rfl) rfl) rfl <|
      rLz [] rfl gv1 trivial (fun g9_3 => det_field_lit rfl fd44_2 rfl) rfl <|
      rLz [(27, _)] rfl gv1 ⟨rfl, rfl, trivial⟩ (fun g9_3 => det_load_agg rfl agg36 rfl (ptr_row 1 rfl) rfl) rfl <|
      rLz [(26, _), (28, _)] rfl gv1 ⟨rfl, rfl, rfl, rfl, trivial⟩ (fun g9_3 => det_call rfl ok240 (value_Valid e.Ty e.Val) ⟨VLe.refl _, rfl, VLe.refl _, rfl, trivial⟩) rfl <|
      rLz [(29, _)] rfl gv1 ⟨rfl, rfl, trivial⟩ (fun g9_3 => det_not rfl rfl) rfl <|
      rwp_det rfl rfl (det_and rfl rfl rfl (fun h => h) rfl) <|
      rMv rfl <|
      rwp_nil <|
      awp_cond rfl (fun c5 => ?_) (fun c5 => ?_)
     ·have h5 := node5 c4 c5
      refine sReg rfl <|
       rwp_det0 rfl rfl (det_store rfl sz51 rfl rfl rfl (st_row 0 rfl rfl)) <|
       rwp_nil <|
       awp_ret <|
       fin1 (rs_cell_one one51 rfl (ptr_row 0 rfl) rfl) ?_
      rw [nodeErr, c1, c2, c3, c4, formOk, h5]; rfl
     ·have h5 := node5 c4 c5
      refine awp_skip <|
       awp_seq <|
       sReg rfl <|
       rwp_det rfl rfl (det_load_agg rfl agg44 rfl (ptr_row 1 rfl) rfl) <|
       rwp_det rfl rfl (det_call rfl ok131 (expr_forms _) ⟨VLe.refl _, rfl, trivial⟩) <|
       rwp_nil <|
       awp_block <|
       awp_weak _ (Weak.mem [true, false] rfl) <|
       awp_range_k (ps := [34]) hz 1 rfl rfl ok169 (forms_iter e he) (fun _ _ => rfl) rfl (fun pre => pre.all linOk = true) (fun pre => [E.row b2 51 [cI 0]]) (fun c pre => (c = .ret ∧ pre.all linOk = false)) (fun c pre => [E.row b2 51 [cI 1]]) ⟨rfl, rfl⟩ ?_ ?_ ?_ ?_
      ·intro pre x suf hxs hi z hz
       refine awp_region rfl <|
        rwp_op rfl rfl (ope_allocN [none, some 2] rfl zr41 rfl) ?_
       rintro _ _ ⟨b3, rfl, rfl⟩
       refine rwp_det0 rfl rfl (det_store rfl sz41 rfl rfl rfl (st_row 0 rfl rfl)) <|
        rwp_nil ?_
       intro z hz
       refine awp_block <|
        sReg rfl <|
        rwp_det rfl rfl (det_load_agg rfl agg41 rfl (ptr_row 0 rfl) rfl) <|
        rwp_det rfl rfl (det_call rfl ok102 (lin_Validate x (forms_wt he (by rw [hxs]; simp))) ⟨VLe.refl _, rfl, trivial⟩) <|
        rwp_det rfl rfl (det_neq rfl rfl rfl) <|
        rwp_nil <|
        awp_cond rfl (fun c6 => ?_) (fun c6 => ?_)
       ·try simp only [sx] at c6
        refine sReg rfl <|
         rwp_det0 rfl rfl (det_store rfl sz51 rfl rfl rfl (st_row 1 rfl rfl)) <|
         rwp_nil <|
         awp_ret ?_
        exact round_fin (τ := ⟨[], _⟩) (Weak.mk [false, true] trivial rfl) ⟨⟨rfl, by simp only [List.all_append, List.all_cons, linErr_ne c6, Bool.false_and, Bool.and_false]⟩, rfl⟩
       ·try simp only [sx] at c6
        refine awp_skip ?_
        exact round_fin (τ := ⟨[], _⟩) (Weak.mk [false, true] trivial rfl) ⟨by simp only [List.all_append, hi, List.all_cons, List.all_nil, linErr_eq c6, Bool.and_self], rfl⟩
      ·intro hd
       refine sReg rfl <|
        rwp_det0 rfl rfl (det_store rfl sz51 rfl rfl rfl (st_row 0 rfl rfl)) <|
        rwp_nil <|
        awp_ret <|
        fin1 (rs_cell_one one51 rfl (ptr_row 0 rfl) rfl) ?_
       rw [nodeErr, c1, c2, c3, c4, formOk, h5, hd]; rfl
      ·rintro pre x suf hxs hx
       rcases hx with ⟨hc, hx⟩
       clear hc
       repeat (first | refine thenQ_ret ?_ | refine blockQ_ret ?_)
       refine fin1 (rs_cell_one one51 rfl (ptr_row 0 rfl) rfl) ?_
       rw [nodeErr, c1, c2, c3, c4, formOk, h5, hxs, all_app_no hx]; rfl
      ·rintro i pre x suf hxs hx
       rcases hx with ⟨hc, hx⟩
       cases hc

theorem expr_Size (e : Ex) (he : e.wt ≤ 6000000000000) :
    Pur cfg 207 [vE e] (vI (szT e)) := by
 refine con_intro Tryz.func207 rfl Tryz.ntmps207 Tryz.results207 rfl ?_
 intro z hz
 refine sReg rfl <|
  rwp_op rfl rfl (ope_box rfl rfl) ?_
 rintro _ _ ⟨b1, rfl, rfl⟩
 refine rMv rfl <|
  rwp_nil <|
  sReg rfl <|
  rwp_op rfl rfl (ope_alloc rfl zr3) ?_
 rintro _ _ ⟨b2, rfl, rfl⟩
 refine rwp_det0 rfl rfl (det_store rfl sz3 rfl rfl rfl (st_row 0 rfl rfl)) <|
  rwp_nil <|
  awp_seq <|
  sReg rfl <|
  rwp_det rfl rfl (det_load_agg rfl agg44 rfl (ptr_row 1 rfl) rfl) <|
  rwp_det rfl rfl (det_call rfl ok123 (expr_Walk _) ⟨VLe.refl _, rfl, trivial⟩) <|
  rwp_nil <|
  awp_block <|
  awp_weak _ (Weak.mem [true, false] rfl) <|
  awp_range_k (ps := [6]) hz 1 rfl rfl ok158 (walk_iter e he) (fun _ _ => rfl) rfl (fun pre => pre.length ≤ 2000) (fun pre => [E.row b2 3 [cI (pre.length : Int)]]) (fun c pre => (c = .exit 0 ∧ pre.length = 2001)) (fun c pre => [E.row b2 3 [cI (pre.length : Int)]]) ⟨by simp, rfl⟩ ?_ ?_ ?_ ?_
 ·intro pre x suf hxs hi z hz
  refine awp_skip ?_
  intro z hz
  refine awp_block <|
   sReg rfl <|
   rwp_det rfl rfl (det_load_one rfl one3 rfl (ptr_row 0 rfl) rfl) <|
   rwp_det rfl rfl (det_add_nw rfl rfl rfl ⟨by omega, by omega⟩) <|
   rwp_det0 rfl rfl (det_store rfl sz3 rfl rfl rfl (st_row 0 rfl rfl)) <|
   rwp_nil <|
   sReg rfl <|
   rwp_det rfl rfl (det_load_one rfl one3 rfl (ptr_row 0 rfl) rfl) <|
   rwp_det rfl rfl (det_gtr rfl rfl rfl) <|
   rwp_nil <|
   awp_cond rfl (fun c1 => ?_) (fun c1 => ?_)
  ·try simp only [sx] at c1
   refine awp_exit ?_
   exact round_fin (τ := ⟨[], _⟩) (Weak.mk [true] trivial rfl) ⟨⟨rfl, by simp; omega⟩, (by dsimp only; rw [show ((pre ++ [x]).length : Int) = pre.length + 1 by simp]; rfl)⟩
  ·try simp only [sx] at c1
   refine awp_skip ?_
   exact round_fin (τ := ⟨[], _⟩) (Weak.mk [true] trivial rfl) ⟨(by simp; omega), (by dsimp only; rw [show ((pre ++ [x]).length : Int) = pre.length + 1 by simp]; rfl)⟩
 ·intro hd
  refine sReg rfl <|
   rwp_det rfl rfl (det_load_one rfl one3 rfl (ptr_row 0 rfl) rfl) <|
   rMv rfl <|
   rwp_nil <|
   awp_ret <|
   fin1 (rs_c rfl) ?_
  exact congrArg vI (by rw [szT]; omega)
 ·rintro pre x suf hxs hx
  rcases hx with ⟨hc, hx⟩
  cases hc
 ·rintro i pre x suf hxs hx
  rcases hx with ⟨hc, hx⟩
  injection hc with hc
  subst hc
  refine sReg rfl <|
   rwp_det rfl rfl (det_load_one rfl one3 rfl (ptr_row 0 rfl) rfl) <|
   rMv rfl <|
   rwp_nil <|
   awp_ret <|
   fin1 (rs_c rfl) ?_
  exact congrArg vI (by rw [szT, hxs]; simp at hx ⊢; omega)

theorem expr_Validate (e : Ex) (he : e.wt ≤ 6000000000000) :
    Pur cfg 188 [vE e] (vI (validE e)) := by
 refine con_intro Tryz.func188 rfl Tryz.ntmps188 Tryz.results188 rfl ?_
 intro z hz
 refine sReg rfl <|
  rwp_op rfl rfl (ope_box rfl rfl) ?_
 rintro _ _ ⟨b1, rfl, rfl⟩
 refine rwp_op rfl rfl (ope_alloc rfl zr51) ?_
 rintro _ _ ⟨b2, rfl, rfl⟩
 refine rwp_nil <|
  awp_seq <|
  sReg rfl <|
  rwp_det rfl rfl (det_load_agg rfl agg44 rfl (ptr_row 1 rfl) rfl) <|
  rwp_det rfl rfl (det_call rfl ok206 (expr_Depth e he) ⟨VLe.refl _, rfl, trivial⟩) <|
  rwp_det rfl rfl (det_gtr rfl rfl rfl) <|
  rwp_nil <|
  awp_cond rfl (fun c1 => ?_) (fun c1 => ?_)
 ·try simp only [sx] at c1
  refine sReg rfl <|
   rwp_det0 rfl rfl (det_store rfl sz51 rfl rfl rfl (st_row 0 rfl rfl)) <|
   rwp_nil <|
   awp_ret <|
   fin1 (rs_cell_one one51 rfl (ptr_row 0 rfl) rfl) ?_
  rw [validE, dec_true c1]; rfl
 ·try simp only [sx] at c1
  refine awp_skip <|
   awp_seq <|
   sReg rfl <|
   rwp_det rfl rfl (det_load_agg rfl agg44 rfl (ptr_row 1 rfl) rfl) <|
   rwp_det rfl rfl (det_call rfl ok207 (expr_Size e he) ⟨VLe.refl _, rfl, trivial⟩) <|
   rwp_det rfl rfl (det_gtr rfl rfl rfl) <|
   rwp_nil <|
   awp_cond rfl (fun c2 => ?_) (fun c2 => ?_)
  ·try simp only [sx] at c2
   refine sReg rfl <|
    rwp_det0 rfl rfl (det_store rfl sz51 rfl rfl rfl (st_row 0 rfl rfl)) <|
    rwp_nil <|
    awp_ret <|
    fin1 (rs_cell_one one51 rfl (ptr_row 0 rfl) rfl) ?_
   rw [validE, dec_false (by omega), dec_true c2]; rfl
  ·try simp only [sx] at c2
   refine awp_skip <|
    awp_seq <|
    sReg rfl <|
    rwp_det rfl rfl (det_load_agg rfl agg44 rfl (ptr_row 1 rfl) rfl) <|
    rwp_det rfl rfl (det_call rfl ok123 (expr_Walk _) ⟨VLe.refl _, rfl, trivial⟩) <|
    rwp_nil <|
    awp_block <|
    awp_weak _ (Weak.mem [true, false] rfl) <|
    awp_range_k (ps := [13]) hz 1 rfl rfl ok158 (walk_iter e he) (fun _ _ => rfl) rfl (fun pre => errsL pre = 0) (fun pre => [E.row b2 51 [cI 0]]) (fun c pre => (c = .ret ∧ ¬ errsL pre = 0)) (fun c pre => [E.row b2 51 [cI (errsL pre)]]) ⟨rfl, rfl⟩ ?_ ?_ ?_ ?_
   ·intro pre x suf hxs hi z hz
    have hxw : x.wt ≤ 6000000000000 := by have := node_mem_wt e x (by rw [hxs]; simp); omega
    refine awp_region rfl <|
     rwp_op rfl rfl (ope_allocN [none, none, none, none, none, none, none, none, none, none, some 2, some 4, some 13] rfl zr44 rfl) ?_
    rintro _ _ ⟨b3, rfl, rfl⟩
    refine rwp_det0 rfl rfl (det_store rfl sz44 rfl rfl rfl (st_row 0 rfl rfl)) <|
     rwp_nil ?_
    intro z hz
    refine awp_block <|
     sReg rfl <|
     rwp_det rfl rfl (det_load_agg rfl agg44 rfl (ptr_row 0 rfl) rfl) <|
     rwp_det rfl rfl (det_call rfl ok208 (expr_validNode x hxw) ⟨VLe.refl _, rfl, trivial⟩) <|
     rMv rfl <|
     rwp_nil <|
     sReg rfl <|
     rMv rfl <|
     rwp_det rfl rfl (det_neq rfl rfl rfl) <|
     rwp_nil <|
     awp_cond rfl (fun c3 => ?_) (fun c3 => ?_)
    ·try simp only [sx] at c3
     refine sReg rfl <|
      rMv rfl <|
      rwp_det0 rfl rfl (det_store rfl sz51 rfl rfl rfl (st_row 1 rfl rfl)) <|
      rwp_nil <|
      awp_ret ?_
     exact round_fin (τ := ⟨[], _⟩) (Weak.mk [false, true] trivial rfl) ⟨⟨rfl, by rw [errs_one hi c3]; exact c3⟩, (by dsimp only; rw [errs_one hi c3]; rfl)⟩
    ·try simp only [sx] at c3
     refine awp_skip ?_
     exact round_fin (τ := ⟨[], _⟩) (Weak.mk [false, true] trivial rfl) ⟨(by dsimp only; rw [errsL_append, hi, errsL, c3]; rfl), rfl⟩
   ·intro hd
    refine sReg rfl <|
     rwp_det0 rfl rfl (det_store rfl sz51 rfl rfl rfl (st_row 0 rfl rfl)) <|
     rwp_nil <|
     awp_ret <|
     fin1 (rs_cell_one one51 rfl (ptr_row 0 rfl) rfl) ?_
    rw [validE, dec_false (by omega), dec_false (by omega), cond_false, cond_false, partE, hd]
   ·rintro pre x suf hxs hx
    rcases hx with ⟨hc, hx⟩
    clear hc
    repeat (first | refine thenQ_ret ?_ | refine blockQ_ret ?_)
    refine fin1 (rs_cell_one one51 rfl (ptr_row 0 rfl) rfl) ?_
    rw [validE, dec_false (by omega), dec_false (by omega), cond_false, cond_false, partE, hxs, errs_pre (suf := suf) hx]
   ·rintro i pre x suf hxs hx
    rcases hx with ⟨hc, hx⟩
    cases hc

end Go.W
