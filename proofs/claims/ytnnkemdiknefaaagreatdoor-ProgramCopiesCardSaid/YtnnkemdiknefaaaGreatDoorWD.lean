/-
  Walks: what functions of the program compute. Printed by wip/gen/mk2.py.
  Conditions: none.
-/
import Derived.Test.YtnnkemdiknefaaaGreatDoorWC
set_option linter.unusedSimpArgs false
set_option linter.unusedVariables false
namespace Go.W
open Go Go.Eng Go.Proofs Go.L41 Go.Br
attribute [local irreducible] AWP RWP TD
theorem ok28 : callOk Tryz.prog 28 = true := by kernel_rfl
theorem ok78 : callOk Tryz.prog 78 = true := by kernel_rfl
theorem ok79 : callOk Tryz.prog 79 = true := by kernel_rfl
theorem ok88 : callOk Tryz.prog 88 = true := by kernel_rfl
theorem ok89 : callOk Tryz.prog 89 = true := by kernel_rfl
theorem ok106 : callOk Tryz.prog 106 = true := by kernel_rfl
theorem ok108 : callOk Tryz.prog 108 = true := by kernel_rfl
theorem ok151 : callOk Tryz.prog 151 = true := by kernel_rfl
theorem ok174 : callOk Tryz.prog 174 = true := by kernel_rfl
theorem ok177 : callOk Tryz.prog 177 = true := by kernel_rfl
theorem ok178 : callOk Tryz.prog 178 = true := by kernel_rfl
theorem ok179 : callOk Tryz.prog 179 = true := by kernel_rfl
theorem ok180 : callOk Tryz.prog 180 = true := by kernel_rfl
theorem ok181 : callOk Tryz.prog 181 = true := by kernel_rfl
theorem one52 : oneT Tryz.prog 52 = true := by kernel_rfl
theorem sz3 : (Tryz.prog.info? 3).map (·.size) = some 1 := by kernel_rfl
theorem sz52 : (Tryz.prog.info? 52).map (·.size) = some 1 := by kernel_rfl
theorem zr3 : zeroT Tryz.prog 3 = some [(Value.int IntKind.i64 0)] := by kernel_rfl
theorem zr52 : zeroT Tryz.prog 52 = some [(Value.int IntKind.i64 0)] := by kernel_rfl
theorem expr_forms (e : Ex) :
    Pur cfg 106 [vE e] (.c (.fn (.func 174) [] [.iptr e.cs])) := by
 refine con_intro Tryz.func106 rfl Tryz.ntmps106 Tryz.results106 rfl ?_
 intro z hz
 refine awp_seq ?_
 refine awp_region rfl ?_
 refine rwp_op rfl rfl (ope_box rfl rfl) ?_
 rintro _ _ ⟨b1, rfl, rfl⟩
 refine rwp_det rfl rfl (det_assign rfl rfl) ?_
 refine rwp_nil ?_
 refine awp_seq ?_
 refine awp_region rfl ?_
 refine rwp_det rfl rfl (det_func rfl rfl rfl rfl rfl) ?_
 refine rwp_weak _ (weak_freeze_row 0 rfl 3 (.c (.fn _ _ [_])) (PLe.fn ⟨.inr ⟨rfl, rfl⟩, trivial⟩)) ?_
 refine rwp_det rfl rfl (det_assign rfl rfl) ?_
 refine rwp_nil ?_
 refine awp_ret ?_
 repeat (first | refine thenQ_ret ?_ | refine blockQ_ret ?_)
 refine fin1 (rs_c rfl) ?_
 exact rfl

theorem forms_iter (e : Ex) (he : e.wt ≤ 6000000000000) :
    Iter cfg 174 [] [.iptr e.cs] (formsL e) fun l => [vLin l] := by
 obtain ⟨hL, hI, hA⟩ := e.parts he
 intro y J Jx μ hy0 h0
 have hy := fun pre x suf μ h1 h2 => fn_bool (hy0 pre x suf μ h1 h2)
 refine con_intro Tryz.func174 rfl Tryz.ntmps174 Tryz.results174 rfl ?_
 intro z hz
 refine awp_seq ?_
 refine awp_seq ?_
 refine awp_region rfl ?_
 refine rwp_det rfl rfl (det_move rfl rfl) ?_
 refine rwp_det rfl rfl (det_field_imm rfl fd33_4 rfl) ?_
 refine rwp_det rfl rfl (det_load_agg rfl agg29 rfl ptr_imm rfl) ?_
 refine rwp_op rfl rfl (ope_call_val rfl rfl (hy [] e.Lin _ _ rfl h0) ⟨VLe.refl _, rfl, trivial⟩) ?_
 rintro _ m0 ⟨y0, rfl, t0, f0⟩
 refine rwp_det rfl rfl (det_not rfl rfl) ?_
 refine rwp_nil ?_
 refine awp_cond rfl (fun c1 => ?_) (fun c1 => ?_)
 ·try simp only [sx, List.length_map] at c1
  refine awp_ret ?_
  repeat (first | refine thenQ_ret ?_ | refine blockQ_ret ?_)
  refine fin0 ?_
  exact .inr ⟨[], e.Lin, _, rfl, f0 c1⟩
 ·try simp only [sx, List.length_map] at c1
  refine awp_skip ?_
  refine awp_seq ?_
  refine awp_region rfl ?_
  refine rwp_det rfl rfl (det_field_imm rfl fd33_5 rfl) ?_
  refine rwp_det rfl rfl (det_load_one rfl one30 rfl ptr_imm rfl) ?_
  refine rwp_det rfl rfl (det_len_slm rfl el30 rfl) ?_
  refine rwp_det rfl rfl (det_move rfl rfl) ?_
  refine rwp_nil ?_
  refine awp_block ?_
  refine awp_weak ⟨[(15, .c _), (0, .c _), (13, .c _), (14, .c _)], _⟩ (Weak.regs ⟨VLe.of_eq rfl, VLe.of_eq rfl, VLe.of_eq rfl, VLe.of_eq rfl, trivial⟩) ?_
  refine awp_loop_m 1 rfl (Nat × List E) (fun ⟨k, m⟩ => [(15, vI k)]) (fun ⟨k, m⟩ => m) (fun ⟨k, m⟩ => k ≤ e.Idx.length ∧ (J (e.Lin :: (e.Idx.take k).flatMap ixF) m)) (fun ⟨k, m⟩ => e.Idx.length - k) ⟨⟨0, m0⟩, ⟨by omega, t0 c1⟩, Weak.regs ⟨VLe.refl _, VLe.refl _, VLe.refl _, VLe.refl _, trivial⟩⟩ ?_
  rintro ⟨k, m⟩ ⟨hk, hJ⟩
  refine awp_seq ?_
  refine awp_region rfl ?_
  refine rwp_det rfl rfl (det_lss rfl rfl rfl) ?_
  refine rwp_nil ?_
  refine awp_seq ?_
  refine awp_cond rfl (fun c2 => ?_) (fun c2 => ?_)
  ·try simp only [sx, List.length_map] at c2
   obtain ⟨x, hx⟩ := ex_get e.Idx k (by omega)
   have hxw := Ex.idx_wt (mem_of_get hx)
   refine awp_skip ?_
   refine awp_seq ?_
   refine awp_block ?_
   refine awp_seq ?_
   refine awp_region rfl ?_
   refine rwp_det rfl rfl (det_index_sl rfl el30 rfl rfl (by omega) (getm (by assumption))) ?_
   refine rwp_det rfl rfl (det_load_agg rfl agg117 rfl ptr_imm rfl) ?_
   refine rwp_op rfl rfl (ope_allocN [none, some 2, none, some 2] rfl zr117 rfl) ?_
   rintro _ _ ⟨b1, rfl, rfl⟩
   refine rwp_det0 rfl rfl (det_store rfl sz117 rfl rfl rfl (st_row 0 rfl rfl)) ?_
   refine rwp_weak _ (weak_freeze_row 0 rfl 4 _ PLe.ptr) ?_
   refine rwp_nil ?_
   refine awp_seq ?_
   refine awp_seq ?_
   refine awp_region rfl ?_
   refine rwp_det rfl rfl (det_move rfl rfl) ?_
   refine rwp_det rfl rfl (det_field_imm rfl fd117_0 rfl) ?_
   refine rwp_det rfl rfl (det_load_agg rfl agg29 rfl ptr_imm rfl) ?_
   refine rwp_op rfl rfl (ope_call_val rfl rfl (hy _ x.Lin _ _ (forms_at hx) hJ) ⟨VLe.refl _, rfl, trivial⟩) ?_
   rintro _ m1 ⟨y1, rfl, t1, f1⟩
   refine rwp_det rfl rfl (det_not rfl rfl) ?_
   refine rwp_nil ?_
   refine awp_cond rfl (fun c3 => ?_) (fun c3 => ?_)
   ·try simp only [sx, List.length_map] at c3
    refine awp_ret ?_
    repeat (first | refine thenQ_ret ?_ | refine blockQ_ret ?_)
    refine fin0 ?_
    exact .inr ⟨_, x.Lin, _, forms_at hx, f1 c3⟩
   ·try simp only [sx, List.length_map] at c3
    refine awp_skip ?_
    refine awp_seq ?_
    refine awp_region rfl ?_
    refine rwp_det rfl rfl (det_field_imm rfl fd117_2 rfl) ?_
    refine rwp_det rfl rfl (det_load_one rfl one104 rfl ptr_imm rfl) ?_
    refine rwp_det rfl rfl (det_len_slm rfl el104 rfl) ?_
    refine rwp_det rfl rfl (det_move rfl rfl) ?_
    refine rwp_nil ?_
    refine awp_block ?_
    refine awp_weak ⟨[(27, .c _), (0, .c _), (13, .c _), (14, .c _), (15, .c _), (25, .c _), (26, .c _)], _⟩ (Weak.regs ⟨VLe.of_eq rfl, VLe.of_eq rfl, VLe.of_eq rfl, VLe.of_eq rfl, VLe.of_eq rfl, VLe.of_eq rfl, VLe.of_eq rfl, trivial⟩) ?_
    refine awp_loop_m 1 rfl (Nat × List E) (fun ⟨j, n⟩ => [(27, vI j)]) (fun ⟨j, n⟩ => n) (fun ⟨j, n⟩ => j ≤ x.At.length ∧ (J ((e.Lin :: (e.Idx.take k).flatMap ixF) ++ [x.Lin] ++ x.At.take j) n)) (fun ⟨j, n⟩ => x.At.length - j) ⟨⟨0, m1⟩, ⟨by omega, by simpa using t1 c3⟩, Weak.regs ⟨VLe.refl _, VLe.refl _, VLe.refl _, VLe.refl _, VLe.refl _, VLe.refl _, VLe.refl _, trivial⟩⟩ ?_
    rintro ⟨j, n⟩ ⟨hj, hJ2⟩
    refine awp_seq ?_
    refine awp_region rfl ?_
    refine rwp_det rfl rfl (det_lss rfl rfl rfl) ?_
    refine rwp_nil ?_
    refine awp_seq ?_
    refine awp_cond rfl (fun c4 => ?_) (fun c4 => ?_)
    ·try simp only [sx, List.length_map] at c4
     obtain ⟨l, hl⟩ := ex_get x.At j (by omega)
     refine awp_skip ?_
     refine awp_seq ?_
     refine awp_block ?_
     refine awp_seq ?_
     refine awp_region rfl ?_
     refine rwp_det rfl rfl (det_index_sl rfl el104 rfl rfl (by omega) (getm (by assumption))) ?_
     refine rwp_det rfl rfl (det_load_agg rfl agg29 rfl ptr_imm rfl) ?_
     refine rwp_op rfl rfl (ope_allocN [none, some 2] rfl zr29 rfl) ?_
     rintro _ _ ⟨b2, rfl, rfl⟩
     refine rwp_det0 rfl rfl (det_store rfl sz29 rfl rfl rfl (st_row 0 rfl rfl)) ?_
     refine rwp_weak _ (weak_freeze_row 0 rfl 6 _ PLe.ptr) ?_
     refine rwp_nil ?_
     refine awp_seq ?_
     refine awp_region rfl ?_
     refine rwp_det rfl rfl (det_move rfl rfl) ?_
     refine rwp_det rfl rfl (det_load_agg rfl agg29 rfl ptr_imm rfl) ?_
     refine rwp_op rfl rfl (ope_call_val rfl rfl (hy _ l _ _ (forms_at2 hx hl) hJ2) ⟨VLe.refl _, rfl, trivial⟩) ?_
     rintro _ m2 ⟨y2, rfl, t2, f2⟩
     refine rwp_det rfl rfl (det_not rfl rfl) ?_
     refine rwp_nil ?_
     refine awp_cond rfl (fun c5 => ?_) (fun c5 => ?_)
     ·try simp only [sx, List.length_map] at c5
      refine awp_ret ?_
      repeat (first | refine thenQ_ret ?_ | refine blockQ_ret ?_)
      refine fin0 ?_
      exact .inr ⟨_, l, _, forms_at2 hx hl, f2 c5⟩
     ·try simp only [sx, List.length_map] at c5
      refine awp_skip ?_
      refine awp_region rfl ?_
      refine rwp_det rfl rfl (det_add_nw rfl rfl rfl ⟨by omega, by omega⟩) ?_
      refine rwp_det rfl rfl (det_move rfl rfl) ?_
      refine rwp_nil ?_
      refine ⟨⟨j + 1, m2⟩, ⟨by omega, by rw [take_next hl]; simpa [List.append_assoc] using t2 c5⟩, (by show x.At.length - (j + 1) < x.At.length - j; omega), Weak.regs ⟨VLe.refl _, VLe.refl _, VLe.refl _, VLe.refl _, VLe.refl _, VLe.refl _, VLe.refl _, trivial⟩⟩
    ·try simp only [sx, List.length_map] at c4
     refine awp_exit ?_
     refine awp_region rfl ?_
     refine rwp_det rfl rfl (det_add_nw rfl rfl rfl ⟨by omega, by omega⟩) ?_
     refine rwp_det rfl rfl (det_move rfl rfl) ?_
     refine rwp_nil ?_
     refine ⟨⟨k + 1, n⟩, ⟨by omega, by rw [forms_next hx]; rw [take_all (l := x.At) (by omega)] at hJ2; exact hJ2⟩, (by show e.Idx.length - (k + 1) < e.Idx.length - k; omega), Weak.regs ⟨VLe.refl _, VLe.refl _, VLe.refl _, VLe.refl _, trivial⟩⟩
  ·try simp only [sx, List.length_map] at c2
   refine awp_exit ?_
   repeat (first | refine then_exit ?_ | refine block_exit ?_)
   refine fin_end <| fin0 ?_
   rw [take_all (by omega)] at hJ; exact .inl hJ

theorem expr_Walk (e : Ex) :
    Pur cfg 28 [vE e] (.c (.fn (.func 88) [] [.iptr e.cs])) := by
 refine con_intro Tryz.func28 rfl Tryz.ntmps28 Tryz.results28 rfl ?_
 intro z hz
 refine awp_seq ?_
 refine awp_region rfl ?_
 refine rwp_op rfl rfl (ope_box rfl rfl) ?_
 rintro _ _ ⟨b1, rfl, rfl⟩
 refine rwp_det rfl rfl (det_assign rfl rfl) ?_
 refine rwp_nil ?_
 refine awp_seq ?_
 refine awp_region rfl ?_
 refine rwp_det rfl rfl (det_func rfl rfl rfl rfl rfl) ?_
 refine rwp_weak _ (weak_freeze_row 0 rfl 3 (.c (.fn _ _ [_])) (PLe.fn ⟨.inr ⟨rfl, rfl⟩, trivial⟩)) ?_
 refine rwp_det rfl rfl (det_assign rfl rfl) ?_
 refine rwp_nil ?_
 refine awp_ret ?_
 repeat (first | refine thenQ_ret ?_ | refine blockQ_ret ?_)
 refine fin1 (rs_c rfl) ?_
 exact rfl

theorem walk_step (e : Ex) (he : e.wt ≤ 6000000000000) (ih : ∀ a, a ∈ e.Args → a.wt ≤ 6000000000000 → (∀ (y : C) (J Jx : List Ex → List E → Prop) (pre0 : List Ex) (μ : List E), (∀ pre x suf μ, nodes a = pre ++ x :: suf → J (pre0 ++ pre) μ → FnCon cfg y [vE x] μ fun r μ' => ∃ b, r = .c (.lit (.bool b)) ∧ (b = true → J (pre0 ++ pre ++ [x]) μ') ∧ (b = false → Jx (pre0 ++ pre ++ [x]) μ')) → J pre0 μ → Con cfg 89 [vE a, .c y] μ fun r μ' => ∃ b, r = .c (.lit (.bool b)) ∧ (b = true → J (pre0 ++ nodes a) μ') ∧ (b = false → ∃ pre x suf, nodes a = pre ++ x :: suf ∧ Jx (pre0 ++ pre ++ [x]) μ'))) :
    ∀ (y : C) (J Jx : List Ex → List E → Prop) (pre0 : List Ex) (μ : List E), (∀ pre x suf μ, nodes e = pre ++ x :: suf → J (pre0 ++ pre) μ → FnCon cfg y [vE x] μ fun r μ' => ∃ b, r = .c (.lit (.bool b)) ∧ (b = true → J (pre0 ++ pre ++ [x]) μ') ∧ (b = false → Jx (pre0 ++ pre ++ [x]) μ')) → J pre0 μ → Con cfg 89 [vE e, .c y] μ fun r μ' => ∃ b, r = .c (.lit (.bool b)) ∧ (b = true → J (pre0 ++ nodes e) μ') ∧ (b = false → ∃ pre x suf, nodes e = pre ++ x :: suf ∧ Jx (pre0 ++ pre ++ [x]) μ') := by
 obtain ⟨hL, hI, hA⟩ := e.parts he
 intro y J Jx pre0 μ hy h0
 refine con_intro Tryz.func89 rfl Tryz.ntmps89 Tryz.results89 rfl ?_
 intro z hz
 refine awp_seq ?_
 refine awp_region rfl ?_
 refine rwp_op rfl rfl (ope_box rfl rfl) ?_
 rintro _ _ ⟨b1, rfl, rfl⟩
 refine rwp_weak _ (weak_freeze_row 0 rfl 2 _ PLe.ptr) ?_
 refine rwp_det rfl rfl (det_assign rfl rfl) ?_
 refine rwp_nil ?_
 refine awp_seq ?_
 refine awp_seq ?_
 refine awp_region rfl ?_
 refine rwp_det rfl rfl (det_move rfl rfl) ?_
 refine rwp_det rfl rfl (det_load_agg rfl agg33 rfl ptr_imm rfl) ?_
 refine rwp_op rfl rfl (ope_call_val rfl rfl (hy [] e _ _ (nodes_eq e) (show J (pre0 ++ []) μ by simpa using h0)) ⟨VLe.refl _, rfl, trivial⟩) ?_
 rintro _ m0 ⟨y0, rfl, t0, f0⟩
 refine rwp_det rfl rfl (det_not rfl rfl) ?_
 refine rwp_nil ?_
 refine awp_cond rfl (fun c1 => ?_) (fun c1 => ?_)
 ·try simp only [sx, List.length_map] at c1
  refine awp_seq ?_
  refine awp_region rfl ?_
  refine rwp_det rfl rfl (det_assign rfl rfl) ?_
  refine rwp_nil ?_
  refine awp_ret ?_
  repeat (first | refine thenQ_ret ?_ | refine blockQ_ret ?_)
  refine fin1 (rs_c rfl) ?_
  exact ⟨false, rfl, fun h => (by cases h), fun _ => ⟨[], e, _, nodes_eq e, by simpa using f0 c1⟩⟩
 ·try simp only [sx, List.length_map] at c1
  refine awp_skip ?_
  refine awp_seq ?_
  refine awp_seq ?_
  refine awp_region rfl ?_
  refine rwp_det rfl rfl (det_field_imm rfl fd33_6 rfl) ?_
  refine rwp_det rfl rfl (det_load_one rfl one31 rfl ptr_imm rfl) ?_
  refine rwp_det rfl rfl (det_len_slm rfl el31 rfl) ?_
  refine rwp_det rfl rfl (det_move rfl rfl) ?_
  refine rwp_nil ?_
  refine awp_block ?_
  refine awp_weak ⟨[(14, .c _), (1, .c _), (12, .c _), (13, .c _)], _⟩ (Weak.regs ⟨VLe.of_eq rfl, VLe.of_eq rfl, VLe.of_eq rfl, VLe.of_eq rfl, trivial⟩) ?_
  refine awp_loop_m 1 rfl (Nat × List E) (fun ⟨k, m⟩ => [(14, vI k)]) (fun ⟨k, m⟩ => m) (fun ⟨k, m⟩ => k ≤ e.Args.length ∧ (J (pre0 ++ e :: nodesL (e.Args.take k)) m)) (fun ⟨k, m⟩ => e.Args.length - k) ⟨⟨0, m0⟩, ⟨by omega, by simpa [nodesL] using t0 c1⟩, Weak.regs ⟨VLe.refl _, VLe.refl _, VLe.refl _, VLe.refl _, trivial⟩⟩ ?_
  rintro ⟨k, m⟩ ⟨hk, hJ⟩
  refine awp_seq ?_
  refine awp_region rfl ?_
  refine rwp_det rfl rfl (det_lss rfl rfl rfl) ?_
  refine rwp_nil ?_
  refine awp_seq ?_
  refine awp_cond rfl (fun c2 => ?_) (fun c2 => ?_)
  ·try simp only [sx, List.length_map] at c2
   obtain ⟨a, ha⟩ := ex_get e.Args k (by omega)
   refine awp_skip ?_
   refine awp_seq ?_
   refine awp_block ?_
   refine awp_seq ?_
   refine awp_region rfl ?_
   refine rwp_det rfl rfl (det_index_sl rfl el31 rfl rfl (by omega) (getmE (by assumption))) ?_
   refine rwp_det rfl rfl (det_load_agg rfl agg33 rfl ptr_imm rfl) ?_
   refine rwp_op rfl rfl (ope_allocN [none, none, none, none, none, none, none, none, none, none, some 2, some 4, some 13] rfl zr33 rfl) ?_
   rintro _ _ ⟨b2, rfl, rfl⟩
   refine rwp_det0 rfl rfl (det_store rfl sz33 rfl rfl rfl (st_row 0 rfl rfl)) ?_
   refine rwp_weak _ (weak_freeze_row 0 rfl 6 _ PLe.ptr) ?_
   refine rwp_nil ?_
   refine awp_seq ?_
   refine awp_region rfl ?_
   refine rwp_det rfl rfl (det_load_agg rfl agg33 rfl ptr_imm rfl) ?_
   refine rwp_det rfl rfl (det_move rfl rfl) ?_
   refine rwp_op rfl rfl (ope_call rfl ok89 (ih a (mem_of_get ha) (by have := Ex.arg_wt (mem_of_get ha); omega) y J Jx (pre0 ++ e :: nodesL (e.Args.take k)) _ (fun pre x suf μ hx hj => by have := hy _ x _ μ (nodes_at ha hx) (by simpa using hj); simpa using this) hJ) ⟨VLe.refl _, rfl, VLe.refl _, rfl, trivial⟩) ?_
   rintro _ m1 ⟨y1, rfl, t1, f1⟩
   refine rwp_det rfl rfl (det_not rfl rfl) ?_
   refine rwp_nil ?_
   refine awp_cond rfl (fun c3 => ?_) (fun c3 => ?_)
   ·try simp only [sx, List.length_map] at c3
    refine awp_seq ?_
    refine awp_region rfl ?_
    refine rwp_det rfl rfl (det_assign rfl rfl) ?_
    refine rwp_nil ?_
    refine awp_ret ?_
    repeat (first | refine thenQ_ret ?_ | refine blockQ_ret ?_)
    refine fin1 (rs_c rfl) ?_
    obtain ⟨pre, x, suf, h1, h2⟩ := f1 c3
    exact ⟨false, rfl, fun h => (by cases h), fun _ => ⟨_, x, _, nodes_at ha h1, by simpa using h2⟩⟩
   ·try simp only [sx, List.length_map] at c3
    refine awp_skip ?_
    refine awp_region rfl ?_
    refine rwp_det rfl rfl (det_add_nw rfl rfl rfl ⟨by omega, by omega⟩) ?_
    refine rwp_det rfl rfl (det_move rfl rfl) ?_
    refine rwp_nil ?_
    refine ⟨⟨k + 1, m1⟩, ⟨by omega, by rw [nodesL_next ha]; simpa using t1 c3⟩, (by show e.Args.length - (k + 1) < e.Args.length - k; omega), Weak.regs ⟨VLe.refl _, VLe.refl _, VLe.refl _, VLe.refl _, trivial⟩⟩
  ·try simp only [sx, List.length_map] at c2
   refine awp_exit ?_
   refine awp_seq ?_
   refine awp_region rfl ?_
   refine rwp_det rfl rfl (det_assign rfl rfl) ?_
   refine rwp_nil ?_
   refine awp_ret ?_
   repeat (first | refine thenQ_ret ?_ | refine blockQ_ret ?_)
   refine fin1 (rs_c rfl) ?_
   rw [take_all (by omega)] at hJ
   exact ⟨true, rfl, fun _ => (by rw [nodes_eq]; exact hJ), fun h => (by cases h)⟩

theorem walk_con (e : Ex) (he : e.wt ≤ 6000000000000) : ∀ (y : C) (J Jx : List Ex → List E → Prop) (pre0 : List Ex) (μ : List E), (∀ pre x suf μ, nodes e = pre ++ x :: suf → J (pre0 ++ pre) μ → FnCon cfg y [vE x] μ fun r μ' => ∃ b, r = .c (.lit (.bool b)) ∧ (b = true → J (pre0 ++ pre ++ [x]) μ') ∧ (b = false → Jx (pre0 ++ pre ++ [x]) μ')) → J pre0 μ → Con cfg 89 [vE e, .c y] μ fun r μ' => ∃ b, r = .c (.lit (.bool b)) ∧ (b = true → J (pre0 ++ nodes e) μ') ∧ (b = false → ∃ pre x suf, nodes e = pre ++ x :: suf ∧ Jx (pre0 ++ pre ++ [x]) μ') := by
  induction e using Ex.ind with
  | _ e ih => exact walk_step e he ih

theorem walk_iter (e : Ex) (he : e.wt ≤ 6000000000000) :
    Iter cfg 88 [] [.iptr e.cs] (nodes e) fun x => [vE x] := by
 intro y J Jx μ hy0 h0
 have hy := fun pre x suf μ h1 h2 => fn_bool (hy0 pre x suf μ h1 h2)
 refine con_intro Tryz.func88 rfl Tryz.ntmps88 Tryz.results88 rfl ?_
 intro z hz
 refine awp_region rfl ?_
 refine rwp_det rfl rfl (det_load_agg rfl agg33 rfl ptr_imm rfl) ?_
 refine rwp_det rfl rfl (det_move rfl rfl) ?_
 refine rwp_op rfl rfl (ope_call rfl ok89 (walk_con e he y J Jx [] _ (fun pre x suf μ h1 h2 => hy pre x suf μ h1 h2) h0) ⟨VLe.refl _, rfl, VLe.refl _, rfl, trivial⟩) ?_
 rintro _ m0 ⟨y0, rfl, t0, f0⟩
 refine rwp_nil ?_
 repeat (first | refine then_exit ?_ | refine block_exit ?_)
 refine fin_end <| fin0 ?_
 cases y0
 · exact .inr (f0 rfl)
 · exact .inl (t0 rfl)

theorem expr_validNode (e : Ex) (he : e.wt ≤ 6000000000000) :
    Pur cfg 108 [vE e] (vI (nodeErr e)) := by
 refine con_intro Tryz.func108 rfl Tryz.ntmps108 Tryz.results108 rfl ?_
 intro z hz
 obtain ⟨hL, hI, hA⟩ := e.parts he
 refine awp_seq ?_
 refine awp_region rfl ?_
 refine rwp_op rfl rfl (ope_box rfl rfl) ?_
 rintro _ _ ⟨b1, rfl, rfl⟩
 refine rwp_op rfl rfl (ope_alloc rfl zr52) ?_
 rintro _ _ ⟨b2, rfl, rfl⟩
 refine rwp_nil ?_
 refine awp_seq ?_
 refine awp_block ?_
 refine awp_seq ?_
 refine awp_region rfl ?_
 refine rwp_det rfl rfl (det_load_agg rfl agg33 rfl (ptr_row 1 rfl) rfl) ?_
 refine rwp_det rfl rfl (det_call rfl ok177 (expr_syntax e he) ⟨VLe.refl _, rfl, trivial⟩) ?_
 refine rwp_det rfl rfl (det_not rfl rfl) ?_
 refine rwp_det rfl rfl (det_assign rfl rfl) ?_
 refine rwp_nil ?_
 refine awp_cond rfl (fun c1 => ?_) (fun c1 => ?_)
 ·try simp only [sx, List.length_map] at c1
  refine awp_seq ?_
  refine awp_region rfl ?_
  refine rwp_det0 rfl rfl (det_store rfl sz52 rfl rfl rfl (st_row 0 rfl rfl)) ?_
  refine rwp_nil ?_
  refine awp_ret ?_
  repeat (first | refine thenQ_ret ?_ | refine blockQ_ret ?_)
  refine fin1 (rs_cell_one one52 rfl (ptr_row 0 rfl) rfl) ?_
  rw [nodeErr, c1]; rfl
 ·try simp only [sx, List.length_map] at c1
  refine awp_seq ?_
  refine awp_region rfl ?_
  refine rwp_det rfl rfl (det_load_agg rfl agg33 rfl (ptr_row 1 rfl) rfl) ?_
  refine rwp_det rfl rfl (det_call rfl ok178 (expr_names e he) ⟨VLe.refl _, rfl, trivial⟩) ?_
  refine rwp_det rfl rfl (det_not rfl rfl) ?_
  refine rwp_det rfl rfl (det_assign rfl rfl) ?_
  refine rwp_nil ?_
  refine awp_cond rfl (fun c2 => ?_) (fun c2 => ?_)
  ·try simp only [sx, List.length_map] at c2
   refine awp_seq ?_
   refine awp_region rfl ?_
   refine rwp_det0 rfl rfl (det_store rfl sz52 rfl rfl rfl (st_row 0 rfl rfl)) ?_
   refine rwp_nil ?_
   refine awp_ret ?_
   repeat (first | refine thenQ_ret ?_ | refine blockQ_ret ?_)
   refine fin1 (rs_cell_one one52 rfl (ptr_row 0 rfl) rfl) ?_
   rw [nodeErr, c1, c2]; rfl
  ·try simp only [sx, List.length_map] at c2
   refine awp_seq ?_
   refine awp_region rfl ?_
   refine rwp_det rfl rfl (det_load_agg rfl agg33 rfl (ptr_row 1 rfl) rfl) ?_
   refine rwp_det rfl rfl (det_call rfl ok179 (expr_rank e he) ⟨VLe.refl _, rfl, trivial⟩) ?_
   refine rwp_det rfl rfl (det_not rfl rfl) ?_
   refine rwp_det rfl rfl (det_assign rfl rfl) ?_
   refine rwp_nil ?_
   refine awp_cond rfl (fun c3 => ?_) (fun c3 => ?_)
   ·try simp only [sx, List.length_map] at c3
    refine awp_seq ?_
    refine awp_region rfl ?_
    refine rwp_det0 rfl rfl (det_store rfl sz52 rfl rfl rfl (st_row 0 rfl rfl)) ?_
    refine rwp_nil ?_
    refine awp_ret ?_
    repeat (first | refine thenQ_ret ?_ | refine blockQ_ret ?_)
    refine fin1 (rs_cell_one one52 rfl (ptr_row 0 rfl) rfl) ?_
    rw [nodeErr, c1, c2, c3]; rfl
   ·try simp only [sx, List.length_map] at c3
    refine awp_seq ?_
    refine awp_region rfl ?_
    refine rwp_det rfl rfl (det_load_agg rfl agg33 rfl (ptr_row 1 rfl) rfl) ?_
    refine rwp_det rfl rfl (det_call rfl ok180 (expr_types e he) ⟨VLe.refl _, rfl, trivial⟩) ?_
    refine rwp_det rfl rfl (det_not rfl rfl) ?_
    refine rwp_det rfl rfl (det_assign rfl rfl) ?_
    refine rwp_nil ?_
    refine awp_cond rfl (fun c4 => ?_) (fun c4 => ?_)
    ·try simp only [sx, List.length_map] at c4
     refine awp_seq ?_
     refine awp_region rfl ?_
     refine rwp_det0 rfl rfl (det_store rfl sz52 rfl rfl rfl (st_row 0 rfl rfl)) ?_
     refine rwp_nil ?_
     refine awp_ret ?_
     repeat (first | refine thenQ_ret ?_ | refine blockQ_ret ?_)
     refine fin1 (rs_cell_one one52 rfl (ptr_row 0 rfl) rfl) ?_
     rw [nodeErr, c1, c2, c3, c4]; rfl
    ·try simp only [sx, List.length_map] at c4
     refine awp_seq ?_
     refine awp_region rfl ?_
     refine rwp_det rfl rfl (det_field_lit rfl fd33_0 rfl) ?_
     refine rwp_det rfl rfl (det_load_one rfl one3 rfl (ptr_row 1 rfl) rfl) ?_
     refine rwp_det rfl rfl (det_eql rfl rfl rfl) ?_
     refine rwp_det rfl rfl (det_move rfl rfl) ?_
     refine rwp_lazy [] rfl rfl rfl rfl gv1 trivial (fun g9_3 => det_field_lit rfl fd33_3 rfl) rfl ?_
     refine rwp_lazy [(25, _)] rfl rfl rfl rfl gv1 ⟨rfl, rfl, trivial⟩ (fun g9_3 => det_load_agg rfl agg23 rfl (ptr_row 1 rfl) rfl) rfl ?_
     refine rwp_lazy [] rfl rfl rfl rfl gv1 trivial (fun g9_3 => det_field_lit rfl fd33_2 rfl) rfl ?_
     refine rwp_lazy [(27, _)] rfl rfl rfl rfl gv1 ⟨rfl, rfl, trivial⟩ (fun g9_3 => det_load_agg rfl agg26 rfl (ptr_row 1 rfl) rfl) rfl ?_
     refine rwp_lazy [(26, _), (28, _)] rfl rfl rfl rfl gv1 ⟨rfl, rfl, rfl, rfl, trivial⟩ (fun g9_3 => det_call rfl ok181 (value_Valid e.Ty e.Val) ⟨VLe.refl _, rfl, VLe.refl _, rfl, trivial⟩) rfl ?_
     refine rwp_lazy [(29, _)] rfl rfl rfl rfl gv1 ⟨rfl, rfl, trivial⟩ (fun g9_3 => det_not rfl rfl) rfl ?_
     refine rwp_det rfl rfl (det_and rfl rfl rfl (fun h => h) rfl) ?_
     refine rwp_det rfl rfl (det_assign rfl rfl) ?_
     refine rwp_nil ?_
     refine awp_cond rfl (fun c5 => ?_) (fun c5 => ?_)
     ·have h5 := node5 c4 c5
      refine awp_seq ?_
      refine awp_region rfl ?_
      refine rwp_det0 rfl rfl (det_store rfl sz52 rfl rfl rfl (st_row 0 rfl rfl)) ?_
      refine rwp_nil ?_
      refine awp_ret ?_
      repeat (first | refine thenQ_ret ?_ | refine blockQ_ret ?_)
      refine fin1 (rs_cell_one one52 rfl (ptr_row 0 rfl) rfl) ?_
      rw [nodeErr, c1, c2, c3, c4, formOk, h5]; rfl
     ·have h5 := node5 c4 c5
      refine awp_skip ?_
      refine awp_seq ?_
      refine awp_seq ?_
      refine awp_region rfl ?_
      refine rwp_det rfl rfl (det_load_agg rfl agg33 rfl (ptr_row 1 rfl) rfl) ?_
      refine rwp_det rfl rfl (det_call rfl ok106 (expr_forms _) ⟨VLe.refl _, rfl, trivial⟩) ?_
      refine rwp_nil ?_
      refine awp_block ?_
      refine awp_weak _ (Weak.mem [true, false] rfl) ?_
      refine awp_range_k (ps := [34]) hz 1 rfl rfl ok174 (forms_iter e he) (fun _ _ => rfl) rfl (fun pre => pre.all linOk = true) (fun pre => [E.row b2 52 [cI 0]]) (fun c pre => (c = .ret ∧ pre.all linOk = false)) (fun c pre => [E.row b2 52 [cI 1]]) ⟨rfl, rfl⟩ ?_ ?_ ?_ ?_
      ·intro pre x suf hxs hi z hz
       refine awp_region rfl ?_
       refine rwp_op rfl rfl (ope_allocN [none, some 2] rfl zr29 rfl) ?_
       rintro _ _ ⟨b3, rfl, rfl⟩
       refine rwp_det0 rfl rfl (det_store rfl sz29 rfl rfl rfl (st_row 0 rfl rfl)) ?_
       refine rwp_nil ?_
       intro z hz
       refine awp_block ?_
       refine awp_seq ?_
       refine awp_region rfl ?_
       refine rwp_det rfl rfl (det_load_agg rfl agg29 rfl (ptr_row 0 rfl) rfl) ?_
       refine rwp_det rfl rfl (det_call rfl ok151 (lin_Validate x (forms_wt he (by rw [hxs]; simp))) ⟨VLe.refl _, rfl, trivial⟩) ?_
       refine rwp_det rfl rfl (det_neq rfl rfl rfl) ?_
       refine rwp_nil ?_
       refine awp_cond rfl (fun c6 => ?_) (fun c6 => ?_)
       ·try simp only [sx, List.length_map] at c6
        refine awp_seq ?_
        refine awp_region rfl ?_
        refine rwp_det0 rfl rfl (det_store rfl sz52 rfl rfl rfl (st_row 1 rfl rfl)) ?_
        refine rwp_nil ?_
        refine awp_ret ?_
        exact round_fin (τ := ⟨[], _⟩) (Weak.mk [false, true] trivial rfl) ⟨⟨rfl, by simp only [List.all_append, List.all_cons, linErr_ne c6, Bool.false_and, Bool.and_false]⟩, rfl⟩
       ·try simp only [sx, List.length_map] at c6
        refine awp_skip ?_
        exact round_fin (τ := ⟨[], _⟩) (Weak.mk [false, true] trivial rfl) ⟨by simp only [List.all_append, hi, List.all_cons, List.all_nil, linErr_eq c6, Bool.and_self], rfl⟩
      ·intro hd
       refine awp_seq ?_
       refine awp_region rfl ?_
       refine rwp_det0 rfl rfl (det_store rfl sz52 rfl rfl rfl (st_row 0 rfl rfl)) ?_
       refine rwp_nil ?_
       refine awp_ret ?_
       repeat (first | refine thenQ_ret ?_ | refine blockQ_ret ?_)
       refine fin1 (rs_cell_one one52 rfl (ptr_row 0 rfl) rfl) ?_
       rw [nodeErr, c1, c2, c3, c4, formOk, h5, hd]; rfl
      ·rintro pre x suf hxs hx
       rcases hx with ⟨hc, hx⟩
       clear hc
       repeat (first | refine thenQ_ret ?_ | refine blockQ_ret ?_)
       refine fin1 (rs_cell_one one52 rfl (ptr_row 0 rfl) rfl) ?_
       rw [nodeErr, c1, c2, c3, c4, formOk, h5, hxs, all_app_no hx]; rfl
      ·rintro i pre x suf hxs hx
       rcases hx with ⟨hc, hx⟩
       cases hc

theorem expr_Size (e : Ex) (he : e.wt ≤ 6000000000000) :
    Pur cfg 78 [vE e] (vI (szT e)) := by
 refine con_intro Tryz.func78 rfl Tryz.ntmps78 Tryz.results78 rfl ?_
 intro z hz
 refine awp_seq ?_
 refine awp_region rfl ?_
 refine rwp_op rfl rfl (ope_box rfl rfl) ?_
 rintro _ _ ⟨b1, rfl, rfl⟩
 refine rwp_det rfl rfl (det_assign rfl rfl) ?_
 refine rwp_nil ?_
 refine awp_seq ?_
 refine awp_region rfl ?_
 refine rwp_op rfl rfl (ope_alloc rfl zr3) ?_
 rintro _ _ ⟨b2, rfl, rfl⟩
 refine rwp_det0 rfl rfl (det_store rfl sz3 rfl rfl rfl (st_row 0 rfl rfl)) ?_
 refine rwp_nil ?_
 refine awp_seq ?_
 refine awp_seq ?_
 refine awp_region rfl ?_
 refine rwp_det rfl rfl (det_load_agg rfl agg33 rfl (ptr_row 1 rfl) rfl) ?_
 refine rwp_det rfl rfl (det_call rfl ok28 (expr_Walk _) ⟨VLe.refl _, rfl, trivial⟩) ?_
 refine rwp_nil ?_
 refine awp_block ?_
 refine awp_weak _ (Weak.mem [true, false] rfl) ?_
 refine awp_range_k (ps := [6]) hz 1 rfl rfl ok88 (walk_iter e he) (fun _ _ => rfl) rfl (fun pre => pre.length ≤ 2000) (fun pre => [E.row b2 3 [cI (pre.length : Int)]]) (fun c pre => (c = .exit 0 ∧ pre.length = 2001)) (fun c pre => [E.row b2 3 [cI (pre.length : Int)]]) ⟨by simp, rfl⟩ ?_ ?_ ?_ ?_
 ·intro pre x suf hxs hi z hz
  refine awp_skip ?_
  intro z hz
  refine awp_block ?_
  refine awp_seq ?_
  refine awp_region rfl ?_
  refine rwp_det rfl rfl (det_load_one rfl one3 rfl (ptr_row 0 rfl) rfl) ?_
  refine rwp_det rfl rfl (det_add_nw rfl rfl rfl ⟨by omega, by omega⟩) ?_
  refine rwp_det0 rfl rfl (det_store rfl sz3 rfl rfl rfl (st_row 0 rfl rfl)) ?_
  refine rwp_nil ?_
  refine awp_seq ?_
  refine awp_region rfl ?_
  refine rwp_det rfl rfl (det_load_one rfl one3 rfl (ptr_row 0 rfl) rfl) ?_
  refine rwp_det rfl rfl (det_gtr rfl rfl rfl) ?_
  refine rwp_nil ?_
  refine awp_cond rfl (fun c1 => ?_) (fun c1 => ?_)
  ·try simp only [sx, List.length_map] at c1
   refine awp_exit ?_
   exact round_fin (τ := ⟨[], _⟩) (Weak.mk [true] trivial rfl) ⟨⟨rfl, by simp; omega⟩, (by dsimp only; rw [show ((pre ++ [x]).length : Int) = pre.length + 1 by simp]; rfl)⟩
  ·try simp only [sx, List.length_map] at c1
   refine awp_skip ?_
   exact round_fin (τ := ⟨[], _⟩) (Weak.mk [true] trivial rfl) ⟨(by simp; omega), (by dsimp only; rw [show ((pre ++ [x]).length : Int) = pre.length + 1 by simp]; rfl)⟩
 ·intro hd
  refine awp_seq ?_
  refine awp_region rfl ?_
  refine rwp_det rfl rfl (det_load_one rfl one3 rfl (ptr_row 0 rfl) rfl) ?_
  refine rwp_det rfl rfl (det_assign rfl rfl) ?_
  refine rwp_nil ?_
  refine awp_ret ?_
  repeat (first | refine thenQ_ret ?_ | refine blockQ_ret ?_)
  refine fin1 (rs_c rfl) ?_
  exact congrArg vI (by rw [szT]; omega)
 ·rintro pre x suf hxs hx
  rcases hx with ⟨hc, hx⟩
  cases hc
 ·rintro i pre x suf hxs hx
  rcases hx with ⟨hc, hx⟩
  injection hc with hc
  subst hc
  refine awp_seq ?_
  refine awp_region rfl ?_
  refine rwp_det rfl rfl (det_load_one rfl one3 rfl (ptr_row 0 rfl) rfl) ?_
  refine rwp_det rfl rfl (det_assign rfl rfl) ?_
  refine rwp_nil ?_
  refine awp_ret ?_
  repeat (first | refine thenQ_ret ?_ | refine blockQ_ret ?_)
  refine fin1 (rs_c rfl) ?_
  exact congrArg vI (by rw [szT, hxs]; simp at hx ⊢; omega)

theorem expr_Validate (e : Ex) (he : e.wt ≤ 6000000000000) :
    Pur cfg 40 [vE e] (vI (validE e)) := by
 refine con_intro Tryz.func40 rfl Tryz.ntmps40 Tryz.results40 rfl ?_
 intro z hz
 refine awp_seq ?_
 refine awp_region rfl ?_
 refine rwp_op rfl rfl (ope_box rfl rfl) ?_
 rintro _ _ ⟨b1, rfl, rfl⟩
 refine rwp_op rfl rfl (ope_alloc rfl zr52) ?_
 rintro _ _ ⟨b2, rfl, rfl⟩
 refine rwp_nil ?_
 refine awp_seq ?_
 refine awp_seq ?_
 refine awp_region rfl ?_
 refine rwp_det rfl rfl (det_load_agg rfl agg33 rfl (ptr_row 1 rfl) rfl) ?_
 refine rwp_det rfl rfl (det_call rfl ok79 (expr_Depth e he) ⟨VLe.refl _, rfl, trivial⟩) ?_
 refine rwp_det rfl rfl (det_gtr rfl rfl rfl) ?_
 refine rwp_nil ?_
 refine awp_cond rfl (fun c1 => ?_) (fun c1 => ?_)
 ·try simp only [sx, List.length_map] at c1
  refine awp_seq ?_
  refine awp_region rfl ?_
  refine rwp_det0 rfl rfl (det_store rfl sz52 rfl rfl rfl (st_row 0 rfl rfl)) ?_
  refine rwp_nil ?_
  refine awp_ret ?_
  repeat (first | refine thenQ_ret ?_ | refine blockQ_ret ?_)
  refine fin1 (rs_cell_one one52 rfl (ptr_row 0 rfl) rfl) ?_
  rw [validE, dec_true c1]; rfl
 ·try simp only [sx, List.length_map] at c1
  refine awp_skip ?_
  refine awp_seq ?_
  refine awp_seq ?_
  refine awp_region rfl ?_
  refine rwp_det rfl rfl (det_load_agg rfl agg33 rfl (ptr_row 1 rfl) rfl) ?_
  refine rwp_det rfl rfl (det_call rfl ok78 (expr_Size e he) ⟨VLe.refl _, rfl, trivial⟩) ?_
  refine rwp_det rfl rfl (det_gtr rfl rfl rfl) ?_
  refine rwp_nil ?_
  refine awp_cond rfl (fun c2 => ?_) (fun c2 => ?_)
  ·try simp only [sx, List.length_map] at c2
   refine awp_seq ?_
   refine awp_region rfl ?_
   refine rwp_det0 rfl rfl (det_store rfl sz52 rfl rfl rfl (st_row 0 rfl rfl)) ?_
   refine rwp_nil ?_
   refine awp_ret ?_
   repeat (first | refine thenQ_ret ?_ | refine blockQ_ret ?_)
   refine fin1 (rs_cell_one one52 rfl (ptr_row 0 rfl) rfl) ?_
   rw [validE, dec_false (by omega), dec_true c2]; rfl
  ·try simp only [sx, List.length_map] at c2
   refine awp_skip ?_
   refine awp_seq ?_
   refine awp_seq ?_
   refine awp_region rfl ?_
   refine rwp_det rfl rfl (det_load_agg rfl agg33 rfl (ptr_row 1 rfl) rfl) ?_
   refine rwp_det rfl rfl (det_call rfl ok28 (expr_Walk _) ⟨VLe.refl _, rfl, trivial⟩) ?_
   refine rwp_nil ?_
   refine awp_block ?_
   refine awp_weak _ (Weak.mem [true, false] rfl) ?_
   refine awp_range_k (ps := [13]) hz 1 rfl rfl ok88 (walk_iter e he) (fun _ _ => rfl) rfl (fun pre => errsL pre = 0) (fun pre => [E.row b2 52 [cI 0]]) (fun c pre => (c = .ret ∧ ¬ errsL pre = 0)) (fun c pre => [E.row b2 52 [cI (errsL pre)]]) ⟨rfl, rfl⟩ ?_ ?_ ?_ ?_
   ·intro pre x suf hxs hi z hz
    have hxw : x.wt ≤ 6000000000000 := by have := node_mem_wt e x (by rw [hxs]; simp); omega
    refine awp_region rfl ?_
    refine rwp_op rfl rfl (ope_allocN [none, none, none, none, none, none, none, none, none, none, some 2, some 4, some 13] rfl zr33 rfl) ?_
    rintro _ _ ⟨b3, rfl, rfl⟩
    refine rwp_det0 rfl rfl (det_store rfl sz33 rfl rfl rfl (st_row 0 rfl rfl)) ?_
    refine rwp_nil ?_
    intro z hz
    refine awp_block ?_
    refine awp_seq ?_
    refine awp_region rfl ?_
    refine rwp_det rfl rfl (det_load_agg rfl agg33 rfl (ptr_row 0 rfl) rfl) ?_
    refine rwp_det rfl rfl (det_call rfl ok108 (expr_validNode x hxw) ⟨VLe.refl _, rfl, trivial⟩) ?_
    refine rwp_det rfl rfl (det_assign rfl rfl) ?_
    refine rwp_nil ?_
    refine awp_seq ?_
    refine awp_region rfl ?_
    refine rwp_det rfl rfl (det_move rfl rfl) ?_
    refine rwp_det rfl rfl (det_neq rfl rfl rfl) ?_
    refine rwp_nil ?_
    refine awp_cond rfl (fun c3 => ?_) (fun c3 => ?_)
    ·try simp only [sx, List.length_map] at c3
     refine awp_seq ?_
     refine awp_region rfl ?_
     refine rwp_det rfl rfl (det_move rfl rfl) ?_
     refine rwp_det0 rfl rfl (det_store rfl sz52 rfl rfl rfl (st_row 1 rfl rfl)) ?_
     refine rwp_nil ?_
     refine awp_ret ?_
     exact round_fin (τ := ⟨[], _⟩) (Weak.mk [false, true] trivial rfl) ⟨⟨rfl, by rw [errs_one hi c3]; exact c3⟩, (by dsimp only; rw [errs_one hi c3]; rfl)⟩
    ·try simp only [sx, List.length_map] at c3
     refine awp_skip ?_
     exact round_fin (τ := ⟨[], _⟩) (Weak.mk [false, true] trivial rfl) ⟨(by dsimp only; rw [errsL_append, hi, errsL, c3]; rfl), rfl⟩
   ·intro hd
    refine awp_seq ?_
    refine awp_region rfl ?_
    refine rwp_det0 rfl rfl (det_store rfl sz52 rfl rfl rfl (st_row 0 rfl rfl)) ?_
    refine rwp_nil ?_
    refine awp_ret ?_
    repeat (first | refine thenQ_ret ?_ | refine blockQ_ret ?_)
    refine fin1 (rs_cell_one one52 rfl (ptr_row 0 rfl) rfl) ?_
    rw [validE, dec_false (by omega), dec_false (by omega), cond_false, cond_false, partE, hd]
   ·rintro pre x suf hxs hx
    rcases hx with ⟨hc, hx⟩
    clear hc
    repeat (first | refine thenQ_ret ?_ | refine blockQ_ret ?_)
    refine fin1 (rs_cell_one one52 rfl (ptr_row 0 rfl) rfl) ?_
    rw [validE, dec_false (by omega), dec_false (by omega), cond_false, cond_false, partE, hxs, errs_pre (suf := suf) hx]
   ·rintro i pre x suf hxs hx
    rcases hx with ⟨hc, hx⟩
    cases hc

end Go.W
