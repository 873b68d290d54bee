/-
  What an argument of this seat is: units of code, actions. Printed by wip/br/gen_openv.py.
  Conditions: none.
-/
import Derived.Test.YtmmiedgoamlhpaaGreatDoorPlainM
import Derived.Test.YtmmiedgoamlhpaaGreatDoorBase
set_option maxRecDepth 100000
namespace Go.Br
open Go Go.Eng Go.RowKit Go.Proofs Go.L41

abbrev typesV : List TypeId := [9, 3, 2, 63, 36, 65, 23, 67, 22, 61, 24, 26, 45, 27]
theorem okTypesV : typesV.all (okT Tryz.prog typesV) = true := by kernel_rfl
theorem c_str : Tryz.prog.cellsOf 9 = 1 := by kernel_rfl
theorem c_int : Tryz.prog.cellsOf 3 = 1 := by kernel_rfl
theorem c_i64 : Tryz.prog.cellsOf 2 = 1 := by kernel_rfl
theorem c_val : Tryz.prog.cellsOf 63 = 2 := by kernel_rfl
theorem c_vals : Tryz.prog.cellsOf 36 = 1 := by kernel_rfl
theorem c_ty : Tryz.prog.cellsOf 65 = 5 := by kernel_rfl
theorem c_tys : Tryz.prog.cellsOf 23 = 1 := by kernel_rfl
theorem c_in : Tryz.prog.cellsOf 67 = 11 := by kernel_rfl
theorem c_ins : Tryz.prog.cellsOf 22 = 1 := by kernel_rfl
theorem c_slot : Tryz.prog.cellsOf 61 = 3 := by kernel_rfl
theorem c_slots : Tryz.prog.cellsOf 24 = 1 := by kernel_rfl
theorem c_unit : Tryz.prog.cellsOf 26 = 4 := by kernel_rfl
theorem c_act : Tryz.prog.cellsOf 45 = 4 := by kernel_rfl
theorem b_val : Tryz.prog.bytesOf 63 = 16 := by kernel_rfl
theorem b_ty : Tryz.prog.bytesOf 65 = 40 := by kernel_rfl
theorem b_in : Tryz.prog.bytesOf 67 = 88 := by kernel_rfl
theorem b_slot : Tryz.prog.bytesOf 61 = 32 := by kernel_rfl
theorem b_act : Tryz.prog.bytesOf 45 = 48 := by kernel_rfl
theorem reachV : reachBytes = 140737488351232 := by decide
theorem list_of {α : Type} {Q : α → List C} {P : α → Prop} : ∀ {rows : List (List C)}, (∀ r, r ∈ rows → ∃ x, r = Q x ∧ P x) → ∃ l : List α, rows = l.map Q ∧ ∀ x, x ∈ l → P x
  | [], _ => ⟨[], rfl, fun x hx => by cases hx⟩
  | r :: rows, h => by
    obtain ⟨x, rfl, hx⟩ := h r (by simp)
    obtain ⟨l, rfl, hl⟩ := list_of (rows := rows) fun r hr => h r (by simp [hr])
    exact ⟨x :: l, rfl, fun y hy => by rcases List.mem_cons.1 hy with rfl | hy; exact hx; exact hl y hy⟩
theorem sh_str {f : Nat} {l : List C} (h : Sh Tryz.prog f 9 l) : ∃ s : ByteArray, l = [cS s] ∧ True := by
  cases f with
  | zero => exact h.elim
  | succ f => have h := Sh.str Tryz.underlying9 h; obtain ⟨s, h, _⟩ := h; exact ⟨s, h, trivial⟩
theorem sh_int {f : Nat} {l : List C} (h : Sh Tryz.prog f 3 l) : ∃ n : Int, l = [cI n] ∧ True := by
  cases f with
  | zero => exact h.elim
  | succ f => have h := Sh.int Tryz.underlying3 h; obtain ⟨s, h, _⟩ := h; exact ⟨s, h, trivial⟩
theorem sh_i64 {f : Nat} {l : List C} (h : Sh Tryz.prog f 2 l) : ∃ n : Int, l = [cI n] ∧ True := by
  cases f with
  | zero => exact h.elim
  | succ f => have h := Sh.int Tryz.underlying2 h; obtain ⟨s, h, _⟩ := h; exact ⟨s, h, trivial⟩
theorem sh_val {f : Nat} {l : List C} (h : Sh Tryz.prog f 63 l) : ∃ x : Vl, l = x.cells ∧ True := by
  cases f with
  | zero => exact h.elim
  | succ f =>
    have h := Sh.struct Tryz.underlying63 h
    obtain ⟨hl, hf⟩ := h
    rw [c_val] at hl
    match l, hl with
    | [a0, a1], _ =>
      simp only [List.mem_cons, List.not_mem_nil, or_false, forall_eq_or_imp, forall_eq, c_i64, List.drop_zero, List.drop_succ_cons, List.take_succ_cons, List.take_zero] at hf
      obtain ⟨h0, h1⟩ := hf
      obtain ⟨n, e0, p0⟩ := sh_i64 h0
      simp only [List.cons.injEq, and_true] at e0
      obtain ⟨d, e1, p1⟩ := sh_i64 h1
      simp only [List.cons.injEq, and_true] at e1
      subst e0 e1
      exact ⟨⟨n, d⟩, rfl, trivial⟩
theorem sh_vals {f : Nat} {l : List C} (h : Sh Tryz.prog f 36 l) : ∃ x : List Vl, l = [.sl 2 (x.map Vl.cells)] ∧ x.length ≤ 140737488355328 := by
  cases f with
  | zero => exact h.elim
  | succ f =>
    have h := Sh.slice Tryz.underlying36 h
    obtain ⟨rows, rfl, ⟨_, hb⟩, hr⟩ := h
    obtain ⟨x, rfl, hx⟩ := list_of fun r hr' => sh_val (hr r hr')
    rw [b_val, reachV, List.length_map] at hb
    exact ⟨x, by rw [c_val], by omega⟩
theorem sh_ty {f : Nat} {l : List C} (h : Sh Tryz.prog f 65 l) : ∃ x : Ty, l = x.cells ∧ True := by
  cases f with
  | zero => exact h.elim
  | succ f =>
    have h := Sh.struct Tryz.underlying65 h
    obtain ⟨hl, hf⟩ := h
    rw [c_ty] at hl
    match l, hl with
    | [a0, a1, a2, a3, a4], _ =>
      simp only [List.mem_cons, List.not_mem_nil, or_false, forall_eq_or_imp, forall_eq, c_int, List.drop_zero, List.drop_succ_cons, List.take_succ_cons, List.take_zero] at hf
      obtain ⟨h0, h1, h2, h3, h4⟩ := hf
      obtain ⟨k, e0, p0⟩ := sh_int h0
      simp only [List.cons.injEq, and_true] at e0
      obtain ⟨b, e1, p1⟩ := sh_int h1
      simp only [List.cons.injEq, and_true] at e1
      obtain ⟨fr, e2, p2⟩ := sh_int h2
      simp only [List.cons.injEq, and_true] at e2
      obtain ⟨r, e3, p3⟩ := sh_int h3
      simp only [List.cons.injEq, and_true] at e3
      obtain ⟨ov, e4, p4⟩ := sh_int h4
      simp only [List.cons.injEq, and_true] at e4
      subst e0 e1 e2 e3 e4
      exact ⟨⟨k, b, fr, r, ov⟩, rfl, trivial⟩
theorem sh_tys {f : Nat} {l : List C} (h : Sh Tryz.prog f 23 l) : ∃ x : List Ty, l = [.sl 5 (x.map Ty.cells)] ∧ x.length ≤ 140737488355328 := by
  cases f with
  | zero => exact h.elim
  | succ f =>
    have h := Sh.slice Tryz.underlying23 h
    obtain ⟨rows, rfl, ⟨_, hb⟩, hr⟩ := h
    obtain ⟨x, rfl, hx⟩ := list_of fun r hr' => sh_ty (hr r hr')
    rw [b_ty, reachV, List.length_map] at hb
    exact ⟨x, by rw [c_ty], by omega⟩
theorem sh_in {f : Nat} {l : List C} (h : Sh Tryz.prog f 67 l) : ∃ x : In, l = x.cells ∧ True := by
  cases f with
  | zero => exact h.elim
  | succ f =>
    have h := Sh.struct Tryz.underlying67 h
    obtain ⟨hl, hf⟩ := h
    rw [c_in] at hl
    match l, hl with
    | [a0, a1, a2, a3, a4, a5, a6, a7, a8, a9, a10], _ =>
      simp only [List.mem_cons, List.not_mem_nil, or_false, forall_eq_or_imp, forall_eq, c_int, c_val, c_ty, List.drop_zero, List.drop_succ_cons, List.take_succ_cons, List.take_zero] at hf
      obtain ⟨h0, h1, h2, h3, h4, h5⟩ := hf
      obtain ⟨op, e0, p0⟩ := sh_int h0
      simp only [List.cons.injEq, and_true] at e0
      obtain ⟨na, e1, p1⟩ := sh_int h1
      simp only [List.cons.injEq, and_true] at e1
      obtain ⟨nb, e2, p2⟩ := sh_int h2
      simp only [List.cons.injEq, and_true] at e2
      obtain ⟨nc, e3, p3⟩ := sh_int h3
      simp only [List.cons.injEq, and_true] at e3
      obtain ⟨⟨vn, vd⟩, e4, p4⟩ := sh_val h4
      simp only [Vl.cells, List.cons.injEq, and_true] at e4
      obtain ⟨e4_0, e4_1⟩ := e4
      obtain ⟨⟨k, b, fr, r, ov⟩, e5, p5⟩ := sh_ty h5
      simp only [Ty.cells, List.cons.injEq, and_true] at e5
      obtain ⟨e5_0, e5_1, e5_2, e5_3, e5_4⟩ := e5
      subst e0 e1 e2 e3 e4_0 e4_1 e5_0 e5_1 e5_2 e5_3 e5_4
      exact ⟨⟨op, na, nb, nc, ⟨vn, vd⟩, ⟨k, b, fr, r, ov⟩⟩, rfl, trivial⟩
theorem sh_ins {f : Nat} {l : List C} (h : Sh Tryz.prog f 22 l) : ∃ x : List In, l = [.sl 11 (x.map In.cells)] ∧ x.length ≤ 140737488355328 := by
  cases f with
  | zero => exact h.elim
  | succ f =>
    have h := Sh.slice Tryz.underlying22 h
    obtain ⟨rows, rfl, ⟨_, hb⟩, hr⟩ := h
    obtain ⟨x, rfl, hx⟩ := list_of fun r hr' => sh_in (hr r hr')
    rw [b_in, reachV, List.length_map] at hb
    exact ⟨x, by rw [c_in], by omega⟩
theorem sh_slot {f : Nat} {l : List C} (h : Sh Tryz.prog f 61 l) : ∃ x : St0, l = x.cells ∧ True := by
  cases f with
  | zero => exact h.elim
  | succ f =>
    have h := Sh.struct Tryz.underlying61 h
    obtain ⟨hl, hf⟩ := h
    rw [c_slot] at hl
    match l, hl with
    | [a0, a1, a2], _ =>
      simp only [List.mem_cons, List.not_mem_nil, or_false, forall_eq_or_imp, forall_eq, c_str, c_int, List.drop_zero, List.drop_succ_cons, List.take_succ_cons, List.take_zero] at hf
      obtain ⟨h0, h1, h2⟩ := hf
      obtain ⟨s, e0, p0⟩ := sh_str h0
      simp only [List.cons.injEq, and_true] at e0
      obtain ⟨na, e1, p1⟩ := sh_int h1
      simp only [List.cons.injEq, and_true] at e1
      obtain ⟨nb, e2, p2⟩ := sh_int h2
      simp only [List.cons.injEq, and_true] at e2
      subst e0 e1 e2
      exact ⟨⟨s, na, nb⟩, rfl, trivial⟩
theorem sh_slots {f : Nat} {l : List C} (h : Sh Tryz.prog f 24 l) : ∃ x : List St0, l = [.sl 3 (x.map St0.cells)] ∧ x.length ≤ 140737488355328 := by
  cases f with
  | zero => exact h.elim
  | succ f =>
    have h := Sh.slice Tryz.underlying24 h
    obtain ⟨rows, rfl, ⟨_, hb⟩, hr⟩ := h
    obtain ⟨x, rfl, hx⟩ := list_of fun r hr' => sh_slot (hr r hr')
    rw [b_slot, reachV, List.length_map] at hb
    exact ⟨x, by rw [c_slot], by omega⟩
theorem sh_act {f : Nat} {l : List C} (h : Sh Tryz.prog f 45 l) : ∃ x : Ac, l = x.cells ∧ True := by
  cases f with
  | zero => exact h.elim
  | succ f =>
    have h := Sh.struct Tryz.underlying45 h
    obtain ⟨hl, hf⟩ := h
    rw [c_act] at hl
    match l, hl with
    | [a0, a1, a2, a3], _ =>
      simp only [List.mem_cons, List.not_mem_nil, or_false, forall_eq_or_imp, forall_eq, c_int, c_vals, List.drop_zero, List.drop_succ_cons, List.take_succ_cons, List.take_zero] at hf
      obtain ⟨h0, h1, h2, h3⟩ := hf
      obtain ⟨k, e0, p0⟩ := sh_int h0
      simp only [List.cons.injEq, and_true] at e0
      obtain ⟨na, e1, p1⟩ := sh_int h1
      simp only [List.cons.injEq, and_true] at e1
      obtain ⟨nb, e2, p2⟩ := sh_int h2
      simp only [List.cons.injEq, and_true] at e2
      obtain ⟨v, e3, p3⟩ := sh_vals h3
      simp only [List.cons.injEq, and_true] at e3
      subst e0 e1 e2 e3
      exact ⟨⟨k, na, nb, v⟩, rfl, trivial⟩
theorem sh_acts {f : Nat} {l : List C} (h : Sh Tryz.prog f 27 l) : ∃ x : List Ac, l = [.sl 4 (x.map Ac.cells)] ∧ x.length ≤ 140737488355328 := by
  cases f with
  | zero => exact h.elim
  | succ f =>
    have h := Sh.slice Tryz.underlying27 h
    obtain ⟨rows, rfl, ⟨_, hb⟩, hr⟩ := h
    obtain ⟨x, rfl, hx⟩ := list_of fun r hr' => sh_act (hr r hr')
    rw [b_act, reachV, List.length_map] at hb
    exact ⟨x, by rw [c_act], by omega⟩
def Un0.cells (u : Un0) : List C := [.sl 11 (u.code.map In.cells), .sl 5 (u.tys.map Ty.cells), .sl 3 (u.slots.map St0.cells), cI u.words]
theorem sh_unit {f : Nat} {l : List C} (h : Sh Tryz.prog f 26 l) : ∃ x : Un0, l = x.cells ∧ x.Fit := by
  cases f with
  | zero => exact h.elim
  | succ f =>
    have h := Sh.struct Tryz.underlying26 h
    obtain ⟨hl, hf⟩ := h
    rw [c_unit] at hl
    match l, hl with
    | [a0, a1, a2, a3], _ =>
      simp only [List.mem_cons, List.not_mem_nil, or_false, forall_eq_or_imp, forall_eq, c_ins, c_tys, c_slots, c_int, List.drop_zero, List.drop_succ_cons, List.take_succ_cons, List.take_zero] at hf
      obtain ⟨h0, h1, h2, h3⟩ := hf
      obtain ⟨c, e0, p0⟩ := sh_ins h0
      simp only [List.cons.injEq, and_true] at e0
      obtain ⟨t, e1, p1⟩ := sh_tys h1
      simp only [List.cons.injEq, and_true] at e1
      obtain ⟨s, e2, p2⟩ := sh_slots h2
      simp only [List.cons.injEq, and_true] at e2
      obtain ⟨w, e3, p3⟩ := sh_int h3
      simp only [List.cons.injEq, and_true] at e3
      subst e0 e1 e2 e3
      exact ⟨⟨c, t, s, w⟩, rfl, ⟨p0, p1, p2⟩⟩
end Go.Br
