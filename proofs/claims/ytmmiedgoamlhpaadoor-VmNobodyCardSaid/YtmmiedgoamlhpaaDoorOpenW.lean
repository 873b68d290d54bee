/-
  What an argument of this seat is: units of code, actions. Printed by wip/br/gen_openw.py.
  Conditions: none.
-/
import Derived.Test.YtmmiedgoamlhpaaDoorPlainM
import Derived.Test.YtmmiedgoamlhpaaDoorBase
set_option maxRecDepth 100000
namespace Go.Br
open Go Go.Eng Go.RowKit Go.Proofs Go.L41

abbrev typesW : List TypeId := [9, 3, 2, 33, 22, 24]
theorem okTypesV : typesW.all (okT Tryd.prog typesW) = true := by kernel_rfl
theorem c_int : Tryd.prog.cellsOf 3 = 1 := by kernel_rfl
theorem c_i64 : Tryd.prog.cellsOf 2 = 1 := by kernel_rfl
theorem c_val : Tryd.prog.cellsOf 33 = 2 := by kernel_rfl
theorem c_vals : Tryd.prog.cellsOf 22 = 1 := by kernel_rfl
theorem c_act : Tryd.prog.cellsOf 24 = 4 := by kernel_rfl
theorem b_val : Tryd.prog.bytesOf 33 = 16 := by kernel_rfl
theorem reachV : reachBytes = 140737488351232 := by decide
theorem list_of {α : Type} {Q : α → List C} {P : α → Prop} : ∀ {rows : List (List C)}, (∀ r, r ∈ rows → ∃ x, r = Q x ∧ P x) → ∃ l : List α, rows = l.map Q ∧ ∀ x, x ∈ l → P x
  | [], _ => ⟨[], rfl, fun x hx => by cases hx⟩
  | r :: rows, h => by
    obtain ⟨x, rfl, hx⟩ := h r (by simp)
    obtain ⟨l, rfl, hl⟩ := list_of (rows := rows) fun r hr => h r (by simp [hr])
    exact ⟨x :: l, rfl, fun y hy => by rcases List.mem_cons.1 hy with rfl | hy; exact hx; exact hl y hy⟩
theorem sh_int {f : Nat} {l : List C} (h : Sh Tryd.prog f 3 l) : ∃ n : Int, l = [cI n] ∧ True := by
  cases f with
  | zero => exact h.elim
  | succ f => have h := Sh.int Tryd.underlying3 h; obtain ⟨s, h, _⟩ := h; exact ⟨s, h, trivial⟩
theorem sh_i64 {f : Nat} {l : List C} (h : Sh Tryd.prog f 2 l) : ∃ n : Int, l = [cI n] ∧ True := by
  cases f with
  | zero => exact h.elim
  | succ f => have h := Sh.int Tryd.underlying2 h; obtain ⟨s, h, _⟩ := h; exact ⟨s, h, trivial⟩
theorem sh_val {f : Nat} {l : List C} (h : Sh Tryd.prog f 33 l) : ∃ x : Vl, l = x.cells ∧ True := by
  cases f with
  | zero => exact h.elim
  | succ f =>
    have h := Sh.struct Tryd.underlying33 h
    obtain ⟨hl, hf⟩ := h
    rw [c_val] at hl
    match l, hl with
    | [a0, a1], _ =>
      simp only [List.mem_cons, List.not_mem_nil, or_false, forall_eq_or_imp, forall_eq, c_i64, List.drop_zero, List.drop_succ_cons, List.take_succ_cons, List.take_zero] at hf
      obtain ⟨h0, h1⟩ := hf
      obtain ⟨n, e0, p0⟩ := sh_i64 h0
      simp only [List.cons.injEq, and_true] at e0
      obtain ⟨d, e1, p1⟩ := sh_i64 h1
      simp only [List.cons.injEq, and_true] at e1
      subst e0 e1
      exact ⟨⟨n, d⟩, rfl, trivial⟩
theorem sh_vals {f : Nat} {l : List C} (h : Sh Tryd.prog f 22 l) : ∃ x : List Vl, l = [.sl 2 (x.map Vl.cells)] ∧ x.length ≤ 140737488355328 := by
  cases f with
  | zero => exact h.elim
  | succ f =>
    have h := Sh.slice Tryd.underlying22 h
    obtain ⟨rows, rfl, ⟨_, hb⟩, hr⟩ := h
    obtain ⟨x, rfl, hx⟩ := list_of fun r hr' => sh_val (hr r hr')
    rw [b_val, reachV, List.length_map] at hb
    exact ⟨x, by rw [c_val], by omega⟩
theorem sh_act {f : Nat} {l : List C} (h : Sh Tryd.prog f 24 l) : ∃ x : Ac, l = x.cells ∧ x.Vals.length ≤ 140737488355328 := by
  cases f with
  | zero => exact h.elim
  | succ f =>
    have h := Sh.struct Tryd.underlying24 h
    obtain ⟨hl, hf⟩ := h
    rw [c_act] at hl
    match l, hl with
    | [a0, a1, a2, a3], _ =>
      simp only [List.mem_cons, List.not_mem_nil, or_false, forall_eq_or_imp, forall_eq, c_int, c_vals, List.drop_zero, List.drop_succ_cons, List.take_succ_cons, List.take_zero] at hf
      obtain ⟨h0, h1, h2, h3⟩ := hf
      obtain ⟨k, e0, p0⟩ := sh_int h0
      simp only [List.cons.injEq, and_true] at e0
      obtain ⟨na, e1, p1⟩ := sh_int h1
      simp only [List.cons.injEq, and_true] at e1
      obtain ⟨nb, e2, p2⟩ := sh_int h2
      simp only [List.cons.injEq, and_true] at e2
      obtain ⟨v, e3, p3⟩ := sh_vals h3
      simp only [List.cons.injEq, and_true] at e3
      subst e0 e1 e2 e3
      exact ⟨⟨k, na, nb, v⟩, rfl, p3⟩
end Go.Br
