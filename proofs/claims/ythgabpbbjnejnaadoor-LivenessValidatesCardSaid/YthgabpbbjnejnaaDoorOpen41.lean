/-
  What an argument of this seat is.
  Conditions: none.
-/
import Derived.Test.YthgabpbbjnejnaaDoorBase
import Derived.Test.YthgabpbbjnejnaaDoorL41A
namespace Go.L41
open Go Go.Eng Go.RowKit Go.Proofs

abbrev types : List TypeId := [23, 26, 9, 3]
theorem okTypes : types.all (okT Tryd.prog types) = true := by kernel_rfl
theorem cStr : Tryd.prog.cellsOf 9 = 1 := by kernel_rfl
theorem cInt : Tryd.prog.cellsOf 3 = 1 := by kernel_rfl
theorem cLife : Tryd.prog.cellsOf 23 = 4 := by kernel_rfl

theorem sh_string {f : Nat} {l : List C} (h : Sh Tryd.prog f 9 l) : ∃ s : ByteArray, l = [cS s] ∧ s.size ≤ maxLen := by
  cases f with
  | zero => exact h.elim
  | succ f => unfold Sh at h; rw [Tryd.underlying9] at h; exact h

theorem sh_int {f : Nat} {l : List C} (h : Sh Tryd.prog f 3 l) : ∃ n : Int, l = [cI n] ∧ (Lit.int .i64 n).wf = true := by
  cases f with
  | zero => exact h.elim
  | succ f => unfold Sh at h; rw [Tryd.underlying3] at h; exact h

theorem sh_lifetime {f : Nat} {l : List C} (h : Sh Tryd.prog f 23 l) : ∃ x : Lifetime, l = x.cells := by
  cases f with
  | zero => exact h.elim
  | succ f =>
    unfold Sh at h
    rw [Tryd.underlying23] at h
    obtain ⟨hl, hf⟩ := h
    rw [cLife] at hl
    match l, hl with
    | [a, b, c, d], _ =>
      simp only [List.mem_cons, List.not_mem_nil, or_false, forall_eq_or_imp, forall_eq, cStr, cInt, List.drop_zero, List.drop_succ_cons, List.take_succ_cons, List.take_zero] at hf
      obtain ⟨h0, h1, h2, h3⟩ := hf
      obtain ⟨s, e0, _⟩ := sh_string h0
      obtain ⟨n1, e1, _⟩ := sh_int h1
      obtain ⟨n2, e2, _⟩ := sh_int h2
      obtain ⟨n3, e3, _⟩ := sh_int h3
      simp only [List.cons.injEq, and_true] at e0 e1 e2 e3
      subst e0 e1 e2 e3
      exact ⟨⟨s, n1, n2, n3⟩, rfl⟩

theorem list_of {α : Type} {Q : α → List C} : ∀ {rows : List (List C)}, (∀ r, r ∈ rows → ∃ x, r = Q x) → ∃ l : List α, rows = l.map Q
  | [], _ => ⟨[], rfl⟩
  | r :: rows, h => by
    obtain ⟨x, rfl⟩ := h r (by simp)
    obtain ⟨l, rfl⟩ := list_of (rows := rows) fun r hr => h r (by simp [hr])
    exact ⟨x :: l, rfl⟩

theorem sh_lifetimes {f : Nat} {l : List C} (h : Sh Tryd.prog f 26 l) : ∃ x : List Lifetime, l = [.sl 4 (x.map Lifetime.cells)] := by
  cases f with
  | zero => exact h.elim
  | succ f =>
    unfold Sh at h
    rw [Tryd.underlying26] at h
    obtain ⟨rows, rfl, _, hr⟩ := h
    rw [cLife]
    obtain ⟨x, rfl⟩ := list_of fun r hr' => sh_lifetime (hr r hr')
    exact ⟨x, rfl⟩

end Go.L41
