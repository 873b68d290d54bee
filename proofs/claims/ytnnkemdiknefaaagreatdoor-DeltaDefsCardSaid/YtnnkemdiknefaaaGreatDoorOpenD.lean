/-
  What an argument of this seat is: a definition; how long its forms can be, and that their numbers are in range.
  Conditions: none.
-/
import Derived.Test.YtnnkemdiknefaaaGreatDoorOpen17
import Derived.Test.YtnnkemdiknefaaaGreatDoorOpenR
set_option maxRecDepth 100000
namespace Go.Br
open Go Go.Eng Go.RowKit Go.Proofs Go.L41

theorem len_lin {f : Nat} {x : Lf} (h : Sh Tryz.prog f 29 x.cells) : x.L.length ≤ 5864062014805 := by
  match f, h with
  | 0, h => exact h.elim
  | f + 1, h =>
    obtain ⟨_, hf⟩ := Sh.struct Tryz.underlying29 h
    simp only [Lf.cells, List.mem_cons, List.not_mem_nil, or_false, forall_eq_or_imp, forall_eq, cMonos, cInt64, List.drop_zero, List.drop_succ_cons, List.take_succ_cons, List.take_zero] at hf
    match f, hf.2 with
    | 0, h => exact h.elim
    | f + 1, h =>
      obtain ⟨rows, e, ⟨_, hb⟩, _⟩ := Sh.slice Tryz.underlying27 h
      injection e with e1
      injection e1 with _ e1
      rw [bMono, reach_eq, ← e1, List.length_map] at hb
      omega
theorem len_ax {f : Nat} {x : Ax} (h : Sh Tryz.prog f 88 x.cells) : x.Size.L.length ≤ 5864062014805 := by
  match f, h with
  | 0, h => exact h.elim
  | f + 1, h =>
    obtain ⟨_, hf⟩ := Sh.struct Tryz.underlying88 h
    simp only [Ax.cells, List.mem_cons, List.not_mem_nil, or_false, forall_eq_or_imp, forall_eq, cLin, cStr, List.drop_zero, List.drop_succ_cons, List.take_succ_cons, List.take_zero] at hf
    exact len_lin (x := x.Size) hf.2
theorem len_axs {f : Nat} {l : List Ax} (h : Sh Tryz.prog f 24 [.sl 3 (l.map Ax.cells)]) : ∀ a, a ∈ l → a.Size.L.length ≤ 5864062014805 := by
  match f, h with
  | 0, h => exact h.elim
  | f + 1, h => exact fun a ha => len_ax (rng_rows (Q := Ax.cells) Tryz.underlying24 h a ha)
theorem rng_def {f : Nat} {d : Df} (h : Sh Tryz.prog f 35 d.cells) : (∀ a, a ∈ d.Dims → a.Size.L.length ≤ 5864062014805) ∧ (∀ a, a ∈ d.Red → a.Size.L.length ≤ 5864062014805) ∧ d.Body.allF Lf.rng := by
  match f, h with
  | 0, h => exact h.elim
  | f + 1, h =>
    obtain ⟨_, hf⟩ := Sh.struct Tryz.underlying35 h
    simp only [Df.cells, List.mem_cons, List.not_mem_nil, or_false, forall_eq_or_imp, forall_eq, cType, cStr, cAxs, cInt, cExpr, List.drop_zero, List.drop_succ_cons, List.take_succ_cons, List.take_zero] at hf
    obtain ⟨_, _, h2, h3, _, h5⟩ := hf
    exact ⟨len_axs h2, len_axs h3, rng_expr (e := d.Body) (by rw [Ex.cells_eq]; exact h5)⟩
theorem sh_dfR {f : Nat} {l : List C} (h : Sh Tryz.prog f 35 l) : ∃ d : Df, l = d.cells ∧ d.fit ∧ (∀ a, a ∈ d.Dims → a.Size.L.length ≤ 5864062014805) ∧ (∀ a, a ∈ d.Red → a.Size.L.length ≤ 5864062014805) ∧ d.Body.allF Lf.rng := by
  obtain ⟨d, rfl, h2⟩ := sh_df h
  exact ⟨d, rfl, h2, rng_def h⟩
end Go.Br
