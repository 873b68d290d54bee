/-
  What an argument of this seat is: programs.
  Conditions: none.
-/
import Derived.Test.YtnnkemdiknefaaaGreatDoorOpen
import Derived.Test.YtnnkemdiknefaaaGreatDoorPlain
set_option maxRecDepth 100000
namespace Go.Br
open Go Go.Eng Go.RowKit Go.Proofs Go.L41

abbrev types17 : List TypeId := [9, 3, 2, 75, 27, 29, 104, 117, 30, 33, 31, 26, 23, 4, 5, 269, 42, 111, 43, 88, 24, 106, 44, 35, 45, 47]
theorem okTypes17 : types17.all (okT Tryz.prog types17) = true := by kernel_rfl
theorem cAx : Tryz.prog.cellsOf 88 = 3 := by kernel_rfl
theorem cAxs : Tryz.prog.cellsOf 24 = 1 := by kernel_rfl
theorem cDf : Tryz.prog.cellsOf 35 = 22 := by kernel_rfl
theorem bAx : Tryz.prog.bytesOf 88 = 48 := by kernel_rfl
theorem sh_ax {f : Nat} {l : List C} (h : Sh Tryz.prog f 88 l) : ∃ x : Ax, l = x.cells ∧ lfFit x.Size := by
  cases f with
  | zero => exact h.elim
  | succ f =>
    have h := Sh.struct Tryz.underlying88 h
    obtain ⟨hl, hf⟩ := h
    rw [cAx] at hl
    match l, hl with
    | [a, b, c], _ =>
      simp only [List.mem_cons, List.not_mem_nil, or_false, forall_eq_or_imp, forall_eq, cLin, cStr, List.drop_zero, List.drop_succ_cons, List.take_succ_cons, List.take_zero] at hf
      obtain ⟨h0, h1⟩ := hf
      obtain ⟨s, e0⟩ := sh_string h0
      obtain ⟨⟨K, L⟩, e1, hL⟩ := sh_lin h1
      simp only [Lf.cells, List.cons.injEq, and_true] at e0 e1
      obtain ⟨e1, e1'⟩ := e1
      subst e0 e1 e1'
      exact ⟨⟨s, ⟨K, L⟩⟩, rfl, hL⟩
theorem sh_axs {f : Nat} {l : List C} (h : Sh Tryz.prog f 24 l) : ∃ x : List Ax, l = [.sl 3 (x.map Ax.cells)] ∧ x.length ≤ 140737488355328 ∧ ∀ y, y ∈ x → lfFit y.Size := by
  cases f with
  | zero => exact h.elim
  | succ f =>
    have h := Sh.slice Tryz.underlying24 h
    obtain ⟨rows, rfl, ⟨_, hb⟩, hr⟩ := h
    obtain ⟨x, rfl, hx⟩ := list_of fun r hr' => sh_ax (hr r hr')
    rw [bAx, reach_eq, List.length_map] at hb
    exact ⟨x, by rw [cAx], by omega, hx⟩
theorem sh_df {f : Nat} {l : List C} (h : Sh Tryz.prog f 35 l) : ∃ x : Df, l = x.cells ∧ x.fit := by
  cases f with
  | zero => exact h.elim
  | succ f =>
    have h := Sh.struct Tryz.underlying35 h
    obtain ⟨hl, hf⟩ := h
    rw [cDf] at hl
    match l, hl with
    | [a0, a1, a2, a3, a4, a5, a6, a7, a8, a9, a10, a11, a12, a13, a14, a15, a16, a17, a18, a19, a20, a21], _ =>
      simp only [List.mem_cons, List.not_mem_nil, or_false, forall_eq_or_imp, forall_eq, cType, cStr, cAxs, cInt, cExpr, List.drop_zero, List.drop_succ_cons, List.take_succ_cons, List.take_zero] at hf
      obtain ⟨h0, h1, h2, h3, h4, h5⟩ := hf
      obtain ⟨s, e0⟩ := sh_string h0
      obtain ⟨t1, t2, t3, t4, t5, e1⟩ := sh_type h1
      obtain ⟨D, e2, hD, hD'⟩ := sh_axs h2
      obtain ⟨R, e3, hR, hR'⟩ := sh_axs h3
      obtain ⟨n, e4⟩ := sh_int h4
      obtain ⟨b, e5, hb⟩ := sh_exprV h5
      simp only [Ex.cs, List.cons.injEq, and_true] at e0 e1 e2 e3 e4 e5
      obtain ⟨e10, e11, e12, e13, e14⟩ := e1
      obtain ⟨f0, f1, f2, f3, f4, f5, f6, f7, f8, f9, f10, f11, f12⟩ := e5
      subst e0 e10 e11 e12 e13 e14 e2 e3 e4 f0 f1 f2 f3 f4 f5 f6 f7 f8 f9 f10 f11 f12
      exact ⟨⟨s, ⟨t1, t2, t3, t4, t5⟩, D, R, n, b⟩, rfl, hD, hR, hD', hR', hb⟩
end Go.Br
