/-
  What an argument of this seat is.
  What an argument of this seat is: programs.
  What an argument of this seat is: the numbers in its forms are in range.
  What an argument of this seat is: a program whose strings are no longer than memory.
  Conditions: none.
-/
import Derived.Test.YtnnkemdiknefaaaGreatDoorPlain
import Derived.Test.YtnnkemdiknefaaaGreatDoorBase
import Derived.Test.YtnnkemdiknefaaaGreatDoorPlain2
section
set_option maxRecDepth 100000
namespace Go.Br
open Go Go.Eng Go.RowKit Go.Proofs Go.L41

abbrev types : List TypeId := [9, 3, 2, 75, 27, 29, 104, 117, 30, 33, 31, 26, 23]
theorem cStr : Tryz.prog.cellsOf 9 = 1 := by kernel_rfl
theorem cInt : Tryz.prog.cellsOf 3 = 1 := by kernel_rfl
theorem cInt64 : Tryz.prog.cellsOf 2 = 1 := by kernel_rfl
theorem cMono : Tryz.prog.cellsOf 75 = 2 := by kernel_rfl
theorem cMonos : Tryz.prog.cellsOf 27 = 1 := by kernel_rfl
theorem cLin : Tryz.prog.cellsOf 29 = 2 := by kernel_rfl
theorem cLins : Tryz.prog.cellsOf 104 = 1 := by kernel_rfl
theorem cIndex : Tryz.prog.cellsOf 117 = 4 := by kernel_rfl
theorem cIndices : Tryz.prog.cellsOf 30 = 1 := by kernel_rfl
theorem cExpr : Tryz.prog.cellsOf 33 = 13 := by kernel_rfl
theorem cExprs : Tryz.prog.cellsOf 31 = 1 := by kernel_rfl
theorem cVal : Tryz.prog.cellsOf 26 = 2 := by kernel_rfl
theorem cType : Tryz.prog.cellsOf 23 = 5 := by kernel_rfl
theorem bMono : Tryz.prog.bytesOf 75 = 24 := by kernel_rfl
theorem bLin : Tryz.prog.bytesOf 29 = 32 := by kernel_rfl
theorem bIndex : Tryz.prog.bytesOf 117 = 72 := by kernel_rfl
theorem bExpr : Tryz.prog.bytesOf 33 = 160 := by kernel_rfl
theorem reach_eq : reachBytes = 140737488351232 := by decide

theorem sh_string {f : Nat} {l : List C} (h : Sh Tryz.prog f 9 l) : ∃ s : ByteArray, l = [cS s] := by
  cases f with
  | zero => exact h.elim
  | succ f => have h := Sh.str Tryz.underlying9 h; obtain ⟨s, h, _⟩ := h; exact ⟨s, h⟩
theorem sh_int {f : Nat} {l : List C} (h : Sh Tryz.prog f 3 l) : ∃ n : Int, l = [cI n] := by
  cases f with
  | zero => exact h.elim
  | succ f => have h := Sh.int Tryz.underlying3 h; obtain ⟨s, h, _⟩ := h; exact ⟨s, h⟩
theorem sh_int64 {f : Nat} {l : List C} (h : Sh Tryz.prog f 2 l) : ∃ n : Int, l = [cI n] := by
  cases f with
  | zero => exact h.elim
  | succ f => have h := Sh.int Tryz.underlying2 h; obtain ⟨s, h, _⟩ := h; exact ⟨s, h⟩

theorem list_of {α : Type} {Q : α → List C} {P : α → Prop} : ∀ {rows : List (List C)}, (∀ r, r ∈ rows → ∃ x, r = Q x ∧ P x) → ∃ l : List α, rows = l.map Q ∧ ∀ x, x ∈ l → P x
  | [], _ => ⟨[], rfl, fun x hx => by cases hx⟩
  | r :: rows, h => by
    obtain ⟨x, rfl, hx⟩ := h r (by simp)
    obtain ⟨l, rfl, hl⟩ := list_of (rows := rows) fun r hr => h r (by simp [hr])
    exact ⟨x :: l, rfl, fun y hy => by rcases List.mem_cons.1 hy with rfl | hy; exact hx; exact hl y hy⟩

theorem sh_mono {f : Nat} {l : List C} (h : Sh Tryz.prog f 75 l) : ∃ x : Mono, l = x.cells ∧ True := by
  cases f with
  | zero => exact h.elim
  | succ f =>
    have h := Sh.struct Tryz.underlying75 h
    obtain ⟨hl, hf⟩ := h
    rw [cMono] at hl
    match l, hl with
    | [a, b], _ =>
      simp only [List.mem_cons, List.not_mem_nil, or_false, forall_eq_or_imp, forall_eq, cStr, cInt64, List.drop_zero, List.drop_succ_cons, List.take_succ_cons, List.take_zero] at hf
      obtain ⟨h0, h1⟩ := hf
      obtain ⟨s, e0⟩ := sh_string h0
      obtain ⟨n, e1⟩ := sh_int64 h1
      simp only [List.cons.injEq, and_true] at e0 e1
      subst e0 e1
      exact ⟨⟨s, n⟩, rfl, trivial⟩

theorem sh_monos {f : Nat} {l : List C} (h : Sh Tryz.prog f 27 l) : ∃ x : List Mono, l = [.sl 2 (x.map Mono.cells)] ∧ x.length ≤ 140737488355328 := by
  cases f with
  | zero => exact h.elim
  | succ f =>
    have h := Sh.slice Tryz.underlying27 h
    obtain ⟨rows, rfl, ⟨_, hb⟩, hr⟩ := h
    obtain ⟨x, rfl, _⟩ := list_of fun r hr' => sh_mono (hr r hr')
    rw [bMono, reach_eq, List.length_map] at hb
    exact ⟨x, by rw [cMono], by omega⟩

theorem sh_lin {f : Nat} {l : List C} (h : Sh Tryz.prog f 29 l) : ∃ x : Lf, l = x.cells ∧ x.L.length ≤ 140737488355328 := by
  cases f with
  | zero => exact h.elim
  | succ f =>
    have h := Sh.struct Tryz.underlying29 h
    obtain ⟨hl, hf⟩ := h
    rw [cLin] at hl
    match l, hl with
    | [a, b], _ =>
      simp only [List.mem_cons, List.not_mem_nil, or_false, forall_eq_or_imp, forall_eq, cMonos, cInt64, List.drop_zero, List.drop_succ_cons, List.take_succ_cons, List.take_zero] at hf
      obtain ⟨h0, h1⟩ := hf
      obtain ⟨n, e0⟩ := sh_int64 h0
      obtain ⟨L, e1, hL⟩ := sh_monos h1
      simp only [List.cons.injEq, and_true] at e0 e1
      subst e0 e1
      exact ⟨⟨n, L⟩, rfl, hL⟩

theorem sh_lins {f : Nat} {l : List C} (h : Sh Tryz.prog f 104 l) : ∃ x : List Lf, l = [.sl 2 (x.map Lf.cells)] ∧ x.length ≤ 140737488355328 ∧ ∀ y, y ∈ x → y.L.length ≤ 140737488355328 := by
  cases f with
  | zero => exact h.elim
  | succ f =>
    have h := Sh.slice Tryz.underlying104 h
    obtain ⟨rows, rfl, ⟨_, hb⟩, hr⟩ := h
    obtain ⟨x, rfl, hx⟩ := list_of fun r hr' => sh_lin (hr r hr')
    rw [bLin, reach_eq, List.length_map] at hb
    exact ⟨x, by rw [cLin], by omega, hx⟩

theorem sh_index {f : Nat} {l : List C} (h : Sh Tryz.prog f 117 l) : ∃ x : Ix, l = x.cells ∧ x.fit := by
  cases f with
  | zero => exact h.elim
  | succ f =>
    have h := Sh.struct Tryz.underlying117 h
    obtain ⟨hl, hf⟩ := h
    rw [cIndex] at hl
    match l, hl with
    | [a, b, c, d], _ =>
      simp only [List.mem_cons, List.not_mem_nil, or_false, forall_eq_or_imp, forall_eq, cStr, cLin, cLins, List.drop_zero, List.drop_succ_cons, List.take_succ_cons, List.take_zero] at hf
      obtain ⟨h0, h1, h2⟩ := hf
      obtain ⟨⟨K, L⟩, e0, hL⟩ := sh_lin h0
      obtain ⟨s, e1⟩ := sh_string h1
      obtain ⟨A, e2, hA, hA'⟩ := sh_lins h2
      simp only [Lf.cells, List.cons.injEq, and_true] at e0 e1 e2
      obtain ⟨e0, e0'⟩ := e0
      subst e0 e0' e1 e2
      exact ⟨⟨⟨K, L⟩, s, A⟩, rfl, hL, hA, hA'⟩

theorem sh_indices {f : Nat} {l : List C} (h : Sh Tryz.prog f 30 l) : ∃ x : List Ix, l = [.sl 4 (x.map Ix.cells)] ∧ x.length ≤ 140737488355328 ∧ ∀ y, y ∈ x → y.fit := by
  cases f with
  | zero => exact h.elim
  | succ f =>
    have h := Sh.slice Tryz.underlying30 h
    obtain ⟨rows, rfl, ⟨_, hb⟩, hr⟩ := h
    obtain ⟨x, rfl, hx⟩ := list_of fun r hr' => sh_index (hr r hr')
    rw [bIndex, reach_eq, List.length_map] at hb
    exact ⟨x, by rw [cIndex], by omega, hx⟩

theorem sh_val {f : Nat} {l : List C} (h : Sh Tryz.prog f 26 l) : ∃ a b : Int, l = [cI a, cI b] := by
  cases f with
  | zero => exact h.elim
  | succ f =>
    have h := Sh.struct Tryz.underlying26 h
    obtain ⟨hl, hf⟩ := h
    rw [cVal] at hl
    match l, hl with
    | [a, b], _ =>
      simp only [List.mem_cons, List.not_mem_nil, or_false, forall_eq_or_imp, forall_eq, cInt64, List.drop_zero, List.drop_succ_cons, List.take_succ_cons, List.take_zero] at hf
      obtain ⟨h0, h1⟩ := hf
      obtain ⟨n, e0⟩ := sh_int64 h0
      obtain ⟨m, e1⟩ := sh_int64 h1
      simp only [List.cons.injEq, and_true] at e0 e1
      subst e0 e1
      exact ⟨n, m, rfl⟩

theorem sh_type {f : Nat} {l : List C} (h : Sh Tryz.prog f 23 l) : ∃ a b c d e : Int, l = [cI a, cI b, cI c, cI d, cI e] := by
  cases f with
  | zero => exact h.elim
  | succ f =>
    have h := Sh.struct Tryz.underlying23 h
    obtain ⟨hl, hf⟩ := h
    rw [cType] at hl
    match l, hl with
    | [a, b, c, d, e], _ =>
      simp only [List.mem_cons, List.not_mem_nil, or_false, forall_eq_or_imp, forall_eq, cInt, List.drop_zero, List.drop_succ_cons, List.take_succ_cons, List.take_zero] at hf
      obtain ⟨h0, h1, h2, h3, h4⟩ := hf
      obtain ⟨n0, e0⟩ := sh_int h0
      obtain ⟨n1, e1⟩ := sh_int h1
      obtain ⟨n2, e2⟩ := sh_int h2
      obtain ⟨n3, e3⟩ := sh_int h3
      obtain ⟨n4, e4⟩ := sh_int h4
      simp only [List.cons.injEq, and_true] at e0 e1 e2 e3 e4
      subst e0 e1 e2 e3 e4
      exact ⟨_, _, _, _, _, rfl⟩

theorem fitL_of {l : List Ex} (h : ∀ a, a ∈ l → a.fit) : fitL l := by
  induction l with
  | nil => trivial
  | cons x r ih => exact ⟨h x (by simp), ih fun a ha => h a (by simp [ha])⟩

theorem sh_expr : ∀ {f : Nat} {l : List C}, Sh Tryz.prog f 33 l → ∃ e : Ex, l = e.cells ∧ e.fit
  | 0, _, h => h.elim
  | f + 1, l, h => by
    have h := Sh.struct Tryz.underlying33 h
    obtain ⟨hl, hf⟩ := h
    rw [cExpr] at hl
    match l, hl with
    | [a0, a1, a2, a3, a4, a5, a6, a7, a8, a9, a10, a11, a12], _ =>
      simp only [List.mem_cons, List.not_mem_nil, or_false, forall_eq_or_imp, forall_eq, cStr, cInt, cVal, cType, cLin, cIndices, cExprs, List.drop_zero, List.drop_succ_cons, List.take_succ_cons, List.take_zero] at hf
      obtain ⟨h0, h1, h2, h3, h4, h5, h6⟩ := hf
      obtain ⟨o, e0⟩ := sh_int h0
      obtain ⟨s, e1⟩ := sh_string h1
      obtain ⟨vn, vd, e2⟩ := sh_val h2
      obtain ⟨t1, t2, t3, t4, t5, e3⟩ := sh_type h3
      obtain ⟨⟨K, L⟩, e4, hL⟩ := sh_lin h4
      obtain ⟨I, e5, hI, hI'⟩ := sh_indices h5
      have h7 : ∃ x : List Ex, [a12] = [.sl 13 (x.map Ex.cells)] ∧ x.length ≤ 140737488355328 ∧ ∀ y, y ∈ x → y.fit := by
        match f, h6 with
        | 0, h => exact h.elim
        | f + 1, h =>
          have h := Sh.slice Tryz.underlying31 h
          obtain ⟨rows, e, ⟨_, hb⟩, hr⟩ := h
          obtain ⟨x, rfl, hx⟩ := list_of (P := Ex.fit) fun r hr' => sh_expr (f := f) (hr r hr')
          rw [bExpr, reach_eq, List.length_map] at hb
          exact ⟨x, by rw [e, cExpr], by omega, hx⟩
      obtain ⟨A, e6, hA, hA'⟩ := h7
      simp only [Lf.cells, List.cons.injEq, and_true] at e0 e1 e2 e3 e4 e5 e6
      obtain ⟨e20, e21⟩ := e2
      obtain ⟨e30, e31, e32, e33, e34⟩ := e3
      obtain ⟨e40, e41⟩ := e4
      subst e0 e1 e20 e21 e30 e31 e32 e33 e34 e40 e41 e5 e6
      refine ⟨.mk o s ⟨vn, vd⟩ ⟨t1, t2, t3, t4, t5⟩ ⟨K, L⟩ I A, ?_, ?_⟩
      · rw [Ex.cells, cellsL_eq]
      · rw [Ex.fit]; exact ⟨hL, hI, hA, hI', fitL_of hA'⟩

/-- An expression, as an argument. -/
theorem sh_exprV {f : Nat} {l : List C} (h : Sh Tryz.prog f 33 l) : ∃ e : Ex, l = e.cs ∧ e.fit := by
  obtain ⟨e, h1, h2⟩ := sh_expr h
  exact ⟨e, by rw [h1, Ex.cells_eq], h2⟩

end Go.Br
end
section
set_option maxRecDepth 100000
namespace Go.Br
open Go Go.Eng Go.RowKit Go.Proofs Go.L41

abbrev types17 : List TypeId := [9, 3, 2, 75, 27, 29, 104, 117, 30, 33, 31, 26, 23, 4, 5, 269, 42, 111, 43, 88, 24, 106, 44, 35, 45, 47]
theorem okTypes17 : types17.all (okT Tryz.prog types17) = true := by kernel_rfl
theorem cBool : Tryz.prog.cellsOf 4 = 1 := by kernel_rfl
theorem cStrs : Tryz.prog.cellsOf 42 = 1 := by kernel_rfl
theorem cCn : Tryz.prog.cellsOf 111 = 3 := by kernel_rfl
theorem cCns : Tryz.prog.cellsOf 43 = 1 := by kernel_rfl
theorem cAx : Tryz.prog.cellsOf 88 = 3 := by kernel_rfl
theorem cAxs : Tryz.prog.cellsOf 24 = 1 := by kernel_rfl
theorem cPm : Tryz.prog.cellsOf 106 = 7 := by kernel_rfl
theorem cPms : Tryz.prog.cellsOf 44 = 1 := by kernel_rfl
theorem cDf : Tryz.prog.cellsOf 35 = 22 := by kernel_rfl
theorem cDfs : Tryz.prog.cellsOf 45 = 1 := by kernel_rfl
theorem cPg : Tryz.prog.cellsOf 47 = 5 := by kernel_rfl
theorem bStr : Tryz.prog.bytesOf 9 = 16 := by kernel_rfl
theorem bCn : Tryz.prog.bytesOf 111 = 40 := by kernel_rfl
theorem bAx : Tryz.prog.bytesOf 88 = 48 := by kernel_rfl
theorem bPm : Tryz.prog.bytesOf 106 = 80 := by kernel_rfl
theorem bDf : Tryz.prog.bytesOf 35 = 272 := by kernel_rfl

theorem sh_bool {f : Nat} {l : List C} (h : Sh Tryz.prog f 4 l) : ∃ b : Bool, l = [cB b] := by
  cases f with
  | zero => exact h.elim
  | succ f => unfold Sh at h; rw [Tryz.underlying4] at h; exact h
theorem sh_strs {f : Nat} {l : List C} (h : Sh Tryz.prog f 42 l) : ∃ x : List ByteArray, l = [.sl 1 (x.map fun s => [cS s])] ∧ x.length ≤ 140737488355328 := by
  cases f with
  | zero => exact h.elim
  | succ f =>
    have h := Sh.slice Tryz.underlying42 h
    obtain ⟨rows, rfl, ⟨_, hb⟩, hr⟩ := h
    obtain ⟨x, rfl, _⟩ := list_of (P := fun _ => True) (Q := fun s : ByteArray => [cS s]) fun r hr' => (sh_string (hr r hr')).imp fun _ h => ⟨h, trivial⟩
    rw [bStr, reach_eq, List.length_map] at hb
    exact ⟨x, by rw [cStr], by omega⟩
theorem sh_cn {f : Nat} {l : List C} (h : Sh Tryz.prog f 111 l) : ∃ x : Cn, l = x.cells ∧ lfFit x.Lin := by
  cases f with
  | zero => exact h.elim
  | succ f =>
    have h := Sh.struct Tryz.underlying111 h
    obtain ⟨hl, hf⟩ := h
    rw [cCn] at hl
    match l, hl with
    | [a, b, c], _ =>
      simp only [List.mem_cons, List.not_mem_nil, or_false, forall_eq_or_imp, forall_eq, cLin, cBool, List.drop_zero, List.drop_succ_cons, List.take_succ_cons, List.take_zero] at hf
      obtain ⟨h0, h1⟩ := hf
      obtain ⟨⟨K, L⟩, e0, hL⟩ := sh_lin h0
      obtain ⟨q, e1⟩ := sh_bool h1
      simp only [Lf.cells, List.cons.injEq, and_true] at e0 e1
      obtain ⟨e0, e0'⟩ := e0
      subst e0 e0' e1
      exact ⟨⟨⟨K, L⟩, q⟩, rfl, hL⟩
theorem sh_ax {f : Nat} {l : List C} (h : Sh Tryz.prog f 88 l) : ∃ x : Ax, l = x.cells ∧ lfFit x.Size := by
  cases f with
  | zero => exact h.elim
  | succ f =>
    have h := Sh.struct Tryz.underlying88 h
    obtain ⟨hl, hf⟩ := h
    rw [cAx] at hl
    match l, hl with
    | [a, b, c], _ =>
      simp only [List.mem_cons, List.not_mem_nil, or_false, forall_eq_or_imp, forall_eq, cLin, cStr, List.drop_zero, List.drop_succ_cons, List.take_succ_cons, List.take_zero] at hf
      obtain ⟨h0, h1⟩ := hf
      obtain ⟨s, e0⟩ := sh_string h0
      obtain ⟨⟨K, L⟩, e1, hL⟩ := sh_lin h1
      simp only [Lf.cells, List.cons.injEq, and_true] at e0 e1
      obtain ⟨e1, e1'⟩ := e1
      subst e0 e1 e1'
      exact ⟨⟨s, ⟨K, L⟩⟩, rfl, hL⟩
theorem sh_cns {f : Nat} {l : List C} (h : Sh Tryz.prog f 43 l) : ∃ x : List Cn, l = [.sl 3 (x.map Cn.cells)] ∧ x.length ≤ 140737488355328 ∧ ∀ y, y ∈ x → lfFit y.Lin := by
  cases f with
  | zero => exact h.elim
  | succ f =>
    have h := Sh.slice Tryz.underlying43 h
    obtain ⟨rows, rfl, ⟨_, hb⟩, hr⟩ := h
    obtain ⟨x, rfl, hx⟩ := list_of fun r hr' => sh_cn (hr r hr')
    rw [bCn, reach_eq, List.length_map] at hb
    exact ⟨x, by rw [cCn], by omega, hx⟩
theorem sh_axs {f : Nat} {l : List C} (h : Sh Tryz.prog f 24 l) : ∃ x : List Ax, l = [.sl 3 (x.map Ax.cells)] ∧ x.length ≤ 140737488355328 ∧ ∀ y, y ∈ x → lfFit y.Size := by
  cases f with
  | zero => exact h.elim
  | succ f =>
    have h := Sh.slice Tryz.underlying24 h
    obtain ⟨rows, rfl, ⟨_, hb⟩, hr⟩ := h
    obtain ⟨x, rfl, hx⟩ := list_of fun r hr' => sh_ax (hr r hr')
    rw [bAx, reach_eq, List.length_map] at hb
    exact ⟨x, by rw [cAx], by omega, hx⟩
theorem sh_pm {f : Nat} {l : List C} (h : Sh Tryz.prog f 106 l) : ∃ x : Pm, l = x.cells ∧ x.fit := by
  cases f with
  | zero => exact h.elim
  | succ f =>
    have h := Sh.struct Tryz.underlying106 h
    obtain ⟨hl, hf⟩ := h
    rw [cPm] at hl
    match l, hl with
    | [a0, a1, a2, a3, a4, a5, a6], _ =>
      simp only [List.mem_cons, List.not_mem_nil, or_false, forall_eq_or_imp, forall_eq, cType, cStr, cLins, List.drop_zero, List.drop_succ_cons, List.take_succ_cons, List.take_zero] at hf
      obtain ⟨h0, h1, h2⟩ := hf
      obtain ⟨s, e0⟩ := sh_string h0
      obtain ⟨t1, t2, t3, t4, t5, e1⟩ := sh_type h1
      obtain ⟨D, e2, hD, hD'⟩ := sh_lins h2
      simp only [List.cons.injEq, and_true] at e0 e1 e2
      obtain ⟨e10, e11, e12, e13, e14⟩ := e1
      subst e0 e10 e11 e12 e13 e14 e2
      exact ⟨⟨s, ⟨t1, t2, t3, t4, t5⟩, D⟩, rfl, hD, hD'⟩
theorem sh_pms {f : Nat} {l : List C} (h : Sh Tryz.prog f 44 l) : ∃ x : List Pm, l = [.sl 7 (x.map Pm.cells)] ∧ x.length ≤ 140737488355328 ∧ ∀ y, y ∈ x → y.fit := by
  cases f with
  | zero => exact h.elim
  | succ f =>
    have h := Sh.slice Tryz.underlying44 h
    obtain ⟨rows, rfl, ⟨_, hb⟩, hr⟩ := h
    obtain ⟨x, rfl, hx⟩ := list_of fun r hr' => sh_pm (hr r hr')
    rw [bPm, reach_eq, List.length_map] at hb
    exact ⟨x, by rw [cPm], by omega, hx⟩
theorem sh_df {f : Nat} {l : List C} (h : Sh Tryz.prog f 35 l) : ∃ x : Df, l = x.cells ∧ x.fit := by
  cases f with
  | zero => exact h.elim
  | succ f =>
    have h := Sh.struct Tryz.underlying35 h
    obtain ⟨hl, hf⟩ := h
    rw [cDf] at hl
    match l, hl with
    | [a0, a1, a2, a3, a4, a5, a6, a7, a8, a9, a10, a11, a12, a13, a14, a15, a16, a17, a18, a19, a20, a21], _ =>
      simp only [List.mem_cons, List.not_mem_nil, or_false, forall_eq_or_imp, forall_eq, cType, cStr, cAxs, cInt, cExpr, List.drop_zero, List.drop_succ_cons, List.take_succ_cons, List.take_zero] at hf
      obtain ⟨h0, h1, h2, h3, h4, h5⟩ := hf
      obtain ⟨s, e0⟩ := sh_string h0
      obtain ⟨t1, t2, t3, t4, t5, e1⟩ := sh_type h1
      obtain ⟨D, e2, hD, hD'⟩ := sh_axs h2
      obtain ⟨R, e3, hR, hR'⟩ := sh_axs h3
      obtain ⟨n, e4⟩ := sh_int h4
      obtain ⟨b, e5, hb⟩ := sh_exprV h5
      simp only [Ex.cs, List.cons.injEq, and_true] at e0 e1 e2 e3 e4 e5
      obtain ⟨e10, e11, e12, e13, e14⟩ := e1
      obtain ⟨f0, f1, f2, f3, f4, f5, f6, f7, f8, f9, f10, f11, f12⟩ := e5
      subst e0 e10 e11 e12 e13 e14 e2 e3 e4 f0 f1 f2 f3 f4 f5 f6 f7 f8 f9 f10 f11 f12
      exact ⟨⟨s, ⟨t1, t2, t3, t4, t5⟩, D, R, n, b⟩, rfl, hD, hR, hD', hR', hb⟩
theorem sh_dfs {f : Nat} {l : List C} (h : Sh Tryz.prog f 45 l) : ∃ x : List Df, l = [.sl 22 (x.map Df.cells)] ∧ x.length ≤ 140737488355328 ∧ ∀ y, y ∈ x → y.fit := by
  cases f with
  | zero => exact h.elim
  | succ f =>
    have h := Sh.slice Tryz.underlying45 h
    obtain ⟨rows, rfl, ⟨_, hb⟩, hr⟩ := h
    obtain ⟨x, rfl, hx⟩ := list_of fun r hr' => sh_df (hr r hr')
    rw [bDf, reach_eq, List.length_map] at hb
    exact ⟨x, by rw [cDf], by omega, hx⟩
theorem sh_prog {f : Nat} {l : List C} (h : Sh Tryz.prog f 47 l) : ∃ x : Pg, l = x.cells ∧ x.Fit := by
  cases f with
  | zero => exact h.elim
  | succ f =>
    have h := Sh.struct Tryz.underlying47 h
    obtain ⟨hl, hf⟩ := h
    rw [cPg] at hl
    match l, hl with
    | [a0, a1, a2, a3, a4], _ =>
      simp only [List.mem_cons, List.not_mem_nil, or_false, forall_eq_or_imp, forall_eq, cStrs, cCns, cPms, cDfs, List.drop_zero, List.drop_succ_cons, List.take_succ_cons, List.take_zero] at hf
      obtain ⟨h0, h1, h2, h3, h4⟩ := hf
      obtain ⟨S, e0, hS⟩ := sh_strs h0
      obtain ⟨W, e1, hW, hW'⟩ := sh_cns h1
      obtain ⟨P, e2, hP, hP'⟩ := sh_pms h2
      obtain ⟨D, e3, hD, hD'⟩ := sh_dfs h3
      obtain ⟨O, e4, hO⟩ := sh_strs h4
      simp only [List.cons.injEq, and_true] at e0 e1 e2 e3 e4
      subst e0 e1 e2 e3 e4
      exact ⟨⟨S, W, P, D, O⟩, rfl, ⟨hS, hW, hP, hD, hO, hW', hP', hD'⟩⟩
end Go.Br
end
section
set_option maxRecDepth 100000
namespace Go.Br
open Go Go.Eng Go.RowKit Go.Proofs Go.L41

theorem rng_rows {α : Type} {Q : α → List C} {f : Nat} {t e : TypeId} {n : Nat} {l : List α} (hu : Tryz.prog.underlying t = some (.slice e)) (h : Sh Tryz.prog (f + 1) t [.sl n (l.map Q)]) : ∀ x, x ∈ l → Sh Tryz.prog f e (Q x) := by
  obtain ⟨rows, e, _, hr⟩ := Sh.slice hu h
  injection e with e1
  injection e1 with _ e1
  intro x hx
  exact hr _ (by rw [← e1]; exact List.mem_map.2 ⟨x, hx, rfl⟩)
end Go.Br
end
section
set_option maxRecDepth 100000
namespace Go.Br
open Go Go.Eng Go.RowKit Go.Proofs Go.L41

theorem str_size {f : Nat} {s : ByteArray} (h : Sh Tryz.prog f 9 [cS s]) : s.size ≤ 9000000000000000000 := by
  cases f with
  | zero => exact h.elim
  | succ f =>
    obtain ⟨s', e, hs⟩ := Sh.str Tryz.underlying9 h
    injection e with e1
    injection e1 with e1
    injection e1 with e1
    subst e1
    rw [reach_eq] at hs
    omega
theorem str_strs {f : Nat} {l : List ByteArray} (h : Sh Tryz.prog f 42 [.sl 1 (l.map fun s => [cS s])]) : ∀ s, s ∈ l → s.size ≤ 9000000000000000000 := by
  match f, h with
  | 0, h => exact h.elim
  | f + 1, h => exact fun s hs => str_size (rng_rows (Q := fun s => [cS s]) Tryz.underlying42 h s hs)
theorem str_pm {f : Nat} {x : Pm} (h : Sh Tryz.prog f 106 x.cells) : x.Name.size ≤ 9000000000000000000 := by
  match f, h with
  | 0, h => exact h.elim
  | f + 1, h =>
    obtain ⟨_, hf⟩ := Sh.struct Tryz.underlying106 h
    simp only [Pm.cells, List.mem_cons, List.not_mem_nil, or_false, forall_eq_or_imp, forall_eq, cStr, cType, cLins, List.drop_zero, List.drop_succ_cons, List.take_succ_cons, List.take_zero] at hf
    exact str_size hf.1
theorem str_ax {f : Nat} {x : Ax} (h : Sh Tryz.prog f 88 x.cells) : x.Name.size ≤ 9000000000000000000 := by
  match f, h with
  | 0, h => exact h.elim
  | f + 1, h =>
    obtain ⟨_, hf⟩ := Sh.struct Tryz.underlying88 h
    simp only [Ax.cells, List.mem_cons, List.not_mem_nil, or_false, forall_eq_or_imp, forall_eq, cLin, cStr, List.drop_zero, List.drop_succ_cons, List.take_succ_cons, List.take_zero] at hf
    exact str_size hf.1
theorem str_ix {f : Nat} {x : Ix} (h : Sh Tryz.prog f 117 x.cells) : x.From.size ≤ 9000000000000000000 := by
  match f, h with
  | 0, h => exact h.elim
  | f + 1, h =>
    obtain ⟨_, hf⟩ := Sh.struct Tryz.underlying117 h
    simp only [Ix.cells, List.mem_cons, List.not_mem_nil, or_false, forall_eq_or_imp, forall_eq, cStr, cLin, cLins, List.drop_zero, List.drop_succ_cons, List.take_succ_cons, List.take_zero] at hf
    exact str_size hf.2.1
theorem str_expr {f : Nat} {e : Ex} (h : Sh Tryz.prog f 33 e.cells) : ∀ i, i ∈ e.Idx → i.From.size ≤ 9000000000000000000 := by
  match f, h with
  | 0, h => exact h.elim
  | f + 1, h =>
    obtain ⟨_, hf⟩ := Sh.struct Tryz.underlying33 h
    rw [Ex.cells_eq] at hf
    simp only [Ex.cs, List.mem_cons, List.not_mem_nil, or_false, forall_eq_or_imp, forall_eq, cStr, cInt, cVal, cType, cLin, cIndices, cExprs, List.drop_zero, List.drop_succ_cons, List.take_succ_cons, List.take_zero] at hf
    obtain ⟨_, _, _, _, _, h5, _⟩ := hf
    match f, h5 with
    | 0, h => exact h.elim
    | f + 1, h => exact fun i hi => str_ix (rng_rows (Q := Ix.cells) Tryz.underlying30 h i hi)
theorem str_def {f : Nat} {d : Df} (h : Sh Tryz.prog f 35 d.cells) : (∀ a, a ∈ d.Dims → a.Name.size ≤ 9000000000000000000) ∧ ∀ i, i ∈ d.Body.Idx → i.From.size ≤ 9000000000000000000 := by
  match f, h with
  | 0, h => exact h.elim
  | f + 1, h =>
    obtain ⟨_, hf⟩ := Sh.struct Tryz.underlying35 h
    simp only [Df.cells, List.mem_cons, List.not_mem_nil, or_false, forall_eq_or_imp, forall_eq, cType, cStr, cAxs, cInt, cExpr, List.drop_zero, List.drop_succ_cons, List.take_succ_cons, List.take_zero] at hf
    obtain ⟨_, _, h2, _, _, h5⟩ := hf
    refine ⟨?_, str_expr (e := d.Body) (by rw [Ex.cells_eq]; exact h5)⟩
    match f, h2 with
    | 0, h => exact h.elim
    | f + 1, h => exact fun a ha => str_ax (rng_rows (Q := Ax.cells) Tryz.underlying24 h a ha)
theorem str_prog {f : Nat} {p : Pg} (h : Sh Tryz.prog f 47 p.cells) : p.Str 9000000000000000000 := by
  match f, h with
  | 0, h => exact h.elim
  | f + 1, h =>
    obtain ⟨_, hf⟩ := Sh.struct Tryz.underlying47 h
    simp only [Pg.cells, List.mem_cons, List.not_mem_nil, or_false, forall_eq_or_imp, forall_eq, cStrs, cCns, cPms, cDfs, List.drop_zero, List.drop_succ_cons, List.take_succ_cons, List.take_zero] at hf
    obtain ⟨h0, _, h2, h3, h4⟩ := hf
    have hd : ∀ d, d ∈ p.Defs → (∀ a, a ∈ d.Dims → a.Name.size ≤ 9000000000000000000) ∧ ∀ i, i ∈ d.Body.Idx → i.From.size ≤ 9000000000000000000 := by
      match f, h3 with
      | 0, h => exact h.elim
      | f + 1, h => exact fun d hd => str_def (rng_rows (Q := Df.cells) Tryz.underlying45 h d hd)
    refine ⟨str_strs h0, ?_, fun d h => (hd d h).1, fun d h => (hd d h).2, str_strs h4⟩
    match f, h2 with
    | 0, h => exact h.elim
    | f + 1, h => exact fun x hx => str_pm (rng_rows (Q := Pm.cells) Tryz.underlying44 h x hx)
/-- A program, as an argument. -/
theorem sh_progS {f : Nat} {l : List C} (h : Sh Tryz.prog f 47 l) : ∃ p : Pg, l = p.cells ∧ p.Fit ∧ p.Str 9000000000000000000 := by
  obtain ⟨p, rfl, h2⟩ := sh_prog h
  exact ⟨p, rfl, h2, str_prog h⟩
end Go.Br
end
