/-
  Layer 22 in plain Lean.
  Conditions: none.
-/
import Derived.Test.YtgoggemkajhloaaGreatDoorMap
set_option linter.unusedSimpArgs false
set_option linter.unusedVariables false
namespace Go.Br
open Go Go.Eng Go.L41

theorem errsL_mem {l : List Ex} (h : errsL l = 0) : ∀ x, x ∈ l → nodeErr x = 0 := by
  induction l with
  | nil => intro x hx; cases hx
  | cons y r ih =>
    intro x hx
    rw [errsL] at h
    by_cases hy : nodeErr y = 0
    · rw [dec_true hy, cond_true] at h
      rcases List.mem_cons.1 hx with rfl | hx
      · exact hy
      · exact ih h x hx
    · rw [dec_false hy, cond_false] at h; exact absurd h hy
theorem partE_node {e : Ex} (h : partE e = 0) : nodeErr e = 0 := errsL_mem h e (by rw [nodes_eq]; simp)
theorem partE_arg {e a : Ex} (h : partE e = 0) (ha : a ∈ e.Args) : partE a = 0 := by
  have hn := partE_node h
  rw [partE_eq, dec_true hn, cond_true] at h
  obtain ⟨k, hk⟩ := List.getElem?_of_mem ha
  have : ∀ l : List Ex, partL l = 0 → a ∈ l → partE a = 0 := by
    intro l
    induction l with
    | nil => intro _ h; cases h
    | cons y r ih =>
      intro h hm
      rw [partL_cons] at h
      by_cases hy : partE y = 0
      · rw [dec_true hy, cond_true] at h
        rcases List.mem_cons.1 hm with rfl | hm
        · exact hy
        · exact ih h hm
      · rw [dec_false hy, cond_false] at h; exact absurd h hy
  exact this _ h ha
theorem valid_part {e : Ex} (h : validE e = 0) : partE e = 0 := by
  unfold validE at h
  by_cases h1 : 40 < depT 40 e
  · rw [dec_true h1] at h; simp at h
  · rw [dec_false h1, cond_false] at h
    by_cases h2 : (2000 : Int) < szT e
    · rw [dec_true h2] at h; simp at h
    · rwa [dec_false h2, cond_false] at h
theorem node_all {e : Ex} (h : nodeErr e = 0) : synOk e = true ∧ namesE e = true ∧ rankE e = true ∧ typesE e = true ∧ formOk e = true := by
  unfold nodeErr at h
  cases h1 : synOk e <;> rw [h1] at h <;> simp at h
  cases h2 : namesE e <;> rw [h2] at h <;> simp at h
  cases h3 : rankE e <;> rw [h3] at h <;> simp at h
  cases h4 : typesE e <;> rw [h4] at h <;> simp at h
  cases h5 : formOk e <;> rw [h5] at h <;> simp at h
  simp
theorem node_args {e : Ex} (h : nodeErr e = 0) : (e.Args.length : Int) = nArgs e.Op := by
  have := (node_all h).2.2.1
  simp only [rankE, Bool.and_eq_true, Bool.not_eq_true', Bool.or_eq_false_iff, Bool.not_eq_false', decide_eq_true_eq] at this
  exact this.1.1
theorem node_lin {e : Ex} (h : nodeErr e = 0) : linOk e.Lin = true := by
  have := (node_all h).2.2.2.2
  simp only [formOk, Bool.and_eq_true, formsL, List.all_cons] at this
  exact this.2.1
theorem two_args {e : Ex} (h : partE e = 0) (hop : nArgs e.Op = 2) : ∃ a b, e.Args = [a, b] ∧ partE a = 0 ∧ partE b = 0 := by
  have hl := node_args (partE_node h)
  rw [hop] at hl
  match he : e.Args, hl with
  | [a, b], _ => exact ⟨a, b, rfl, partE_arg h (by rw [he]; simp), partE_arg h (by rw [he]; simp)⟩
  | [], hl => simp at hl
  | [_], hl => simp at hl
  | _ :: _ :: _ :: _, hl => simp at hl; omega
theorem three_args {e : Ex} (h : partE e = 0) (hop : nArgs e.Op = 3) : ∃ a b c, e.Args = [a, b, c] ∧ partE a = 0 ∧ partE b = 0 ∧ partE c = 0 := by
  have hl := node_args (partE_node h)
  rw [hop] at hl
  match he : e.Args, hl with
  | [a, b, c], _ => exact ⟨a, b, c, rfl, partE_arg h (by rw [he]; simp), partE_arg h (by rw [he]; simp), partE_arg h (by rw [he]; simp)⟩
  | [], hl => simp at hl
  | [_], hl => simp at hl
  | [_, _], hl => simp at hl
  | _ :: _ :: _ :: _ :: _, hl => simp at hl; omega

def zL : Lf := ⟨0, []⟩
def constF (x : Ex) : Lf × Bool := bif decide (x.Op = 2) then (x.Lin, true) else bif decide (x.Op = 1) && decide (x.Ty.Kind = 3) then (⟨x.Val.N, []⟩, true) else (zL, false)
def formF (x : Ex) : Lf × Bool := bif decide (x.Op = 2) then (x.Lin, true) else (⟨x.Val.N, []⟩, decide (x.Op = 1) && decide (x.Ty.Kind = 3))
def isV (x : Ex) (s : ByteArray) : Bool := decide (x.Op = 2) && decide (x.Lin = varL s)
def finS (b : Ex) (s : ByteArray) : Lf × Bool := bif !(constF b).2 || hasVar (constF b).1.L s then (zL, false) else ((constF b).1, true)
def solveAB (a b : Ex) (s : ByteArray) : Lf × Bool := bif isNameB s then (bif isV a s then finS b s else bif isV b s then finS a s else (zL, false)) else (zL, false)
def argN (e : Ex) (i : Nat) : Ex := e.Args.getD i zEx
def solveT (c : Ex) (s : ByteArray) : Lf × Bool := bif decide (validE c = 0) && decide (c.Op = 15) then solveAB (argN c 0) (argN c 1) s else (zL, false)
def tryS (a b : Ex) (s : ByteArray) : Bool := ((decide (a.Op = 2) && isNameB s && decide (a.Lin = varL s)) && (formF b).2) && decide (coeffL (formF b).1.L s = 0)

theorem const_len (b : Ex) : (constF b).1.L.length + 1 ≤ b.wt := by
  have := Ex.wt_eq b
  unfold constF
  by_cases h : b.Op = 2
  · simp only [h, decide_true, cond_true]; omega
  · rw [dec_false h, cond_false]
    cases (decide (b.Op = 1) && decide (b.Ty.Kind = 3)) <;> simp [zL] <;> omega
theorem form_len (b : Ex) : (formF b).1.L.length + 1 ≤ b.wt := by
  have := Ex.wt_eq b
  unfold formF
  by_cases h : b.Op = 2
  · simp only [h, decide_true, cond_true]; omega
  · rw [dec_false h, cond_false]; simp; omega
theorem const_form {b : Ex} (h : (constF b).2 = true) : constF b = formF b := by
  unfold constF formF at *
  by_cases h1 : b.Op = 2
  · simp [h1]
  · rw [dec_false h1, cond_false] at h ⊢
    rw [cond_false]
    cases h2 : (decide (b.Op = 1) && decide (b.Ty.Kind = 3)) <;> rw [h2] at h
    · simp at h
    · rfl
theorem const_snd (b : Ex) : (constF b).2 = (formF b).2 := by
  unfold constF formF
  cases decide (b.Op = 2)
  · simp only [cond_false]; cases (decide (b.Op = 1) && decide (b.Ty.Kind = 3)) <;> rfl
  · rfl
theorem form_ok {b : Ex} (h : linOk b.Lin = true) : linOk (formF b).1 = true := by
  unfold formF
  cases decide (b.Op = 2)
  · rfl
  · exact h
/-- One try of the reference is one arm of the program. -/
theorem try_eq {a b : Ex} {s : ByteArray} (h : linOk b.Lin = true) : tryS a b s = ((isV a s && isNameB s) && (finS b s).2) := by
  unfold tryS isV finS
  rw [← const_snd b]
  cases hc : (constF b).2
  · simp [hc]
  · have e := const_form hc
    have h2 := coeff_has s (show monosOk none (formF b).1.L = true from form_ok h)
    rw [← e] at h2 ⊢
    rw [h2]
    cases hasVar (constF b).1.L s <;> cases decide (a.Op = 2) <;> cases isNameB s <;> cases decide (a.Lin = varL s) <;> simp
theorem fin_fst {b : Ex} {s : ByteArray} (h : (finS b s).2 = true) : finS b s = ((formF b).1, true) := by
  unfold finS at *
  cases hh : (!(constF b).2 || hasVar (constF b).1.L s) with
  | true => rw [hh] at h; simp at h
  | false =>
    simp only [Bool.or_eq_false_iff, Bool.not_eq_false'] at hh
    rw [← const_form hh.1]; rfl
theorem fin_no {b : Ex} {s : ByteArray} (h : (finS b s).2 = false) : finS b s = (zL, false) := by
  unfold finS at *
  cases hh : (!(constF b).2 || hasVar (constF b).1.L s) with
  | true => rfl
  | false => rw [hh] at h; simp at h
/-- A variable alone is no form without it. -/
theorem var_fin {b : Ex} {s : ByteArray} (h : isV b s = true) (hn : isNameB s = true) : (finS b s).2 = false := by
  unfold isV at h
  simp only [Bool.and_eq_true, decide_eq_true_eq] at h
  unfold finS constF
  rw [dec_true h.1, h.2]
  simp [varL, hn, hasVar]
theorem solve_first {a b : Ex} {s : ByteArray} (hb : linOk b.Lin = true) (h : tryS a b s = true) : solveAB a b s = ((formF b).1, true) := by
  rw [try_eq hb] at h
  simp only [Bool.and_eq_true] at h
  unfold solveAB
  rw [h.1.1, h.1.2, cond_true, cond_true, fin_fst h.2]
theorem solve_second {a b : Ex} {s : ByteArray} (ha : linOk a.Lin = true) (hb : linOk b.Lin = true) (h1 : tryS a b s = false) (h2 : tryS b a s = true) : solveAB a b s = ((formF a).1, true) := by
  rw [try_eq hb] at h1
  rw [try_eq ha] at h2
  simp only [Bool.and_eq_true] at h2
  unfold solveAB
  rw [h2.1.2, cond_true, h2.1.1]
  have hna : isV a s = false := by
    cases h : isV a s with
    | false => rfl
    | true => have := var_fin h h2.1.2; rw [this] at h2; cases h2.2
  rw [hna, cond_false, cond_true, fin_fst h2.2]
theorem solve_none {a b : Ex} {s : ByteArray} (ha : linOk a.Lin = true) (hb : linOk b.Lin = true) (h1 : tryS a b s = false) (h2 : tryS b a s = false) : solveAB a b s = (zL, false) := by
  rw [try_eq hb] at h1
  rw [try_eq ha] at h2
  unfold solveAB
  cases hn : isNameB s
  · rfl
  · rw [hn] at h1 h2
    cases h3 : isV a s
    · cases h4 : isV b s
      · rfl
      · rw [h4] at h2; simp at h2; simp [fin_no h2]
    · rw [h3] at h1; simp at h1; simp [fin_no h1]
theorem var_empty {s : ByteArray} : ((varL s).L.length : Int) = 0 ↔ isNameB s = false := by
  unfold varL; cases isNameB s <;> simp

theorem isV_of {x : Ex} {s : ByteArray} {b : Bool} (h : (!decide (x.Op = 2) || !decide (x.Lin = varL s)) = b) : isV x s = !b := by
  rw [← h]; unfold isV; cases decide (x.Op = 2) <;> simp
theorem solve_c1 {c : Ex} (h : ¬ validE c = 0 ∨ ¬ c.Op = 15) : (decide (validE c = 0) && decide (c.Op = 15)) = false := by
  rcases h with h | h <;> simp [h]
theorem cw_le {l : Lf} {B : Nat} (h : l.L.length + 1 ≤ B) : (Ex.mk 0 (bs []) ⟨0, 0⟩ ⟨0, 0, 0, 0, 0⟩ l [] []).wt ≤ B := by
  rw [Ex.wt]; simp [idxWt, argsWt]; omega

/-- The two operands, in this order or in the other. -/
def pickXY (a b x y : Ex) (k : Nat) : Prop := (k = 0 ∧ x = a ∧ y = b) ∨ (k = 1 ∧ x = b ∧ y = a)
theorem pick_ab {c a b : Ex} (ha : c.Args[0]? = some a) (hb : c.Args[1]? = some b) {k : Nat} (hk : k < 2) : ∃ x y, c.Args[k]? = some x ∧ c.Args[((1 : Int) - k).toNat]? = some y ∧ x.wt < c.wt ∧ y.wt < c.wt ∧ pickXY a b x y k := by
  have hwa := Ex.arg_wt (mem_of_get ha)
  have hwb := Ex.arg_wt (mem_of_get hb)
  rcases (show k = 0 ∨ k = 1 by omega) with rfl | rfl
  · exact ⟨a, b, ha, hb, hwa, hwb, .inl ⟨rfl, rfl, rfl⟩⟩
  · exact ⟨b, a, hb, ha, hwb, hwa, .inr ⟨rfl, rfl, rfl⟩⟩
theorem pick_next {a b x y : Ex} {s : ByteArray} {k : Nat} (h : pickXY a b x y k) (h3 : tryS x y s = false) (hk : k ≤ 2) (h0 : 0 < k → tryS a b s = false) (h1 : 1 < k → tryS b a s = false) : k + 1 ≤ 2 ∧ (0 < k + 1 → tryS a b s = false) ∧ (1 < k + 1 → tryS b a s = false) := by
  rcases h with ⟨rfl, rfl, rfl⟩ | ⟨rfl, rfl, rfl⟩
  · exact ⟨by omega, fun _ => h3, fun h => by omega⟩
  · exact ⟨by omega, fun _ => h0 (by omega), fun _ => h3⟩
theorem pick_done {a b x y : Ex} {s : ByteArray} {k : Nat} (ha : linOk a.Lin = true) (hb : linOk b.Lin = true) (h : pickXY a b x y k) (h3 : tryS x y s = true) (h0 : 0 < k → tryS a b s = false) : solveAB a b s = ((formF y).1, true) := by
  rcases h with ⟨rfl, rfl, rfl⟩ | ⟨rfl, rfl, rfl⟩
  · exact solve_first hb h3
  · exact solve_second ha hb (h0 (by omega)) h3

theorem fin_len (b : Ex) (s : ByteArray) : (finS b s).1.L.length ≤ b.wt := by
  have := const_len b
  unfold finS
  cases (!(constF b).2 || hasVar (constF b).1.L s) <;> simp [zL] <;> omega
theorem solve_len (c : Ex) (s : ByteArray) : (solveT c s).1.L.length ≤ c.wt := by
  have arg : ∀ i, (argN c i).wt ≤ c.wt := by
    intro i
    unfold argN
    rw [List.getD_eq_getElem?_getD]
    cases h : c.Args[i]? with
    | none => have := Ex.wt_eq c; simp [zEx, Ex.wt, idxWt, argsWt]; omega
    | some a => exact Nat.le_of_lt (Ex.arg_wt (mem_of_get h))
  have h0 := arg 0
  have h1 := arg 1
  have f0 := fin_len (argN c 0) s
  have f1 := fin_len (argN c 1) s
  unfold solveT
  cases (decide (validE c = 0) && decide (c.Op = 15))
  · simp [zL]
  · unfold solveAB
    cases isNameB s
    · simp [zL]
    · cases isV (argN c 0) s
      · cases isV (argN c 1) s
        · simp [zL]
        · simp only [cond_true, cond_false]; omega
      · simp only [cond_true]; omega
def exV (b : UInt8) : Ex := .mk 2 (bs []) ⟨0, 0⟩ ⟨0, 0, 0, 0, 0⟩ ⟨0, [⟨bs [b], 1⟩]⟩ [] []
def exC : Ex := .mk 15 (bs []) ⟨0, 0⟩ ⟨0, 0, 0, 0, 0⟩ ⟨0, []⟩ [] [exV 107, exV 105]
theorem exC_wt : exC.wt ≤ 4294967296 := by decide +kernel
theorem solve_ex : solveT exC (bs [107]) = (⟨0, [⟨bs [105], 1⟩]⟩, true) := by decide +kernel

end Go.Br
