/-
  Layer 22, the conjuncts of a condition, in plain Lean.
  Conditions: none.
-/
import Derived.Test.YtgoggemkajhloaaGreatDoorDelta
set_option linter.unusedSimpArgs false
set_option linter.unusedVariables false
namespace Go.Br
open Go Go.Eng Go.L41

mutual
def conjE : Ex → List Ex
  | .mk o n v t l i as => bif decide (o = 16) then conjL as else [.mk o n v t l i as]
def conjL : List Ex → List Ex
  | [] => []
  | a :: r => conjE a ++ conjL r
end
theorem conj_one {e : Ex} (h : ¬ e.Op = 16) : conjE e = [e] := by
  cases e with
  | mk o n v t l i as =>
    have h : ¬ o = 16 := h
    rw [conjE, dec_false h, cond_false]
theorem conj_two {e a b : Ex} (h : e.Op = 16) (ha : e.Args = [a, b]) : conjE e = conjE a ++ conjE b := by
  cases e with
  | mk o n v t l i as =>
    have ha : as = [a, b] := ha
    subst ha
    have h : o = 16 := h
    rw [conjE, dec_true h, cond_true, conjL, conjL, conjL, List.append_nil]
theorem argsWt_append (a b : List Ex) : argsWt (a ++ b) = argsWt a + argsWt b := by
  induction a with
  | nil => rw [List.nil_append, argsWt]; omega
  | cons x r ih => rw [List.cons_append, argsWt, argsWt, ih]; omega
mutual
theorem conj_wt : ∀ e : Ex, argsWt (conjE e) ≤ e.wt
  | .mk o n v t l i as => by
    have h := conjL_wt as
    rw [conjE]
    cases decide (o = 16)
    · rw [cond_false, argsWt, argsWt]; omega
    · rw [cond_true, Ex.wt]; omega
theorem conjL_wt : ∀ l : List Ex, argsWt (conjL l) ≤ argsWt l
  | [] => by rw [conjL]; exact Nat.le_refl _
  | a :: r => by
    have h1 := conj_wt a
    have h2 := conjL_wt r
    rw [conjL, argsWt_append, argsWt]; omega
end
theorem conj_len (e : Ex) : (conjE e).length ≤ e.wt := Nat.le_trans (argsWt_len _) (conj_wt e)
theorem conjm_len (e : Ex) : ((conjE e).map Ex.cells).length ≤ e.wt := by rw [List.length_map]; exact conj_len e

structure Gd where
  conds : List Ex
  val : Ex
  ok : Bool
def zG : Gd := ⟨[], zEx, false⟩
def guardA (a b z : Ex) : Gd := bif decide (z.Op = 1) && decide (z.Val = zeroV z.Ty) then ⟨conjE a, b, true⟩ else zG
def guardT (e : Ex) : Gd := bif decide (validE e = 0) && decide (e.Op = 11) then guardA (argN e 0) (argN e 1) (argN e 2) else zG
theorem guard_c1 {c : Ex} (h : ¬ validE c = 0 ∨ ¬ c.Op = 11) : (decide (validE c = 0) && decide (c.Op = 11)) = false := by
  rcases h with h | h <;> simp [h]
theorem argN_wt (c : Ex) (i : Nat) : (argN c i).wt ≤ c.wt := by
  unfold argN
  rw [List.getD_eq_getElem?_getD]
  cases h : c.Args[i]? with
  | none => have := Ex.wt_eq c; simp [zEx, Ex.wt, idxWt, argsWt]; omega
  | some a => exact Nat.le_of_lt (Ex.arg_wt (mem_of_get h))
theorem guard_wt (e : Ex) : argsWt (guardT e).conds ≤ e.wt ∧ (guardT e).val.wt ≤ e.wt := by
  have hz : zEx.wt ≤ e.wt := by have := Ex.wt_eq e; simp [zEx, Ex.wt, idxWt, argsWt]; omega
  have h0 := argN_wt e 0
  have h1 := argN_wt e 1
  have hc := conj_wt (argN e 0)
  unfold guardT
  cases (decide (validE e = 0) && decide (e.Op = 11))
  · exact ⟨Nat.zero_le _, hz⟩
  · rw [cond_true, guardA]
    cases (decide ((argN e 2).Op = 1) && decide ((argN e 2).Val = zeroV (argN e 2).Ty))
    · exact ⟨Nat.zero_le _, hz⟩
    · exact ⟨Nat.le_trans hc h0, h1⟩
theorem val_lits (a b : Vl) : litsEq [cI a.N, cI a.D] [cI b.N, cI b.D] = decide (a = b) := by
  cases a with
  | mk n d => cases b with
    | mk n' d' => simp only [litsEq, cEq, Vl.mk.injEq, Bool.decide_and, Bool.and_true]
theorem guard_no {z : Ex} (h : (!decide (z.Op = 1) || !litsEq [cI z.Val.N, cI z.Val.D] [cI (zeroV z.Ty).N, cI (zeroV z.Ty).D]) = true) : (decide (z.Op = 1) && decide (z.Val = zeroV z.Ty)) = false := by
  rw [val_lits] at h
  revert h; cases decide (z.Op = 1) <;> simp
theorem guard_yes {z : Ex} (h : (!decide (z.Op = 1) || !litsEq [cI z.Val.N, cI z.Val.D] [cI (zeroV z.Ty).N, cI (zeroV z.Ty).D]) = false) : (decide (z.Op = 1) && decide (z.Val = zeroV z.Ty)) = true := by
  rw [val_lits] at h
  revert h; cases decide (z.Op = 1) <;> simp
end Go.Br
