/-
  What the program's functions compute, in plain Lean.
  Conditions: none.
-/
import Derived.Test.YtmmiedgoamlhpaaDoorTypes
set_option linter.unusedSimpArgs false
set_option linter.unusedVariables false
namespace Go.Br
open Go Go.Eng Go.L41

/-! ## Linear forms -/
def idxOf {α : Type} (p : α → Bool) : List α → Int
  | [] => -1
  | x :: r => bif p x then 0 else (bif decide (idxOf p r = -1) then -1 else idxOf p r + 1)

theorem idxOf_ge {α : Type} (p : α → Bool) (l : List α) : -1 ≤ idxOf p l := by
  induction l with
  | nil => simp [idxOf]
  | cons x r ih => unfold idxOf; cases p x <;> simp; by_cases h : idxOf p r = -1 <;> simp [h]; omega

theorem idxOf_any {α : Type} (p : α → Bool) (l : List α) : decide (0 ≤ idxOf p l) = l.any p := by
  induction l with
  | nil => rfl
  | cons x r ih =>
    have := idxOf_ge p r
    unfold idxOf
    cases hp : p x
    · simp only [cond_false, List.any_cons, hp, Bool.false_or, ← ih]
      by_cases h : idxOf p r = -1
      · simp [h]
      · simp [h]; omega
    · simp [hp]

theorem idxOf_at {α : Type} {p : α → Bool} {l : List α} {k : Nat} {x : α} (h : l[k]? = some x) (hp : p x = true) (hn : (l.take k).any p = false) : idxOf p l = k := by
  induction l generalizing k with
  | nil => simp at h
  | cons y r ih =>
    cases k with
    | zero => simp at h; subst h; simp [idxOf, hp]
    | succ k =>
      simp only [List.take_succ_cons, List.any_cons, Bool.or_eq_false_iff] at hn
      have := ih (k := k) (by simpa using h) hn.2
      simp only [idxOf, hn.1, cond_false, this]
      have h2 : ¬ ((k : Int) = -1) := by omega
      simp [h2]

theorem idxOf_none {α : Type} {p : α → Bool} {l : List α} (hn : l.any p = false) : idxOf p l = -1 := by
  induction l with
  | nil => rfl
  | cons y r ih =>
    simp only [List.any_cons, Bool.or_eq_false_iff] at hn
    simp [idxOf, hn.1, ih hn.2]

theorem any_next {α : Type} {p : α → Bool} {l : List α} {k : Nat} {x : α} (h : l[k]? = some x) (hn : (l.take k).any p = false) (hp : p x = false) : (l.take (k + 1)).any p = false := by
  rw [take_next h, List.any_append, hn]; simp [hp]

/-! ## Types and values -/
def tyOk (t : Ty) : Bool :=
  ((decide (t.Kind = 1) || decide (t.Kind = 3)) && decide (t.Bits = 0) && decide (t.Frac = 0) && decide (t.Round = 0) && decide (t.Over = 0)) ||
  (decide (t.Kind = 2) && decide (2 ≤ t.Bits) && decide (t.Bits ≤ 31) && decide (0 ≤ t.Frac) && decide (t.Frac ≤ 30) && decide (1 ≤ t.Round) && decide (t.Round ≤ 4) && (decide (t.Over = 1) || decide (t.Over = 2)))
def tyErr (t : Ty) : Int := bif tyOk t then 0 else 10
def fixOk (t : Ty) : Bool := decide (t.Kind = 2) && decide (2 ≤ t.Bits) && decide (t.Bits ≤ 31) && decide (0 ≤ t.Frac) && decide (t.Frac ≤ 30) && decide (1 ≤ t.Round) && decide (t.Round ≤ 4) && (decide (t.Over = 1) || decide (t.Over = 2))
def half (b : Int) : Int := 2 ^ (b - 1).toNat
def num31 (n : Int) : Bool := decide (-2147483647 ≤ n) && decide (n ≤ 2147483647)
def valOk (t : Ty) (v : Vl) : Bool :=
  bif decide (t.Kind = 2) then decide (v.D = 1) && decide (-half t.Bits ≤ v.N) && decide (v.N < half t.Bits)
  else bif decide (t.Kind = 3) then decide (v.D = 1) && num31 v.N
  else decide (1 ≤ v.D) && decide (v.D ≤ 2147483647) && num31 v.N && decide (Int.gcd v.N v.D = 1)
theorem fix_ty {t : Ty} (h : t.Kind = 2) : tyOk t = fixOk t := by simp [tyOk, fixOk, h]

theorem half_le {b : Int} (h1 : 2 ≤ b) (h2 : b ≤ 31) : 1 ≤ half b ∧ half b ≤ 1073741824 := by
  unfold half
  have h3 : (b - 1).toNat ≤ 30 := by omega
  have h4 : (2 : Int) ^ (b - 1).toNat ≤ 2 ^ 30 := by
    have := Nat.pow_le_pow_right (n := 2) (by omega) h3
    exact_mod_cast this
  have h5 : (1 : Int) ≤ 2 ^ (b - 1).toNat := by
    have := Nat.one_le_two_pow (n := (b - 1).toNat)
    exact_mod_cast this
  omega

/-! ## Conditions as the walks meet them -/
def byteAt (s : ByteArray) (k : Nat) : Int := (s.data.toList.getD k 0).toNat
def plainT (t : Ty) : Bool := decide (t.Bits = 0) && decide (t.Frac = 0) && decide (t.Round = 0) && decide (t.Over = 0)
theorem plainT_eq (t : Ty) : litsEq [cI t.Kind, cI t.Bits, cI t.Frac, cI t.Round, cI t.Over] [cI t.Kind, .lit (.int .i64 0), .lit (.int .i64 0), .lit (.int .i64 0), .lit (.int .i64 0)] = plainT t := by
  simp [litsEq, cEq, plainT, Bool.and_assoc]
def fixCond (t : Ty) : Bool := ((((!decide (t.Kind = 2) || decide (t.Bits < 2)) || decide (31 < t.Bits)) || decide (t.Frac < 0)) || decide (30 < t.Frac)) || !((decide (1 ≤ t.Round) && decide (t.Round ≤ 4)) && (decide (t.Over = 1) || decide (t.Over = 2)))
theorem fixCond_eq (t : Ty) : fixCond t = !fixOk t := by
  unfold fixCond fixOk
  rw [Bool.eq_iff_iff]
  simp only [Bool.and_eq_true, Bool.or_eq_true, Bool.not_eq_true', Bool.or_eq_false_iff, Bool.and_eq_false_iff, decide_eq_true_eq, decide_eq_false_iff_not]
  omega
theorem fix_no {t : Ty} (h : fixCond t = true) : fixOk t = false := by rw [fixCond_eq] at h; simpa using h
theorem fix_yes {t : Ty} (h : fixCond t = false) : fixOk t = true := by rw [fixCond_eq] at h; simpa using h
theorem type1 {t : Ty} (h : (decide (t.Kind = 1) || decide (t.Kind = 3)) = true) : (((decide (t.Bits = 0) && decide (t.Frac = 0)) && decide (t.Round = 0)) && decide (t.Over = 0)) = tyOk t := by
  unfold tyOk
  rw [h]
  have : decide (t.Kind = 2) = false := by
    simp only [Bool.or_eq_true, decide_eq_true_eq] at h
    simp; omega
  simp [this]
theorem tyk1 {t : Ty} (h : t.Kind = 1 ∨ t.Kind = 3) : tyOk t = plainT t := by
  rw [← type1 (t := t) (by simpa using h)]; rfl
theorem tyk0 {t : Ty} (h1 : ¬ t.Kind = 1) (h3 : ¬ t.Kind = 3) (h2 : ¬ t.Kind = 2) : tyOk t = false := by
  simp [tyOk, h1, h2, h3]
theorem tyErr_ne {t : Ty} (h : ¬ tyErr t = 0) : tyOk t = false := by
  unfold tyErr at h; cases ht : tyOk t <;> simp_all
theorem tyErr_eq {t : Ty} (h : tyErr t = 0) : tyOk t = true := by
  unfold tyErr at h; cases ht : tyOk t <;> simp_all
theorem wrap_u64 {n : Int} (h : 0 ≤ n ∧ n ≤ 18446744073709551615) : IntKind.u64.wrap n = n := IntWalk.u64_in _ h
theorem min_shift {b : Int} (h1 : 2 ≤ b) (h2 : b ≤ 31) : IntKind.i64.wrap (1 * 2 ^ (min (IntKind.u64.wrap (b - 1)).toNat IntKind.i64.bits)) = half b := by
  rw [wrap_u64 (by omega)]
  have h3 := half_le h1 h2
  have h4 : min (b - 1).toNat IntKind.i64.bits = (b - 1).toNat := Nat.min_eq_left (by simp [IntKind.bits]; omega)
  rw [h4, Int.one_mul]
  exact wrap_in ⟨by unfold half at h3; omega, by unfold half at h3; omega⟩
theorem min_eq {b : Int} (h1 : 2 ≤ b) (h2 : b ≤ 31) : IntKind.i64.wrap (-(IntKind.i64.wrap (1 * 2 ^ (min (IntKind.u64.wrap (b - 1)).toNat IntKind.i64.bits)))) = -half b := by
  rw [min_shift h1 h2]
  have := half_le h1 h2
  exact wrap_in ⟨by omega, by omega⟩
theorem max_eq {b : Int} (h1 : 2 ≤ b) (h2 : b ≤ 31) : IntKind.i64.wrap (IntKind.i64.wrap (1 * 2 ^ (min (IntKind.u64.wrap (b - 1)).toNat IntKind.i64.bits)) - 1) = half b - 1 := by
  rw [min_shift h1 h2]
  have := half_le h1 h2
  exact wrap_in ⟨by omega, by omega⟩
theorem fixB {t : Ty} (h : fixOk t = true) : 2 ≤ t.Bits ∧ t.Bits ≤ 31 := by
  simp only [fixOk, Bool.and_eq_true, decide_eq_true_eq] at h
  omega
theorem fxz {t : Ty} (h : (bif fixOk t then (0 : Int) else 10) = 0) : fixOk t = true := by cases ht : fixOk t <;> simp_all
theorem fxn {t : Ty} (h : ¬ (bif fixOk t then (0 : Int) else 10) = 0) : fixOk t = false := by cases ht : fixOk t <;> simp_all
theorem fxa {t : Ty} {p : Bool} (h : Lz (decide ((bif fixOk t then (0 : Int) else 10) = 0) && p) true = true) : fixOk t = true := by
  simp only [Lz, cond_true, Bool.and_eq_true, decide_eq_true_eq] at h
  exact fxz h.1
theorem fxb {t : Ty} {p q : Bool} (h : Lz (decide ((bif fixOk t then (0 : Int) else 10) = 0) && p && q) true = true) : fixOk t = true := by
  simp only [Lz, cond_true, Bool.and_eq_true, decide_eq_true_eq] at h
  exact fxz h.1.1
theorem fixV (t : Ty) (v : Vl) : (decide ((bif fixOk t then (0 : Int) else 10) = 0) && decide (v.D = 1) && decide (-half t.Bits ≤ v.N) && decide (v.N ≤ half t.Bits - 1)) = (fixOk t && (decide (v.D = 1) && decide (-half t.Bits ≤ v.N) && decide (v.N < half t.Bits))) := by
  have : decide (v.N ≤ half t.Bits - 1) = decide (v.N < half t.Bits) := decide_eq_decide.2 (by omega)
  rw [this]
  cases fixOk t <;> simp
theorem mag_neg {n : Int} (h : n < 0) (hn : -9223372036854775808 ≤ n) : IntKind.u64.wrap (-(IntKind.u64.wrap n)) = n.natAbs := by
  have e : IntKind.u64.wrap n = n + 18446744073709551616 := by simp [IntKind.wrap, IntKind.bits, IntKind.signed]; omega
  rw [e]
  simp [IntKind.wrap, IntKind.bits, IntKind.signed]; omega
theorem mag_pos {n : Int} (h : ¬ n < 0) (hn : n ≤ 9223372036854775807) : IntKind.u64.wrap n = n.natAbs := by
  rw [wrap_u64 (by omega)]; omega
theorem gcd_step {x y : Nat} (h : ¬ y = 0) : Nat.gcd x y = Nat.gcd y (x % y) := by
  rw [Nat.gcd_comm x y, Nat.gcd_rec y x, Nat.gcd_comm]
theorem frV {v : Vl} (h : Lz (decide (1 ≤ v.D) && decide (v.D ≤ 2147483647) && num31 v.N) true = true) : 1 ≤ v.D ∧ v.D ≤ 2147483647 ∧ -9223372036854775808 ≤ v.N ∧ v.N ≤ 9223372036854775807 := by
  simp only [Lz, cond_true, Bool.and_eq_true, decide_eq_true_eq, num31] at h
  omega
theorem u64_D {d : Int} (h1 : 1 ≤ d) (h2 : d ≤ 2147483647) : IntKind.u64.wrap d = d.natAbs := by
  rw [wrap_u64 (by omega)]; omega
def val0 (v : Vl) : Bool := litsEq [cI v.N, cI v.D] [cI 0, cI 0]
def ty0 (t : Ty) : Bool := litsEq [cI t.Kind, cI t.Bits, cI t.Frac, cI t.Round, cI t.Over] [cI 0, cI 0, cI 0, cI 0, cI 0]
end Go.Br
