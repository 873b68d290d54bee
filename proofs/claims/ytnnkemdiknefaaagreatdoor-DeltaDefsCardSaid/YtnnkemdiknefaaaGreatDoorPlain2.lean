/-
  Sums of linear forms, exactly, in plain Lean: numbers of 64 and of 128 bits, merges of ascending lists, substitution.
  The reference's substitution of forms, in plain Lean: the sum, and the mapping of all forms of an expression.
  What the substitution of a form keeps, in plain Lean: valid forms stay valid, the name is gone, the shape of an expression stays.
  The comparison of expressions is a total order, in plain Lean.
  Layer 14 in plain Lean: short names, replacing, the names in forms, the example that every statement checks.
  Layer 14 in plain Lean: what the statement on elimination asks of a substitution.
  Layer 14 in plain Lean: what the statement on walks asks; and four pieces of memory at once.
  Layer 22, the conjuncts of a condition, in plain Lean.
  Layer 22, the replacing of a reduction axis, in plain Lean.
  Layer 22, the replacing of a reduction axis, in plain Lean: the whole chain, and what it needs of what it meets.
  Conditions: none.
-/
import Derived.Test.YtnnkemdiknefaaaGreatDoorPlain
import Derived.Test.YtnnkemdiknefaaaGreatDoorEngZ
section
set_option linter.unusedSimpArgs false
set_option linter.unusedVariables false
namespace Go.Br
open Go Go.Eng Go.L41

/-! ## The order of names -/
theorem bl_cons (a b : UInt8) (x y : List UInt8) : Op.bytesLess (a :: x) (b :: y) = true ↔ a < b ∨ (a = b ∧ Op.bytesLess x y = true) := by
  rw [Op.bytesLess]
  by_cases h1 : a < b <;> by_cases h2 : a = b <;> simp [h1, h2]
theorem bl_trans : ∀ (x y z : List UInt8), Op.bytesLess x y = true → Op.bytesLess y z = true → Op.bytesLess x z = true
  | [], [], _, h, _ => by simp [Op.bytesLess] at h
  | [], _ :: _, [], _, h => by simp [Op.bytesLess] at h
  | [], _ :: _, _ :: _, _, _ => by simp [Op.bytesLess]
  | _ :: _, [], _, h, _ => by simp [Op.bytesLess] at h
  | _ :: _, _ :: _, [], _, h => by simp [Op.bytesLess] at h
  | a :: x, b :: y, c :: z, h, k => by
    rw [bl_cons] at h k ⊢
    rcases h with h | ⟨rfl, h⟩
    · rcases k with k | ⟨rfl, k⟩
      · exact .inl (UInt8.lt_trans h k)
      · exact .inl h
    · rcases k with k | ⟨rfl, k⟩
      · exact .inl k
      · exact .inr ⟨rfl, bl_trans x y z h k⟩
theorem bl_tri : ∀ (x y : List UInt8), Op.bytesLess x y = false → Op.bytesLess y x = false → x = y
  | [], [], _, _ => rfl
  | [], _ :: _, h, _ => by simp [Op.bytesLess] at h
  | _ :: _, [], _, h => by simp [Op.bytesLess] at h
  | a :: x, b :: y, h, k => by
    have h1 : ¬ Op.bytesLess (a :: x) (b :: y) = true := by rw [h]; simp
    have k1 : ¬ Op.bytesLess (b :: y) (a :: x) = true := by rw [k]; simp
    rw [bl_cons] at h1 k1
    have e : a = b := UInt8.le_antisymm (UInt8.not_lt.1 fun c => k1 (.inl c)) (UInt8.not_lt.1 fun c => h1 (.inl c))
    subst e
    have h2 : Op.bytesLess x y = false := by
      cases c : Op.bytesLess x y with
      | false => rfl
      | true => exact absurd (.inr ⟨rfl, c⟩) h1
    have k2 : Op.bytesLess y x = false := by
      cases c : Op.bytesLess y x with
      | false => rfl
      | true => exact absurd (.inr ⟨rfl, c⟩) k1
    rw [bl_tri x y h2 k2]
theorem bl_irr : ∀ (x : List UInt8), Op.bytesLess x x = false
  | [] => by simp [Op.bytesLess]
  | a :: x => by
    cases c : Op.bytesLess (a :: x) (a :: x) with
    | false => rfl
    | true =>
      rw [bl_cons] at c
      rcases c with c | ⟨_, c⟩
      · exact absurd c (UInt8.lt_irrefl a)
      · rw [bl_irr x] at c; cases c
theorem strLt_tri {a b : ByteArray} (h : strLt a b = false) (k : strLt b a = false) : a = b := by
  have h1 := bl_tri _ _ h k
  rw [ByteArray.toList_eq, ByteArray.toList_eq] at h1
  exact ByteArray.ext (Array.toList_inj.1 h1)
theorem strLt_irr (a : ByteArray) : strLt a a = false := bl_irr _
theorem strLt_trans {a b c : ByteArray} (h : strLt a b = true) (k : strLt b c = true) : strLt a c = true := bl_trans _ _ _ h k

/-! ## Numbers -/
def r64 (n : Int) : Prop := -9223372036854775808 ≤ n ∧ n ≤ 9223372036854775807
instance (n : Int) : Decidable (r64 n) := by unfold r64; infer_instance
def w64 (n : Int) : Int := IntKind.i64.wrap n
theorem w64_in {n : Int} (h : r64 n) : w64 n = n := IntWalk.i64_in n h
theorem w64_eq (n : Int) : w64 n = (n + 9223372036854775808) % 18446744073709551616 - 9223372036854775808 := by unfold w64; rw [IntKind.wrap_i64]
theorem u64_eq (n : Int) : IntKind.u64.wrap n = n % 18446744073709551616 := by rw [IntKind.wrap_u64]
theorem plus_ok {a b : Int} (ha : r64 a) (hb : r64 b) : decide (decide (a < w64 (a + b)) = decide (0 < b)) = decide (r64 (a + b)) := by
  refine decide_eq_decide.2 ?_
  rw [w64_eq, decide_eq_decide]
  unfold r64 at *
  omega

theorem sq_le {a b : Nat} (ha : a ≤ 4294967295) (hb : b ≤ 4294967295) : a * b ≤ 18446744065119617025 := Nat.mul_le_mul ha hb
def hiN (a b : Nat) : Nat :=
  (a / 4294967296) * (b / 4294967296) + ((a / 4294967296) * (b % 4294967296) + ((a % 4294967296) * (b % 4294967296)) / 4294967296) / 4294967296 +
    ((a % 4294967296) * (b / 4294967296) + ((a / 4294967296) * (b % 4294967296) + ((a % 4294967296) * (b % 4294967296)) / 4294967296) % 4294967296) / 4294967296
theorem mul_parts (a b : Nat) : a * b = (a / 4294967296) * (b / 4294967296) * 18446744073709551616 + ((a / 4294967296) * (b % 4294967296) + (a % 4294967296) * (b / 4294967296)) * 4294967296 + (a % 4294967296) * (b % 4294967296) := by
  have ea : a = (a / 4294967296) * 4294967296 + a % 4294967296 := by omega
  have eb : b = (b / 4294967296) * 4294967296 + b % 4294967296 := by omega
  generalize a / 4294967296 = a1 at *
  generalize a % 4294967296 = a0 at *
  generalize b / 4294967296 = b1 at *
  generalize b % 4294967296 = b0 at *
  subst ea eb
  rw [Nat.add_mul, Nat.mul_add, Nat.mul_add, Nat.add_mul]
  have e1 : a1 * 4294967296 * (b1 * 4294967296) = a1 * b1 * 18446744073709551616 := by
    rw [Nat.mul_mul_mul_comm]
  have e2 : a1 * 4294967296 * b0 = a1 * b0 * 4294967296 := by rw [Nat.mul_right_comm]
  have e3 : a0 * (b1 * 4294967296) = a0 * b1 * 4294967296 := by rw [Nat.mul_assoc]
  rw [e1, e2, e3]
  omega
theorem hi_lo (a b : Nat) : hiN a b * 18446744073709551616 + (a * b) % 18446744073709551616 = a * b := by
  have h := mul_parts a b
  unfold hiN
  generalize a * b = n at *
  generalize (a / 4294967296) * (b / 4294967296) = p11 at *
  generalize (a / 4294967296) * (b % 4294967296) = p10 at *
  generalize (a % 4294967296) * (b / 4294967296) = p01 at *
  generalize (a % 4294967296) * (b % 4294967296) = p00 at *
  omega
theorem part_le {a b : Nat} (ha : a < 18446744073709551616) (hb : b < 18446744073709551616) :
    (a / 4294967296) * (b / 4294967296) ≤ 18446744065119617025 ∧ (a / 4294967296) * (b % 4294967296) ≤ 18446744065119617025 ∧ (a % 4294967296) * (b / 4294967296) ≤ 18446744065119617025 ∧ (a % 4294967296) * (b % 4294967296) ≤ 18446744065119617025 :=
  ⟨sq_le (by omega) (by omega), sq_le (by omega) (by omega), sq_le (by omega) (by omega), sq_le (by omega) (by omega)⟩
theorem hi_zero {a b : Nat} : hiN a b = 0 ↔ a * b < 18446744073709551616 := by
  have h := hi_lo a b
  constructor
  · intro e; rw [e] at h; omega
  · intro e
    by_cases c : hiN a b = 0
    · exact c
    · exfalso; generalize a * b = n at *; generalize hiN a b = m at *; omega
theorem hi_bounds {a b : Nat} (ha : a < 18446744073709551616) (hb : b < 18446744073709551616) :
    (a / 4294967296) * (b % 4294967296) + ((a % 4294967296) * (b % 4294967296)) / 4294967296 < 18446744073709551616 ∧
    (a % 4294967296) * (b / 4294967296) + ((a / 4294967296) * (b % 4294967296) + ((a % 4294967296) * (b % 4294967296)) / 4294967296) % 4294967296 < 18446744073709551616 ∧
    (a / 4294967296) * (b / 4294967296) + ((a / 4294967296) * (b % 4294967296) + ((a % 4294967296) * (b % 4294967296)) / 4294967296) / 4294967296 < 18446744073709551616 ∧ hiN a b < 18446744073709551616 := by
  obtain ⟨h1, h2, h3, h4⟩ := part_le ha hb
  have h5 := hi_lo a b
  have h6 : a * b ≤ 18446744073709551615 * 18446744073709551615 := Nat.mul_le_mul (by omega) (by omega)
  refine ⟨?_, ?_, ?_, ?_⟩
  · generalize (a / 4294967296) * (b % 4294967296) = p10 at *
    generalize (a % 4294967296) * (b % 4294967296) = p00 at *
    omega
  · generalize (a / 4294967296) * (b % 4294967296) = p10 at *
    generalize (a % 4294967296) * (b / 4294967296) = p01 at *
    generalize (a % 4294967296) * (b % 4294967296) = p00 at *
    omega
  · generalize (a / 4294967296) * (b / 4294967296) = p11 at *
    generalize (a / 4294967296) * (b % 4294967296) = p10 at *
    generalize (a % 4294967296) * (b % 4294967296) = p00 at *
    omega
  · generalize a * b = n at *
    generalize hiN a b = m at *
    omega
def timesT (x y : Int) : Int × Bool := if r64 (x * y) then (x * y, true) else (0, false)
theorem magn_neg {x : Int} (h : r64 x) (hn : x < 0) : IntKind.u64.wrap (-(IntKind.u64.wrap x)) = (x.natAbs : Int) := by
  unfold r64 at h; rw [u64_eq, u64_eq]; omega
theorem magn_pos {x : Int} (h : r64 x) (hn : ¬ x < 0) : IntKind.u64.wrap x = (x.natAbs : Int) := by
  unfold r64 at h; rw [u64_eq]; omega
theorem magn_le {x : Int} (h : r64 x) : x.natAbs ≤ 9223372036854775808 := by unfold r64 at h; omega
theorem abs_mul (x y : Int) : (x * y).natAbs = x.natAbs * y.natAbs := Int.natAbs_mul x y
theorem sign_mul {x y : Int} (hx : x < 0) (hy : ¬ y < 0) : x * y ≤ 0 := Int.mul_nonpos_of_nonpos_of_nonneg (by omega) (by omega)
theorem sign_mul2 {x y : Int} (hx : ¬ x < 0) (hy : y < 0) : x * y ≤ 0 := Int.mul_nonpos_of_nonneg_of_nonpos (by omega) (by omega)
theorem sign_mul3 {x y : Int} (hx : x < 0) (hy : y < 0) : 0 ≤ x * y := Int.mul_nonneg_of_nonpos_of_nonpos (by omega) (by omega)
theorem sign_mul4 {x y : Int} (hx : ¬ x < 0) (hy : ¬ y < 0) : 0 ≤ x * y := Int.mul_nonneg (by omega) (by omega)
theorem neg_mul {x y : Int} (h : (decide (x < 0) == decide (y < 0)) = false) : x * y ≤ 0 := by
  by_cases hx : x < 0 <;> by_cases hy : y < 0
  · simp [hx, hy] at h
  · exact sign_mul hx hy
  · exact sign_mul2 hx hy
  · simp [hx, hy] at h
theorem pos_mul {x y : Int} (h : (decide (x < 0) == decide (y < 0)) = true) : 0 ≤ x * y := by
  by_cases hx : x < 0 <;> by_cases hy : y < 0
  · exact sign_mul3 hx hy
  · simp [hx, hy] at h
  · simp [hx, hy] at h
  · exact sign_mul4 hx hy
theorem times_big {x y : Int} (hx : r64 x) (hy : r64 y) (h : hiN x.natAbs y.natAbs ≠ 0 ∨ 9223372036854775808 < x.natAbs * y.natAbs % 18446744073709551616) : timesT x y = (0, false) := by
  unfold timesT
  refine if_neg fun k => ?_
  have h1 := abs_mul x y
  unfold r64 at k
  have h2 : x.natAbs * y.natAbs < 18446744073709551616 := by rw [← h1]; omega
  rcases h with h | h
  · exact h (hi_zero.2 h2)
  · rw [Nat.mod_eq_of_lt h2, ← h1] at h; omega
theorem times_edge {x y : Int} (h : (decide (x < 0) == decide (y < 0)) = true) (h2 : x.natAbs * y.natAbs % 18446744073709551616 = 9223372036854775808) : timesT x y = (0, false) := by
  unfold timesT
  refine if_neg fun k => ?_
  have h1 := abs_mul x y
  have h3 := pos_mul h
  unfold r64 at k
  rw [← h1] at h2
  omega
theorem times_neg {x y : Int} (h : (decide (x < 0) == decide (y < 0)) = false) (h0 : hiN x.natAbs y.natAbs = 0) (hl : x.natAbs * y.natAbs % 18446744073709551616 ≤ 9223372036854775808) : timesT x y = (IntKind.i64.wrap (IntKind.u64.wrap (-((x.natAbs * y.natAbs % 18446744073709551616 : Nat) : Int))), true) := by
  have h1 := abs_mul x y
  have h3 := neg_mul h
  have h4 := hi_zero.1 h0
  rw [Nat.mod_eq_of_lt h4] at hl ⊢
  rw [← h1] at hl ⊢
  unfold timesT
  rw [if_pos (by unfold r64; omega), u64_eq]
  congr 1
  show _ = w64 _
  rw [w64_eq]; omega
theorem times_pos {x y : Int} (h : (decide (x < 0) == decide (y < 0)) = true) (h0 : hiN x.natAbs y.natAbs = 0) (hl : x.natAbs * y.natAbs % 18446744073709551616 < 9223372036854775808) : timesT x y = (IntKind.i64.wrap ((x.natAbs * y.natAbs % 18446744073709551616 : Nat) : Int), true) := by
  have h1 := abs_mul x y
  have h3 := pos_mul h
  have h4 := hi_zero.1 h0
  rw [Nat.mod_eq_of_lt h4] at hl ⊢
  rw [← h1] at hl ⊢
  unfold timesT
  rw [if_pos (by unfold r64; omega)]
  congr 1
  show _ = w64 _
  rw [w64_eq]; omega
theorem times_f {x y : Int} (hx : r64 x) (hy : r64 y) (c : (¬((hiN x.natAbs y.natAbs : Nat) : Int) = 0 ∨ 9223372036854775808 < ((x.natAbs * y.natAbs % 18446744073709551616 : Nat) : Int)) ∨ ((x.natAbs * y.natAbs % 18446744073709551616 : Nat) : Int) = 9223372036854775808 ∧ (decide (x < 0) == decide (y < 0)) = true) : timesT x y = (0, false) := by
  rcases c with (c | c) | ⟨c, d⟩
  · exact times_big hx hy (.inl (by omega))
  · exact times_big hx hy (.inr (by omega))
  · exact times_edge d (by omega)
def midN (a b : Nat) : Nat := (a % 4294967296) * (b % 4294967296) / 4294967296 + (a / 4294967296) * (b % 4294967296) % 4294967296 + (a % 4294967296) * (b / 4294967296) % 4294967296
def wHi (a b : Nat) : Nat := (a / 4294967296) * (b / 4294967296) + (a / 4294967296) * (b % 4294967296) / 4294967296 + (a % 4294967296) * (b / 4294967296) / 4294967296 + midN a b / 4294967296
def wLo (a b : Nat) : Nat := midN a b % 4294967296 * 4294967296 + (a % 4294967296) * (b % 4294967296) % 4294967296
theorem wide_eq (a b : Nat) : wHi a b = a * b / 18446744073709551616 ∧ wLo a b = a * b % 18446744073709551616 := by
  have h := mul_parts a b
  unfold wHi wLo midN
  generalize a * b = n at *
  generalize (a / 4294967296) * (b / 4294967296) = p11 at *
  generalize (a / 4294967296) * (b % 4294967296) = p10 at *
  generalize (a % 4294967296) * (b / 4294967296) = p01 at *
  generalize (a % 4294967296) * (b % 4294967296) = p00 at *
  omega
theorem wide_le {x y : Int} (hx : r64 x) (hy : r64 y) : x.natAbs * y.natAbs ≤ 85070591730234615865843651857942052864 := Nat.mul_le_mul (magn_le hx) (magn_le hy)
theorem wide_lt {x y : Int} (hx : r64 x) (hy : r64 y) : wHi x.natAbs y.natAbs < 18446744073709551616 ∧ wLo x.natAbs y.natAbs < 18446744073709551616 := by
  obtain ⟨h1, h2⟩ := wide_eq x.natAbs y.natAbs
  have := wide_le hx hy
  rw [h1, h2]; omega
theorem wide_pos {x y : Int} (hx : r64 x) (hy : r64 y) (h : (decide (x < 0) == decide (y < 0)) = true) : IntKind.i64.wrap ((wHi x.natAbs y.natAbs : Nat) : Int) = (x * y) / 18446744073709551616 ∧ wLo x.natAbs y.natAbs = ((x * y) % 18446744073709551616).toNat := by
  obtain ⟨h1, h2⟩ := wide_eq x.natAbs y.natAbs
  have h3 := pos_mul h
  have h4 := abs_mul x y
  have h5 := wide_le hx hy
  show w64 _ = _ ∧ _
  rw [h1, h2, w64_eq, ← h4] at *
  generalize x * y = z at *
  omega
theorem wide_neg0 {x y : Int} (hx : r64 x) (hy : r64 y) (h : (decide (x < 0) == decide (y < 0)) = false) (h0 : (18446744073709551616 - wLo x.natAbs y.natAbs) % 18446744073709551616 = 0) : IntKind.i64.wrap (((18446744073709551615 - wHi x.natAbs y.natAbs + 1) % 18446744073709551616 : Nat) : Int) = (x * y) / 18446744073709551616 ∧ (18446744073709551616 - wLo x.natAbs y.natAbs) % 18446744073709551616 = ((x * y) % 18446744073709551616).toNat := by
  obtain ⟨h1, h2⟩ := wide_eq x.natAbs y.natAbs
  have h3 := neg_mul h
  have h4 := abs_mul x y
  have h5 := wide_le hx hy
  show w64 _ = _ ∧ _
  rw [h2, ← h4] at h0
  rw [← h4] at h5
  rw [h1, h2, w64_eq, ← h4]
  clear h1 h2 h4 h
  generalize x * y = z at *
  omega
theorem wide_neg1 {x y : Int} (hx : r64 x) (hy : r64 y) (h : (decide (x < 0) == decide (y < 0)) = false) (h0 : ¬ (18446744073709551616 - wLo x.natAbs y.natAbs) % 18446744073709551616 = 0) : IntKind.i64.wrap ((18446744073709551615 - wHi x.natAbs y.natAbs : Nat) : Int) = (x * y) / 18446744073709551616 ∧ (18446744073709551616 - wLo x.natAbs y.natAbs) % 18446744073709551616 = ((x * y) % 18446744073709551616).toNat := by
  obtain ⟨h1, h2⟩ := wide_eq x.natAbs y.natAbs
  have h3 := neg_mul h
  have h4 := abs_mul x y
  have h5 := wide_le hx hy
  show w64 _ = _ ∧ _
  rw [h2, ← h4] at h0
  rw [← h4] at h5
  rw [h1, h2, w64_eq, ← h4]
  clear h1 h2 h4 h
  generalize x * y = z at *
  omega
theorem prod_bd {x y : Int} (hx : r64 x) (hy : r64 y) : -4611686018427387904 ≤ x * y / 18446744073709551616 ∧ x * y / 18446744073709551616 ≤ 4611686018427387904 := by
  have h5 := wide_le hx hy
  have h4 := abs_mul x y
  rw [← h4] at h5
  generalize x * y = z at *
  omega
theorem both_fin {a z k S : Int} (h0 : 0 ≤ S) (h1 : S < 18446744073709551616) (h : k * 18446744073709551616 + S = a + z) :
    V.tup [vI (IntKind.i64.wrap S), vB (decide (k = 0) && decide (0 ≤ IntKind.i64.wrap S) || decide (k = -1) && decide (IntKind.i64.wrap S < 0))] = V.tup [vI (w64 (a + z)), vB (decide (r64 (a + z)))] := by
  have e : IntKind.i64.wrap S = (S + 9223372036854775808) % 18446744073709551616 - 9223372036854775808 := w64_eq S
  have e1 : w64 (a + z) = IntKind.i64.wrap S := by rw [w64_eq, e]; omega
  have e2 : (decide (k = 0) && decide (0 ≤ IntKind.i64.wrap S) || decide (k = -1) && decide (IntKind.i64.wrap S < 0)) = decide (r64 (a + z)) := by
    rw [e]
    by_cases c : r64 (a + z)
    · rw [decide_eq_true c]
      unfold r64 at c
      by_cases d : k = 0
      · rw [decide_eq_true d, decide_eq_true (by omega)]; rfl
      · rw [decide_eq_false d, decide_eq_true (show k = -1 by omega), decide_eq_true (show (S + 9223372036854775808) % 18446744073709551616 - 9223372036854775808 < 0 by omega)]; rfl
    · rw [decide_eq_false c]
      unfold r64 at c
      by_cases d : k = 0
      · rw [decide_eq_true d, decide_eq_false (show ¬ k = -1 by omega), decide_eq_false (by omega)]; rfl
      · rw [decide_eq_false d]
        by_cases f : k = -1
        · rw [decide_eq_true f, decide_eq_false (show ¬ (S + 9223372036854775808) % 18446744073709551616 - 9223372036854775808 < 0 by omega)]; rfl
        · rw [decide_eq_false f]; rfl
  rw [e1, e2]
theorem both_sum {a z : Int} (ha : r64 a) : ∃ S, S = IntKind.u64.wrap (((z % 18446744073709551616).toNat : Int) + IntKind.u64.wrap a) ∧ 0 ≤ S ∧ S < 18446744073709551616 ∧ S = ((z % 18446744073709551616) + a % 18446744073709551616) % 18446744073709551616 ∧ ((z % 18446744073709551616).toNat : Int) = z % 18446744073709551616 := by
  refine ⟨_, rfl, ?_⟩
  rw [u64_eq, u64_eq]
  omega

/-! ## Merges -/
abbrev Tr := ByteArray × Int × Int
def mergeN : Nat → List Mono → List Mono → List Tr
  | 0, _, _ => []
  | _ + 1, [], [] => []
  | n + 1, a :: ar, [] => (a.Name, a.By, 0) :: mergeN n ar []
  | n + 1, [], b :: bs => (b.Name, 0, b.By) :: mergeN n [] bs
  | n + 1, a :: ar, b :: bs =>
    bif strLt a.Name b.Name then (a.Name, a.By, 0) :: mergeN n ar (b :: bs)
    else bif strLt b.Name a.Name then (b.Name, 0, b.By) :: mergeN n (a :: ar) bs
    else (a.Name, a.By, b.By) :: mergeN n ar bs
theorem kV : ∀ (n : Nat) (a b : List Mono), a.length + b.length ≤ n → mergeN n a b = mergeN (a.length + b.length) a b
  | 0, a, b, h => by rw [show a.length + b.length = 0 by omega]
  | n + 1, [], [], _ => rfl
  | n + 1, a :: ar, [], h => by
    have ih := kV n ar [] (by simp at h ⊢; omega)
    show (a.Name, a.By, 0) :: mergeN n ar [] = (a.Name, a.By, 0) :: mergeN (ar.length) ar []
    rw [ih]; rfl
  | n + 1, [], b :: bs, h => by
    have ih := kV n [] bs (by simp at h ⊢; omega)
    have e : ([] : List Mono).length + (b :: bs).length = bs.length + 1 := by simp
    rw [e, mergeN, mergeN, ih]; simp
  | n + 1, a :: ar, b :: bs, h => by
    have h' : ar.length + 1 + (bs.length + 1) ≤ n + 1 := by simpa using h
    have i1 := kV n ar (b :: bs) (by simp; omega)
    have i2 := kV n (a :: ar) bs (by simp; omega)
    have i3 := kV n ar bs (by omega)
    have j1 := kV (ar.length + bs.length + 1) ar (b :: bs) (by simp; omega)
    have j2 := kV (ar.length + bs.length + 1) (a :: ar) bs (by simp; omega)
    have j3 := kV (ar.length + bs.length + 1) ar bs (by omega)
    have e : (a :: ar).length + (b :: bs).length = (ar.length + bs.length + 1) + 1 := by simp; omega
    rw [e, mergeN, mergeN, i1, i2, i3, j1, j2, j3]
def mergeL (a b : List Mono) : List Tr := mergeN (a.length + b.length) a b
theorem mergeL_nil : mergeL [] [] = [] := rfl
theorem mergeL_l (a : Mono) (ar : List Mono) : mergeL (a :: ar) [] = (a.Name, a.By, 0) :: mergeL ar [] := rfl
theorem mergeL_r (b : Mono) (bs : List Mono) : mergeL [] (b :: bs) = (b.Name, 0, b.By) :: mergeL [] bs := by
  unfold mergeL; rw [show ([] : List Mono).length + (b :: bs).length = bs.length + 1 by simp, mergeN]; simp
theorem mergeL_c (a b : Mono) (ar bs : List Mono) : mergeL (a :: ar) (b :: bs) = bif strLt a.Name b.Name then (a.Name, a.By, 0) :: mergeL ar (b :: bs) else bif strLt b.Name a.Name then (b.Name, 0, b.By) :: mergeL (a :: ar) bs else (a.Name, a.By, b.By) :: mergeL ar bs := by
  unfold mergeL
  rw [show (a :: ar).length + (b :: bs).length = (ar.length + bs.length + 1) + 1 by simp; omega, mergeN]
  rw [kV _ ar (b :: bs) (by simp; omega), kV _ (a :: ar) bs (by simp; omega), kV _ ar bs (by omega)]
theorem mergeL_len (a b : List Mono) : (mergeL a b).length ≤ a.length + b.length := by
  have : ∀ (n : Nat) (a b : List Mono), (mergeN n a b).length ≤ n := by
    intro n
    induction n with
    | zero => intro a b; simp [mergeN]
    | succ n ih =>
      intro a b
      cases a with
      | nil =>
        cases b with
        | nil => simp [mergeN]
        | cons b bs => simp only [mergeN, List.length_cons]; have := ih [] bs; omega
      | cons a ar =>
        cases b with
        | nil => simp only [mergeN, List.length_cons]; have := ih ar []; omega
        | cons b bs =>
          have h1 := ih ar (b :: bs)
          have h2 := ih (a :: ar) bs
          have h3 := ih ar bs
          simp only [mergeN]
          cases strLt a.Name b.Name <;> cases strLt b.Name a.Name <;> simp only [cond_true, cond_false, List.length_cons] <;> omega
  exact this _ a b

def hdM (l : List Mono) : Mono := l.headD ⟨bs [], 0⟩
theorem hd_get {l : List Mono} (h : 0 < l.length) : l[0]? = some (hdM l) := by
  cases l with
  | nil => simp at h
  | cons x r => rfl
def mC2 (a b : List Mono) : Bool := decide ((b.length : Int) = 0) || (decide ((0 : Int) < a.length) && strLt (hdM a).Name (hdM b).Name)
def mC3 (a b : List Mono) : Bool := decide ((a.length : Int) = 0) || strLt (hdM b).Name (hdM a).Name
theorem mC2_b {a b : List Mono} (c : mC2 a b = false) : 0 < b.length := by
  unfold mC2 at c
  cases b with
  | nil => simp at c
  | cons y s => simp
theorem merge_left {a b : List Mono} (h : 0 < a.length ∨ 0 < b.length) (c : mC2 a b = true) : 0 < a.length ∧ mergeL a b = ((hdM a).Name, (hdM a).By, 0) :: mergeL (a.drop 1) b := by
  unfold mC2 at c
  cases a with
  | nil =>
    cases b with
    | nil => simp at h
    | cons y s => simp at c; omega
  | cons x r =>
    refine ⟨by simp, ?_⟩
    cases b with
    | nil => rw [mergeL_l]; rfl
    | cons y s =>
      have c2 : strLt x.Name y.Name = true := by
        rw [Bool.or_eq_true, Bool.and_eq_true, decide_eq_true_eq] at c
        rcases c with c | c
        · simp at c; omega
        · exact c.2
      rw [mergeL_c, c2]; rfl
theorem merge_right {a b : List Mono} (h : 0 < a.length ∨ 0 < b.length) (c : mC2 a b = false) (c3 : mC3 a b = true) : 0 < b.length ∧ mergeL a b = ((hdM b).Name, 0, (hdM b).By) :: mergeL a (b.drop 1) := by
  unfold mC2 at c
  unfold mC3 at c3
  cases b with
  | nil => simp at c
  | cons y s =>
    refine ⟨by simp, ?_⟩
    cases a with
    | nil => rw [mergeL_r]; rfl
    | cons x r =>
      have c2 : strLt x.Name y.Name = false := by
        rw [Bool.or_eq_false_iff, Bool.and_eq_false_iff] at c
        rcases c.2 with c | c
        · simp at c
        · exact c
      have c4 : strLt y.Name x.Name = true := by
        rw [Bool.or_eq_true, decide_eq_true_eq] at c3
        rcases c3 with c | c
        · simp at c; omega
        · exact c
      rw [mergeL_c, c2, c4]; rfl
theorem merge_both {a b : List Mono} (c : mC2 a b = false) (c3 : mC3 a b = false) : 0 < a.length ∧ 0 < b.length ∧ mergeL a b = ((hdM a).Name, (hdM a).By, (hdM b).By) :: mergeL (a.drop 1) (b.drop 1) := by
  unfold mC2 at c
  unfold mC3 at c3
  cases b with
  | nil => simp at c
  | cons y s =>
    cases a with
    | nil => simp at c3
    | cons x r =>
      refine ⟨by simp, by simp, ?_⟩
      have c2 : strLt x.Name y.Name = false := by
        rw [Bool.or_eq_false_iff, Bool.and_eq_false_iff] at c
        rcases c.2 with c | c
        · simp at c
        · exact c
      have c4 : strLt y.Name x.Name = false := by
        rw [Bool.or_eq_false_iff] at c3
        exact c3.2
      rw [mergeL_c, c2, c4]; rfl

/-! ## Sums -/
def trV (t : Tr) : Int := t.2.1 + t.2.2
def trOk (t : Tr) : Bool := decide (r64 (trV t))
def sumW (ts : List Tr) : List Mono := ts.filterMap fun t => if w64 (trV t) = 0 then none else some ⟨t.1, w64 (trV t)⟩
theorem sumW_next (d : List Tr) (t : Tr) : sumW (d ++ [t]) = sumW d ++ (if w64 (trV t) = 0 then [] else [⟨t.1, w64 (trV t)⟩]) := by
  unfold sumW; rw [List.filterMap_append]; congr 1
  by_cases h : w64 (trV t) = 0 <;> simp [h]
theorem sumW_len (d : List Tr) : (sumW d).length ≤ d.length := List.length_filterMap_le _ _
def okF (ok : Bool) (d : List Tr) : Bool := d.foldl (fun b t => b && decide (r64 (t.2.1 + t.2.2))) ok
theorem okF_next (ok : Bool) (d : List Tr) (t : Tr) : okF ok (d ++ [t]) = (okF ok d && decide (r64 (t.2.1 + t.2.2))) := by unfold okF; rw [List.foldl_append]; rfl
theorem okF_all (ok : Bool) (d : List Tr) : okF ok d = (ok && d.all trOk) := by
  induction d generalizing ok with
  | nil => simp [okF]
  | cons t r ih =>
    show okF (ok && trOk t) r = _
    rw [ih, List.all_cons, Bool.and_assoc]
theorem mergeN_rng : ∀ (n : Nat) (a b : List Mono), (∀ m, m ∈ a → r64 m.By) → (∀ m, m ∈ b → r64 m.By) → ∀ t, t ∈ mergeN n a b → r64 t.2.1 ∧ r64 t.2.2
  | 0, _, _, _, _, t, ht => by simp [mergeN] at ht
  | _ + 1, [], [], _, _, t, ht => by simp [mergeN] at ht
  | n + 1, x :: r, [], h1, h2, t, ht => by
    simp only [mergeN] at ht
    rcases List.mem_cons.1 ht with rfl | ht
    · exact ⟨h1 x (by simp), by show r64 0; unfold r64; omega⟩
    · exact mergeN_rng n r [] (fun m hm => h1 m (by simp [hm])) h2 t ht
  | n + 1, [], y :: s, h1, h2, t, ht => by
    simp only [mergeN] at ht
    rcases List.mem_cons.1 ht with rfl | ht
    · exact ⟨by show r64 0; unfold r64; omega, h2 y (by simp)⟩
    · exact mergeN_rng n [] s h1 (fun m hm => h2 m (by simp [hm])) t ht
  | n + 1, x :: r, y :: s, h1, h2, t, ht => by
    have g1 := mergeN_rng n r (y :: s) (fun m hm => h1 m (by simp [hm])) h2 t
    have g2 := mergeN_rng n (x :: r) s h1 (fun m hm => h2 m (by simp [hm])) t
    have g3 := mergeN_rng n r s (fun m hm => h1 m (by simp [hm])) (fun m hm => h2 m (by simp [hm])) t
    have z0 : r64 0 := by unfold r64; omega
    simp only [mergeN] at ht
    cases c1 : strLt x.Name y.Name with
    | true =>
      rw [c1, cond_true] at ht
      rcases List.mem_cons.1 ht with rfl | ht
      · exact ⟨h1 x (by simp), z0⟩
      · exact g1 ht
    | false =>
      rw [c1, cond_false] at ht
      cases c2 : strLt y.Name x.Name with
      | true =>
        rw [c2, cond_true] at ht
        rcases List.mem_cons.1 ht with rfl | ht
        · exact ⟨z0, h2 y (by simp)⟩
        · exact g2 ht
      | false =>
        rw [c2, cond_false] at ht
        rcases List.mem_cons.1 ht with rfl | ht
        · exact ⟨h1 x (by simp), h2 y (by simp)⟩
        · exact g3 ht
theorem merge_rng {a b : List Mono} (h1 : ∀ m, m ∈ a → r64 m.By) (h2 : ∀ m, m ∈ b → r64 m.By) {d s : List Tr} {t : Tr} (h : mergeL a b = d ++ t :: s) : r64 t.2.1 ∧ r64 t.2.2 ∧ d.length ≤ a.length + b.length := by
  have h3 := mergeL_len a b
  rw [h] at h3
  simp only [List.length_append, List.length_cons] at h3
  obtain ⟨k1, k2⟩ := mergeN_rng _ a b h1 h2 t (by rw [show mergeN (a.length + b.length) a b = mergeL a b from rfl, h]; simp)
  exact ⟨k1, k2, by omega⟩
def addT (k : Int) (ts : List Tr) : Lf × Int := if r64 k ∧ ts.all trOk = true then (⟨k, sumW ts⟩, 0) else (zL, 3)
def addL (a b : Lf) : Lf × Int := if linOk a = true ∧ linOk b = true then addT (a.K + b.K) (mergeL a.L b.L) else (zL, 1)
theorem add_bad {a b : Lf} (h : ¬ (linOk a = true ∧ linOk b = true)) : addL a b = (zL, 1) := by unfold addL; rw [if_neg h]
theorem add_c1 {a b : Lf} (c : ¬ linErr a = 0 ∨ ¬ linErr b = 0) : addL a b = (zL, 1) := add_bad fun h => by
  rcases c with c | c
  · have := linErr_ne c; rw [h.1] at this; cases this
  · have := linErr_ne c; rw [h.2] at this; cases this
theorem add_no {a b : Lf} (h1 : linOk a = true) (h2 : linOk b = true) (h : okF (decide (r64 (a.K + b.K))) (mergeL a.L b.L) = false) : addL a b = (zL, 3) := by
  unfold addL addT
  rw [if_pos ⟨h1, h2⟩, if_neg fun k => ?_]
  rw [okF_all, decide_eq_true k.1, k.2] at h
  cases h
theorem add_ok {a b : Lf} (h1 : linOk a = true) (h2 : linOk b = true) (h : okF (decide (r64 (a.K + b.K))) (mergeL a.L b.L) = true) : addL a b = (⟨w64 (a.K + b.K), sumW (mergeL a.L b.L)⟩, 0) := by
  rw [okF_all, Bool.and_eq_true, decide_eq_true_eq] at h
  unfold addL addT
  rw [if_pos ⟨h1, h2⟩, if_pos h, w64_in h.1]
def scaleM (by_ : Int) (l : List Mono) : List Mono := l.map fun m => ⟨m.Name, m.By * by_⟩
def scaleOk (by_ : Int) (l : List Mono) : Bool := l.all fun m => decide (r64 (m.By * by_))
def scaleL (a : Lf) (by_ : Int) : Lf × Int := if linOk a = true then (if by_ = 0 then (zL, 0) else if r64 (a.K * by_) ∧ scaleOk by_ a.L = true then (⟨a.K * by_, scaleM by_ a.L⟩, 0) else (zL, 3)) else (zL, 1)
def restL (l : Lf) (s : ByteArray) : Lf := ⟨l.K, l.L.filter fun m => !decide (m.Name = s)⟩
def lastBy (l : List Mono) (s : ByteArray) : Int := l.foldl (fun by_ m => if m.Name = s then m.By else by_) 0
def substP (l : Lf) (s : ByteArray) (to_ : Lf) : Lf × Int :=
  if linOk l = true ∧ isNameB s = true ∧ linOk to_ = true then (if (scaleL to_ (lastBy l.L s)).2 = 0 then addL (restL l s) (scaleL to_ (lastBy l.L s)).1 else (zL, (scaleL to_ (lastBy l.L s)).2)) else (zL, 1)
def mulT (by_ : Int) (ts : List Tr) : List Tr := ts.map fun t => (t.1, t.2.1, t.2.2 * by_)
def substR (l : Lf) (s : ByteArray) (to_ : Lf) : Lf × Int :=
  if linOk l = true ∧ linOk to_ = true ∧ isNameB s = true then
    (if lastBy l.L s = 0 then (l, 0) else if r64 (to_.K * lastBy l.L s) ∧ scaleOk (lastBy l.L s) to_.L = true then addT (l.K + to_.K * lastBy l.L s) (mulT (lastBy l.L s) (mergeL (restL l s).L to_.L)) else (zL, 3))
  else (zL, 1)

def scaleW (by_ : Int) (l : List Mono) : List Mono := l.map fun m => ⟨m.Name, (timesT m.By by_).1⟩
def scaleB (by_ : Int) (l : List Mono) : Bool := l.all fun m => (timesT m.By by_).2
theorem scaleW_len (by_ : Int) (l : List Mono) : (scaleW by_ l).length = l.length := by simp [scaleW]
theorem scaleW_next {by_ : Int} {l : List Mono} {k : Nat} {x : Mono} (h : l[k]? = some x) : scaleW by_ (l.take (k + 1)) = scaleW by_ (l.take k) ++ [⟨x.Name, (timesT x.By by_).1⟩] := by unfold scaleW; rw [yY h, List.map_append]; rfl
theorem scaleB_next {by_ : Int} {l : List Mono} {k : Nat} {x : Mono} (h : l[k]? = some x) : scaleB by_ (l.take (k + 1)) = (scaleB by_ (l.take k) && (timesT x.By by_).2) := by unfold scaleB; rw [yY h, List.all_append]; simp
theorem timesT_2 (x y : Int) : (timesT x y).2 = decide (r64 (x * y)) := by unfold timesT; by_cases h : r64 (x * y) <;> simp [h]
theorem timesT_1 {x y : Int} (h : r64 (x * y)) : (timesT x y).1 = x * y := by unfold timesT; rw [if_pos h]
theorem scaleOk_next {by_ : Int} {l : List Mono} {k : Nat} {x : Mono} (h : l[k]? = some x) (hp : scaleOk by_ (l.take k) = true) (hx : r64 (x.By * by_)) : scaleOk by_ (l.take (k + 1)) = true := by
  unfold scaleOk at *; rw [yY h, List.all_append, hp]; simp [hx]
theorem scaleOk_no {by_ : Int} {l : List Mono} {k : Nat} {x : Mono} (h : l[k]? = some x) (hx : ¬ r64 (x.By * by_)) : scaleOk by_ l = false := by
  unfold scaleOk; rw [List.all_eq_false]; exact ⟨x, qF h, by simp [hx]⟩
theorem scaleB_ok (by_ : Int) (l : List Mono) : scaleB by_ l = scaleOk by_ l := by unfold scaleB scaleOk; congr 1; funext m; exact timesT_2 _ _
theorem scaleW_ok {by_ : Int} {l : List Mono} (h : scaleOk by_ l = true) : scaleW by_ l = scaleM by_ l := by
  unfold scaleOk at h
  rw [List.all_eq_true] at h
  unfold scaleW scaleM
  refine List.map_congr_left fun m hm => ?_
  rw [timesT_1 (by simpa using h m hm)]
theorem scale_ok {l : Lf} {by_ : Int} (h1 : linOk l = true) (h2 : ¬ by_ = 0) (h3 : (timesT l.K by_).2 = true ∧ scaleB by_ l.L = true) : scaleL l by_ = (⟨(timesT l.K by_).1, scaleW by_ l.L⟩, 0) := by
  rw [timesT_2, decide_eq_true_eq, scaleB_ok] at h3
  unfold scaleL
  rw [if_pos h1, if_neg h2, if_pos h3, timesT_1 h3.1, scaleW_ok h3.2]
theorem scale_no {l : Lf} {by_ : Int} (h1 : linOk l = true) (h2 : ¬ by_ = 0) (h3 : (timesT l.K by_).2 = false ∨ scaleB by_ l.L = false) : scaleL l by_ = (zL, 3) := by
  unfold scaleL
  rw [if_pos h1, if_neg h2, if_neg fun h => ?_]
  rw [timesT_2, scaleB_ok, decide_eq_true h.1, h.2] at h3
  rcases h3 with h3 | h3 <;> cases h3
theorem scale_zero {l : Lf} {by_ : Int} (h1 : linOk l = true) (h2 : by_ = 0) : scaleL l by_ = (zL, 0) := by unfold scaleL; rw [if_pos h1, if_pos h2]
theorem scale_bad {l : Lf} {by_ : Int} (h1 : linOk l = false) : scaleL l by_ = (zL, 1) := by unfold scaleL; rw [if_neg (by rw [h1]; simp)]

theorem mergeL_scale (by_ : Int) : ∀ (n : Nat) (a b : List Mono), a.length + b.length ≤ n → mergeL a (scaleM by_ b) = mulT by_ (mergeL a b)
  | _, [], [], _ => rfl
  | 0, _ :: _, _, h => by simp at h
  | 0, [], _ :: _, h => by simp at h
  | n + 1, a :: ar, [], h => by
    have ih := mergeL_scale by_ n ar [] (by simp at h ⊢; omega)
    show mergeL (a :: ar) [] = _
    rw [mergeL_l]
    show _ = (a.Name, a.By, 0 * by_) :: mulT by_ (mergeL ar [])
    rw [← ih, Int.zero_mul]; rfl
  | n + 1, [], b :: bs, h => by
    have ih := mergeL_scale by_ n [] bs (by simp at h ⊢; omega)
    show mergeL [] (⟨b.Name, b.By * by_⟩ :: scaleM by_ bs) = _
    rw [mergeL_r, mergeL_r, ih]; rfl
  | n + 1, a :: ar, b :: bs, h => by
    have h' : ar.length + 1 + (bs.length + 1) ≤ n + 1 := by simpa using h
    have i1 := mergeL_scale by_ n ar (b :: bs) (by simp; omega)
    have i2 := mergeL_scale by_ n (a :: ar) bs (by simp; omega)
    have i3 := mergeL_scale by_ n ar bs (by omega)
    have e : scaleM by_ (b :: bs) = ⟨b.Name, b.By * by_⟩ :: scaleM by_ bs := rfl
    rw [e] at i1 ⊢
    rw [mergeL_c, mergeL_c, i1, i2, i3]
    cases strLt a.Name b.Name <;> cases strLt b.Name a.Name <;> simp [mulT]
theorem lastBy_next {l : List Mono} {k : Nat} {x : Mono} {s : ByteArray} (h : l[k]? = some x) : lastBy (l.take (k + 1)) s = if x.Name = s then x.By else lastBy (l.take k) s := by
  unfold lastBy; rw [yY h, List.foldl_append]; rfl
theorem rest_next {l : List Mono} {k : Nat} {x : Mono} {s : ByteArray} (h : l[k]? = some x) : (l.take (k + 1)).filter (fun m => !decide (m.Name = s)) = (l.take k).filter (fun m => !decide (m.Name = s)) ++ (if x.Name = s then [] else [x]) := by
  rw [yY h, List.filter_append]; by_cases e : x.Name = s <;> simp [e]
theorem monos_name : ∀ {p : Option ByteArray} {l : List Mono}, monosOk p l = true → ∀ m, m ∈ l → m.By ≠ 0 ∧ isNameB m.Name = true
  | _, [], _, m, hm => by cases hm
  | p, x :: r, h, m, hm => by
    simp only [monosOk, Bool.and_eq_true, Bool.not_eq_true', decide_eq_false_iff_not] at h
    rcases List.mem_cons.1 hm with rfl | hm
    · exact ⟨h.1.1.2, h.1.1.1⟩
    · exact monos_name h.2 m hm
theorem last_none {l : List Mono} {s : ByteArray} (h : ∀ m, m ∈ l → m.Name ≠ s) : lastBy l s = 0 ∧ l.filter (fun m => !decide (m.Name = s)) = l := by
  constructor
  · have : ∀ (l : List Mono) (b : Int), (∀ m, m ∈ l → m.Name ≠ s) → l.foldl (fun by_ m => if m.Name = s then m.By else by_) b = b := by
      intro l
      induction l with
      | nil => intro b _; rfl
      | cons x r ih => intro b hl; rw [List.foldl_cons, if_neg (hl x (by simp)), ih b fun m hm => hl m (by simp [hm])]
    exact this l 0 h
  · rw [List.filter_eq_self]; intro m hm; simp [h m hm]
theorem last_zero {p : Option ByteArray} {l : List Mono} {s : ByteArray} (h : monosOk p l = true) (hz : lastBy l s = 0) : ∀ m, m ∈ l → m.Name ≠ s := by
  have key : ∀ (l : List Mono) (b : Int), (∀ m, m ∈ l → m.By ≠ 0) → l.foldl (fun by_ m => if m.Name = s then m.By else by_) b = 0 → ∀ m, m ∈ l → m.Name ≠ s := by
    intro l
    induction l with
    | nil => intro b _ _ m hm; cases hm
    | cons x r ih =>
      intro b hl h m hm
      rw [List.foldl_cons] at h
      rcases List.mem_cons.1 hm with rfl | hm
      · intro e
        rw [if_pos e] at h
        by_cases c : ∀ y, y ∈ r → y.Name ≠ s
        · have : r.foldl (fun by_ m => if m.Name = s then m.By else by_) m.By = m.By := by
            clear ih h hl hm
            generalize m.By = z
            induction r generalizing z with
            | nil => rfl
            | cons y r ih2 => rw [List.foldl_cons, if_neg (c y (by simp)), ih2 (fun q hq => c q (by simp [hq]))]
          rw [this] at h
          exact hl m (by simp) h
        · exact c (ih _ (fun y hy => hl y (by simp [hy])) h)
      · exact ih _ (fun y hy => hl y (by simp [hy])) h m hm
  exact key l 0 (fun m hm => (monos_name h m hm).1) hz

def Lf.rng (l : Lf) : Prop := r64 l.K ∧ ∀ m, m ∈ l.L → r64 m.By
theorem merge_nil_sum : ∀ {l : List Mono}, (∀ m, m ∈ l → r64 m.By ∧ m.By ≠ 0) → (mergeL l []).all trOk = true ∧ sumW (mergeL l []) = l
  | [], _ => ⟨rfl, rfl⟩
  | a :: ar, h => by
    obtain ⟨h1, h2⟩ := merge_nil_sum (l := ar) fun m hm => h m (by simp [hm])
    obtain ⟨h3, h4⟩ := h a (by simp)
    rw [mergeL_l]
    have e : trV (a.Name, a.By, 0) = a.By := by simp [trV]
    constructor
    · rw [List.all_cons, h1, trOk, e, decide_eq_true h3]; rfl
    · show List.filterMap _ _ = _
      rw [List.filterMap_cons]
      simp only [e, w64_in h3, if_neg h4]
      exact congrArg (a :: ·) h2
theorem last_rng {l : Lf} (h : l.rng) (s : ByteArray) : r64 (lastBy l.L s) := by
  have key : ∀ (l : List Mono) (b : Int), (∀ m, m ∈ l → r64 m.By) → r64 b → r64 (l.foldl (fun by_ m => if m.Name = s then m.By else by_) b) := by
    intro l
    induction l with
    | nil => intro b _ h; exact h
    | cons x r ih =>
      intro b hl hb
      rw [List.foldl_cons]
      refine ih _ (fun m hm => hl m (by simp [hm])) ?_
      split
      · exact hl x (by simp)
      · exact hb
  exact key l.L 0 h.2 (by unfold r64; omega)
theorem zL_rng : zL.rng := ⟨by show r64 0; unfold r64; omega, fun m hm => by cases hm⟩
theorem scale_rng (l : Lf) (b : Int) : (scaleL l b).1.rng ∧ (scaleL l b).1.L.length ≤ l.L.length := by
  unfold scaleL
  split
  · split
    · exact ⟨zL_rng, by simp [zL]⟩
    · split
      · rename_i h
        refine ⟨⟨h.1, fun m hm => ?_⟩, by simp [scaleM]⟩
        obtain ⟨x, hx, rfl⟩ := List.mem_map.1 hm
        have := h.2
        unfold scaleOk at this
        rw [List.all_eq_true] at this
        simpa using this x hx
      · exact ⟨zL_rng, by simp [zL]⟩
  · exact ⟨zL_rng, by simp [zL]⟩
theorem rest_rng {l : Lf} (h : l.rng) (s : ByteArray) : (restL l s).rng ∧ (restL l s).L.length ≤ l.L.length :=
  ⟨⟨h.1, fun m hm => h.2 m (List.mem_filter.1 hm).1⟩, List.length_filter_le _ _⟩
theorem subst_c1 {l to_ : Lf} {s : ByteArray} (c : (¬ linErr l = 0 ∨ isNameB s = false) ∨ ¬ linErr to_ = 0) : substP l s to_ = (zL, 1) := by
  unfold substP
  refine if_neg fun h => ?_
  rcases c with (c | c) | c
  · have := linErr_ne c; rw [h.1] at this; cases this
  · rw [h.2.1] at c; cases c
  · have := linErr_ne c; rw [h.2.2] at this; cases this
theorem subst_c4 {l to_ : Lf} {s : ByteArray} (c : (linErr l = 0 ∧ isNameB s = true) ∧ linErr to_ = 0) (c4 : ¬ (scaleL to_ (lastBy l.L s)).2 = 0) : substP l s to_ = (zL, (scaleL to_ (lastBy l.L s)).2) := by
  unfold substP
  rw [if_pos ⟨linErr_eq c.1.1, c.1.2, linErr_eq c.2⟩, if_neg c4]
theorem subst_ok {l to_ : Lf} {s : ByteArray} (c : (linErr l = 0 ∧ isNameB s = true) ∧ linErr to_ = 0) (c4 : (scaleL to_ (lastBy l.L s)).2 = 0) : substP l s to_ = addL (restL l s) (scaleL to_ (lastBy l.L s)).1 := by
  unfold substP
  rw [if_pos ⟨linErr_eq c.1.1, c.1.2, linErr_eq c.2⟩, if_pos c4]

theorem strLt_trans' {a b c : ByteArray} (h : strLt a b = true) (k : strLt b c = true) : strLt a c = true := strLt_trans h k
theorem monos_weak {p q : Option ByteArray} {l : List Mono} (h : monosOk p l = true) (hpq : ∀ n, ltO p n = true → ltO q n = true) : monosOk q l = true := by
  cases l with
  | nil => rfl
  | cons x r =>
    simp only [monosOk, Bool.and_eq_true] at h ⊢
    exact ⟨⟨h.1.1, hpq _ h.1.2⟩, h.2⟩
theorem monos_filter (f : Mono → Bool) : ∀ {p : Option ByteArray} {l : List Mono}, monosOk p l = true → monosOk p (l.filter f) = true
  | _, [], _ => rfl
  | p, x :: r, h => by
    simp only [monosOk, Bool.and_eq_true] at h
    have ih := monos_filter f h.2
    rw [List.filter_cons]
    by_cases c : f x = true
    · rw [if_pos c]; simp only [monosOk, Bool.and_eq_true]; exact ⟨h.1, ih⟩
    · rw [if_neg c]
      refine monos_weak ih fun n hn => ?_
      cases p with
      | none => rfl
      | some q => exact strLt_trans' h.1.2 hn
theorem monos_scale {b : Int} (hb : b ≠ 0) : ∀ {p : Option ByteArray} {l : List Mono}, monosOk p l = true → monosOk p (scaleM b l) = true
  | _, [], _ => rfl
  | p, x :: r, h => by
    simp only [monosOk, Bool.and_eq_true, Bool.not_eq_true', decide_eq_false_iff_not] at h
    have ih := monos_scale hb h.2
    show monosOk p (⟨x.Name, x.By * b⟩ :: scaleM b r) = true
    simp only [monosOk, Bool.and_eq_true, Bool.not_eq_true', decide_eq_false_iff_not]
    exact ⟨⟨⟨h.1.1.1, Int.mul_ne_zero h.1.1.2 hb⟩, h.1.2⟩, ih⟩
theorem subst_eq {l to_ : Lf} {s : ByteArray} (hl : l.rng) : substP l s to_ = substR l s to_ := by
  unfold substP substR
  by_cases h : linOk l = true ∧ isNameB s = true ∧ linOk to_ = true
  · obtain ⟨h1, h2, h3⟩ := h
    rw [if_pos (⟨h1, h2, h3⟩ : linOk l = true ∧ isNameB s = true ∧ linOk to_ = true), if_pos (⟨h1, h3, h2⟩ : linOk l = true ∧ linOk to_ = true ∧ isNameB s = true)]
    by_cases c : lastBy l.L s = 0
    · rw [if_pos c]
      have hn := last_zero h1 c
      have e : scaleL to_ (lastBy l.L s) = (zL, 0) := by unfold scaleL; rw [if_pos h3, if_pos c]
      rw [e, if_pos rfl]
      have er : restL l s = l := by unfold restL; rw [(last_none hn).2]
      rw [er]
      unfold addL
      rw [if_pos ⟨h1, rfl⟩]
      obtain ⟨g1, g2⟩ := merge_nil_sum (l := l.L) fun m hm => ⟨hl.2 m hm, (monos_name h1 m hm).1⟩
      show addT (l.K + 0) (mergeL l.L []) = _
      unfold addT
      rw [Int.add_zero, if_pos ⟨hl.1, g1⟩, g2]
    · rw [if_neg c]
      by_cases d : r64 (to_.K * lastBy l.L s) ∧ scaleOk (lastBy l.L s) to_.L = true
      · rw [if_pos d]
        have e : scaleL to_ (lastBy l.L s) = (⟨to_.K * lastBy l.L s, scaleM (lastBy l.L s) to_.L⟩, 0) := by unfold scaleL; rw [if_pos h3, if_neg c, if_pos d]
        rw [e, if_pos rfl]
        unfold addL
        rw [if_pos ⟨monos_filter _ h1, monos_scale c h3⟩]
        show addT (l.K + to_.K * lastBy l.L s) (mergeL (restL l s).L (scaleM (lastBy l.L s) to_.L)) = _
        rw [mergeL_scale _ _ _ _ (Nat.le_refl _)]
      · rw [if_neg d]
        have e : scaleL to_ (lastBy l.L s) = (zL, 3) := by unfold scaleL; rw [if_pos h3, if_neg c, if_neg d]
        rw [e, if_neg (by decide)]
  · rw [if_neg h, if_neg fun k => h ⟨k.1, k.2.2, k.2.1⟩]
end Go.Br
end
section
set_option linter.unusedSimpArgs false
set_option linter.unusedVariables false
namespace Go.Br
open Go Go.Eng Go.L41

theorem sum_both {a b : List Mono} {i n : Nat} {x y : Mono} (hx : a[i]? = some x) (hy : b[n]? = some y) (h : y.Name = x.Name) : mergeL (a.drop i) (b.drop n) = (x.Name, x.By, y.By) :: mergeL (a.drop (i + 1)) (b.drop (n + 1)) := by
  rw [yC hx, yC hy, mergeL_c, h, strLt_irr, cond_false, cond_false]
theorem sum_left1 {a b : List Mono} {i n : Nat} {x : Mono} (hx : a[i]? = some x) (hn : ¬ n < b.length) : mergeL (a.drop i) (b.drop n) = (x.Name, x.By, 0) :: mergeL (a.drop (i + 1)) (b.drop n) := by
  rw [yC hx, kL hn, mergeL_l]
theorem sum_left2 {a b : List Mono} {i n : Nat} {x y : Mono} (hx : a[i]? = some x) (hy : b[n]? = some y) (h : strLt y.Name x.Name = false) (hne : ¬ y.Name = x.Name) : mergeL (a.drop i) (b.drop n) = (x.Name, x.By, 0) :: mergeL (a.drop (i + 1)) (b.drop n) := by
  rw [yC hx, yC hy, mergeL_c]
  have : strLt x.Name y.Name = true := by
    cases h2 : strLt x.Name y.Name with
    | true => rfl
    | false => exact absurd (strLt_tri h h2) hne
  rw [this, cond_true]
theorem sum_right1 {a b : List Mono} {i n : Nat} {y : Mono} (hi : ¬ i < a.length) (hy : b[n]? = some y) : mergeL (a.drop i) (b.drop n) = (y.Name, 0, y.By) :: mergeL (a.drop i) (b.drop (n + 1)) := by
  rw [kL hi, yC hy, mergeL_r]
theorem sum_right2 {a b : List Mono} {i n : Nat} {x y : Mono} (hx : a[i]? = some x) (hy : b[n]? = some y) (h : strLt y.Name x.Name = true) : mergeL (a.drop i) (b.drop n) = (y.Name, 0, y.By) :: mergeL (a.drop i) (b.drop (n + 1)) := by
  rw [yC hx, yC hy, mergeL_c]
  have : strLt x.Name y.Name = false := by
    cases h2 : strLt x.Name y.Name with
    | false => rfl
    | true => have := strLt_trans h h2; rw [strLt_irr] at this; cases this
  rw [this, cond_false, h, cond_true]
theorem sum_end {a b : List Mono} {i n : Nat} (hi : ¬ i < a.length) (hn : ¬ n < b.length) : mergeL (a.drop i) (b.drop n) = [] := by
  rw [kL hi, kL hn, mergeL_nil]
/-! the tests of the reference's loop -/
def atM (l : List Mono) (k : Nat) : Mono := l.getD k ⟨bs [], 0⟩
theorem at_get {l : List Mono} {k : Nat} (h : k < l.length) : l[k]? = some (atM l k) := by
  unfold atM; rw [List.getD_eq_getElem?_getD, List.getElem?_eq_getElem h]; rfl
theorem at_mem {l : List Mono} {k : Nat} (h : k < l.length) : atM l k ∈ l := qF (at_get h)
def sC2 (a b : List Mono) (i n : Nat) : Bool := decide ((n : Int) = b.length) || (decide ((i : Int) < a.length) && (strLt (atM a i).Name (atM b n).Name || decide ((atM a i).Name = (atM b n).Name)))
def sC3 (b : List Mono) (n : Nat) (s : ByteArray) : Bool := decide ((n : Int) < b.length) && decide ((atM b n).Name = s)
theorem le_t {x y : ByteArray} (h : (strLt x y || decide (x = y)) = true) : strLt y x = false := by
  rw [Bool.or_eq_true, decide_eq_true_eq] at h
  rcases h with h | rfl
  · cases k : strLt y x with
    | false => rfl
    | true => have := strLt_trans h k; rw [strLt_irr] at this; cases this
  · exact strLt_irr _
theorem le_f {x y : ByteArray} (h : (strLt x y || decide (x = y)) = false) : strLt y x = true := by
  rw [Bool.or_eq_false_iff, decide_eq_false_iff_not] at h
  cases k : strLt y x with
  | true => rfl
  | false => exact absurd (strLt_tri h.1 k) h.2
theorem sum_t {a b : List Mono} {i n : Nat} (h : i < a.length ∨ n < b.length) (hn : n ≤ b.length) (c2 : sC2 a b i n = true) : i < a.length := by
  unfold sC2 at c2
  rw [Bool.or_eq_true, Bool.and_eq_true, decide_eq_true_eq, decide_eq_true_eq] at c2
  rcases c2 with c2 | ⟨c2, _⟩ <;> omega
theorem sum_tt {a b : List Mono} {i n : Nat} (hi : i < a.length) (c3 : sC3 b n (atM a i).Name = true) : n < b.length ∧ mergeL (a.drop i) (b.drop n) = ((atM a i).Name, (atM a i).By, (atM b n).By) :: mergeL (a.drop (i + 1)) (b.drop (n + 1)) := by
  unfold sC3 at c3
  simp only [Bool.and_eq_true, decide_eq_true_eq] at c3
  have hn : n < b.length := by omega
  exact ⟨hn, sum_both (at_get hi) (at_get hn) c3.2⟩
theorem sum_tf {a b : List Mono} {i n : Nat} (hi : i < a.length) (hn : n ≤ b.length) (c2 : sC2 a b i n = true) (c3 : sC3 b n (atM a i).Name = false) : mergeL (a.drop i) (b.drop n) = ((atM a i).Name, (atM a i).By, 0) :: mergeL (a.drop (i + 1)) (b.drop n) := by
  by_cases h : n < b.length
  · unfold sC2 at c2
    unfold sC3 at c3
    rw [Bool.or_eq_true, Bool.and_eq_true, decide_eq_true_eq] at c2
    simp only [Bool.and_eq_false_iff, decide_eq_false_iff_not] at c3
    have h2 : strLt (atM b n).Name (atM a i).Name = false := by
      rcases c2 with c2 | c2
      · omega
      · exact le_t c2.2
    have h3 : ¬ (atM b n).Name = (atM a i).Name := by
      rcases c3 with c3 | c3
      · omega
      · exact c3
    exact sum_left2 (at_get hi) (at_get h) h2 h3
  · exact sum_left1 (at_get hi) h
theorem sum_f {a b : List Mono} {i n : Nat} (hn : n ≤ b.length) (c2 : sC2 a b i n = false) : n < b.length := by
  unfold sC2 at c2
  rw [Bool.or_eq_false_iff, decide_eq_false_iff_not] at c2
  omega
theorem sum_fx {a b : List Mono} {i n : Nat} (hn : n < b.length) (c2 : sC2 a b i n = false) : mergeL (a.drop i) (b.drop n) = ((atM b n).Name, 0, (atM b n).By) :: mergeL (a.drop i) (b.drop (n + 1)) ∧ sC3 b n (atM b n).Name = true := by
  refine ⟨?_, by unfold sC3; rw [decide_eq_true (by omega : (n : Int) < b.length), decide_eq_true rfl]; rfl⟩
  unfold sC2 at c2
  rw [Bool.or_eq_false_iff, Bool.and_eq_false_iff, decide_eq_false_iff_not] at c2
  by_cases h : i < a.length
  · have h2 : strLt (atM b n).Name (atM a i).Name = true := by
      rcases c2.2 with k | k
      · rw [decide_eq_false_iff_not] at k; omega
      · exact le_f k
    exact sum_right2 (at_get h) (at_get hn) h2
  · exact sum_right1 h (at_get hn)
theorem add_no' {k : Int} {ts : List Tr} (h : okF (decide (r64 k)) ts = false) : addT k ts = (zL, 3) := by
  rw [okF_all, Bool.and_eq_false_iff, decide_eq_false_iff_not] at h
  unfold addT
  refine if_neg fun hh => ?_
  rcases h with h | h
  · exact h hh.1
  · rw [hh.2] at h; cases h
theorem add_ok' {k : Int} {ts : List Tr} (h : okF (decide (r64 k)) ts = true) : addT k ts = (⟨w64 k, sumW ts⟩, 0) := by
  rw [okF_all, Bool.and_eq_true, decide_eq_true_eq] at h
  unfold addT
  rw [if_pos h, w64_in h.1]
theorem mul_next (by_ : Int) (d : List Tr) (t : Tr) : mulT by_ (d ++ [t]) = mulT by_ d ++ [(t.1, t.2.1, t.2.2 * by_)] := by simp [mulT]
theorem sumM_len (by_ : Int) (d : List Tr) : (sumW (mulT by_ d)).length ≤ d.length := by
  have := sumW_len (mulT by_ d); simpa [mulT] using this

theorem substR_bad {l to_ : Lf} {s : ByteArray} (c : (linOk l = false ∨ linOk to_ = false) ∨ isNameB s = false) : substR l s to_ = (zL, 1) := by
  unfold substR
  refine if_neg fun h => ?_
  rcases c with (c | c) | c
  · rw [h.1] at c; cases c
  · rw [h.2.1] at c; cases c
  · rw [h.2.2] at c; cases c
theorem substR_c1 {l to_ : Lf} {s : ByteArray} (c : (linOk l = true ∧ linOk to_ = true) ∧ isNameB s = true) : linOk l = true ∧ linOk to_ = true ∧ isNameB s = true := ⟨c.1.1, c.1.2, c.2⟩
theorem substR_same {l to_ : Lf} {s : ByteArray} (c : linOk l = true ∧ linOk to_ = true ∧ isNameB s = true) (c4 : lastBy l.L s = 0) : substR l s to_ = (l, 0) := by
  unfold substR; rw [if_pos c, if_pos c4]
theorem substR_no {l to_ : Lf} {s : ByteArray} (c : linOk l = true ∧ linOk to_ = true ∧ isNameB s = true) (c4 : ¬ lastBy l.L s = 0) (c5 : ¬ r64 (to_.K * lastBy l.L s) ∨ scaleOk (lastBy l.L s) to_.L = false) : substR l s to_ = (zL, 3) := by
  unfold substR; rw [if_pos c, if_neg c4, if_neg fun h => by rcases c5 with c5 | c5; exact c5 h.1; rw [h.2] at c5; cases c5]
theorem substR_yes {l to_ : Lf} {s : ByteArray} (c : linOk l = true ∧ linOk to_ = true ∧ isNameB s = true) (c4 : ¬ lastBy l.L s = 0) (c5 : r64 (to_.K * lastBy l.L s) ∧ scaleOk (lastBy l.L s) to_.L = true) : substR l s to_ = addT (l.K + to_.K * lastBy l.L s) (mulT (lastBy l.L s) (mergeL (restL l s).L to_.L)) := by
  unfold substR; rw [if_pos c, if_neg c4, if_pos c5]
def zI : Ix := ⟨zL, bs [], []⟩
def outI : Except Int Ix → Ix
  | .ok e => e
  | .error _ => zI
theorem mIxs_next' {f : Lf → Lf × Int} {l : List Ix} {k : Nat} {x : Ix} {done : List Ix} (h : l[k]? = some x) (hp : mIxs f l = mapRest done (mIxs f (l.drop k))) (hx : errE (mIx f x) = 0) : mIxs f l = mapRest (done ++ [outI (mIx f x)]) (mIxs f (l.drop (k + 1))) := by
  obtain ⟨y, hy⟩ := errE_ok hx mIx_ne
  rw [hy]; exact mIxs_next h hp hy
theorem mIxs_no' {f : Lf → Lf × Int} {l : List Ix} {k : Nat} {x : Ix} {done : List Ix} (h : l[k]? = some x) (hp : mIxs f l = mapRest done (mIxs f (l.drop k))) (hx : ¬ errE (mIx f x) = 0) : mIxs f l = .error (errE (mIx f x)) := by
  cases hm : mIx f x with
  | error y => exact mIxs_no h hp hm
  | ok y => rw [hm] at hx; exact absurd rfl hx

/-! ## What mapping keeps -/
theorem fE_congr {f g : Lf → Lf × Int} {l : Lf} (h : f l = g l) : fE f l = fE g l := by unfold fE; rw [h]
theorem mLins_congr {f g : Lf → Lf × Int} : ∀ {l : List Lf}, (∀ x, x ∈ l → f x = g x) → mLins f l = mLins g l
  | [], _ => rfl
  | x :: r, h => by rw [mLins, mLins, fE_congr (h x (by simp)), mLins_congr fun y hy => h y (by simp [hy])]
theorem mIx_congr {f g : Lf → Lf × Int} {x : Ix} (h1 : f x.Lin = g x.Lin) (h2 : ∀ l, l ∈ x.At → f l = g l) : mIx f x = mIx g x := by
  rw [mIx, mIx, fE_congr h1, mLins_congr h2]
theorem mIxs_congr {f g : Lf → Lf × Int} : ∀ {l : List Ix}, (∀ x, x ∈ l → f x.Lin = g x.Lin ∧ ∀ y, y ∈ x.At → f y = g y) → mIxs f l = mIxs g l
  | [], _ => rfl
  | x :: r, h => by rw [mIxs, mIxs, mIx_congr (h x (by simp)).1 (h x (by simp)).2, mIxs_congr fun y hy => h y (by simp [hy])]
theorem mExs_congr {f g : Lf → Lf × Int} : ∀ {l : List Ex}, (∀ a, a ∈ l → mEx f a = mEx g a) → mExs f l = mExs g l
  | [], _ => by rw [mExs, mExs]
  | x :: r, h => by rw [mExs, mExs, h x (by simp), mExs_congr fun y hy => h y (by simp [hy])]
theorem mEx_congr {f g : Lf → Lf × Int} {P : Lf → Prop} (hfg : ∀ l, P l → f l = g l) (e : Ex) (h : e.allF P) : mEx f e = mEx g e := by
  induction e using Ex.ind with
  | _ e ih =>
    rw [mEx_eq, mEx_eq, fE_congr (hfg _ (Ex.allF_lin h)), mIxs_congr fun x hx => ⟨hfg _ (Ex.allF_ix h hx), fun y hy => hfg _ (Ex.allF_at h hx hy)⟩, mExs_congr fun a ha => ih a ha (Ex.allF_arg h ha)]
end Go.Br
end
section
set_option linter.unusedSimpArgs false
set_option linter.unusedVariables false
namespace Go.Br
open Go Go.Eng Go.L41

/-! ## Ascending triples -/
def trsOk : Option ByteArray → List Tr → Bool
  | _, [] => true
  | p, t :: r => isNameB t.1 && ltO p t.1 && trsOk (some t.1) r
def hasN (l : Lf) (s : ByteArray) : Prop := ∃ m, m ∈ l.L ∧ m.Name = s
theorem substR_len (l to_ : Lf) (s : ByteArray) : (substR l s to_).1.L.length ≤ l.L.length + to_.L.length := by
  unfold substR
  split
  · split
    · exact Nat.le_add_right _ _
    · split
      · unfold addT
        split
        · show (sumW (mulT _ _)).length ≤ _
          have h1 := sumM_len (lastBy l.L s) (mergeL (restL l s).L to_.L)
          have h2 := mergeL_len (restL l s).L to_.L
          have h3 : (restL l s).L.length ≤ l.L.length := List.length_filter_le _ _
          omega
        · exact Nat.zero_le _
      · exact Nat.zero_le _
  · exact Nat.zero_le _
def gIx (g : Lf → Lf) (x : Ix) : Ix := ⟨g x.Lin, x.From, x.At.map g⟩
mutual
def gEx (g : Lf → Lf) : Ex → Ex
  | .mk o n v t l i arg_ => .mk o n v t (g l) (i.map (gIx g)) (gExs g arg_)
def gExs (g : Lf → Lf) : List Ex → List Ex
  | [] => []
  | a :: r => gEx g a :: gExs g r
end
theorem gExs_map (g : Lf → Lf) (l : List Ex) : gExs g l = l.map (gEx g) := by
  induction l with
  | nil => rfl
  | cons a r ih => rw [gExs, ih]; rfl
theorem gEx_eq (g : Lf → Lf) (e : Ex) : gEx g e = .mk e.Op e.Name e.Val e.Ty (g e.Lin) (e.Idx.map (gIx g)) (e.Args.map (gEx g)) := by
  cases e; rw [gEx, gExs_map]; rfl
theorem mLins_g {f : Lf → Lf × Int} : ∀ {l r : List Lf}, mLins f l = .ok r → r = l.map (fun x => (f x).1) ∧ ∀ x, x ∈ l → (f x).2 = 0
  | [], r, h => by rw [mLins] at h; injection h with h; subst h; exact ⟨rfl, fun x hx => by cases hx⟩
  | a :: t, r, h => by
    rw [mLins] at h
    by_cases c : (f a).2 = 0
    · rw [fE_ok c] at h
      cases hm : mLins f t with
      | error y => rw [hm] at h; cases h
      | ok u =>
        rw [hm] at h
        injection h with h
        subst h
        obtain ⟨h1, h2⟩ := mLins_g hm
        exact ⟨by rw [h1]; rfl, fun x hx => by rcases List.mem_cons.1 hx with rfl | hx; exact c; exact h2 x hx⟩
    · rw [fE_err c] at h; cases h
theorem mIx_g {f : Lf → Lf × Int} {x y : Ix} (h : mIx f x = .ok y) : y = gIx (fun l => (f l).1) x ∧ (f x.Lin).2 = 0 ∧ ∀ l, l ∈ x.At → (f l).2 = 0 := by
  rw [mIx] at h
  by_cases c : (f x.Lin).2 = 0
  · rw [fE_ok c] at h
    cases hm : mLins f x.At with
    | error y => rw [hm] at h; cases h
    | ok u =>
      rw [hm] at h
      injection h with h
      subst h
      obtain ⟨h1, h2⟩ := mLins_g hm
      exact ⟨by rw [h1]; rfl, c, h2⟩
  · rw [fE_err c] at h; cases h
theorem mIxs_g {f : Lf → Lf × Int} : ∀ {l r : List Ix}, mIxs f l = .ok r → r = l.map (gIx fun x => (f x).1) ∧ ∀ x, x ∈ l → (f x.Lin).2 = 0 ∧ ∀ y, y ∈ x.At → (f y).2 = 0
  | [], r, h => by rw [mIxs] at h; injection h with h; subst h; exact ⟨rfl, fun x hx => by cases hx⟩
  | a :: t, r, h => by
    rw [mIxs] at h
    cases h1 : mIx f a with
    | error y => rw [h1] at h; cases h
    | ok a' =>
      rw [h1] at h
      cases hm : mIxs f t with
      | error y => rw [hm] at h; cases h
      | ok u =>
        rw [hm] at h
        injection h with h
        subst h
        obtain ⟨k1, k2⟩ := mIx_g h1
        obtain ⟨k3, k4⟩ := mIxs_g hm
        exact ⟨by rw [k1, k3]; rfl, fun x hx => by rcases List.mem_cons.1 hx with rfl | hx; exact k2; exact k4 x hx⟩
theorem nodes_allF {P : Lf → Prop} {e : Ex} (h1 : ∀ l, l ∈ formsL e → P l) (h2 : ∀ a, a ∈ e.Args → a.allF P) : e.allF P := by
  intro x hx
  rw [wD] at hx
  rcases List.mem_cons.1 hx with rfl | hx
  · exact h1
  · have : ∀ l : List Ex, (∀ a, a ∈ l → a.allF P) → x ∈ nodesL l → ∀ y, y ∈ formsL x → P y := by
      intro l
      induction l with
      | nil => intro _ h; simp [nodesL] at h
      | cons a r ih =>
        intro h hm
        rw [nodesL] at hm
        rcases List.mem_append.1 hm with k | k
        · exact h a (by simp) x k
        · exact ih (fun b hb => h b (by simp [hb])) k
    exact this e.Args h2 hx
mutual
theorem mEx_g {f : Lf → Lf × Int} : ∀ {e e' : Ex}, mEx f e = .ok e' → e' = gEx (fun l => (f l).1) e ∧ e.allF fun l => (f l).2 = 0
  | .mk o n v t l i arg_, e', h => by
    rw [mEx] at h
    by_cases c : (f l).2 = 0
    · rw [fE_ok c] at h
      cases h1 : mIxs f i with
      | error y => rw [h1] at h; cases h
      | ok i' =>
        rw [h1] at h
        cases h2 : mExs f arg_ with
        | error y => rw [h2] at h; cases h
        | ok as' =>
          rw [h2] at h
          injection h with h
          subst h
          obtain ⟨k1, k2⟩ := mIxs_g h1
          obtain ⟨k3, k4⟩ := mExs_g h2
          refine ⟨by rw [gEx, k1, k3, gExs_map], nodes_allF ?_ k4⟩
          intro y hy
          unfold formsL at hy
          rcases List.mem_cons.1 hy with rfl | hy
          · exact c
          · obtain ⟨x, hx, hy⟩ := List.mem_flatMap.1 hy
            rcases List.mem_cons.1 hy with rfl | hy
            · exact (k2 x hx).1
            · exact (k2 x hx).2 y hy
    · rw [fE_err c] at h; cases h
theorem mExs_g {f : Lf → Lf × Int} : ∀ {l r : List Ex}, mExs f l = .ok r → r = l.map (gEx fun l => (f l).1) ∧ ∀ a, a ∈ l → a.allF fun l => (f l).2 = 0
  | [], r, h => by rw [mExs] at h; injection h with h; subst h; exact ⟨rfl, fun x hx => by cases hx⟩
  | a :: t, r, h => by
    rw [mExs] at h
    cases h1 : mEx f a with
    | error y => rw [h1] at h; cases h
    | ok a' =>
      rw [h1] at h
      cases hm : mExs f t with
      | error y => rw [hm] at h; cases h
      | ok u =>
        rw [hm] at h
        injection h with h
        subst h
        obtain ⟨k1, k2⟩ := mEx_g h1
        obtain ⟨k3, k4⟩ := mExs_g hm
        exact ⟨by rw [k1, k3]; rfl, fun x hx => by rcases List.mem_cons.1 hx with rfl | hx; exact k2; exact k4 x hx⟩
end
mutual
theorem nodes_g (g : Lf → Lf) : ∀ e : Ex, nodes (gEx g e) = (nodes e).map (gEx g)
  | .mk o n v t l i arg_ => by rw [gEx, nodes, nodes, nodesL_g g arg_, List.map_cons, gEx]
theorem nodesL_g (g : Lf → Lf) : ∀ l : List Ex, nodesL (gExs g l) = (nodesL l).map (gEx g)
  | [] => by rw [gExs, nodesL]; rfl
  | a :: r => by rw [gExs, nodesL, nodesL, nodes_g g a, nodesL_g g r, List.map_append]
end
theorem linsWt_g {g : Lf → Lf} {c : Nat} (hg : ∀ l, (g l).L.length ≤ l.L.length + c) : ∀ l : List Lf, linsWt (l.map g) ≤ linsWt l + c * l.length
  | [] => by simp [linsWt]
  | x :: r => by
    rw [List.map_cons, linsWt, linsWt, List.length_cons, Nat.mul_succ]
    have := linsWt_g hg r; have := hg x; omega
theorem idxWt_g {g : Lf → Lf} {c : Nat} (hg : ∀ l, (g l).L.length ≤ l.L.length + c) : ∀ l : List Ix, idxWt (l.map (gIx g)) ≤ (c + 1) * idxWt l + c * l.length
  | [] => by simp [idxWt]
  | x :: r => by
    rw [List.map_cons, idxWt, idxWt, List.length_cons, Nat.mul_succ, Nat.mul_add]
    have h1 := idxWt_g hg r
    have h2 := linsWt_g hg x.At
    have h3 := hg x.Lin
    have h4 : (gIx g x).wt ≤ (c + 1) * x.wt + c := by
      show (g x.Lin).L.length + (x.At.map g).length + linsWt (x.At.map g) ≤ (c + 1) * (x.Lin.L.length + x.At.length + linsWt x.At) + c
      rw [List.length_map]
      have e : (c + 1) * (x.Lin.L.length + x.At.length + linsWt x.At) = (c * x.Lin.L.length + c * x.At.length + c * linsWt x.At) + (x.Lin.L.length + x.At.length + linsWt x.At) := by
        rw [Nat.add_mul, Nat.one_mul, Nat.mul_add, Nat.mul_add]
      omega
    omega
theorem wt_g {g : Lf → Lf} {c : Nat} (hg : ∀ l, (g l).L.length ≤ l.L.length + c) (e : Ex) : (gEx g e).wt ≤ (c + 1) * e.wt := by
  induction e using Ex.ind with
  | _ e ih =>
    have key : ∀ l : List Ex, (∀ a, a ∈ l → (gEx g a).wt ≤ (c + 1) * a.wt) → argsWt (l.map (gEx g)) ≤ (c + 1) * argsWt l := by
      intro l
      induction l with
      | nil => intro _; simp [argsWt]
      | cons a r ihr =>
        intro h
        rw [List.map_cons, argsWt, argsWt, Nat.mul_add]
        have := h a (by simp)
        have := ihr fun b hb => h b (by simp [hb])
        omega
    have h1 := key e.Args ih
    have h2 := idxWt_g hg e.Idx
    have h3 := hg e.Lin
    rw [Ex.wt_eq, Ex.wt_eq, gEx_eq]
    show 1 + (g e.Lin).L.length + (e.Idx.map (gIx g)).length + idxWt (e.Idx.map (gIx g)) + argsWt (e.Args.map (gEx g)) ≤ (c + 1) * (1 + e.Lin.L.length + e.Idx.length + idxWt e.Idx + argsWt e.Args)
    rw [List.length_map]
    have e1 : (c + 1) * (1 + e.Lin.L.length + e.Idx.length + idxWt e.Idx + argsWt e.Args) = (c + 1) * 1 + (c + 1) * e.Lin.L.length + (c + 1) * e.Idx.length + (c + 1) * idxWt e.Idx + (c + 1) * argsWt e.Args := by
      rw [Nat.mul_add, Nat.mul_add, Nat.mul_add, Nat.mul_add]
    have e2 : (c + 1) * e.Lin.L.length = c * e.Lin.L.length + e.Lin.L.length := by rw [Nat.add_mul, Nat.one_mul]
    have e3 : (c + 1) * e.Idx.length = c * e.Idx.length + e.Idx.length := by rw [Nat.add_mul, Nat.one_mul]
    omega
theorem out_wt {f : Lf → Lf × Int} {c : Nat} (hg : ∀ l, (f l).1.L.length ≤ l.L.length + c) (e : Ex) : (outE (mEx f e)).wt ≤ (c + 1) * e.wt + 1 := by
  cases h : mEx f e with
  | error y => show zEx.wt ≤ _; simp [zEx, Ex.wt, idxWt, argsWt]
  | ok e' =>
    obtain ⟨rfl, _⟩ := mEx_g h
    exact Nat.le_succ_of_le (wt_g hg e)
end Go.Br
end
section
set_option linter.unusedSimpArgs false
set_option linter.unusedVariables false
namespace Go.Br
open Go Go.Eng Go.Proofs Go.L41

structure PO {α : Type} (f : α → α → Int) (a : α) : Prop where
  anti : ∀ b, f b a = - f a b
  rng : ∀ b, -1 ≤ f a b ∧ f a b ≤ 1
  cong : ∀ b, f a b = 0 → ∀ c, f a c = f b c
  cong' : ∀ b c, f b c = 0 → f a b = f a c
  trans : ∀ b c, f a b < 0 → f b c < 0 → f a c < 0

theorem PO.zero {α : Type} (a : α) : PO (fun _ _ => 0) a :=
  ⟨fun _ => rfl, fun _ => ⟨by show (-1 : Int) ≤ 0; omega, by show (0 : Int) ≤ 1; omega⟩, fun _ _ _ => rfl, fun _ _ _ => rfl, fun _ _ h _ => h⟩
end Go.Br
end
section
set_option linter.unusedSimpArgs false
set_option linter.unusedVariables false
namespace Go.Br
open Go Go.Eng Go.L41

/-! ## Short names -/
def shortI (x : Ix) : Bool := !decide ((100 : Int) < x.From.size)
mutual
def shortE : Ex → Bool
  | .mk o n v t l i r => !(decide ((100 : Int) < n.size) || decide ((20 : Int) < i.length)) && (i.all shortI && shortEs r)
def shortEs : List Ex → Bool
  | [] => true
  | a :: r => shortE a && shortEs r
end
def fewE (e : Ex) (m : Nat) : Bool := decide (weighE e m ≤ m) && shortE e
mutual
def replE (f t : Ex) : Ex → Ex
  | .mk o n v y l i r => if .mk o n v y l i r = f then t else .mk o n v y l i (replEs f t r)
def replEs (f t : Ex) : List Ex → List Ex
  | [] => []
  | a :: r => replE f t a :: replEs f t r
end
def namesF (l : Lf) : List ByteArray := l.L.map Mono.Name
def namesN (x : Ex) : List ByteArray := (formsL x).flatMap namesF
def namesA (l : List Ex) : List ByteArray := l.flatMap namesN
def indexT (e : Ex) : List ByteArray := thinB (sortB (namesA (nodes e)))
def lvA : Ex := .mk 3 (bs [97]) ⟨0, 0⟩ ⟨0, 0, 0, 0, 0⟩ ⟨0, []⟩ [⟨⟨0, [⟨bs [105], 1⟩]⟩, bs [], []⟩, ⟨⟨2, []⟩, bs [], []⟩] []
def lvT : Ex := .mk 1 (bs []) ⟨3, 1⟩ ⟨3, 0, 0, 0, 0⟩ ⟨0, []⟩ [] []
def lvE : Ex := .mk 4 (bs []) ⟨0, 0⟩ ⟨0, 0, 0, 0, 0⟩ ⟨0, []⟩ [] [lvA, lvT]
def lvI : Ex := .mk 11 (bs []) ⟨0, 0⟩ ⟨0, 0, 0, 0, 0⟩ ⟨0, []⟩ [] [lvA, lvA, lvA]
def lvU : Lf := ⟨1, [⟨bs [106], 1⟩]⟩
def lvB : Ex := .mk 3 (bs [97]) ⟨0, 0⟩ ⟨0, 0, 0, 0, 0⟩ ⟨0, []⟩ [⟨⟨1, [⟨bs [106], 1⟩]⟩, bs [], []⟩, ⟨⟨2, []⟩, bs [], []⟩] []
def lvX : Ex := .mk 4 (bs []) ⟨0, 0⟩ ⟨0, 0, 0, 0, 0⟩ ⟨0, []⟩ [] [lvB, lvT]
end Go.Br
end
section
set_option linter.unusedSimpArgs false
set_option linter.unusedVariables false
namespace Go.Br
open Go Go.Eng Go.L41

abbrev SR (s : ByteArray) (u : Lf) (l : Lf) : Lf × Int := substR l s u
end Go.Br
end
section
set_option linter.unusedSimpArgs false
set_option linter.unusedVariables false
namespace Go.Br
open Go Go.Eng Go.L41

theorem mem4_eq {e1 e2 : E} {sv : Value} {t u : TypeId} {n b : Nat} {rows rows' : List (List C)} {cs : List C} {bμ : List E} (h : rows = rows') : e1 :: e2 :: E.vec sv t n rows :: E.row b u cs :: bμ = [e1, e2, E.vec sv t n rows', E.row b u cs] ++ bμ := by rw [h]; rfl
end Go.Br
end
section
set_option linter.unusedSimpArgs false
set_option linter.unusedVariables false
namespace Go.Br
open Go Go.Eng Go.L41

mutual
def conjE : Ex → List Ex
  | .mk o n v t l i arg_ => bif decide (o = 16) then conjL arg_ else [.mk o n v t l i arg_]
def conjL : List Ex → List Ex
  | [] => []
  | a :: r => conjE a ++ conjL r
end
theorem conj_one {e : Ex} (h : ¬ e.Op = 16) : conjE e = [e] := by
  cases e with
  | mk o n v t l i arg_ =>
    have h : ¬ o = 16 := h
    rw [conjE, qZ h, cond_false]
theorem conj_two {e a b : Ex} (h : e.Op = 16) (ha : e.Args = [a, b]) : conjE e = conjE a ++ conjE b := by
  cases e with
  | mk o n v t l i arg_ =>
    have ha : arg_ = [a, b] := ha
    subst ha
    have h : o = 16 := h
    rw [conjE, kG h, cond_true, conjL, conjL, conjL, List.append_nil]
theorem argsWt_append (a b : List Ex) : argsWt (a ++ b) = argsWt a + argsWt b := by
  induction a with
  | nil => rw [List.nil_append, argsWt]; omega
  | cons x r ih => rw [List.cons_append, argsWt, argsWt, ih]; omega
mutual
theorem conj_wt : ∀ e : Ex, argsWt (conjE e) ≤ e.wt
  | .mk o n v t l i arg_ => by
    have h := conjL_wt arg_
    rw [conjE]
    cases decide (o = 16)
    · rw [cond_false, argsWt, argsWt]; omega
    · rw [cond_true, Ex.wt]; omega
theorem conjL_wt : ∀ l : List Ex, argsWt (conjL l) ≤ argsWt l
  | [] => by rw [conjL]; exact Nat.le_refl _
  | a :: r => by
    have h1 := conj_wt a
    have h2 := conjL_wt r
    rw [conjL, argsWt_append, argsWt]; omega
end
theorem conj_len (e : Ex) : (conjE e).length ≤ e.wt := Nat.le_trans (argsWt_len _) (conj_wt e)
theorem conjm_len (e : Ex) : ((conjE e).map Ex.cells).length ≤ e.wt := by rw [List.length_map]; exact conj_len e

structure Gd where
  conds : List Ex
  val : Ex
  ok : Bool
def zG : Gd := ⟨[], zEx, false⟩
def guardA (a b z : Ex) : Gd := bif decide (z.Op = 1) && decide (z.Val = zeroV z.Ty) then ⟨conjE a, b, true⟩ else zG
def guardT (e : Ex) : Gd := bif decide (validE e = 0) && decide (e.Op = 11) then guardA (argN e 0) (argN e 1) (argN e 2) else zG
theorem guard_c1 {c : Ex} (h : ¬ validE c = 0 ∨ ¬ c.Op = 11) : (decide (validE c = 0) && decide (c.Op = 11)) = false := by
  rcases h with h | h <;> simp [h]
theorem argN_wt (c : Ex) (i : Nat) : (argN c i).wt ≤ c.wt := by
  unfold argN
  rw [List.getD_eq_getElem?_getD]
  cases h : c.Args[i]? with
  | none => have := Ex.wt_eq c; simp [zEx, Ex.wt, idxWt, argsWt]; omega
  | some a => exact Nat.le_of_lt (Ex.arg_wt (qF h))
theorem val_lits (a b : Vl) : litsEq [cI a.N, cI a.D] [cI b.N, cI b.D] = decide (a = b) := by
  cases a with
  | mk n d => cases b with
    | mk n' d' => simp only [litsEq, cEq, Vl.mk.injEq, Bool.decide_and, Bool.and_true]
theorem guard_no {z : Ex} (h : (!decide (z.Op = 1) || !litsEq [cI z.Val.N, cI z.Val.D] [cI (zeroV z.Ty).N, cI (zeroV z.Ty).D]) = true) : (decide (z.Op = 1) && decide (z.Val = zeroV z.Ty)) = false := by
  rw [val_lits] at h
  revert h; cases decide (z.Op = 1) <;> simp
theorem guard_yes {z : Ex} (h : (!decide (z.Op = 1) || !litsEq [cI z.Val.N, cI z.Val.D] [cI (zeroV z.Ty).N, cI (zeroV z.Ty).D]) = false) : (decide (z.Op = 1) && decide (z.Val = zeroV z.Ty)) = true := by
  rw [val_lits] at h
  revert h; cases decide (z.Op = 1) <;> simp
end Go.Br
end
section
set_option linter.unusedSimpArgs false
set_option linter.unusedVariables false
namespace Go.Br
open Go Go.Eng Go.L41

def nodeE (op : Int) (l : List Ex) : Ex := .mk op (bs []) ⟨0, 0⟩ ⟨0, 0, 0, 0, 0⟩ ⟨0, []⟩ [] l
def idxE (f : Lf) : Ex := .mk 2 (bs []) ⟨0, 0⟩ ⟨0, 0, 0, 0, 0⟩ f [] []
def zeroE : Ex := .mk 1 (bs []) ⟨0, 1⟩ ⟨3, 0, 0, 0, 0⟩ ⟨0, []⟩ [] []
def insideE (g n : Lf) : Ex := nodeE 16 [nodeE 14 [zeroE, idxE g], nodeE 13 [idxE g, idxE n]]
theorem node_two (op : Int) (a b : Ex) : (nodeE op [a, b]).cs = [cI op, cS (bs []), cI 0, cI 0, cI 0, cI 0, cI 0, cI 0, cI 0, cI 0, .sl 2 [], .sl 4 [], .sl 13 [a.cs, b.cs]] := by
  rw [← Ex.cells_eq a, ← Ex.cells_eq b]; rfl
theorem node_three (op : Int) (a b c : Ex) : (nodeE op [a, b, c]).cs = [cI op, cS (bs []), cI 0, cI 0, cI 0, cI 0, cI 0, cI 0, cI 0, cI 0, .sl 2 [], .sl 4 [], .sl 13 [a.cs, b.cs, c.cs]] := by
  rw [← Ex.cells_eq a, ← Ex.cells_eq b, ← Ex.cells_eq c]; rfl
def freeL (f : Lf) (l : List Ax) : Bool := l.all fun a => !hasVar f.L a.Name
theorem free_any (f : Lf) (l : List Ax) : (!l.any fun a => hasVar f.L a.Name) = freeL f l := by
  unfold freeL
  induction l with
  | nil => rfl
  | cons a r ih => rw [List.any_cons, List.all_cons, ← ih, Bool.not_or]
def axN (s : ByteArray) (l : List Ax) : Int := idxOf (fun a => decide (a.Name = s)) l
def selB (d : Df) (n : Nat) (s : ByteArray) (c : Ex) : Bool := (solveT c s).2 && freeL (solveT c s).1 (d.Red.drop (n + 1))
theorem sel_t {d : Df} {n : Nat} {s : ByteArray} {c : Ex} (h : (solveT c s).2 = true ∧ freeL (solveT c s).1 (d.Red.drop (n + 1)) = true) : selB d n s c = true := by unfold selB; rw [h.1, h.2]; rfl
theorem sel_f {d : Df} {n : Nat} {s : ByteArray} {c : Ex} (h : (solveT c s).2 = false ∨ freeL (solveT c s).1 (d.Red.drop (n + 1)) = false) : selB d n s c = false := by
  unfold selB; rcases h with h | h <;> rw [h]; rfl; exact Bool.and_false _
def Df.okC (d : Df) : Prop := d.Dims.length ≤ 1073741824 ∧ d.Red.length ≤ 1073741824 ∧ (∀ a, a ∈ d.Dims → a.Size.L.length ≤ 5864062014805) ∧ (∀ a, a ∈ d.Red → a.Size.L.length ≤ 5864062014805) ∧ d.Body.allF (fun l => l.L.length ≤ 5864062014805) ∧ d.Body.cnt ≤ 4294967296
structure Pg.OkC (p : Pg) : Prop where
  sizes : p.Sizes.length ≤ 4294967296
  wh : p.Where.length ≤ 4294967296
  params : p.Params.length ≤ 4294967296
  defs : p.Defs.length ≤ 4294967296
  outs : p.Outs.length ≤ 4294967296
  whs : ∀ c, c ∈ p.Where → c.Lin.L.length ≤ 5864062014805
  ps : ∀ x, x ∈ p.Params → x.Dims.length ≤ 4294967296 ∧ ∀ l, l ∈ x.Dims → l.L.length ≤ 5864062014805
  ds : ∀ d, d ∈ p.Defs → d.okC
theorem one_ok {d : Df} (hd : d.okC) : Pg.OkC ⟨[], [], [], [d], []⟩ :=
  ⟨by simp, by simp, by simp, by simp, by simp, fun c hc => by simp at hc, fun x hx => by simp at hx, fun x hx => by simp only [List.mem_singleton] at hx; subst hx; exact hd⟩
theorem allF_wt {e : Ex} {B : Nat} (h : e.wt ≤ B) : e.allF fun l => l.L.length ≤ B := fun x hx l hl => forms_wt (Nat.le_trans (node_mem_wt e x hx) h) hl
theorem allF_mono {P Q : Lf → Prop} {e : Ex} (h : e.allF P) (k : ∀ l, P l → Q l) : e.allF Q := fun x hx l hl => k l (h x hx l hl)
theorem allF_nodeE {P : Lf → Prop} {op : Int} {l : List Ex} (h0 : P ⟨0, []⟩) (h : ∀ a, a ∈ l → a.allF P) : (nodeE op l).allF P :=
  nodes_allF (fun f hf => by
    have : formsL (nodeE op l) = [⟨0, []⟩] := rfl
    rw [this, List.mem_singleton] at hf; rw [hf]; exact h0) h
theorem allF_idxE {P : Lf → Prop} {f : Lf} (h : P f) : (idxE f).allF P :=
  nodes_allF (fun g hg => by
    have : formsL (idxE f) = [f] := rfl
    rw [this, List.mem_singleton] at hg; rw [hg]; exact h) (fun a ha => by cases ha)
theorem allF_zeroE {P : Lf → Prop} (h0 : P ⟨0, []⟩) : zeroE.allF P :=
  nodes_allF (fun g hg => by
    have : formsL zeroE = [⟨0, []⟩] := rfl
    rw [this, List.mem_singleton] at hg; rw [hg]; exact h0) (fun a ha => by cases ha)
theorem allF_two {P : Lf → Prop} {a b : Ex} (h1 : a.allF P) (h2 : b.allF P) : ∀ x, x ∈ [a, b] → x.allF P := fun x hx => by
  simp only [List.mem_cons, List.not_mem_nil, or_false] at hx
  rcases hx with rfl | rfl
  · exact h1
  · exact h2
theorem allF_three {P : Lf → Prop} {a b c : Ex} (h1 : a.allF P) (h2 : b.allF P) (h3 : c.allF P) : ∀ x, x ∈ [a, b, c] → x.allF P := fun x hx => by
  simp only [List.mem_cons, List.not_mem_nil, or_false] at hx
  rcases hx with rfl | rfl | rfl
  · exact h1
  · exact h2
  · exact h3
theorem allF_body {P : Lf → Prop} {g n : Lf} {w z : Ex} (h0 : P ⟨0, []⟩) (hg : P g) (hn : P n) (hw : w.allF P) (hz : z.allF P) : (nodeE 11 [insideE g n, w, z]).allF P :=
  allF_nodeE h0 (allF_three (allF_nodeE h0 (allF_two (allF_nodeE h0 (allF_two (allF_zeroE h0) (allF_idxE hg))) (allF_nodeE h0 (allF_two (allF_idxE hg) (allF_idxE hn))))) hw hz)
theorem cnt_body (g n : Lf) (w z : Ex) : (nodeE 11 [insideE g n, w, z]).cnt = 8 + w.cnt + z.cnt := by
  unfold insideE nodeE idxE zeroE; simp only [Ex.cnt, cntL, ixCnt, List.length_nil]; omega
theorem body_okC {g n : Lf} {w z : Ex} (hg : g.L.length ≤ 1000) (hn : n.L.length ≤ 5864062014805) (hw : w.wt ≤ 2000000000) (hz : z.wt ≤ 1000) : (nodeE 11 [insideE g n, w, z]).allF (fun l => l.L.length ≤ 5864062014805) ∧ (nodeE 11 [insideE g n, w, z]).cnt ≤ 4294967296 := by
  refine ⟨allF_body (Nat.zero_le _) (by omega) hn (allF_mono (allF_wt hw) fun l h => by omega) (allF_mono (allF_wt hz) fun l h => by omega), ?_⟩
  rw [cnt_body]
  have := w.cnt_le; have := z.cnt_le; omega
end Go.Br
end
section
set_option linter.unusedSimpArgs false
set_option linter.unusedVariables false
namespace Go.Br
open Go Go.Eng Go.L41

def axA (l : List Ax) (i : Nat) : Ax := l.getD i ⟨bs [], zL⟩
theorem axA_get {l : List Ax} {i : Nat} (h : i < l.length) : l[i]? = some (axA l i) := by
  unfold axA; rw [List.getD_eq_getElem?_getD, List.getElem?_eq_getElem h]; rfl
def getX (l : List Ex) (i : Nat) : Ex := l.getD i zEx
theorem getX_get {l : List Ex} {i : Nat} (h : i < l.length) : l[i]? = some (getX l i) := by
  unfold getX; rw [List.getD_eq_getElem?_getD, List.getElem?_eq_getElem h]; rfl
def putW (f : Lf → Lf × Int) (l : List Ex) (c : Int) (z : Ex) : Nat → Ex → Option Ex
  | 0, w => some w
  | k + 1, w => if (k : Int) = c then putW f l c z k w else match mEx f (getX l k) with
    | .error _ => none
    | .ok x => putW f l c z k (nodeE 11 [x, w, z])
theorem putW_skip {f : Lf → Lf × Int} {l : List Ex} {c : Int} {z w : Ex} {k : Nat} (hk : 0 < k) (h : (k : Int) - 1 = c) : putW f l c z k w = putW f l c z (k - 1) w := by
  obtain ⟨k, rfl⟩ : ∃ j, k = j + 1 := ⟨k - 1, by omega⟩
  rw [putW, if_pos (by omega)]; rfl
theorem putW_no {f : Lf → Lf × Int} {l : List Ex} {c : Int} {z w : Ex} {k : Nat} (hk : 0 < k) (h : ¬ (k : Int) - 1 = c) (he : ¬ errE (mEx f (getX l (k - 1))) = 0) : putW f l c z k w = none := by
  obtain ⟨k, rfl⟩ : ∃ j, k = j + 1 := ⟨k - 1, by omega⟩
  rw [putW, if_neg (by omega)]
  show (match mEx f (getX l k) with | .error _ => none | .ok x => _) = none
  cases hm : mEx f (getX l k) with
  | error y => rfl
  | ok x => rw [show k + 1 - 1 = k from rfl, hm] at he; exact absurd rfl he
theorem putW_yes {f : Lf → Lf × Int} {l : List Ex} {c : Int} {z w : Ex} {k : Nat} (hk : 0 < k) (h : ¬ (k : Int) - 1 = c) (he : errE (mEx f (getX l (k - 1))) = 0) : putW f l c z k w = putW f l c z (k - 1) (nodeE 11 [outE (mEx f (getX l (k - 1))), w, z]) := by
  obtain ⟨k, rfl⟩ : ∃ j, k = j + 1 := ⟨k - 1, by omega⟩
  rw [putW, if_neg (by omega)]
  show (match mEx f (getX l k) with | .error _ => none | .ok x => _) = putW f l c z k (nodeE 11 [outE (mEx f (getX l k)), w, z])
  obtain ⟨x, hx⟩ := errE_ok he (mEx_ne _)
  rw [show k + 1 - 1 = k from rfl] at hx
  rw [hx]; rfl
theorem putW_end {f : Lf → Lf × Int} {l : List Ex} {c : Int} {z w : Ex} {k : Nat} (h : ¬ 0 < k) : putW f l c z k w = some w := by
  obtain rfl : k = 0 := by omega
  rfl
def outD (d : Df) (n : Nat) (g : Lf) (w z : Ex) : Df := ⟨d.Name, d.T, d.Dims, d.Red.take n ++ d.Red.drop (n + 1), if d.Red.take n ++ d.Red.drop (n + 1) = [] then 0 else d.Fold, nodeE 11 [insideE g (axA d.Red n).Size, w, z]⟩
def gSel (d : Df) (n : Nat) (s : ByteArray) (l : List Ex) : Lf := match l.find? (selB d n s) with
  | some x => (solveT x s).1
  | none => zL
def zEnd (d : Df) : Ex := argN d.Body 2
def putD (d : Df) (n : Nat) (s : ByteArray) (l : List Ex) (c : Int) (v : Ex) (g : Lf) : Option Df :=
  match mEx (SR s g) v with
  | .error _ => none
  | .ok w => (putW (SR s g) l c (zEnd d) l.length w).map fun w' => outD d n g w' (zEnd d)
def chainD (d : Df) (s : ByteArray) : Option Df :=
  if d.Fold = 1 ∧ 0 ≤ axN s d.Red ∧ (guardT d.Body).ok = true ∧ 0 ≤ idxOf (selB d (axN s d.Red).toNat s) (guardT d.Body).conds then
    putD d (axN s d.Red).toNat s (guardT d.Body).conds (idxOf (selB d (axN s d.Red).toNat s) (guardT d.Body).conds) (guardT d.Body).val (gSel d (axN s d.Red).toNat s (guardT d.Body).conds)
  else none
def zD : Df := ⟨bs [], ⟨0, 0, 0, 0, 0⟩, [], [], 0, zEx⟩
def dfD (d : Df) (s : ByteArray) : Df × Bool := match chainD d s with
  | none => (zD, false)
  | some x => if validE x.Body = 0 then (x, true) else (zD, false)
def rawR (o : Option Df) : Df × Bool := match o with
  | none => (zD, false)
  | some x => (x, decide (validE x.Body = 0))
def dfR (d : Df) (s : ByteArray) : Df × Bool := rawR (chainD d s)
theorem def_eq {d : Df} {s : ByteArray} : (dfD d s).2 = (dfR d s).2 ∧ ((dfR d s).2 = true → dfD d s = dfR d s) ∧ ((dfR d s).2 = false → dfD d s = (zD, false)) := by
  unfold dfD dfR rawR
  cases chainD d s with
  | none => exact ⟨rfl, (fun h => by cases h), fun _ => rfl⟩
  | some x =>
    by_cases h : validE x.Body = 0
    · simp [h]
    · simp [h]

/-! ## The conjuncts are parts of the expression -/
mutual
theorem conj_nodes : ∀ (e x : Ex), x ∈ conjE e → x ∈ nodes e
  | .mk o n v t l i r, x, h => by
    rw [conjE] at h
    cases hd : decide (o = 16) with
    | true => rw [hd, cond_true] at h; rw [nodes]; exact List.mem_cons_of_mem _ (conjL_nodes r x h)
    | false => rw [hd, cond_false, List.mem_singleton] at h; rw [h, nodes]; exact List.mem_cons_self
theorem conjL_nodes : ∀ (l : List Ex) (x : Ex), x ∈ conjL l → x ∈ nodesL l
  | [], x, h => by rw [conjL] at h; cases h
  | a :: r, x, h => by
    rw [conjL] at h
    rw [nodesL]
    rcases List.mem_append.1 h with h | h
    · exact List.mem_append_left _ (conj_nodes a x h)
    · exact List.mem_append_right _ (conjL_nodes r x h)
end
theorem nodes_trans {e x : Ex} (hx : x ∈ nodes e) : ∀ y, y ∈ nodes x → y ∈ nodes e := by
  induction e using Ex.ind with
  | _ e ih =>
    intro y hy
    rw [wD] at hx
    rcases List.mem_cons.1 hx with rfl | hx
    · exact hy
    · rw [wD]
      refine List.mem_cons_of_mem _ ?_
      have : ∀ l : List Ex, (∀ a, a ∈ l → a ∈ e.Args) → x ∈ nodesL l → y ∈ nodesL l := by
        intro l hl hm
        induction l with
        | nil => rw [nodesL] at hm; cases hm
        | cons a r ihr =>
          rw [nodesL] at hm ⊢
          rcases List.mem_append.1 hm with h | h
          · exact List.mem_append_left _ (ih a (hl a (by simp)) h y hy)
          · exact List.mem_append_right _ (ihr (fun b hb => hl b (by simp [hb])) h)
      exact this e.Args (fun a h => h) hx
theorem allF_node {P : Lf → Prop} {e x : Ex} (h : e.allF P) (hx : x ∈ nodes e) : x.allF P := fun y hy => h y (nodes_trans hx y hy)
theorem argN_rng {e : Ex} (h : e.allF Lf.rng) (i : Nat) : (argN e i).Lin.rng := by
  unfold argN
  rw [List.getD_eq_getElem?_getD]
  cases hi : e.Args[i]? with
  | none => exact zL_rng
  | some a => exact Ex.allF_lin (Ex.allF_arg h (qF hi))
theorem num_rng {x : Ex} (h : nodeErr x = 0) (h1 : x.Op = 1) (h3 : x.Ty.Kind = 3) : r64 x.Val.N := by
  have h5 := (node_all h).2.2.2.2
  unfold formOk at h5
  rw [Bool.and_eq_true] at h5
  have h6 := h5.1
  rw [h1] at h6
  simp only [decide_true, Bool.true_and, Bool.not_not] at h6
  unfold valOk at h6
  rw [h3] at h6
  simp only [show decide ((3 : Int) = 2) = false from rfl, decide_true, cond_false, cond_true, Bool.and_eq_true, num31, decide_eq_true_eq] at h6
  unfold r64; omega
theorem fin_ok {b : Ex} {s : ByteArray} (hl : linOk b.Lin = true) (hr : b.Lin.rng) (hn : b.Op = 1 → b.Ty.Kind = 3 → r64 b.Val.N) : linOk (finS b s).1 = true ∧ (finS b s).1.rng := by
  have key : linOk (constF b).1 = true ∧ (constF b).1.rng := by
    unfold constF
    by_cases h2 : b.Op = 2
    · rw [decide_eq_true h2, cond_true]; exact ⟨hl, hr⟩
    · rw [decide_eq_false h2, cond_false]
      by_cases h1 : b.Op = 1
      · by_cases h3 : b.Ty.Kind = 3
        · rw [decide_eq_true h1, decide_eq_true h3]; exact ⟨rfl, hn h1 h3, fun m hm => by cases hm⟩
        · rw [decide_eq_false h3, Bool.and_false]; exact ⟨rfl, zL_rng⟩
      · rw [decide_eq_false h1, Bool.false_and]; exact ⟨rfl, zL_rng⟩
  unfold finS
  cases (!(constF b).2 || hasVar (constF b).1.L s)
  · exact key
  · exact ⟨rfl, zL_rng⟩
theorem solve_ok {c : Ex} (s : ByteArray) (hP : c.allF Lf.rng) : linOk (solveT c s).1 = true ∧ (solveT c s).1.rng := by
  unfold solveT
  by_cases h : validE c = 0 ∧ c.Op = 15
  · rw [decide_eq_true h.1, decide_eq_true h.2, Bool.and_self, cond_true]
    have hp := valid_part h.1
    obtain ⟨a, b, hab, hPa, hPb⟩ := two_args hp (by rw [h.2]; rfl)
    have ea : argN c 0 = a := by unfold argN; rw [hab]; rfl
    have eb : argN c 1 = b := by unfold argN; rw [hab]; rfl
    rw [ea, eb]
    have ra : a.Lin.rng := by have := argN_rng hP 0; rwa [ea] at this
    have rb : b.Lin.rng := by have := argN_rng hP 1; rwa [eb] at this
    have fa := fin_ok (s := s) (node_lin (partE_node hPa)) ra (num_rng (partE_node hPa))
    have fb := fin_ok (s := s) (node_lin (partE_node hPb)) rb (num_rng (partE_node hPb))
    unfold solveAB
    cases isNameB s
    · exact ⟨rfl, zL_rng⟩
    · cases isV a s
      · cases isV b s
        · exact ⟨rfl, zL_rng⟩
        · exact fa
      · exact fb
  · have : (decide (validE c = 0) && decide (c.Op = 15)) = false := by
      rw [Bool.and_eq_false_iff, decide_eq_false_iff_not, decide_eq_false_iff_not]
      by_cases h1 : validE c = 0
      · exact .inr fun h2 => h ⟨h1, h2⟩
      · exact .inl h1
    rw [this]; exact ⟨rfl, zL_rng⟩
theorem sel_first {p : Ex → Bool} : ∀ {l : List Ex} {k : Nat} {x : Ex}, l[k]? = some x → p x = true → (l.take k).any p = false → l.find? p = some x
  | [], _, _, h, _, _ => by simp at h
  | y :: r, 0, x, h, hp, _ => by simp at h; subst h; rw [List.find?_cons, hp]
  | y :: r, k + 1, x, h, hp, hn => by
    rw [List.take_succ_cons, List.any_cons, Bool.or_eq_false_iff] at hn
    rw [List.find?_cons, hn.1]
    exact sel_first (by simpa using h) hp hn.2
theorem sel_none {p : Ex → Bool} {l : List Ex} (h : l.any p = false) : l.find? p = none := by
  rw [List.find?_eq_none]
  intro x hx hp
  rw [List.any_eq_false] at h
  exact h x hx hp
theorem gSel_ok {d : Df} {n : Nat} {s : ByteArray} {l : List Ex} {B : Nat} (h : ∀ x, x ∈ l → x.allF Lf.rng ∧ x.wt ≤ B) : linOk (gSel d n s l) = true ∧ (gSel d n s l).rng ∧ (gSel d n s l).L.length ≤ B := by
  unfold gSel
  cases hf : l.find? (selB d n s) with
  | none => exact ⟨rfl, zL_rng, Nat.zero_le _⟩
  | some x =>
    have hx := List.mem_of_find?_eq_some hf
    obtain ⟨h1, h2⟩ := h x hx
    obtain ⟨k1, k2⟩ := solve_ok s h1
    exact ⟨k1, k2, Nat.le_trans (solve_len x s) h2⟩

theorem guard_ok {e : Ex} (h : (guardT e).ok = true) : ∃ a b z, e.Args = [a, b, z] ∧ (guardT e).conds = conjE a ∧ (guardT e).val = b ∧ argN e 2 = z ∧ e.Args[2]? = some z := by
  unfold guardT at h ⊢
  cases hv : (decide (validE e = 0) && decide (e.Op = 11)) with
  | false => rw [hv] at h; cases h
  | true =>
    rw [hv, cond_true] at h
    simp only [Bool.and_eq_true, decide_eq_true_eq] at hv
    obtain ⟨a, b, z, habc, _⟩ := three_args (valid_part hv.1) (by rw [hv.2]; rfl)
    have e0 : argN e 0 = a := by unfold argN; rw [habc]; rfl
    have e1 : argN e 1 = b := by unfold argN; rw [habc]; rfl
    have e2 : argN e 2 = z := by unfold argN; rw [habc]; rfl
    rw [e0, e1, e2] at h
    rw [cond_true, e0, e1, e2]
    unfold guardA at h ⊢
    cases hz : (decide (z.Op = 1) && decide (z.Val = zeroV z.Ty)) with
    | false => rw [hz] at h; cases h
    | true => exact ⟨a, b, z, habc, rfl, rfl, rfl, by rw [habc]; rfl⟩
theorem guard_parts {e : Ex} {B : Nat} (h : (guardT e).ok = true) (hP : e.allF Lf.rng) (hw : e.wt ≤ B) :
    (∀ x, x ∈ (guardT e).conds → x.allF Lf.rng ∧ x.wt ≤ B) ∧ ((guardT e).val.allF Lf.rng ∧ (guardT e).val.wt ≤ B) ∧ (zEx.wt ≤ B ∧ (argN e 2).wt ≤ B) ∧ (guardT e).conds.length ≤ B ∧ e.Args[2]? = some (argN e 2) := by
  obtain ⟨a, b, z, habc, h1, h2, h3, h4⟩ := guard_ok h
  have ha : a ∈ e.Args := by rw [habc]; simp
  have hb : b ∈ e.Args := by rw [habc]; simp
  have wa := Ex.arg_wt ha
  have wb := Ex.arg_wt hb
  rw [h1, h2]
  refine ⟨fun x hx => ?_, ⟨Ex.allF_arg hP hb, by omega⟩, ⟨by have := e.wt_pos; simp [zEx, Ex.wt, idxWt, argsWt]; omega, Nat.le_trans (argN_wt e 2) hw⟩, ?_, by rw [h3]; exact h4⟩
  · have hn := conj_nodes a x hx
    exact ⟨allF_node (Ex.allF_arg hP ha) hn, by have := node_mem_wt a x hn; omega⟩
  · have := conj_len a; omega

theorem node3_wt (op : Int) (a b c : Ex) : (nodeE op [a, b, c]).wt = 1 + a.wt + b.wt + c.wt := by
  unfold nodeE; rw [Ex.wt]; simp only [argsWt, idxWt, List.length_nil]; omega
theorem inside_wt (g n : Lf) : (insideE g n).wt = 7 + 2 * g.L.length + n.L.length := by
  unfold insideE nodeE idxE zeroE; simp only [Ex.wt, argsWt, idxWt, List.length_nil]; omega
theorem SR_wt {s : ByteArray} {g : Lf} {B : Nat} (hg : g.L.length ≤ B) (x : Ex) : (outE (mEx (SR s g) x)).wt ≤ (B + 1) * x.wt + 1 :=
  out_wt (fun l => by have := substR_len l g s; show (substR l s g).1.L.length ≤ _; omega) x

/-! ## The chain, arm by arm -/
theorem chain_no1 {d : Df} {s : ByteArray} (h : ¬ d.Fold = 1 ∨ axN s d.Red < 0) : chainD d s = none := by
  unfold chainD; refine if_neg fun k => ?_
  rcases h with h | h
  · exact h k.1
  · have := k.2.1; omega
theorem chain_no2 {d : Df} {s : ByteArray} (h : (guardT d.Body).ok = false) : chainD d s = none := by
  unfold chainD; refine if_neg fun k => ?_
  rw [h] at k; cases k.2.2.1
theorem chain_no3 {d : Df} {s : ByteArray} {n : Nat} (hn : axN s d.Red = n) (h : idxOf (selB d n s) (guardT d.Body).conds < 0) : chainD d s = none := by
  unfold chainD; refine if_neg fun k => ?_
  rw [hn] at k
  have := k.2.2.2
  rw [Int.toNat_natCast] at this
  omega
theorem chain_put {d : Df} {s : ByteArray} {n : Nat} (hf : d.Fold = 1) (hn : axN s d.Red = n) (hg : (guardT d.Body).ok = true) (h : ¬ idxOf (selB d n s) (guardT d.Body).conds < 0) :
    chainD d s = putD d n s (guardT d.Body).conds (idxOf (selB d n s) (guardT d.Body).conds) (guardT d.Body).val (gSel d n s (guardT d.Body).conds) := by
  unfold chainD
  rw [hn, Int.toNat_natCast, if_pos ⟨hf, by omega, hg, by omega⟩]
theorem put_no {d : Df} {n : Nat} {s : ByteArray} {l : List Ex} {c : Int} {v : Ex} {g : Lf} (h : ¬ errE (mEx (SR s g) v) = 0) : putD d n s l c v g = none := by
  unfold putD
  cases hm : mEx (SR s g) v with
  | error y => rfl
  | ok w => rw [hm] at h; exact absurd rfl h
theorem put_on {d : Df} {n : Nat} {s : ByteArray} {l : List Ex} {c : Int} {v : Ex} {g : Lf} (h : errE (mEx (SR s g) v) = 0) : putD d n s l c v g = (putW (SR s g) l c (zEnd d) l.length (outE (mEx (SR s g) v))).map fun w' => outD d n g w' (zEnd d) := by
  unfold putD
  obtain ⟨w, hw⟩ := errE_ok h (mEx_ne v)
  rw [hw]; rfl
theorem def_none {d : Df} {s : ByteArray} (h : chainD d s = none) : dfD d s = (zD, false) := by unfold dfD; rw [h]
theorem def_bad {d x : Df} {s : ByteArray} (h : chainD d s = some x) (hv : ¬ validE x.Body = 0) : dfD d s = (zD, false) := by unfold dfD; rw [h]; exact if_neg hv
theorem def_good {d x : Df} {s : ByteArray} (h : chainD d s = some x) (hv : validE x.Body = 0) : dfD d s = (x, true) := by unfold dfD; rw [h]; exact if_pos hv

theorem axN_lt {s : ByteArray} {l : List Ax} {n : Nat} (h : axN s l = n) : n < l.length ∧ (axA l n).Name = s := by
  unfold axN at h
  have key : ∀ (l : List Ax) (n : Nat), idxOf (fun a : Ax => decide (a.Name = s)) l = n → n < l.length ∧ (axA l n).Name = s := by
    intro l
    induction l with
    | nil => intro n h; simp only [idxOf] at h; omega
    | cons a r ih =>
      intro n h
      rw [idxOf] at h
      by_cases ha : a.Name = s
      · rw [decide_eq_true ha, cond_true] at h
        obtain rfl : n = 0 := by omega
        exact ⟨by simp, ha⟩
      · rw [decide_eq_false ha, cond_false] at h
        by_cases hr : idxOf (fun a : Ax => decide (a.Name = s)) r = -1
        · rw [decide_eq_true hr, cond_true] at h; omega
        · rw [decide_eq_false hr, cond_false] at h
          have hge := idxOf_ge (fun a : Ax => decide (a.Name = s)) r
          obtain ⟨m, rfl⟩ : ∃ m, n = m + 1 := ⟨n - 1, by omega⟩
          obtain ⟨h1, h2⟩ := ih m (by omega)
          exact ⟨by simpa using h1, h2⟩
  exact key l n h

/-! ## The reference's walk over the axes behind -/
theorem free_take {f : Lf} {l : List Ax} {j : Nat} {x : Ax} (h : l[j]? = some x) : freeL f (l.take (j + 1)) = (freeL f (l.take j) && !hasVar f.L x.Name) := by
  unfold freeL; rw [yY h, List.all_append]; simp
theorem free_stop {f : Lf} {l : List Ax} {j : Nat} {b : Bool} (h : ¬ (j < l.length ∧ (b && freeL f (l.take j)) = true)) : (b && freeL f (l.take j)) = (b && freeL f l) := by
  by_cases hj : j < l.length
  · have h0 : (b && freeL f (l.take j)) = false := by
      cases hh : (b && freeL f (l.take j)) with
      | false => rfl
      | true => exact absurd ⟨hj, hh⟩ h
    rw [h0]
    rw [Bool.and_eq_false_iff] at h0
    rcases h0 with h0 | h0
    · rw [h0]; rfl
    · have : freeL f l = false := by
        unfold freeL at h0 ⊢
        rw [List.all_eq_false] at h0 ⊢
        obtain ⟨x, hx, hh⟩ := h0
        exact ⟨x, List.mem_of_mem_take hx, hh⟩
      rw [this, Bool.and_false]
  · rw [List.take_of_length_le (by omega)]
theorem rem_next {l : List Ax} {n k : Nat} {x : Ax} (h : l[k]? = some x) : (l.take (k + 1)).eraseIdx n = (l.take k).eraseIdx n ++ (if k = n then [] else [x]) := by
  have hk : k < l.length := (List.getElem?_eq_some_iff.1 h).1
  have hl : (l.take k).length = k := by rw [List.length_take]; omega
  rw [yY h]
  by_cases h1 : n < k
  · rw [List.eraseIdx_append_of_lt_length (by omega), if_neg (by omega)]
  · rw [List.eraseIdx_append_of_length_le (by omega), hl, List.eraseIdx_of_length_le (l := l.take k) (by omega)]
    by_cases h2 : k = n
    · rw [if_pos h2, h2, Nat.sub_self]; rfl
    · rw [if_neg h2, List.eraseIdx_of_length_le (by simp; omega)]
theorem rem_all {l : List Ax} {n : Nat} : l.eraseIdx n = l.take n ++ l.drop (n + 1) := List.eraseIdx_eq_take_drop_succ l n
theorem chain_r1 {d : Df} {s : ByteArray} (h : (¬ d.Fold = 1 ∨ axN s d.Red < 0) ∨ (guardT d.Body).ok = false) : chainD d s = none := by
  rcases h with h | h
  · exact chain_no1 h
  · exact chain_no2 h
theorem mem_rem {l : List Ax} {n : Nat} {a : Ax} (h : a ∈ l.take n ++ l.drop (n + 1)) : a ∈ l := by
  rcases List.mem_append.1 h with h | h
  · exact List.mem_of_mem_take h
  · exact List.mem_of_mem_drop h
theorem rem_len (l : List Ax) (n : Nat) : (l.take n ++ l.drop (n + 1)).length ≤ l.length := by
  rw [List.length_append, List.length_take, List.length_drop]; omega
theorem putW_wt {s : ByteArray} {g : Lf} {l : List Ex} {c : Int} {z : Ex} (hg : g.L.length ≤ 1000) (hl : ∀ x, x ∈ l → x.wt ≤ 1000) (hz : z.wt ≤ 1000) : ∀ (k : Nat) (w w' : Ex), k ≤ l.length → putW (SR s g) l c z k w = some w' → w'.wt ≤ w.wt + 1003003 * k
  | 0, w, w', _, h => by rw [putW] at h; injection h with h; rw [h]; omega
  | k + 1, w, w', hk, h => by
    rw [putW] at h
    by_cases hc : (k : Int) = c
    · rw [if_pos hc] at h
      have := putW_wt hg hl hz k w w' (by omega) h
      omega
    · rw [if_neg hc] at h
      cases hm : mEx (SR s g) (getX l k) with
      | error y => rw [hm] at h; cases h
      | ok x =>
        rw [hm] at h
        have h1 := putW_wt hg hl hz k _ w' (by omega) h
        have h2 := SR_wt (s := s) hg (getX l k)
        rw [hm] at h2
        have h2 : x.wt ≤ (1000 + 1) * (getX l k).wt + 1 := h2
        have h3 := Nat.mul_le_mul_left 1001 (hl _ (qF (getX_get (l := l) (i := k) (by omega))))
        rw [node3_wt] at h1
        omega
theorem chain_fit {d x : Df} {s : ByteArray} (hw : d.Body.wt ≤ 1000) (hP : d.Body.allF Lf.rng) (h4 : ∀ a, a ∈ d.Red → a.Size.L.length ≤ 5864062014805) (h : chainD d s = some x) : x.Dims = d.Dims ∧ x.Red.length ≤ d.Red.length ∧ (∀ a, a ∈ x.Red → a ∈ d.Red) ∧ x.Body.wt ≤ 6000000000000 := by
  unfold chainD at h
  split at h
  · rename_i hk
    obtain ⟨hF, hn0, hgo, hc⟩ := hk
    obtain ⟨n, hn⟩ : ∃ n : Nat, axN s d.Red = n := ⟨(axN s d.Red).toNat, by omega⟩
    obtain ⟨hn2, hn3⟩ := axN_lt hn
    rw [hn, Int.toNat_natCast] at h
    obtain ⟨q1, q2, q3, q4, q5⟩ := guard_parts hgo hP hw
    obtain ⟨g1, g2, g3⟩ := gSel_ok (d := d) (n := n) (s := s) q1
    unfold putD at h
    cases hm : mEx (SR s (gSel d n s (guardT d.Body).conds)) (guardT d.Body).val with
    | error y => rw [hm] at h; cases h
    | ok w =>
      rw [hm] at h
      dsimp only at h
      cases hp : putW (SR s (gSel d n s (guardT d.Body).conds)) (guardT d.Body).conds (idxOf (selB d n s) (guardT d.Body).conds) (zEnd d) (guardT d.Body).conds.length w with
      | none => rw [hp] at h; cases h
      | some w' =>
        rw [hp] at h
        injection h with h
        subst h
        have k1 := putW_wt g3 (fun x hx => (q1 x hx).2) q3.2 _ w w' (Nat.le_refl _) hp
        have k2 := SR_wt (s := s) g3 (guardT d.Body).val
        rw [hm] at k2
        have k2 : w.wt ≤ (1000 + 1) * (guardT d.Body).val.wt + 1 := k2
        have k3 := Nat.mul_le_mul_left 1001 q2.2
        have k4 := h4 _ (qF (axA_get hn2))
        have k5 := Nat.mul_le_mul_left 1003003 q4
        have k6 : (zEnd d).wt ≤ 1000 := q3.2
        refine ⟨rfl, rem_len _ _, fun a ha => mem_rem ha, ?_⟩
        show (nodeE 11 [insideE _ _, w', zEnd d]).wt ≤ _
        rw [node3_wt, inside_wt]
        omega
  · cases h
theorem dfD_fit {d : Df} {s : ByteArray} (hw : d.Body.wt ≤ 1000) (hP : d.Body.allF Lf.rng) (h1 : d.Dims.length ≤ 1000000) (h2 : d.Red.length ≤ 1000000) (h3 : ∀ a, a ∈ d.Dims → a.Size.L.length ≤ 5864062014805) (h4 : ∀ a, a ∈ d.Red → a.Size.L.length ≤ 5864062014805) :
    (dfD d s).1.Dims.length ≤ 4294967296 ∧ (dfD d s).1.Red.length ≤ 4294967296 ∧ (∀ a, a ∈ (dfD d s).1.Dims → a.Size.L.length ≤ 6000000000000) ∧ (∀ a, a ∈ (dfD d s).1.Red → a.Size.L.length ≤ 6000000000000) ∧ (dfD d s).1.Body.wt ≤ 6000000000000 := by
  have zero : zD.Dims.length ≤ 4294967296 ∧ zD.Red.length ≤ 4294967296 ∧ (∀ a, a ∈ zD.Dims → a.Size.L.length ≤ 6000000000000) ∧ (∀ a, a ∈ zD.Red → a.Size.L.length ≤ 6000000000000) ∧ zD.Body.wt ≤ 6000000000000 :=
    ⟨by simp [zD], by simp [zD], fun a ha => by simp [zD] at ha, fun a ha => by simp [zD] at ha, by simp [zD, zEx, Ex.wt, idxWt, argsWt]⟩
  cases hc : chainD d s with
  | none => rw [def_none hc]; exact zero
  | some x =>
    by_cases hv : validE x.Body = 0
    · rw [def_good hc hv]
      obtain ⟨k1, k2, k3, k4⟩ := chain_fit hw hP h4 hc
      show x.Dims.length ≤ _ ∧ x.Red.length ≤ _ ∧ (∀ a, a ∈ x.Dims → _) ∧ (∀ a, a ∈ x.Red → _) ∧ x.Body.wt ≤ _
      refine ⟨by rw [k1]; omega, by omega, fun a ha => ?_, fun a ha => ?_, k4⟩
      · rw [k1] at ha; have := h3 a ha; omega
      · have := h4 a (k3 a ha); omega
    · rw [def_bad hc hv]; exact zero
theorem out_t {d : Df} {n : Nat} {g : Lf} {w z : Ex} (h : ((d.Red.take n ++ d.Red.drop (n + 1)).length : Int) = 0) : outD d n g w z = ⟨d.Name, d.T, d.Dims, d.Red.take n ++ d.Red.drop (n + 1), 0, nodeE 11 [insideE g (axA d.Red n).Size, w, z]⟩ := by
  unfold outD; rw [if_pos (List.eq_nil_of_length_eq_zero (by omega))]
theorem out_f {d : Df} {n : Nat} {g : Lf} {w z : Ex} (h : ¬ ((d.Red.take n ++ d.Red.drop (n + 1)).length : Int) = 0) : outD d n g w z = ⟨d.Name, d.T, d.Dims, d.Red.take n ++ d.Red.drop (n + 1), d.Fold, nodeE 11 [insideE g (axA d.Red n).Size, w, z]⟩ := by
  unfold outD; rw [if_neg fun k => h (by rw [k]; rfl)]
end Go.Br
end
