/-
  Sums of linear forms, exactly, in plain Lean: numbers of 64 and of 128 bits, merges of ascending lists, substitution.
  The reference's substitution of forms, in plain Lean: the sum, and the mapping of all forms of an expression.
  What the substitution of a form keeps, in plain Lean: valid forms stay valid, the name is gone, the shape of an expression stays.
  The comparison of expressions is a total order, in plain Lean.
  Layer 14 in plain Lean: short names, replacing, the names in forms, the example that every statement checks.
  Layer 14 in plain Lean: what the statement on elimination asks of a substitution.
  Conditions: none.
-/
import Derived.Test.YtnnkemdiknefaaaGreatDoorPlain
section
set_option linter.unusedSimpArgs false
set_option linter.unusedVariables false
namespace Go.Br
open Go Go.Eng Go.L41

/-! ## The order of names -/
theorem bl_cons (a b : UInt8) (x y : List UInt8) : Op.bytesLess (a :: x) (b :: y) = true ↔ a < b ∨ (a = b ∧ Op.bytesLess x y = true) := by
  rw [Op.bytesLess]
  by_cases h1 : a < b <;> by_cases h2 : a = b <;> simp [h1, h2]
theorem bl_trans : ∀ (x y z : List UInt8), Op.bytesLess x y = true → Op.bytesLess y z = true → Op.bytesLess x z = true
  | [], [], _, h, _ => by simp [Op.bytesLess] at h
  | [], _ :: _, [], _, h => by simp [Op.bytesLess] at h
  | [], _ :: _, _ :: _, _, _ => by simp [Op.bytesLess]
  | _ :: _, [], _, h, _ => by simp [Op.bytesLess] at h
  | _ :: _, _ :: _, [], _, h => by simp [Op.bytesLess] at h
  | a :: x, b :: y, c :: z, h, k => by
    rw [bl_cons] at h k ⊢
    rcases h with h | ⟨rfl, h⟩
    · rcases k with k | ⟨rfl, k⟩
      · exact .inl (UInt8.lt_trans h k)
      · exact .inl h
    · rcases k with k | ⟨rfl, k⟩
      · exact .inl k
      · exact .inr ⟨rfl, bl_trans x y z h k⟩
theorem bl_tri : ∀ (x y : List UInt8), Op.bytesLess x y = false → Op.bytesLess y x = false → x = y
  | [], [], _, _ => rfl
  | [], _ :: _, h, _ => by simp [Op.bytesLess] at h
  | _ :: _, [], _, h => by simp [Op.bytesLess] at h
  | a :: x, b :: y, h, k => by
    have h1 : ¬ Op.bytesLess (a :: x) (b :: y) = true := by rw [h]; simp
    have k1 : ¬ Op.bytesLess (b :: y) (a :: x) = true := by rw [k]; simp
    rw [bl_cons] at h1 k1
    have e : a = b := UInt8.le_antisymm (UInt8.not_lt.1 fun c => k1 (.inl c)) (UInt8.not_lt.1 fun c => h1 (.inl c))
    subst e
    have h2 : Op.bytesLess x y = false := by
      cases c : Op.bytesLess x y with
      | false => rfl
      | true => exact absurd (.inr ⟨rfl, c⟩) h1
    have k2 : Op.bytesLess y x = false := by
      cases c : Op.bytesLess y x with
      | false => rfl
      | true => exact absurd (.inr ⟨rfl, c⟩) k1
    rw [bl_tri x y h2 k2]
theorem bl_irr : ∀ (x : List UInt8), Op.bytesLess x x = false
  | [] => by simp [Op.bytesLess]
  | a :: x => by
    cases c : Op.bytesLess (a :: x) (a :: x) with
    | false => rfl
    | true =>
      rw [bl_cons] at c
      rcases c with c | ⟨_, c⟩
      · exact absurd c (UInt8.lt_irrefl a)
      · rw [bl_irr x] at c; cases c
theorem strLt_tri {a b : ByteArray} (h : strLt a b = false) (k : strLt b a = false) : a = b := by
  have h1 := bl_tri _ _ h k
  rw [ByteArray.toList_eq, ByteArray.toList_eq] at h1
  exact ByteArray.ext (Array.toList_inj.1 h1)
theorem strLt_irr (a : ByteArray) : strLt a a = false := bl_irr _
theorem strLt_trans {a b c : ByteArray} (h : strLt a b = true) (k : strLt b c = true) : strLt a c = true := bl_trans _ _ _ h k

/-! ## Numbers -/
def r64 (n : Int) : Prop := -9223372036854775808 ≤ n ∧ n ≤ 9223372036854775807
instance (n : Int) : Decidable (r64 n) := by unfold r64; infer_instance
def w64 (n : Int) : Int := IntKind.i64.wrap n
theorem w64_in {n : Int} (h : r64 n) : w64 n = n := IntWalk.i64_in n h
theorem w64_eq (n : Int) : w64 n = (n + 9223372036854775808) % 18446744073709551616 - 9223372036854775808 := by unfold w64; rw [IntKind.wrap_i64]
theorem u64_eq (n : Int) : IntKind.u64.wrap n = n % 18446744073709551616 := by rw [IntKind.wrap_u64]
theorem plus_ok {a b : Int} (ha : r64 a) (hb : r64 b) : decide (decide (a < w64 (a + b)) = decide (0 < b)) = decide (r64 (a + b)) := by
  refine decide_eq_decide.2 ?_
  rw [w64_eq, decide_eq_decide]
  unfold r64 at *
  omega

theorem sq_le {a b : Nat} (ha : a ≤ 4294967295) (hb : b ≤ 4294967295) : a * b ≤ 18446744065119617025 := Nat.mul_le_mul ha hb
def hiN (a b : Nat) : Nat :=
  (a / 4294967296) * (b / 4294967296) + ((a / 4294967296) * (b % 4294967296) + ((a % 4294967296) * (b % 4294967296)) / 4294967296) / 4294967296 +
    ((a % 4294967296) * (b / 4294967296) + ((a / 4294967296) * (b % 4294967296) + ((a % 4294967296) * (b % 4294967296)) / 4294967296) % 4294967296) / 4294967296
theorem mul_parts (a b : Nat) : a * b = (a / 4294967296) * (b / 4294967296) * 18446744073709551616 + ((a / 4294967296) * (b % 4294967296) + (a % 4294967296) * (b / 4294967296)) * 4294967296 + (a % 4294967296) * (b % 4294967296) := by
  have ea : a = (a / 4294967296) * 4294967296 + a % 4294967296 := by omega
  have eb : b = (b / 4294967296) * 4294967296 + b % 4294967296 := by omega
  generalize a / 4294967296 = a1 at *
  generalize a % 4294967296 = a0 at *
  generalize b / 4294967296 = b1 at *
  generalize b % 4294967296 = b0 at *
  subst ea eb
  rw [Nat.add_mul, Nat.mul_add, Nat.mul_add, Nat.add_mul]
  have e1 : a1 * 4294967296 * (b1 * 4294967296) = a1 * b1 * 18446744073709551616 := by
    rw [Nat.mul_mul_mul_comm]
  have e2 : a1 * 4294967296 * b0 = a1 * b0 * 4294967296 := by rw [Nat.mul_right_comm]
  have e3 : a0 * (b1 * 4294967296) = a0 * b1 * 4294967296 := by rw [Nat.mul_assoc]
  rw [e1, e2, e3]
  omega
theorem hi_lo (a b : Nat) : hiN a b * 18446744073709551616 + (a * b) % 18446744073709551616 = a * b := by
  have h := mul_parts a b
  unfold hiN
  generalize a * b = n at *
  generalize (a / 4294967296) * (b / 4294967296) = p11 at *
  generalize (a / 4294967296) * (b % 4294967296) = p10 at *
  generalize (a % 4294967296) * (b / 4294967296) = p01 at *
  generalize (a % 4294967296) * (b % 4294967296) = p00 at *
  omega
theorem part_le {a b : Nat} (ha : a < 18446744073709551616) (hb : b < 18446744073709551616) :
    (a / 4294967296) * (b / 4294967296) ≤ 18446744065119617025 ∧ (a / 4294967296) * (b % 4294967296) ≤ 18446744065119617025 ∧ (a % 4294967296) * (b / 4294967296) ≤ 18446744065119617025 ∧ (a % 4294967296) * (b % 4294967296) ≤ 18446744065119617025 :=
  ⟨sq_le (by omega) (by omega), sq_le (by omega) (by omega), sq_le (by omega) (by omega), sq_le (by omega) (by omega)⟩
theorem hi_zero {a b : Nat} : hiN a b = 0 ↔ a * b < 18446744073709551616 := by
  have h := hi_lo a b
  constructor
  · intro e; rw [e] at h; omega
  · intro e
    by_cases c : hiN a b = 0
    · exact c
    · exfalso; generalize a * b = n at *; generalize hiN a b = m at *; omega
theorem hi_bounds {a b : Nat} (ha : a < 18446744073709551616) (hb : b < 18446744073709551616) :
    (a / 4294967296) * (b % 4294967296) + ((a % 4294967296) * (b % 4294967296)) / 4294967296 < 18446744073709551616 ∧
    (a % 4294967296) * (b / 4294967296) + ((a / 4294967296) * (b % 4294967296) + ((a % 4294967296) * (b % 4294967296)) / 4294967296) % 4294967296 < 18446744073709551616 ∧
    (a / 4294967296) * (b / 4294967296) + ((a / 4294967296) * (b % 4294967296) + ((a % 4294967296) * (b % 4294967296)) / 4294967296) / 4294967296 < 18446744073709551616 ∧ hiN a b < 18446744073709551616 := by
  obtain ⟨h1, h2, h3, h4⟩ := part_le ha hb
  have h5 := hi_lo a b
  have h6 : a * b ≤ 18446744073709551615 * 18446744073709551615 := Nat.mul_le_mul (by omega) (by omega)
  refine ⟨?_, ?_, ?_, ?_⟩
  · generalize (a / 4294967296) * (b % 4294967296) = p10 at *
    generalize (a % 4294967296) * (b % 4294967296) = p00 at *
    omega
  · generalize (a / 4294967296) * (b % 4294967296) = p10 at *
    generalize (a % 4294967296) * (b / 4294967296) = p01 at *
    generalize (a % 4294967296) * (b % 4294967296) = p00 at *
    omega
  · generalize (a / 4294967296) * (b / 4294967296) = p11 at *
    generalize (a / 4294967296) * (b % 4294967296) = p10 at *
    generalize (a % 4294967296) * (b % 4294967296) = p00 at *
    omega
  · generalize a * b = n at *
    generalize hiN a b = m at *
    omega
/-- The product of two numbers, where it is one. -/
def timesT (x y : Int) : Int × Bool := if r64 (x * y) then (x * y, true) else (0, false)
theorem magn_neg {x : Int} (h : r64 x) (hn : x < 0) : IntKind.u64.wrap (-(IntKind.u64.wrap x)) = (x.natAbs : Int) := by
  unfold r64 at h; rw [u64_eq, u64_eq]; omega
theorem magn_pos {x : Int} (h : r64 x) (hn : ¬ x < 0) : IntKind.u64.wrap x = (x.natAbs : Int) := by
  unfold r64 at h; rw [u64_eq]; omega
theorem magn_le {x : Int} (h : r64 x) : x.natAbs ≤ 9223372036854775808 := by unfold r64 at h; omega
theorem abs_mul (x y : Int) : (x * y).natAbs = x.natAbs * y.natAbs := Int.natAbs_mul x y
theorem sign_mul {x y : Int} (hx : x < 0) (hy : ¬ y < 0) : x * y ≤ 0 := Int.mul_nonpos_of_nonpos_of_nonneg (by omega) (by omega)
theorem sign_mul2 {x y : Int} (hx : ¬ x < 0) (hy : y < 0) : x * y ≤ 0 := Int.mul_nonpos_of_nonneg_of_nonpos (by omega) (by omega)
theorem sign_mul3 {x y : Int} (hx : x < 0) (hy : y < 0) : 0 ≤ x * y := Int.mul_nonneg_of_nonpos_of_nonpos (by omega) (by omega)
theorem sign_mul4 {x y : Int} (hx : ¬ x < 0) (hy : ¬ y < 0) : 0 ≤ x * y := Int.mul_nonneg (by omega) (by omega)
theorem neg_mul {x y : Int} (h : (decide (x < 0) == decide (y < 0)) = false) : x * y ≤ 0 := by
  by_cases hx : x < 0 <;> by_cases hy : y < 0
  · simp [hx, hy] at h
  · exact sign_mul hx hy
  · exact sign_mul2 hx hy
  · simp [hx, hy] at h
theorem pos_mul {x y : Int} (h : (decide (x < 0) == decide (y < 0)) = true) : 0 ≤ x * y := by
  by_cases hx : x < 0 <;> by_cases hy : y < 0
  · exact sign_mul3 hx hy
  · simp [hx, hy] at h
  · simp [hx, hy] at h
  · exact sign_mul4 hx hy
theorem times_big {x y : Int} (hx : r64 x) (hy : r64 y) (h : hiN x.natAbs y.natAbs ≠ 0 ∨ 9223372036854775808 < x.natAbs * y.natAbs % 18446744073709551616) : timesT x y = (0, false) := by
  unfold timesT
  refine if_neg fun k => ?_
  have h1 := abs_mul x y
  unfold r64 at k
  have h2 : x.natAbs * y.natAbs < 18446744073709551616 := by rw [← h1]; omega
  rcases h with h | h
  · exact h (hi_zero.2 h2)
  · rw [Nat.mod_eq_of_lt h2, ← h1] at h; omega
theorem times_edge {x y : Int} (h : (decide (x < 0) == decide (y < 0)) = true) (h2 : x.natAbs * y.natAbs % 18446744073709551616 = 9223372036854775808) : timesT x y = (0, false) := by
  unfold timesT
  refine if_neg fun k => ?_
  have h1 := abs_mul x y
  have h3 := pos_mul h
  unfold r64 at k
  rw [← h1] at h2
  omega
theorem times_neg {x y : Int} (h : (decide (x < 0) == decide (y < 0)) = false) (h0 : hiN x.natAbs y.natAbs = 0) (hl : x.natAbs * y.natAbs % 18446744073709551616 ≤ 9223372036854775808) : timesT x y = (IntKind.i64.wrap (IntKind.u64.wrap (-((x.natAbs * y.natAbs % 18446744073709551616 : Nat) : Int))), true) := by
  have h1 := abs_mul x y
  have h3 := neg_mul h
  have h4 := hi_zero.1 h0
  rw [Nat.mod_eq_of_lt h4] at hl ⊢
  rw [← h1] at hl ⊢
  unfold timesT
  rw [if_pos (by unfold r64; omega), u64_eq]
  congr 1
  show _ = w64 _
  rw [w64_eq]; omega
theorem times_pos {x y : Int} (h : (decide (x < 0) == decide (y < 0)) = true) (h0 : hiN x.natAbs y.natAbs = 0) (hl : x.natAbs * y.natAbs % 18446744073709551616 < 9223372036854775808) : timesT x y = (IntKind.i64.wrap ((x.natAbs * y.natAbs % 18446744073709551616 : Nat) : Int), true) := by
  have h1 := abs_mul x y
  have h3 := pos_mul h
  have h4 := hi_zero.1 h0
  rw [Nat.mod_eq_of_lt h4] at hl ⊢
  rw [← h1] at hl ⊢
  unfold timesT
  rw [if_pos (by unfold r64; omega)]
  congr 1
  show _ = w64 _
  rw [w64_eq]; omega
theorem times_f {x y : Int} (hx : r64 x) (hy : r64 y) (c : (¬((hiN x.natAbs y.natAbs : Nat) : Int) = 0 ∨ 9223372036854775808 < ((x.natAbs * y.natAbs % 18446744073709551616 : Nat) : Int)) ∨ ((x.natAbs * y.natAbs % 18446744073709551616 : Nat) : Int) = 9223372036854775808 ∧ (decide (x < 0) == decide (y < 0)) = true) : timesT x y = (0, false) := by
  rcases c with (c | c) | ⟨c, d⟩
  · exact times_big hx hy (.inl (by omega))
  · exact times_big hx hy (.inr (by omega))
  · exact times_edge d (by omega)
def midN (a b : Nat) : Nat := (a % 4294967296) * (b % 4294967296) / 4294967296 + (a / 4294967296) * (b % 4294967296) % 4294967296 + (a % 4294967296) * (b / 4294967296) % 4294967296
def wHi (a b : Nat) : Nat := (a / 4294967296) * (b / 4294967296) + (a / 4294967296) * (b % 4294967296) / 4294967296 + (a % 4294967296) * (b / 4294967296) / 4294967296 + midN a b / 4294967296
def wLo (a b : Nat) : Nat := midN a b % 4294967296 * 4294967296 + (a % 4294967296) * (b % 4294967296) % 4294967296
abbrev Tr := ByteArray × Int × Int
def mergeN : Nat → List Mono → List Mono → List Tr
  | 0, _, _ => []
  | _ + 1, [], [] => []
  | n + 1, a :: ar, [] => (a.Name, a.By, 0) :: mergeN n ar []
  | n + 1, [], b :: bs => (b.Name, 0, b.By) :: mergeN n [] bs
  | n + 1, a :: ar, b :: bs =>
    bif strLt a.Name b.Name then (a.Name, a.By, 0) :: mergeN n ar (b :: bs)
    else bif strLt b.Name a.Name then (b.Name, 0, b.By) :: mergeN n (a :: ar) bs
    else (a.Name, a.By, b.By) :: mergeN n ar bs
theorem mergeN_fuel : ∀ (n : Nat) (a b : List Mono), a.length + b.length ≤ n → mergeN n a b = mergeN (a.length + b.length) a b
  | 0, a, b, h => by rw [show a.length + b.length = 0 by omega]
  | n + 1, [], [], _ => rfl
  | n + 1, a :: ar, [], h => by
    have ih := mergeN_fuel n ar [] (by simp at h ⊢; omega)
    show (a.Name, a.By, 0) :: mergeN n ar [] = (a.Name, a.By, 0) :: mergeN (ar.length) ar []
    rw [ih]; rfl
  | n + 1, [], b :: bs, h => by
    have ih := mergeN_fuel n [] bs (by simp at h ⊢; omega)
    have e : ([] : List Mono).length + (b :: bs).length = bs.length + 1 := by simp
    rw [e, mergeN, mergeN, ih]; simp
  | n + 1, a :: ar, b :: bs, h => by
    have h' : ar.length + 1 + (bs.length + 1) ≤ n + 1 := by simpa using h
    have i1 := mergeN_fuel n ar (b :: bs) (by simp; omega)
    have i2 := mergeN_fuel n (a :: ar) bs (by simp; omega)
    have i3 := mergeN_fuel n ar bs (by omega)
    have j1 := mergeN_fuel (ar.length + bs.length + 1) ar (b :: bs) (by simp; omega)
    have j2 := mergeN_fuel (ar.length + bs.length + 1) (a :: ar) bs (by simp; omega)
    have j3 := mergeN_fuel (ar.length + bs.length + 1) ar bs (by omega)
    have e : (a :: ar).length + (b :: bs).length = (ar.length + bs.length + 1) + 1 := by simp; omega
    rw [e, mergeN, mergeN, i1, i2, i3, j1, j2, j3]
def mergeL (a b : List Mono) : List Tr := mergeN (a.length + b.length) a b
theorem mergeL_nil : mergeL [] [] = [] := rfl
theorem mergeL_l (a : Mono) (ar : List Mono) : mergeL (a :: ar) [] = (a.Name, a.By, 0) :: mergeL ar [] := rfl
theorem mergeL_r (b : Mono) (bs : List Mono) : mergeL [] (b :: bs) = (b.Name, 0, b.By) :: mergeL [] bs := by
  unfold mergeL; rw [show ([] : List Mono).length + (b :: bs).length = bs.length + 1 by simp, mergeN]; simp
theorem mergeL_c (a b : Mono) (ar bs : List Mono) : mergeL (a :: ar) (b :: bs) = bif strLt a.Name b.Name then (a.Name, a.By, 0) :: mergeL ar (b :: bs) else bif strLt b.Name a.Name then (b.Name, 0, b.By) :: mergeL (a :: ar) bs else (a.Name, a.By, b.By) :: mergeL ar bs := by
  unfold mergeL
  rw [show (a :: ar).length + (b :: bs).length = (ar.length + bs.length + 1) + 1 by simp; omega, mergeN]
  rw [mergeN_fuel _ ar (b :: bs) (by simp; omega), mergeN_fuel _ (a :: ar) bs (by simp; omega), mergeN_fuel _ ar bs (by omega)]
theorem mergeL_len (a b : List Mono) : (mergeL a b).length ≤ a.length + b.length := by
  have : ∀ (n : Nat) (a b : List Mono), (mergeN n a b).length ≤ n := by
    intro n
    induction n with
    | zero => intro a b; simp [mergeN]
    | succ n ih =>
      intro a b
      cases a with
      | nil =>
        cases b with
        | nil => simp [mergeN]
        | cons b bs => simp only [mergeN, List.length_cons]; have := ih [] bs; omega
      | cons a ar =>
        cases b with
        | nil => simp only [mergeN, List.length_cons]; have := ih ar []; omega
        | cons b bs =>
          have h1 := ih ar (b :: bs)
          have h2 := ih (a :: ar) bs
          have h3 := ih ar bs
          simp only [mergeN]
          cases strLt a.Name b.Name <;> cases strLt b.Name a.Name <;> simp only [cond_true, cond_false, List.length_cons] <;> omega
  exact this _ a b

def hdM (l : List Mono) : Mono := l.headD ⟨bs [], 0⟩
theorem hd_get {l : List Mono} (h : 0 < l.length) : l[0]? = some (hdM l) := by
  cases l with
  | nil => simp at h
  | cons x r => rfl
def mC2 (a b : List Mono) : Bool := decide ((b.length : Int) = 0) || (decide ((0 : Int) < a.length) && strLt (hdM a).Name (hdM b).Name)
def mC3 (a b : List Mono) : Bool := decide ((a.length : Int) = 0) || strLt (hdM b).Name (hdM a).Name
theorem mC2_b {a b : List Mono} (c : mC2 a b = false) : 0 < b.length := by
  unfold mC2 at c
  cases b with
  | nil => simp at c
  | cons y s => simp
theorem merge_left {a b : List Mono} (h : 0 < a.length ∨ 0 < b.length) (c : mC2 a b = true) : 0 < a.length ∧ mergeL a b = ((hdM a).Name, (hdM a).By, 0) :: mergeL (a.drop 1) b := by
  unfold mC2 at c
  cases a with
  | nil =>
    cases b with
    | nil => simp at h
    | cons y s => simp at c; omega
  | cons x r =>
    refine ⟨by simp, ?_⟩
    cases b with
    | nil => rw [mergeL_l]; rfl
    | cons y s =>
      have c2 : strLt x.Name y.Name = true := by
        rw [Bool.or_eq_true, Bool.and_eq_true, decide_eq_true_eq] at c
        rcases c with c | c
        · simp at c; omega
        · exact c.2
      rw [mergeL_c, c2]; rfl
theorem merge_right {a b : List Mono} (h : 0 < a.length ∨ 0 < b.length) (c : mC2 a b = false) (c3 : mC3 a b = true) : 0 < b.length ∧ mergeL a b = ((hdM b).Name, 0, (hdM b).By) :: mergeL a (b.drop 1) := by
  unfold mC2 at c
  unfold mC3 at c3
  cases b with
  | nil => simp at c
  | cons y s =>
    refine ⟨by simp, ?_⟩
    cases a with
    | nil => rw [mergeL_r]; rfl
    | cons x r =>
      have c2 : strLt x.Name y.Name = false := by
        rw [Bool.or_eq_false_iff, Bool.and_eq_false_iff] at c
        rcases c.2 with c | c
        · simp at c
        · exact c
      have c4 : strLt y.Name x.Name = true := by
        rw [Bool.or_eq_true, decide_eq_true_eq] at c3
        rcases c3 with c | c
        · simp at c; omega
        · exact c
      rw [mergeL_c, c2, c4]; rfl
theorem merge_both {a b : List Mono} (c : mC2 a b = false) (c3 : mC3 a b = false) : 0 < a.length ∧ 0 < b.length ∧ mergeL a b = ((hdM a).Name, (hdM a).By, (hdM b).By) :: mergeL (a.drop 1) (b.drop 1) := by
  unfold mC2 at c
  unfold mC3 at c3
  cases b with
  | nil => simp at c
  | cons y s =>
    cases a with
    | nil => simp at c3
    | cons x r =>
      refine ⟨by simp, by simp, ?_⟩
      have c2 : strLt x.Name y.Name = false := by
        rw [Bool.or_eq_false_iff, Bool.and_eq_false_iff] at c
        rcases c.2 with c | c
        · simp at c
        · exact c
      have c4 : strLt y.Name x.Name = false := by
        rw [Bool.or_eq_false_iff] at c3
        exact c3.2
      rw [mergeL_c, c2, c4]; rfl

/-! ## Sums -/
def trV (t : Tr) : Int := t.2.1 + t.2.2
def trOk (t : Tr) : Bool := decide (r64 (trV t))
/-- The monomials of a sum; the numbers as the machine has them. -/
def sumW (ts : List Tr) : List Mono := ts.filterMap fun t => if w64 (trV t) = 0 then none else some ⟨t.1, w64 (trV t)⟩
theorem sumW_next (d : List Tr) (t : Tr) : sumW (d ++ [t]) = sumW d ++ (if w64 (trV t) = 0 then [] else [⟨t.1, w64 (trV t)⟩]) := by
  unfold sumW; rw [List.filterMap_append]; congr 1
  by_cases h : w64 (trV t) = 0 <;> simp [h]
theorem sumW_len (d : List Tr) : (sumW d).length ≤ d.length := List.length_filterMap_le _ _
def okF (ok : Bool) (d : List Tr) : Bool := d.foldl (fun b t => b && decide (r64 (t.2.1 + t.2.2))) ok
theorem okF_next (ok : Bool) (d : List Tr) (t : Tr) : okF ok (d ++ [t]) = (okF ok d && decide (r64 (t.2.1 + t.2.2))) := by unfold okF; rw [List.foldl_append]; rfl
theorem okF_all (ok : Bool) (d : List Tr) : okF ok d = (ok && d.all trOk) := by
  induction d generalizing ok with
  | nil => simp [okF]
  | cons t r ih =>
    show okF (ok && trOk t) r = _
    rw [ih, List.all_cons, Bool.and_assoc]
theorem mergeN_rng : ∀ (n : Nat) (a b : List Mono), (∀ m, m ∈ a → r64 m.By) → (∀ m, m ∈ b → r64 m.By) → ∀ t, t ∈ mergeN n a b → r64 t.2.1 ∧ r64 t.2.2
  | 0, _, _, _, _, t, ht => by simp [mergeN] at ht
  | _ + 1, [], [], _, _, t, ht => by simp [mergeN] at ht
  | n + 1, x :: r, [], h1, h2, t, ht => by
    simp only [mergeN] at ht
    rcases List.mem_cons.1 ht with rfl | ht
    · exact ⟨h1 x (by simp), by show r64 0; unfold r64; omega⟩
    · exact mergeN_rng n r [] (fun m hm => h1 m (by simp [hm])) h2 t ht
  | n + 1, [], y :: s, h1, h2, t, ht => by
    simp only [mergeN] at ht
    rcases List.mem_cons.1 ht with rfl | ht
    · exact ⟨by show r64 0; unfold r64; omega, h2 y (by simp)⟩
    · exact mergeN_rng n [] s h1 (fun m hm => h2 m (by simp [hm])) t ht
  | n + 1, x :: r, y :: s, h1, h2, t, ht => by
    have g1 := mergeN_rng n r (y :: s) (fun m hm => h1 m (by simp [hm])) h2 t
    have g2 := mergeN_rng n (x :: r) s h1 (fun m hm => h2 m (by simp [hm])) t
    have g3 := mergeN_rng n r s (fun m hm => h1 m (by simp [hm])) (fun m hm => h2 m (by simp [hm])) t
    have z0 : r64 0 := by unfold r64; omega
    simp only [mergeN] at ht
    cases c1 : strLt x.Name y.Name with
    | true =>
      rw [c1, cond_true] at ht
      rcases List.mem_cons.1 ht with rfl | ht
      · exact ⟨h1 x (by simp), z0⟩
      · exact g1 ht
    | false =>
      rw [c1, cond_false] at ht
      cases c2 : strLt y.Name x.Name with
      | true =>
        rw [c2, cond_true] at ht
        rcases List.mem_cons.1 ht with rfl | ht
        · exact ⟨z0, h2 y (by simp)⟩
        · exact g2 ht
      | false =>
        rw [c2, cond_false] at ht
        rcases List.mem_cons.1 ht with rfl | ht
        · exact ⟨h1 x (by simp), h2 y (by simp)⟩
        · exact g3 ht
theorem merge_rng {a b : List Mono} (h1 : ∀ m, m ∈ a → r64 m.By) (h2 : ∀ m, m ∈ b → r64 m.By) {d s : List Tr} {t : Tr} (h : mergeL a b = d ++ t :: s) : r64 t.2.1 ∧ r64 t.2.2 ∧ d.length ≤ a.length + b.length := by
  have h3 := mergeL_len a b
  rw [h] at h3
  simp only [List.length_append, List.length_cons] at h3
  obtain ⟨k1, k2⟩ := mergeN_rng _ a b h1 h2 t (by rw [show mergeN (a.length + b.length) a b = mergeL a b from rfl, h]; simp)
  exact ⟨k1, k2, by omega⟩
def addT (k : Int) (ts : List Tr) : Lf × Int := if r64 k ∧ ts.all trOk = true then (⟨k, sumW ts⟩, 0) else (zL, 3)
def addL (a b : Lf) : Lf × Int := if linOk a = true ∧ linOk b = true then addT (a.K + b.K) (mergeL a.L b.L) else (zL, 1)
theorem add_bad {a b : Lf} (h : ¬ (linOk a = true ∧ linOk b = true)) : addL a b = (zL, 1) := by unfold addL; rw [if_neg h]
theorem add_c1 {a b : Lf} (c : ¬ linErr a = 0 ∨ ¬ linErr b = 0) : addL a b = (zL, 1) := add_bad fun h => by
  rcases c with c | c
  · have := linErr_ne c; rw [h.1] at this; cases this
  · have := linErr_ne c; rw [h.2] at this; cases this
theorem add_no {a b : Lf} (h1 : linOk a = true) (h2 : linOk b = true) (h : okF (decide (r64 (a.K + b.K))) (mergeL a.L b.L) = false) : addL a b = (zL, 3) := by
  unfold addL addT
  rw [if_pos ⟨h1, h2⟩, if_neg fun k => ?_]
  rw [okF_all, decide_eq_true k.1, k.2] at h
  cases h
theorem add_ok {a b : Lf} (h1 : linOk a = true) (h2 : linOk b = true) (h : okF (decide (r64 (a.K + b.K))) (mergeL a.L b.L) = true) : addL a b = (⟨w64 (a.K + b.K), sumW (mergeL a.L b.L)⟩, 0) := by
  rw [okF_all, Bool.and_eq_true, decide_eq_true_eq] at h
  unfold addL addT
  rw [if_pos ⟨h1, h2⟩, if_pos h, w64_in h.1]
def scaleM (by_ : Int) (l : List Mono) : List Mono := l.map fun m => ⟨m.Name, m.By * by_⟩
def scaleOk (by_ : Int) (l : List Mono) : Bool := l.all fun m => decide (r64 (m.By * by_))
def scaleL (a : Lf) (by_ : Int) : Lf × Int := if linOk a = true then (if by_ = 0 then (zL, 0) else if r64 (a.K * by_) ∧ scaleOk by_ a.L = true then (⟨a.K * by_, scaleM by_ a.L⟩, 0) else (zL, 3)) else (zL, 1)
def restL (l : Lf) (s : ByteArray) : Lf := ⟨l.K, l.L.filter fun m => !decide (m.Name = s)⟩
def lastBy (l : List Mono) (s : ByteArray) : Int := l.foldl (fun by_ m => if m.Name = s then m.By else by_) 0
/-- The program's substitution. -/
def substP (l : Lf) (s : ByteArray) (to_ : Lf) : Lf × Int :=
  if linOk l = true ∧ isNameB s = true ∧ linOk to_ = true then (if (scaleL to_ (lastBy l.L s)).2 = 0 then addL (restL l s) (scaleL to_ (lastBy l.L s)).1 else (zL, (scaleL to_ (lastBy l.L s)).2)) else (zL, 1)
def mulT (by_ : Int) (ts : List Tr) : List Tr := ts.map fun t => (t.1, t.2.1, t.2.2 * by_)
/-- The reference's. -/
def substR (l : Lf) (s : ByteArray) (to_ : Lf) : Lf × Int :=
  if linOk l = true ∧ linOk to_ = true ∧ isNameB s = true then
    (if lastBy l.L s = 0 then (l, 0) else if r64 (to_.K * lastBy l.L s) ∧ scaleOk (lastBy l.L s) to_.L = true then addT (l.K + to_.K * lastBy l.L s) (mulT (lastBy l.L s) (mergeL (restL l s).L to_.L)) else (zL, 3))
  else (zL, 1)

def scaleW (by_ : Int) (l : List Mono) : List Mono := l.map fun m => ⟨m.Name, (timesT m.By by_).1⟩
def scaleB (by_ : Int) (l : List Mono) : Bool := l.all fun m => (timesT m.By by_).2
theorem scaleW_len (by_ : Int) (l : List Mono) : (scaleW by_ l).length = l.length := by simp [scaleW]
theorem scaleW_next {by_ : Int} {l : List Mono} {k : Nat} {x : Mono} (h : l[k]? = some x) : scaleW by_ (l.take (k + 1)) = scaleW by_ (l.take k) ++ [⟨x.Name, (timesT x.By by_).1⟩] := by unfold scaleW; rw [take_next h, List.map_append]; rfl
theorem scaleB_next {by_ : Int} {l : List Mono} {k : Nat} {x : Mono} (h : l[k]? = some x) : scaleB by_ (l.take (k + 1)) = (scaleB by_ (l.take k) && (timesT x.By by_).2) := by unfold scaleB; rw [take_next h, List.all_append]; simp
theorem timesT_2 (x y : Int) : (timesT x y).2 = decide (r64 (x * y)) := by unfold timesT; by_cases h : r64 (x * y) <;> simp [h]
theorem timesT_1 {x y : Int} (h : r64 (x * y)) : (timesT x y).1 = x * y := by unfold timesT; rw [if_pos h]
theorem scaleB_ok (by_ : Int) (l : List Mono) : scaleB by_ l = scaleOk by_ l := by unfold scaleB scaleOk; congr 1; funext m; exact timesT_2 _ _
theorem scaleW_ok {by_ : Int} {l : List Mono} (h : scaleOk by_ l = true) : scaleW by_ l = scaleM by_ l := by
  unfold scaleOk at h
  rw [List.all_eq_true] at h
  unfold scaleW scaleM
  refine List.map_congr_left fun m hm => ?_
  rw [timesT_1 (by simpa using h m hm)]
theorem scale_ok {l : Lf} {by_ : Int} (h1 : linOk l = true) (h2 : ¬ by_ = 0) (h3 : (timesT l.K by_).2 = true ∧ scaleB by_ l.L = true) : scaleL l by_ = (⟨(timesT l.K by_).1, scaleW by_ l.L⟩, 0) := by
  rw [timesT_2, decide_eq_true_eq, scaleB_ok] at h3
  unfold scaleL
  rw [if_pos h1, if_neg h2, if_pos h3, timesT_1 h3.1, scaleW_ok h3.2]
theorem scale_no {l : Lf} {by_ : Int} (h1 : linOk l = true) (h2 : ¬ by_ = 0) (h3 : (timesT l.K by_).2 = false ∨ scaleB by_ l.L = false) : scaleL l by_ = (zL, 3) := by
  unfold scaleL
  rw [if_pos h1, if_neg h2, if_neg fun h => ?_]
  rw [timesT_2, scaleB_ok, decide_eq_true h.1, h.2] at h3
  rcases h3 with h3 | h3 <;> cases h3
theorem scale_zero {l : Lf} {by_ : Int} (h1 : linOk l = true) (h2 : by_ = 0) : scaleL l by_ = (zL, 0) := by unfold scaleL; rw [if_pos h1, if_pos h2]
theorem scale_bad {l : Lf} {by_ : Int} (h1 : linOk l = false) : scaleL l by_ = (zL, 1) := by unfold scaleL; rw [if_neg (by rw [h1]; simp)]

theorem mergeL_scale (by_ : Int) : ∀ (n : Nat) (a b : List Mono), a.length + b.length ≤ n → mergeL a (scaleM by_ b) = mulT by_ (mergeL a b)
  | _, [], [], _ => rfl
  | 0, _ :: _, _, h => by simp at h
  | 0, [], _ :: _, h => by simp at h
  | n + 1, a :: ar, [], h => by
    have ih := mergeL_scale by_ n ar [] (by simp at h ⊢; omega)
    show mergeL (a :: ar) [] = _
    rw [mergeL_l]
    show _ = (a.Name, a.By, 0 * by_) :: mulT by_ (mergeL ar [])
    rw [← ih, Int.zero_mul]; rfl
  | n + 1, [], b :: bs, h => by
    have ih := mergeL_scale by_ n [] bs (by simp at h ⊢; omega)
    show mergeL [] (⟨b.Name, b.By * by_⟩ :: scaleM by_ bs) = _
    rw [mergeL_r, mergeL_r, ih]; rfl
  | n + 1, a :: ar, b :: bs, h => by
    have h' : ar.length + 1 + (bs.length + 1) ≤ n + 1 := by simpa using h
    have i1 := mergeL_scale by_ n ar (b :: bs) (by simp; omega)
    have i2 := mergeL_scale by_ n (a :: ar) bs (by simp; omega)
    have i3 := mergeL_scale by_ n ar bs (by omega)
    have e : scaleM by_ (b :: bs) = ⟨b.Name, b.By * by_⟩ :: scaleM by_ bs := rfl
    rw [e] at i1 ⊢
    rw [mergeL_c, mergeL_c, i1, i2, i3]
    cases strLt a.Name b.Name <;> cases strLt b.Name a.Name <;> simp [mulT]
theorem lastBy_next {l : List Mono} {k : Nat} {x : Mono} {s : ByteArray} (h : l[k]? = some x) : lastBy (l.take (k + 1)) s = if x.Name = s then x.By else lastBy (l.take k) s := by
  unfold lastBy; rw [take_next h, List.foldl_append]; rfl
theorem rest_next {l : List Mono} {k : Nat} {x : Mono} {s : ByteArray} (h : l[k]? = some x) : (l.take (k + 1)).filter (fun m => !decide (m.Name = s)) = (l.take k).filter (fun m => !decide (m.Name = s)) ++ (if x.Name = s then [] else [x]) := by
  rw [take_next h, List.filter_append]; by_cases e : x.Name = s <;> simp [e]
theorem monos_name : ∀ {p : Option ByteArray} {l : List Mono}, monosOk p l = true → ∀ m, m ∈ l → m.By ≠ 0 ∧ isNameB m.Name = true
  | _, [], _, m, hm => by cases hm
  | p, x :: r, h, m, hm => by
    simp only [monosOk, Bool.and_eq_true, Bool.not_eq_true', decide_eq_false_iff_not] at h
    rcases List.mem_cons.1 hm with rfl | hm
    · exact ⟨h.1.1.2, h.1.1.1⟩
    · exact monos_name h.2 m hm
theorem last_none {l : List Mono} {s : ByteArray} (h : ∀ m, m ∈ l → m.Name ≠ s) : lastBy l s = 0 ∧ l.filter (fun m => !decide (m.Name = s)) = l := by
  constructor
  · have : ∀ (l : List Mono) (b : Int), (∀ m, m ∈ l → m.Name ≠ s) → l.foldl (fun by_ m => if m.Name = s then m.By else by_) b = b := by
      intro l
      induction l with
      | nil => intro b _; rfl
      | cons x r ih => intro b hl; rw [List.foldl_cons, if_neg (hl x (by simp)), ih b fun m hm => hl m (by simp [hm])]
    exact this l 0 h
  · rw [List.filter_eq_self]; intro m hm; simp [h m hm]
theorem last_zero {p : Option ByteArray} {l : List Mono} {s : ByteArray} (h : monosOk p l = true) (hz : lastBy l s = 0) : ∀ m, m ∈ l → m.Name ≠ s := by
  have key : ∀ (l : List Mono) (b : Int), (∀ m, m ∈ l → m.By ≠ 0) → l.foldl (fun by_ m => if m.Name = s then m.By else by_) b = 0 → ∀ m, m ∈ l → m.Name ≠ s := by
    intro l
    induction l with
    | nil => intro b _ _ m hm; cases hm
    | cons x r ih =>
      intro b hl h m hm
      rw [List.foldl_cons] at h
      rcases List.mem_cons.1 hm with rfl | hm
      · intro e
        rw [if_pos e] at h
        by_cases c : ∀ y, y ∈ r → y.Name ≠ s
        · have : r.foldl (fun by_ m => if m.Name = s then m.By else by_) m.By = m.By := by
            clear ih h hl hm
            generalize m.By = z
            induction r generalizing z with
            | nil => rfl
            | cons y r ih2 => rw [List.foldl_cons, if_neg (c y (by simp)), ih2 (fun q hq => c q (by simp [hq]))]
          rw [this] at h
          exact hl m (by simp) h
        · exact c (ih _ (fun y hy => hl y (by simp [hy])) h)
      · exact ih _ (fun y hy => hl y (by simp [hy])) h m hm
  exact key l 0 (fun m hm => (monos_name h m hm).1) hz

def Lf.rng (l : Lf) : Prop := r64 l.K ∧ ∀ m, m ∈ l.L → r64 m.By
theorem merge_nil_sum : ∀ {l : List Mono}, (∀ m, m ∈ l → r64 m.By ∧ m.By ≠ 0) → (mergeL l []).all trOk = true ∧ sumW (mergeL l []) = l
  | [], _ => ⟨rfl, rfl⟩
  | a :: ar, h => by
    obtain ⟨h1, h2⟩ := merge_nil_sum (l := ar) fun m hm => h m (by simp [hm])
    obtain ⟨h3, h4⟩ := h a (by simp)
    rw [mergeL_l]
    have e : trV (a.Name, a.By, 0) = a.By := by simp [trV]
    constructor
    · rw [List.all_cons, h1, trOk, e, decide_eq_true h3]; rfl
    · show List.filterMap _ _ = _
      rw [List.filterMap_cons]
      simp only [e, w64_in h3, if_neg h4]
      exact congrArg (a :: ·) h2
theorem last_rng {l : Lf} (h : l.rng) (s : ByteArray) : r64 (lastBy l.L s) := by
  have key : ∀ (l : List Mono) (b : Int), (∀ m, m ∈ l → r64 m.By) → r64 b → r64 (l.foldl (fun by_ m => if m.Name = s then m.By else by_) b) := by
    intro l
    induction l with
    | nil => intro b _ h; exact h
    | cons x r ih =>
      intro b hl hb
      rw [List.foldl_cons]
      refine ih _ (fun m hm => hl m (by simp [hm])) ?_
      split
      · exact hl x (by simp)
      · exact hb
  exact key l.L 0 h.2 (by unfold r64; omega)
theorem zL_rng : zL.rng := ⟨by show r64 0; unfold r64; omega, fun m hm => by cases hm⟩
theorem scale_rng (l : Lf) (b : Int) : (scaleL l b).1.rng ∧ (scaleL l b).1.L.length ≤ l.L.length := by
  unfold scaleL
  split
  · split
    · exact ⟨zL_rng, by simp [zL]⟩
    · split
      · rename_i h
        refine ⟨⟨h.1, fun m hm => ?_⟩, by simp [scaleM]⟩
        obtain ⟨x, hx, rfl⟩ := List.mem_map.1 hm
        have := h.2
        unfold scaleOk at this
        rw [List.all_eq_true] at this
        simpa using this x hx
      · exact ⟨zL_rng, by simp [zL]⟩
  · exact ⟨zL_rng, by simp [zL]⟩
theorem rest_rng {l : Lf} (h : l.rng) (s : ByteArray) : (restL l s).rng ∧ (restL l s).L.length ≤ l.L.length :=
  ⟨⟨h.1, fun m hm => h.2 m (List.mem_filter.1 hm).1⟩, List.length_filter_le _ _⟩
theorem subst_c1 {l to_ : Lf} {s : ByteArray} (c : (¬ linErr l = 0 ∨ isNameB s = false) ∨ ¬ linErr to_ = 0) : substP l s to_ = (zL, 1) := by
  unfold substP
  refine if_neg fun h => ?_
  rcases c with (c | c) | c
  · have := linErr_ne c; rw [h.1] at this; cases this
  · rw [h.2.1] at c; cases c
  · have := linErr_ne c; rw [h.2.2] at this; cases this
theorem subst_c4 {l to_ : Lf} {s : ByteArray} (c : (linErr l = 0 ∧ isNameB s = true) ∧ linErr to_ = 0) (c4 : ¬ (scaleL to_ (lastBy l.L s)).2 = 0) : substP l s to_ = (zL, (scaleL to_ (lastBy l.L s)).2) := by
  unfold substP
  rw [if_pos ⟨linErr_eq c.1.1, c.1.2, linErr_eq c.2⟩, if_neg c4]
theorem subst_ok {l to_ : Lf} {s : ByteArray} (c : (linErr l = 0 ∧ isNameB s = true) ∧ linErr to_ = 0) (c4 : (scaleL to_ (lastBy l.L s)).2 = 0) : substP l s to_ = addL (restL l s) (scaleL to_ (lastBy l.L s)).1 := by
  unfold substP
  rw [if_pos ⟨linErr_eq c.1.1, c.1.2, linErr_eq c.2⟩, if_pos c4]

/-- A part of an ascending list ascends. -/
theorem strLt_trans' {a b c : ByteArray} (h : strLt a b = true) (k : strLt b c = true) : strLt a c = true := strLt_trans h k
theorem monos_weak {p q : Option ByteArray} {l : List Mono} (h : monosOk p l = true) (hpq : ∀ n, ltO p n = true → ltO q n = true) : monosOk q l = true := by
  cases l with
  | nil => rfl
  | cons x r =>
    simp only [monosOk, Bool.and_eq_true] at h ⊢
    exact ⟨⟨h.1.1, hpq _ h.1.2⟩, h.2⟩
theorem monos_filter (f : Mono → Bool) : ∀ {p : Option ByteArray} {l : List Mono}, monosOk p l = true → monosOk p (l.filter f) = true
  | _, [], _ => rfl
  | p, x :: r, h => by
    simp only [monosOk, Bool.and_eq_true] at h
    have ih := monos_filter f h.2
    rw [List.filter_cons]
    by_cases c : f x = true
    · rw [if_pos c]; simp only [monosOk, Bool.and_eq_true]; exact ⟨h.1, ih⟩
    · rw [if_neg c]
      refine monos_weak ih fun n hn => ?_
      cases p with
      | none => rfl
      | some q => exact strLt_trans' h.1.2 hn
theorem monos_scale {b : Int} (hb : b ≠ 0) : ∀ {p : Option ByteArray} {l : List Mono}, monosOk p l = true → monosOk p (scaleM b l) = true
  | _, [], _ => rfl
  | p, x :: r, h => by
    simp only [monosOk, Bool.and_eq_true, Bool.not_eq_true', decide_eq_false_iff_not] at h
    have ih := monos_scale hb h.2
    show monosOk p (⟨x.Name, x.By * b⟩ :: scaleM b r) = true
    simp only [monosOk, Bool.and_eq_true, Bool.not_eq_true', decide_eq_false_iff_not]
    exact ⟨⟨⟨h.1.1.1, Int.mul_ne_zero h.1.1.2 hb⟩, h.1.2⟩, ih⟩
theorem subst_eq {l to_ : Lf} {s : ByteArray} (hl : l.rng) : substP l s to_ = substR l s to_ := by
  unfold substP substR
  by_cases h : linOk l = true ∧ isNameB s = true ∧ linOk to_ = true
  · obtain ⟨h1, h2, h3⟩ := h
    rw [if_pos (⟨h1, h2, h3⟩ : linOk l = true ∧ isNameB s = true ∧ linOk to_ = true), if_pos (⟨h1, h3, h2⟩ : linOk l = true ∧ linOk to_ = true ∧ isNameB s = true)]
    by_cases c : lastBy l.L s = 0
    · rw [if_pos c]
      have hn := last_zero h1 c
      have e : scaleL to_ (lastBy l.L s) = (zL, 0) := by unfold scaleL; rw [if_pos h3, if_pos c]
      rw [e, if_pos rfl]
      have er : restL l s = l := by unfold restL; rw [(last_none hn).2]
      rw [er]
      unfold addL
      rw [if_pos ⟨h1, rfl⟩]
      obtain ⟨g1, g2⟩ := merge_nil_sum (l := l.L) fun m hm => ⟨hl.2 m hm, (monos_name h1 m hm).1⟩
      show addT (l.K + 0) (mergeL l.L []) = _
      unfold addT
      rw [Int.add_zero, if_pos ⟨hl.1, g1⟩, g2]
    · rw [if_neg c]
      by_cases d : r64 (to_.K * lastBy l.L s) ∧ scaleOk (lastBy l.L s) to_.L = true
      · rw [if_pos d]
        have e : scaleL to_ (lastBy l.L s) = (⟨to_.K * lastBy l.L s, scaleM (lastBy l.L s) to_.L⟩, 0) := by unfold scaleL; rw [if_pos h3, if_neg c, if_pos d]
        rw [e, if_pos rfl]
        unfold addL
        rw [if_pos ⟨monos_filter _ h1, monos_scale c h3⟩]
        show addT (l.K + to_.K * lastBy l.L s) (mergeL (restL l s).L (scaleM (lastBy l.L s) to_.L)) = _
        rw [mergeL_scale _ _ _ _ (Nat.le_refl _)]
      · rw [if_neg d]
        have e : scaleL to_ (lastBy l.L s) = (zL, 3) := by unfold scaleL; rw [if_pos h3, if_neg c, if_neg d]
        rw [e, if_neg (by decide)]
  · rw [if_neg h, if_neg fun k => h ⟨k.1, k.2.2, k.2.1⟩]
end Go.Br
end
section
set_option linter.unusedSimpArgs false
set_option linter.unusedVariables false
namespace Go.Br
open Go Go.Eng Go.L41

def atM (l : List Mono) (k : Nat) : Mono := l.getD k ⟨bs [], 0⟩
def sC2 (a b : List Mono) (i n : Nat) : Bool := decide ((n : Int) = b.length) || (decide ((i : Int) < a.length) && (strLt (atM a i).Name (atM b n).Name || decide ((atM a i).Name = (atM b n).Name)))
def sC3 (b : List Mono) (n : Nat) (s : ByteArray) : Bool := decide ((n : Int) < b.length) && decide ((atM b n).Name = s)
theorem sumM_len (by_ : Int) (d : List Tr) : (sumW (mulT by_ d)).length ≤ d.length := by
  have := sumW_len (mulT by_ d); simpa [mulT] using this

def zI : Ix := ⟨zL, bs [], []⟩
def outI : Except Int Ix → Ix
  | .ok e => e
  | .error _ => zI
theorem fE_congr {f g : Lf → Lf × Int} {l : Lf} (h : f l = g l) : fE f l = fE g l := by unfold fE; rw [h]
theorem mLins_congr {f g : Lf → Lf × Int} : ∀ {l : List Lf}, (∀ x, x ∈ l → f x = g x) → mLins f l = mLins g l
  | [], _ => rfl
  | x :: r, h => by rw [mLins, mLins, fE_congr (h x (by simp)), mLins_congr fun y hy => h y (by simp [hy])]
theorem mIx_congr {f g : Lf → Lf × Int} {x : Ix} (h1 : f x.Lin = g x.Lin) (h2 : ∀ l, l ∈ x.At → f l = g l) : mIx f x = mIx g x := by
  rw [mIx, mIx, fE_congr h1, mLins_congr h2]
theorem mIxs_congr {f g : Lf → Lf × Int} : ∀ {l : List Ix}, (∀ x, x ∈ l → f x.Lin = g x.Lin ∧ ∀ y, y ∈ x.At → f y = g y) → mIxs f l = mIxs g l
  | [], _ => rfl
  | x :: r, h => by rw [mIxs, mIxs, mIx_congr (h x (by simp)).1 (h x (by simp)).2, mIxs_congr fun y hy => h y (by simp [hy])]
theorem mExs_congr {f g : Lf → Lf × Int} : ∀ {l : List Ex}, (∀ a, a ∈ l → mEx f a = mEx g a) → mExs f l = mExs g l
  | [], _ => by rw [mExs, mExs]
  | x :: r, h => by rw [mExs, mExs, h x (by simp), mExs_congr fun y hy => h y (by simp [hy])]
theorem mEx_congr {f g : Lf → Lf × Int} {P : Lf → Prop} (hfg : ∀ l, P l → f l = g l) (e : Ex) (h : e.allF P) : mEx f e = mEx g e := by
  induction e using Ex.ind with
  | _ e ih =>
    rw [mEx_eq, mEx_eq, fE_congr (hfg _ (Ex.allF_lin h)), mIxs_congr fun x hx => ⟨hfg _ (Ex.allF_ix h hx), fun y hy => hfg _ (Ex.allF_at h hx hy)⟩, mExs_congr fun a ha => ih a ha (Ex.allF_arg h ha)]
end Go.Br
end
section
set_option linter.unusedSimpArgs false
set_option linter.unusedVariables false
namespace Go.Br
open Go Go.Eng Go.L41

/-! ## Ascending triples -/
def trsOk : Option ByteArray → List Tr → Bool
  | _, [] => true
  | p, t :: r => isNameB t.1 && ltO p t.1 && trsOk (some t.1) r
theorem ltO_trans {p : Option ByteArray} {a b : ByteArray} (h : ltO p a = true) (k : strLt a b = true) : ltO p b = true := by
  cases p with
  | none => rfl
  | some q => exact strLt_trans h k
theorem merge_asc : ∀ (n : Nat) (p : Option ByteArray) (a b : List Mono), a.length + b.length ≤ n → monosOk p a = true → monosOk p b = true → trsOk p (mergeL a b) = true
  | _, p, [], [], _, _, _ => rfl
  | 0, _, _ :: _, _, h, _, _ => by simp at h
  | 0, _, [], _ :: _, h, _, _ => by simp at h
  | n + 1, p, x :: r, [], h, ha, hb => by
    simp only [monosOk, Bool.and_eq_true] at ha
    rw [mergeL_l, trsOk, Bool.and_eq_true, Bool.and_eq_true]
    exact ⟨⟨ha.1.1.1, ha.1.2⟩, merge_asc n _ r [] (by simp at h ⊢; omega) ha.2 rfl⟩
  | n + 1, p, [], y :: s, h, ha, hb => by
    simp only [monosOk, Bool.and_eq_true] at hb
    rw [mergeL_r, trsOk, Bool.and_eq_true, Bool.and_eq_true]
    exact ⟨⟨hb.1.1.1, hb.1.2⟩, merge_asc n _ [] s (by simp at h ⊢; omega) rfl hb.2⟩
  | n + 1, p, x :: r, y :: s, h, ha, hb => by
    have ha0 := ha
    have hb0 := hb
    simp only [monosOk, Bool.and_eq_true] at ha hb
    rw [mergeL_c]
    cases h1 : strLt x.Name y.Name with
    | true =>
      rw [cond_true, trsOk, Bool.and_eq_true, Bool.and_eq_true]
      refine ⟨⟨ha.1.1.1, ha.1.2⟩, merge_asc n _ r (y :: s) (by simp at h ⊢; omega) ha.2 ?_⟩
      simp only [monosOk, Bool.and_eq_true]
      exact ⟨⟨hb.1.1, h1⟩, hb.2⟩
    | false =>
      rw [cond_false]
      cases h2 : strLt y.Name x.Name with
      | true =>
        rw [cond_true, trsOk, Bool.and_eq_true, Bool.and_eq_true]
        refine ⟨⟨hb.1.1.1, hb.1.2⟩, merge_asc n _ (x :: r) s (by simp at h ⊢; omega) ?_ hb.2⟩
        simp only [monosOk, Bool.and_eq_true]
        exact ⟨⟨ha.1.1, h2⟩, ha.2⟩
      | false =>
        rw [cond_false, trsOk, Bool.and_eq_true, Bool.and_eq_true]
        have e : x.Name = y.Name := strLt_tri h1 h2
        refine ⟨⟨ha.1.1.1, ha.1.2⟩, merge_asc n _ r s (by simp at h ⊢; omega) ha.2 ?_⟩
        show monosOk (some x.Name) s = true
        rw [e]; exact hb.2
theorem mul_asc (b : Int) : ∀ {p : Option ByteArray} {l : List Tr}, trsOk p l = true → trsOk p (mulT b l) = true
  | _, [], _ => rfl
  | p, t :: r, h => by
    simp only [trsOk, Bool.and_eq_true] at h
    show trsOk p ((t.1, t.2.1, t.2.2 * b) :: mulT b r) = true
    simp only [trsOk, Bool.and_eq_true]
    exact ⟨h.1, mul_asc b h.2⟩
theorem sum_asc : ∀ {p : Option ByteArray} {l : List Tr}, trsOk p l = true → monosOk p (sumW l) = true
  | _, [], _ => rfl
  | p, t :: r, h => by
    simp only [trsOk, Bool.and_eq_true] at h
    have ih := sum_asc h.2
    unfold sumW at ih ⊢
    rw [List.filterMap_cons]
    by_cases c : w64 (trV t) = 0
    · rw [if_pos c]
      exact monos_weak ih fun n hn => ltO_trans h.1.2 hn
    · rw [if_neg c]
      simp only [monosOk, Bool.and_eq_true, Bool.not_eq_true', decide_eq_false_iff_not]
      exact ⟨⟨⟨h.1.1, c⟩, h.1.2⟩, ih⟩
theorem merge_names : ∀ (n : Nat) (a b : List Mono), a.length + b.length ≤ n → ∀ t, t ∈ mergeL a b → (∃ m, m ∈ a ∧ m.Name = t.1) ∨ ∃ m, m ∈ b ∧ m.Name = t.1
  | _, [], [], _, t, ht => by rw [mergeL_nil] at ht; cases ht
  | 0, _ :: _, _, h, _, _ => by simp at h
  | 0, [], _ :: _, h, _, _ => by simp at h
  | n + 1, x :: r, [], h, t, ht => by
    rw [mergeL_l] at ht
    rcases List.mem_cons.1 ht with rfl | ht
    · exact .inl ⟨x, by simp, rfl⟩
    · rcases merge_names n r [] (by simp at h ⊢; omega) t ht with ⟨m, hm, e⟩ | k
      · exact .inl ⟨m, by simp [hm], e⟩
      · exact .inr k
  | n + 1, [], y :: s, h, t, ht => by
    rw [mergeL_r] at ht
    rcases List.mem_cons.1 ht with rfl | ht
    · exact .inr ⟨y, by simp, rfl⟩
    · rcases merge_names n [] s (by simp at h ⊢; omega) t ht with k | ⟨m, hm, e⟩
      · exact .inl k
      · exact .inr ⟨m, by simp [hm], e⟩
  | n + 1, x :: r, y :: s, h, t, ht => by
    rw [mergeL_c] at ht
    have up : ∀ (a b : List Mono), (∀ m, m ∈ a → m ∈ x :: r) → (∀ m, m ∈ b → m ∈ y :: s) → ((∃ m, m ∈ a ∧ m.Name = t.1) ∨ ∃ m, m ∈ b ∧ m.Name = t.1) → (∃ m, m ∈ x :: r ∧ m.Name = t.1) ∨ ∃ m, m ∈ y :: s ∧ m.Name = t.1 := by
      intro a b h1 h2 k
      rcases k with ⟨m, hm, e⟩ | ⟨m, hm, e⟩
      · exact .inl ⟨m, h1 m hm, e⟩
      · exact .inr ⟨m, h2 m hm, e⟩
    have self1 : ∀ m, m ∈ x :: r → m ∈ x :: r := fun _ h => h
    have self2 : ∀ m, m ∈ y :: s → m ∈ y :: s := fun _ h => h
    have tl1 : ∀ m, m ∈ r → m ∈ x :: r := fun m hm => by simp [hm]
    have tl2 : ∀ m, m ∈ s → m ∈ y :: s := fun m hm => by simp [hm]
    cases h1 : strLt x.Name y.Name with
    | true =>
      rw [h1, cond_true] at ht
      rcases List.mem_cons.1 ht with rfl | ht
      · exact .inl ⟨x, by simp, rfl⟩
      · exact up r (y :: s) tl1 self2 (merge_names n r (y :: s) (by simp at h ⊢; omega) t ht)
    | false =>
      rw [h1, cond_false] at ht
      cases h2 : strLt y.Name x.Name with
      | true =>
        rw [h2, cond_true] at ht
        rcases List.mem_cons.1 ht with rfl | ht
        · exact .inr ⟨y, by simp, rfl⟩
        · exact up (x :: r) s self1 tl2 (merge_names n (x :: r) s (by simp at h ⊢; omega) t ht)
      | false =>
        rw [h2, cond_false] at ht
        rcases List.mem_cons.1 ht with rfl | ht
        · exact .inl ⟨x, by simp, rfl⟩
        · exact up r s tl1 tl2 (merge_names n r s (by simp at h ⊢; omega) t ht)
theorem sum_names {l : List Tr} {m : Mono} (h : m ∈ sumW l) : ∃ t, t ∈ l ∧ t.1 = m.Name := by
  unfold sumW at h
  obtain ⟨t, ht, e⟩ := List.mem_filterMap.1 h
  by_cases c : w64 (trV t) = 0
  · rw [if_pos c] at e; cases e
  · rw [if_neg c] at e; injection e with e; subst e; exact ⟨t, ht, rfl⟩
theorem mul_names {b : Int} {l : List Tr} {t : Tr} (h : t ∈ mulT b l) : ∃ u, u ∈ l ∧ u.1 = t.1 := by
  unfold mulT at h
  obtain ⟨u, hu, rfl⟩ := List.mem_map.1 h
  exact ⟨u, hu, rfl⟩
def hasN (l : Lf) (s : ByteArray) : Prop := ∃ m, m ∈ l.L ∧ m.Name = s
theorem substR_len (l to_ : Lf) (s : ByteArray) : (substR l s to_).1.L.length ≤ l.L.length + to_.L.length := by
  unfold substR
  split
  · split
    · exact Nat.le_add_right _ _
    · split
      · unfold addT
        split
        · show (sumW (mulT _ _)).length ≤ _
          have h1 := sumM_len (lastBy l.L s) (mergeL (restL l s).L to_.L)
          have h2 := mergeL_len (restL l s).L to_.L
          have h3 : (restL l s).L.length ≤ l.L.length := List.length_filter_le _ _
          omega
        · exact Nat.zero_le _
      · exact Nat.zero_le _
  · exact Nat.zero_le _
/-- The answers of a substitution in valid forms: nothing, or out of range. -/
theorem substR_err {l to_ : Lf} {s : ByteArray} (h1 : linOk l = true) (h2 : linOk to_ = true) (h3 : isNameB s = true) : (substR l s to_).2 = 0 ∨ (substR l s to_).2 = 3 := by
  unfold substR
  rw [if_pos ⟨h1, h2, h3⟩]
  split
  · exact .inl rfl
  · split
    · unfold addT
      split
      · exact .inl rfl
      · exact .inr rfl
    · exact .inr rfl
theorem substR_ok {l to_ : Lf} {s : ByteArray} (h1 : linOk l = true) (h2 : linOk to_ = true) (h3 : isNameB s = true) (h : (substR l s to_).2 = 0) : linOk (substR l s to_).1 = true := by
  unfold substR at h ⊢
  rw [if_pos ⟨h1, h2, h3⟩] at h ⊢
  by_cases c : lastBy l.L s = 0
  · rw [if_pos c] at h ⊢; exact h1
  · rw [if_neg c] at h ⊢
    by_cases d : r64 (to_.K * lastBy l.L s) ∧ scaleOk (lastBy l.L s) to_.L = true
    · rw [if_pos d] at h ⊢
      unfold addT at h ⊢
      split
      · exact sum_asc (mul_asc _ (merge_asc _ none _ _ (Nat.le_refl _) (monos_filter _ h1) h2))
      · rfl
    · rw [if_neg d] at h ⊢; rfl
theorem substR_gone {l to_ : Lf} {s : ByteArray} (h1 : linOk l = true) (hto : ¬ hasN to_ s) (h : (substR l s to_).2 = 0) : ¬ hasN (substR l s to_).1 s := by
  unfold substR at h ⊢
  split
  · by_cases c : lastBy l.L s = 0
    · rw [if_pos c]; rintro ⟨m, hm, e⟩; exact last_zero h1 c m hm e
    · rw [if_neg c]
      split
      · unfold addT
        split
        · rintro ⟨m, hm, e⟩
          obtain ⟨t, ht, e1⟩ := sum_names hm
          obtain ⟨u, hu, e2⟩ := mul_names ht
          rcases merge_names _ _ _ (Nat.le_refl _) u hu with ⟨q, hq, e3⟩ | ⟨q, hq, e3⟩
          · have := (List.mem_filter.1 hq).2
            have hne : ¬ q.Name = s := by simpa using this
            exact hne (by rw [e3, e2, e1, e])
          · exact hto ⟨q, hq, by rw [e3, e2, e1, e]⟩
        · rintro ⟨m, hm, _⟩; cases hm
      · rintro ⟨m, hm, _⟩; cases hm
  · rintro ⟨m, hm, _⟩; cases hm
theorem substR_zero {to_ : Lf} {s : ByteArray} (h2 : linOk to_ = true) (h3 : isNameB s = true) : substR ⟨0, []⟩ s to_ = (⟨0, []⟩, 0) := by
  unfold substR
  rw [if_pos ⟨rfl, h2, h3⟩]
  exact if_pos rfl
/-- The names behind an ascending beginning. -/
theorem monos_after : ∀ {q : ByteArray} {l : List Mono}, monosOk (some q) l = true → ∀ m, m ∈ l → strLt q m.Name = true
  | _, [], _, m, hm => by cases hm
  | q, x :: r, h, m, hm => by
    simp only [monosOk, Bool.and_eq_true] at h
    rcases List.mem_cons.1 hm with rfl | hm
    · exact h.1.2
    · exact strLt_trans h.1.2 (monos_after h.2 m hm)
theorem mul_zero_third {b : Int} : ∀ (l : List Mono), mulT b (mergeL l []) = mergeL l []
  | [] => rfl
  | x :: r => by
    rw [mergeL_l]
    show (x.Name, x.By, 0 * b) :: mulT b (mergeL r []) = _
    rw [mul_zero_third r, Int.zero_mul]
/-- A name put in the place of itself: the form as it was. -/
theorem self_sum {b : Int} {s : ByteArray} (hb : b ≠ 0) (hbr : r64 b) : ∀ {p : Option ByteArray} {l : List Mono}, monosOk p l = true → (∀ m, m ∈ l → r64 m.By) → (∃ m, m ∈ l ∧ m.Name = s ∧ m.By = b) →
    (mulT b (mergeL (l.filter fun m => !decide (m.Name = s)) [⟨s, 1⟩])).all trOk = true ∧ sumW (mulT b (mergeL (l.filter fun m => !decide (m.Name = s)) [⟨s, 1⟩])) = l
  | _, [], _, _, h => by obtain ⟨m, hm, _⟩ := h; cases hm
  | p, x :: r, h, hr, hs => by
    have h0 := h
    simp only [monosOk, Bool.and_eq_true, Bool.not_eq_true', decide_eq_false_iff_not] at h
    have haft := monos_after h.2
    by_cases c : x.Name = s
    · have hf : (x :: r).filter (fun m => !decide (m.Name = s)) = r := by
        rw [List.filter_cons, if_neg (by simp [c])]
        rw [List.filter_eq_self]
        intro m hm
        have := haft m hm
        have hne : ¬ m.Name = s := by
          intro e; rw [e, ← c, strLt_irr] at this; cases this
        simp [hne]
      have hx : x.By = b := by
        obtain ⟨m, hm, e1, e2⟩ := hs
        rcases List.mem_cons.1 hm with rfl | hm
        · exact e2
        · have := haft m hm; rw [e1, ← c, strLt_irr] at this; cases this
      rw [hf]
      have hm1 : mergeL r [⟨s, 1⟩] = (s, 0, 1) :: mergeL r [] := by
        cases r with
        | nil => rw [mergeL_r]
        | cons y t =>
          have hy := haft y (by simp)
          rw [c] at hy
          have hn : strLt y.Name s = false := by
            cases k : strLt y.Name s with
            | false => rfl
            | true => have := strLt_trans hy k; rw [strLt_irr] at this; cases this
          rw [mergeL_c]
          show (bif strLt y.Name s then _ else bif strLt s y.Name then _ else _) = _
          rw [hn, hy, cond_false, cond_true]
      obtain ⟨g1, g2⟩ := merge_nil_sum (l := r) fun m hm => ⟨hr m (by simp [hm]), (monos_name h.2 m hm).1⟩
      rw [hm1]
      show ((s, 0, 1 * b) :: mulT b (mergeL r [])).all trOk = true ∧ sumW ((s, 0, 1 * b) :: mulT b (mergeL r [])) = x :: r
      rw [mul_zero_third]
      have e : trV (s, 0, 1 * b) = b := by simp [trV]
      constructor
      · rw [List.all_cons, g1, trOk, e, decide_eq_true hbr]; rfl
      · unfold sumW at g2 ⊢
        rw [List.filterMap_cons]
        simp only [e, w64_in hbr, if_neg hb, g2]
        congr 1
        cases x; simp_all
    · have hs' : ∃ m, m ∈ r ∧ m.Name = s ∧ m.By = b := by
        obtain ⟨m, hm, e1, e2⟩ := hs
        rcases List.mem_cons.1 hm with rfl | hm
        · exact absurd e1 c
        · exact ⟨m, hm, e1, e2⟩
      have hlt : strLt x.Name s = true := by
        obtain ⟨m, hm, e1, _⟩ := hs'
        have := haft m hm; rwa [e1] at this
      obtain ⟨g1, g2⟩ := self_sum hb hbr h.2 (fun m hm => hr m (by simp [hm])) hs'
      have hf : (x :: r).filter (fun m => !decide (m.Name = s)) = x :: r.filter (fun m => !decide (m.Name = s)) := by rw [List.filter_cons, if_pos (by simp [c])]
      have hm1 : mergeL (x :: r.filter (fun m => !decide (m.Name = s))) [⟨s, 1⟩] = (x.Name, x.By, 0) :: mergeL (r.filter (fun m => !decide (m.Name = s))) [⟨s, 1⟩] := by
        rw [mergeL_c]
        show (bif strLt x.Name s then _ else bif strLt s x.Name then _ else _) = _
        rw [hlt, cond_true]
      rw [hf, hm1]
      show ((x.Name, x.By, 0 * b) :: mulT b (mergeL (r.filter _) [⟨s, 1⟩])).all trOk = true ∧ sumW ((x.Name, x.By, 0 * b) :: mulT b (mergeL (r.filter _) [⟨s, 1⟩])) = x :: r
      have hxr := hr x (by simp)
      have e : trV (x.Name, x.By, 0 * b) = x.By := by simp [trV]
      constructor
      · rw [List.all_cons, g1, trOk, e, decide_eq_true hxr]; rfl
      · unfold sumW at g2 ⊢
        rw [List.filterMap_cons]
        simp only [e, w64_in hxr, if_neg h.1.1.2, g2]
theorem lastBy_mem {l : List Mono} {s : ByteArray} (h : lastBy l s ≠ 0) : ∃ m, m ∈ l ∧ m.Name = s ∧ m.By = lastBy l s := by
  have key : ∀ (l : List Mono) (b : Int), l.foldl (fun by_ m => if m.Name = s then m.By else by_) b = b ∨ ∃ m, m ∈ l ∧ m.Name = s ∧ m.By = l.foldl (fun by_ m => if m.Name = s then m.By else by_) b := by
    intro l
    induction l with
    | nil => intro b; exact .inl rfl
    | cons x r ih =>
      intro b
      rw [List.foldl_cons]
      by_cases c : x.Name = s
      · rw [if_pos c]
        rcases ih x.By with e | ⟨m, hm, e1, e2⟩
        · exact .inr ⟨x, by simp, c, e.symm⟩
        · exact .inr ⟨m, by simp [hm], e1, e2⟩
      · rw [if_neg c]
        rcases ih b with e | ⟨m, hm, e1, e2⟩
        · exact .inl e
        · exact .inr ⟨m, by simp [hm], e1, e2⟩
  rcases key l 0 with e | h2
  · exact absurd e h
  · exact h2
theorem substR_self {l : Lf} {s : ByteArray} (h1 : linOk l = true) (h3 : isNameB s = true) (hl : l.rng) : substR l s ⟨0, [⟨s, 1⟩]⟩ = (l, 0) := by
  have h2 : linOk ⟨0, [⟨s, 1⟩]⟩ = true := by show (isNameB s && _ && _ && _) = true; rw [h3]; rfl
  unfold substR
  rw [if_pos ⟨h1, h2, h3⟩]
  by_cases c : lastBy l.L s = 0
  · rw [if_pos c]
  · rw [if_neg c]
    have hb := last_rng hl s
    rw [if_pos ⟨by show r64 (0 * _); rw [Int.zero_mul]; unfold r64; omega, by show (decide (r64 (1 * lastBy l.L s)) && true) = true; rw [Int.one_mul, decide_eq_true hb]; rfl⟩]
    obtain ⟨g1, g2⟩ := self_sum c hb (s := s) (p := none) h1 hl.2 (lastBy_mem c)
    show addT (l.K + 0 * lastBy l.L s) (mulT (lastBy l.L s) (mergeL (l.L.filter fun m => !decide (m.Name = s)) [⟨s, 1⟩])) = _
    unfold addT
    rw [if_pos ⟨by rw [Int.zero_mul, Int.add_zero]; exact hl.1, g1⟩, g2, Int.zero_mul, Int.add_zero]

/-! ## All forms of an expression mapped -/
def gIx (g : Lf → Lf) (x : Ix) : Ix := ⟨g x.Lin, x.From, x.At.map g⟩
mutual
def gEx (g : Lf → Lf) : Ex → Ex
  | .mk o n v t l i arg_ => .mk o n v t (g l) (i.map (gIx g)) (gExs g arg_)
def gExs (g : Lf → Lf) : List Ex → List Ex
  | [] => []
  | a :: r => gEx g a :: gExs g r
end
theorem gExs_map (g : Lf → Lf) (l : List Ex) : gExs g l = l.map (gEx g) := by
  induction l with
  | nil => rfl
  | cons a r ih => rw [gExs, ih]; rfl
theorem gEx_eq (g : Lf → Lf) (e : Ex) : gEx g e = .mk e.Op e.Name e.Val e.Ty (g e.Lin) (e.Idx.map (gIx g)) (e.Args.map (gEx g)) := by
  cases e; rw [gEx, gExs_map]; rfl
theorem mLins_g {f : Lf → Lf × Int} : ∀ {l r : List Lf}, mLins f l = .ok r → r = l.map (fun x => (f x).1) ∧ ∀ x, x ∈ l → (f x).2 = 0
  | [], r, h => by rw [mLins] at h; injection h with h; subst h; exact ⟨rfl, fun x hx => by cases hx⟩
  | a :: t, r, h => by
    rw [mLins] at h
    by_cases c : (f a).2 = 0
    · rw [fE_ok c] at h
      cases hm : mLins f t with
      | error y => rw [hm] at h; cases h
      | ok u =>
        rw [hm] at h
        injection h with h
        subst h
        obtain ⟨h1, h2⟩ := mLins_g hm
        exact ⟨by rw [h1]; rfl, fun x hx => by rcases List.mem_cons.1 hx with rfl | hx; exact c; exact h2 x hx⟩
    · rw [fE_err c] at h; cases h
theorem mIx_g {f : Lf → Lf × Int} {x y : Ix} (h : mIx f x = .ok y) : y = gIx (fun l => (f l).1) x ∧ (f x.Lin).2 = 0 ∧ ∀ l, l ∈ x.At → (f l).2 = 0 := by
  rw [mIx] at h
  by_cases c : (f x.Lin).2 = 0
  · rw [fE_ok c] at h
    cases hm : mLins f x.At with
    | error y => rw [hm] at h; cases h
    | ok u =>
      rw [hm] at h
      injection h with h
      subst h
      obtain ⟨h1, h2⟩ := mLins_g hm
      exact ⟨by rw [h1]; rfl, c, h2⟩
  · rw [fE_err c] at h; cases h
theorem mIxs_g {f : Lf → Lf × Int} : ∀ {l r : List Ix}, mIxs f l = .ok r → r = l.map (gIx fun x => (f x).1) ∧ ∀ x, x ∈ l → (f x.Lin).2 = 0 ∧ ∀ y, y ∈ x.At → (f y).2 = 0
  | [], r, h => by rw [mIxs] at h; injection h with h; subst h; exact ⟨rfl, fun x hx => by cases hx⟩
  | a :: t, r, h => by
    rw [mIxs] at h
    cases h1 : mIx f a with
    | error y => rw [h1] at h; cases h
    | ok a' =>
      rw [h1] at h
      cases hm : mIxs f t with
      | error y => rw [hm] at h; cases h
      | ok u =>
        rw [hm] at h
        injection h with h
        subst h
        obtain ⟨k1, k2⟩ := mIx_g h1
        obtain ⟨k3, k4⟩ := mIxs_g hm
        exact ⟨by rw [k1, k3]; rfl, fun x hx => by rcases List.mem_cons.1 hx with rfl | hx; exact k2; exact k4 x hx⟩
theorem nodes_allF {P : Lf → Prop} {e : Ex} (h1 : ∀ l, l ∈ formsL e → P l) (h2 : ∀ a, a ∈ e.Args → a.allF P) : e.allF P := by
  intro x hx
  rw [nodes_eq] at hx
  rcases List.mem_cons.1 hx with rfl | hx
  · exact h1
  · have : ∀ l : List Ex, (∀ a, a ∈ l → a.allF P) → x ∈ nodesL l → ∀ y, y ∈ formsL x → P y := by
      intro l
      induction l with
      | nil => intro _ h; simp [nodesL] at h
      | cons a r ih =>
        intro h hm
        rw [nodesL] at hm
        rcases List.mem_append.1 hm with k | k
        · exact h a (by simp) x k
        · exact ih (fun b hb => h b (by simp [hb])) k
    exact this e.Args h2 hx
mutual
theorem mEx_g {f : Lf → Lf × Int} : ∀ {e e' : Ex}, mEx f e = .ok e' → e' = gEx (fun l => (f l).1) e ∧ e.allF fun l => (f l).2 = 0
  | .mk o n v t l i arg_, e', h => by
    rw [mEx] at h
    by_cases c : (f l).2 = 0
    · rw [fE_ok c] at h
      cases h1 : mIxs f i with
      | error y => rw [h1] at h; cases h
      | ok i' =>
        rw [h1] at h
        cases h2 : mExs f arg_ with
        | error y => rw [h2] at h; cases h
        | ok as' =>
          rw [h2] at h
          injection h with h
          subst h
          obtain ⟨k1, k2⟩ := mIxs_g h1
          obtain ⟨k3, k4⟩ := mExs_g h2
          refine ⟨by rw [gEx, k1, k3, gExs_map], nodes_allF ?_ k4⟩
          intro y hy
          unfold formsL at hy
          rcases List.mem_cons.1 hy with rfl | hy
          · exact c
          · obtain ⟨x, hx, hy⟩ := List.mem_flatMap.1 hy
            rcases List.mem_cons.1 hy with rfl | hy
            · exact (k2 x hx).1
            · exact (k2 x hx).2 y hy
    · rw [fE_err c] at h; cases h
theorem mExs_g {f : Lf → Lf × Int} : ∀ {l r : List Ex}, mExs f l = .ok r → r = l.map (gEx fun l => (f l).1) ∧ ∀ a, a ∈ l → a.allF fun l => (f l).2 = 0
  | [], r, h => by rw [mExs] at h; injection h with h; subst h; exact ⟨rfl, fun x hx => by cases hx⟩
  | a :: t, r, h => by
    rw [mExs] at h
    cases h1 : mEx f a with
    | error y => rw [h1] at h; cases h
    | ok a' =>
      rw [h1] at h
      cases hm : mExs f t with
      | error y => rw [hm] at h; cases h
      | ok u =>
        rw [hm] at h
        injection h with h
        subst h
        obtain ⟨k1, k2⟩ := mEx_g h1
        obtain ⟨k3, k4⟩ := mExs_g hm
        exact ⟨by rw [k1, k3]; rfl, fun x hx => by rcases List.mem_cons.1 hx with rfl | hx; exact k2; exact k4 x hx⟩
end
/-- An error is one of a form. -/
theorem mLins_er {f : Lf → Lf × Int} {c : Int} : ∀ {l : List Lf}, mLins f l = .error c → ∃ x, x ∈ l ∧ (f x).2 = c
  | [], h => by rw [mLins] at h; cases h
  | a :: t, h => by
    rw [mLins] at h
    by_cases k : (f a).2 = 0
    · rw [fE_ok k] at h
      cases hm : mLins f t with
      | error y => rw [hm] at h; injection h with h; subst h; obtain ⟨x, hx, e⟩ := mLins_er hm; exact ⟨x, by simp [hx], e⟩
      | ok u => rw [hm] at h; cases h
    · rw [fE_err k] at h; injection h with h; exact ⟨a, by simp, h⟩
theorem mIx_er {f : Lf → Lf × Int} {c : Int} {x : Ix} (h : mIx f x = .error c) : ∃ l, l ∈ ixF x ∧ (f l).2 = c := by
  rw [mIx] at h
  by_cases k : (f x.Lin).2 = 0
  · rw [fE_ok k] at h
    cases hm : mLins f x.At with
    | error y => rw [hm] at h; injection h with h; subst h; obtain ⟨l, hl, e⟩ := mLins_er hm; exact ⟨l, by simp [ixF, hl], e⟩
    | ok u => rw [hm] at h; cases h
  · rw [fE_err k] at h; injection h with h; exact ⟨x.Lin, by simp [ixF], h⟩
theorem mIxs_er {f : Lf → Lf × Int} {c : Int} : ∀ {l : List Ix}, mIxs f l = .error c → ∃ x, x ∈ l.flatMap ixF ∧ (f x).2 = c
  | [], h => by rw [mIxs] at h; cases h
  | a :: t, h => by
    rw [mIxs] at h
    cases k : mIx f a with
    | error y => rw [k] at h; injection h with h; subst h; obtain ⟨l, hl, e⟩ := mIx_er k; exact ⟨l, by rw [List.flatMap_cons]; exact List.mem_append_left _ hl, e⟩
    | ok a' =>
      rw [k] at h
      cases hm : mIxs f t with
      | error y => rw [hm] at h; injection h with h; subst h; obtain ⟨x, hx, e⟩ := mIxs_er hm; exact ⟨x, by rw [List.flatMap_cons]; exact List.mem_append_right _ hx, e⟩
      | ok u => rw [hm] at h; cases h
theorem mEx_er {f : Lf → Lf × Int} {P : Int → Prop} (e : Ex) (hP : e.allF fun l => P (f l).2) : ∀ c, mEx f e = .error c → P c := by
  induction e using Ex.ind with
  | _ e ih =>
    intro c h
    rw [mEx_eq] at h
    by_cases k : (f e.Lin).2 = 0
    · rw [fE_ok k] at h
      cases h1 : mIxs f e.Idx with
      | error y =>
        rw [h1] at h; injection h with h; subst h
        obtain ⟨x, hx, e2⟩ := mIxs_er h1
        have := hP e (by rw [nodes_eq]; simp) x (by unfold formsL; exact List.mem_cons_of_mem _ hx)
        have this : P (f x).2 := this
        rw [e2] at this; exact this
      | ok i' =>
        rw [h1] at h
        cases h2 : mExs f e.Args with
        | error y =>
          rw [h2] at h; injection h with h; subst h
          have key : ∀ l : List Ex, (∀ a, a ∈ l → a ∈ e.Args) → mExs f l = .error y → P y := by
            intro l
            induction l with
            | nil => intro _ h; rw [mExs] at h; cases h
            | cons a t iht =>
              intro hl h
              rw [mExs] at h
              cases k2 : mEx f a with
              | error z => rw [k2] at h; injection h with h; subst h; exact ih a (hl a (by simp)) (Ex.allF_arg hP (hl a (by simp))) _ k2
              | ok a' =>
                rw [k2] at h
                cases hm : mExs f t with
                | error z => rw [hm] at h; injection h with h; subst h; exact iht (fun b hb => hl b (by simp [hb])) hm
                | ok u => rw [hm] at h; cases h
          exact key e.Args (fun a h => h) h2
        | ok as' => rw [h2] at h; cases h
    · rw [fE_err k] at h; injection h with h; subst h
      exact hP e (by rw [nodes_eq]; simp) _ (by unfold formsL; simp)

/-! ## What stays -/
theorem forms_g (g : Lf → Lf) (e : Ex) : formsL (gEx g e) = (formsL e).map g := by
  rw [gEx_eq]
  show g e.Lin :: (e.Idx.map (gIx g)).flatMap (fun x => x.Lin :: x.At) = (e.Lin :: e.Idx.flatMap fun x => x.Lin :: x.At).map g
  rw [List.map_cons]
  congr 1
  induction e.Idx with
  | nil => rfl
  | cons x r ih => rw [List.map_cons, List.flatMap_cons, List.flatMap_cons, List.map_append, ih]; rfl
mutual
theorem nodes_g (g : Lf → Lf) : ∀ e : Ex, nodes (gEx g e) = (nodes e).map (gEx g)
  | .mk o n v t l i arg_ => by rw [gEx, nodes, nodes, nodesL_g g arg_, List.map_cons, gEx]
theorem nodesL_g (g : Lf → Lf) : ∀ l : List Ex, nodesL (gExs g l) = (nodesL l).map (gEx g)
  | [] => by rw [gExs, nodesL]; rfl
  | a :: r => by rw [gExs, nodesL, nodesL, nodes_g g a, nodesL_g g r, List.map_append]
end
theorem allF_g {g : Lf → Lf} {P : Lf → Prop} {e : Ex} (h : e.allF fun l => P (g l)) : (gEx g e).allF P := by
  intro x hx l hl
  rw [nodes_g] at hx
  obtain ⟨y, hy, rfl⟩ := List.mem_map.1 hx
  rw [forms_g] at hl
  obtain ⟨k, hk, rfl⟩ := List.mem_map.1 hl
  exact h y hy k hk
theorem dep_g (g : Lf → Lf) : ∀ (n : Nat) (e : Ex), depT n (gEx g e) = depT n e
  | 0, e => rfl
  | n + 1, e => by
    rw [depT, depT, gEx_eq]
    show depF (depT n) 1 (e.Args.map (gEx g)) = _
    have : ∀ (l : List Ex) (d : Int), depF (depT n) d (l.map (gEx g)) = depF (depT n) d l := by
      intro l
      induction l with
      | nil => intro d; rfl
      | cons a r ih => intro d; rw [List.map_cons, depF, depF, dep_g g n a, ih]
    exact this _ _
theorem conds_g (g : Lf → Lf) (op : Int) : ∀ (l : List Ex) (i : Int), condsOk op i (l.map (gEx g)) = condsOk op i l
  | [], _ => rfl
  | a :: r, i => by
    rw [List.map_cons, condsOk, condsOk, conds_g g op r]
    have : isCond (gEx g a) = isCond a := by rw [gEx_eq]; rfl
    rw [this]
theorem nodeErr_g {g : Lf → Lf} {e : Ex} (hz : g ⟨0, []⟩ = ⟨0, []⟩) (hf : ∀ l, l ∈ formsL e → linOk (g l) = true) (h : nodeErr e = 0) : nodeErr (gEx g e) = 0 := by
  obtain ⟨h1, h2, h3, h4, h5⟩ := node_all h
  have zero : ∀ l : Lf, zeroL l = true → zeroL (g l) = true := by
    intro l hl
    have : l = ⟨0, []⟩ := by
      cases l with
      | mk K L =>
        unfold zeroL at hl
        simp only [Bool.and_eq_true, decide_eq_true_eq] at hl
        obtain ⟨rfl, hL⟩ := hl
        have : L = [] := List.eq_nil_of_length_eq_zero (by omega)
        rw [this]
    rw [this, hz]; rfl
  have k1 : synOk (gEx g e) = true := by
    rw [gEx_eq]
    unfold synOk at h1 ⊢
    simp only [Bool.and_eq_true] at h1 ⊢
    obtain ⟨⟨⟨⟨⟨a1, a2⟩, a3⟩, a4⟩, a5⟩, a6⟩ := h1
    refine ⟨⟨⟨⟨⟨a1, a2⟩, a3⟩, ?_⟩, ?_⟩, ?_⟩
    · show (!(!decide (e.Op = 2) && !zeroL (g e.Lin))) = true
      cases c : decide (e.Op = 2)
      · rw [c] at a4
        have : zeroL e.Lin = true := by simpa using a4
        rw [zero _ this]; rfl
      · rfl
    · show (!(!decide (e.Op = 3) && (!decide (e.Name = bs []) || decide ((0 : Int) < (e.Idx.map (gIx g)).length)))) = true
      rw [List.length_map]; exact a5
    · show (e.Idx.map (gIx g)).all wellIx = true
      rw [List.all_map]
      refine List.all_eq_true.2 fun x hx => ?_
      have := List.all_eq_true.1 a6 x hx
      show wellIx (gIx g x) = true
      unfold wellIx gIx at *
      show (bif decide (x.From = bs []) then decide (((x.At.map g).length : Int) = 0) else zeroL (g x.Lin)) = true
      rw [List.length_map]
      cases c : decide (x.From = bs [])
      · rw [c, cond_false] at this; rw [cond_false]; exact zero _ this
      · rw [c, cond_true] at this; rw [cond_true]; exact this
  have k2 : namesE (gEx g e) = true := by
    rw [gEx_eq]
    unfold namesE at h2 ⊢
    rw [Bool.and_eq_true] at h2 ⊢
    refine ⟨h2.1, ?_⟩
    show (e.Idx.map (gIx g)).all nmIx = true
    rw [List.all_map]; exact h2.2
  have k3 : rankE (gEx g e) = true := by
    rw [gEx_eq]
    unfold rankE at h3 ⊢
    rw [Bool.and_eq_true] at h3 ⊢
    refine ⟨?_, ?_⟩
    · show (!(!decide (((e.Args.map (gEx g)).length : Int) = nArgs e.Op) || decide ((6 : Int) < (e.Idx.map (gIx g)).length))) = true
      rw [List.length_map, List.length_map]; exact h3.1
    · show (e.Idx.map (gIx g)).all rkIx = true
      rw [List.all_map]
      refine List.all_eq_true.2 fun x hx => ?_
      have := List.all_eq_true.1 h3.2 x hx
      show (!decide ((6 : Int) < (x.At.map g).length)) = true
      rw [List.length_map]; exact this
  have k4 : typesE (gEx g e) = true := by
    rw [gEx_eq]
    unfold typesE at h4 ⊢
    rw [Bool.and_eq_true] at h4 ⊢
    refine ⟨h4.1, ?_⟩
    show condsOk e.Op 0 (e.Args.map (gEx g)) = true
    rw [conds_g]; exact h4.2
  have k5 : formOk (gEx g e) = true := by
    unfold formOk at h5 ⊢
    rw [Bool.and_eq_true] at h5 ⊢
    refine ⟨by rw [gEx_eq]; exact h5.1, ?_⟩
    rw [forms_g, List.all_map]
    exact List.all_eq_true.2 hf
  unfold nodeErr
  rw [k1, k2, k3, k4, k5]; rfl
theorem errsL_zero {l : List Ex} (h : ∀ x, x ∈ l → nodeErr x = 0) : errsL l = 0 := by
  induction l with
  | nil => rfl
  | cons a r ih => rw [errsL, dec_true (h a (by simp)), cond_true]; exact ih fun x hx => h x (by simp [hx])
theorem valid_g {g : Lf → Lf} {e : Ex} (hz : g ⟨0, []⟩ = ⟨0, []⟩) (hf : e.allF fun l => linOk (g l) = true) (h : validE e = 0) : validE (gEx g e) = 0 := by
  have hp := valid_part h
  have hp2 : partE (gEx g e) = 0 := by
    unfold partE at hp ⊢
    rw [nodes_g]
    refine errsL_zero fun x hx => ?_
    obtain ⟨y, hy, rfl⟩ := List.mem_map.1 hx
    exact nodeErr_g hz (hf y hy) (errsL_mem hp y hy)
  unfold validE at h ⊢
  have e1 : szT (gEx g e) = szT e := by unfold szT; rw [nodes_g, List.length_map]
  rw [dep_g, e1, hp2]
  rw [hp] at h
  exact h
theorem valid_lin {e : Ex} (h : validE e = 0) : e.allF fun l => linOk l = true := by
  intro x hx l hl
  have := (node_all (errsL_mem (valid_part h) x hx)).2.2.2.2
  unfold formOk at this
  rw [Bool.and_eq_true] at this
  exact List.all_eq_true.1 this.2 l hl

/-! ## Weights -/
theorem linsWt_g {g : Lf → Lf} {c : Nat} (hg : ∀ l, (g l).L.length ≤ l.L.length + c) : ∀ l : List Lf, linsWt (l.map g) ≤ linsWt l + c * l.length
  | [] => by simp [linsWt]
  | x :: r => by
    rw [List.map_cons, linsWt, linsWt, List.length_cons, Nat.mul_succ]
    have := linsWt_g hg r; have := hg x; omega
theorem idxWt_g {g : Lf → Lf} {c : Nat} (hg : ∀ l, (g l).L.length ≤ l.L.length + c) : ∀ l : List Ix, idxWt (l.map (gIx g)) ≤ (c + 1) * idxWt l + c * l.length
  | [] => by simp [idxWt]
  | x :: r => by
    rw [List.map_cons, idxWt, idxWt, List.length_cons, Nat.mul_succ, Nat.mul_add]
    have h1 := idxWt_g hg r
    have h2 := linsWt_g hg x.At
    have h3 := hg x.Lin
    have h4 : (gIx g x).wt ≤ (c + 1) * x.wt + c := by
      show (g x.Lin).L.length + (x.At.map g).length + linsWt (x.At.map g) ≤ (c + 1) * (x.Lin.L.length + x.At.length + linsWt x.At) + c
      rw [List.length_map]
      have e : (c + 1) * (x.Lin.L.length + x.At.length + linsWt x.At) = (c * x.Lin.L.length + c * x.At.length + c * linsWt x.At) + (x.Lin.L.length + x.At.length + linsWt x.At) := by
        rw [Nat.add_mul, Nat.one_mul, Nat.mul_add, Nat.mul_add]
      omega
    omega
theorem wt_g {g : Lf → Lf} {c : Nat} (hg : ∀ l, (g l).L.length ≤ l.L.length + c) (e : Ex) : (gEx g e).wt ≤ (c + 1) * e.wt := by
  induction e using Ex.ind with
  | _ e ih =>
    have key : ∀ l : List Ex, (∀ a, a ∈ l → (gEx g a).wt ≤ (c + 1) * a.wt) → argsWt (l.map (gEx g)) ≤ (c + 1) * argsWt l := by
      intro l
      induction l with
      | nil => intro _; simp [argsWt]
      | cons a r ihr =>
        intro h
        rw [List.map_cons, argsWt, argsWt, Nat.mul_add]
        have := h a (by simp)
        have := ihr fun b hb => h b (by simp [hb])
        omega
    have h1 := key e.Args ih
    have h2 := idxWt_g hg e.Idx
    have h3 := hg e.Lin
    rw [Ex.wt_eq, Ex.wt_eq, gEx_eq]
    show 1 + (g e.Lin).L.length + (e.Idx.map (gIx g)).length + idxWt (e.Idx.map (gIx g)) + argsWt (e.Args.map (gEx g)) ≤ (c + 1) * (1 + e.Lin.L.length + e.Idx.length + idxWt e.Idx + argsWt e.Args)
    rw [List.length_map]
    have e1 : (c + 1) * (1 + e.Lin.L.length + e.Idx.length + idxWt e.Idx + argsWt e.Args) = (c + 1) * 1 + (c + 1) * e.Lin.L.length + (c + 1) * e.Idx.length + (c + 1) * idxWt e.Idx + (c + 1) * argsWt e.Args := by
      rw [Nat.mul_add, Nat.mul_add, Nat.mul_add, Nat.mul_add]
    have e2 : (c + 1) * e.Lin.L.length = c * e.Lin.L.length + e.Lin.L.length := by rw [Nat.add_mul, Nat.one_mul]
    have e3 : (c + 1) * e.Idx.length = c * e.Idx.length + e.Idx.length := by rw [Nat.add_mul, Nat.one_mul]
    omega
theorem out_wt {f : Lf → Lf × Int} {c : Nat} (hg : ∀ l, (f l).1.L.length ≤ l.L.length + c) (e : Ex) : (outE (mEx f e)).wt ≤ (c + 1) * e.wt + 1 := by
  cases h : mEx f e with
  | error y => show zEx.wt ≤ _; simp [zEx, Ex.wt, idxWt, argsWt]
  | ok e' =>
    obtain ⟨rfl, _⟩ := mEx_g h
    exact Nat.le_succ_of_le (wt_g hg e)
end Go.Br
end
section
set_option linter.unusedSimpArgs false
set_option linter.unusedVariables false
namespace Go.Br
open Go Go.Eng Go.Proofs Go.L41

/-- What a comparison keeps at one of its arguments. -/
structure PO {α : Type} (f : α → α → Int) (a : α) : Prop where
  anti : ∀ b, f b a = - f a b
  rng : ∀ b, -1 ≤ f a b ∧ f a b ≤ 1
  cong : ∀ b, f a b = 0 → ∀ c, f a c = f b c
  cong' : ∀ b c, f b c = 0 → f a b = f a c
  trans : ∀ b c, f a b < 0 → f b c < 0 → f a c < 0

theorem PO.zero {α : Type} (a : α) : PO (fun _ _ => 0) a :=
  ⟨fun _ => rfl, fun _ => ⟨by show (-1 : Int) ≤ 0; omega, by show (0 : Int) ≤ 1; omega⟩, fun _ _ _ => rfl, fun _ _ _ => rfl, fun _ _ h _ => h⟩
end Go.Br
end
section
set_option linter.unusedSimpArgs false
set_option linter.unusedVariables false
namespace Go.Br
open Go Go.Eng Go.L41

/-! ## Short names -/
def shortI (x : Ix) : Bool := !decide ((100 : Int) < x.From.size)
mutual
def shortE : Ex → Bool
  | .mk o n v t l i r => !(decide ((100 : Int) < n.size) || decide ((20 : Int) < i.length)) && (i.all shortI && shortEs r)
def shortEs : List Ex → Bool
  | [] => true
  | a :: r => shortE a && shortEs r
end
theorem shortEs_all (l : List Ex) : shortEs l = l.all shortE := by
  induction l with
  | nil => rfl
  | cons a r ih => rw [shortEs, ih]; rfl
theorem shortE_eq (e : Ex) : shortE e = (!(decide ((100 : Int) < e.Name.size) || decide ((20 : Int) < e.Idx.length)) && (e.Idx.all shortI && e.Args.all shortE)) := by
  cases e; rw [shortE, shortEs_all]; rfl
theorem all_next' {α : Type} {p : α → Bool} {l : List α} {k : Nat} {x : α} (h : l[k]? = some x) (hp : (l.take k).all p = true) (hx : p x = true) : (l.take (k + 1)).all p = true := by
  rw [take_next h, List.all_append, hp]; simp [hx]
theorem short_1 {e : Ex} (h : (100 : Int) < e.Name.size ∨ (20 : Int) < e.Idx.length) : shortE e = false := by
  rw [shortE_eq]
  rcases h with h | h <;> simp [h]
theorem short_2 {e : Ex} {k : Nat} {x : Ix} (h : e.Idx[k]? = some x) (hx : shortI x = false) : shortE e = false := by
  rw [shortE_eq, all_no h hx]; simp
theorem short_3 {e : Ex} {k : Nat} {x : Ex} (h : e.Args[k]? = some x) (hx : shortE x = false) : shortE e = false := by
  rw [shortE_eq, all_no h hx]; simp
theorem short_4 {e : Ex} (h1 : ¬ ((100 : Int) < e.Name.size ∨ (20 : Int) < e.Idx.length)) (h2 : e.Idx.all shortI = true) (h3 : e.Args.all shortE = true) : shortE e = true := by
  rw [shortE_eq, h2, h3]
  simp only [not_or] at h1
  simp [h1.1, h1.2]
def fewE (e : Ex) (m : Nat) : Bool := decide (weighE e m ≤ m) && shortE e
theorem few_wt {e : Ex} {m : Nat} (h : fewE e m = true) : e.wt ≤ m := by
  unfold fewE at h
  rw [Bool.and_eq_true, decide_eq_true_eq] at h
  have := weighE_wt e m h.1
  omega
theorem few_bool (e : Ex) (m : Nat) : (decide ((weighE e m : Int) ≤ m) && shortE e) = fewE e m := by
  unfold fewE; congr 1; exact decide_eq_decide.2 (by omega)

mutual
def replE (f t : Ex) : Ex → Ex
  | .mk o n v y l i r => if .mk o n v y l i r = f then t else .mk o n v y l i (replEs f t r)
def replEs (f t : Ex) : List Ex → List Ex
  | [] => []
  | a :: r => replE f t a :: replEs f t r
end
def namesF (l : Lf) : List ByteArray := l.L.map Mono.Name
def namesN (x : Ex) : List ByteArray := (formsL x).flatMap namesF
def namesA (l : List Ex) : List ByteArray := l.flatMap namesN
def indexT (e : Ex) : List ByteArray := thinB (sortB (namesA (nodes e)))
theorem namesF_one (pre : List Lf) (x : Lf) : (pre ++ [x]).flatMap namesF = pre.flatMap namesF ++ namesF x := by rw [List.flatMap_append]; simp
theorem namesA_one (pre : List Ex) (x : Ex) : namesA (pre ++ [x]) = namesA pre ++ namesN x := by unfold namesA; rw [List.flatMap_append]; simp
theorem namesM_next {l : List Mono} {k : Nat} {x : Mono} (h : l[k]? = some x) : (l.take (k + 1)).map Mono.Name = (l.take k).map Mono.Name ++ [x.Name] := by rw [take_next h, List.map_append]; rfl
theorem namesN_len (x : Ex) : (namesN x).length ≤ x.Lin.L.length + idxWt x.Idx := by
  unfold namesN formsL
  rw [List.flatMap_cons, List.length_append]
  have h1 : ∀ l : List Lf, (l.flatMap namesF).length = linsWt l := by
    intro l
    induction l with
    | nil => rfl
    | cons a r ih => rw [List.flatMap_cons, List.length_append, ih, linsWt]; unfold namesF; rw [List.length_map]
  have h2 : ∀ l : List Ix, ((l.flatMap fun x => x.Lin :: x.At).flatMap namesF).length ≤ idxWt l := by
    intro l
    induction l with
    | nil => simp [idxWt]
    | cons a r ih =>
      rw [List.flatMap_cons, List.flatMap_append, List.length_append, idxWt, h1, linsWt, Ix.wt]
      omega
  have := h2 x.Idx
  have e : (namesF x.Lin).length = x.Lin.L.length := by unfold namesF; rw [List.length_map]
  omega
theorem namesA_len (e : Ex) : (namesA (nodes e)).length ≤ e.wt := by
  induction e using Ex.ind with
  | _ e ih =>
    rw [nodes_eq, Ex.wt_eq]
    have e1 : namesA (e :: nodesL e.Args) = namesN e ++ namesA (nodesL e.Args) := rfl
    rw [e1, List.length_append]
    have h2 : ∀ l : List Ex, (∀ a, a ∈ l → (namesA (nodes a)).length ≤ a.wt) → (namesA (nodesL l)).length ≤ argsWt l := by
      intro l
      induction l with
      | nil => intro _; simp [namesA, nodesL, argsWt]
      | cons a r ih2 =>
        intro h
        have h3 := h a (by simp)
        have h4 := ih2 fun b hb => h b (by simp [hb])
        have e2 : namesA (nodesL (a :: r)) = namesA (nodes a) ++ namesA (nodesL r) := by rw [nodesL]; unfold namesA; rw [List.flatMap_append]
        rw [e2, List.length_append, argsWt]; omega
    have h5 := h2 e.Args ih
    have h6 := namesN_len e
    omega
theorem namesP_len {e : Ex} {pre suf : List Ex} (h : nodes e = pre ++ suf) : (namesA pre).length ≤ e.wt := by
  have h1 := namesA_len e
  have e1 : namesA (nodes e) = namesA pre ++ namesA suf := by rw [h]; unfold namesA; rw [List.flatMap_append]
  rw [e1, List.length_append] at h1; omega
theorem namesX_len {x : Ex} {pre suf : List Lf} (h : formsL x = pre ++ suf) : (pre.flatMap namesF).length ≤ (namesN x).length := by
  unfold namesN
  rw [h, List.flatMap_append, List.length_append]; omega
theorem mem_indexT {s : ByteArray} {e : Ex} (h : s ∈ indexT e) : ∃ x, x ∈ nodes e ∧ ∃ l, l ∈ formsL x ∧ hasN l s := by
  unfold indexT at h
  have h := mem_sortB.1 (mem_thinB h)
  obtain ⟨x, hx, h⟩ := List.mem_flatMap.1 h
  obtain ⟨l, hl, h⟩ := List.mem_flatMap.1 h
  obtain ⟨m, hm, e⟩ := List.mem_map.1 h
  exact ⟨x, hx, l, hl, m, hm, e⟩
theorem index_gone {e : Ex} {s : ByteArray} (h : e.allF fun l => ¬ hasN l s) : ¬ s ∈ indexT e := by
  intro hs
  obtain ⟨x, hx, l, hl, k⟩ := mem_indexT hs
  exact h x hx l hl k
theorem readsT_g (g : Lf → Lf) (e : Ex) : readsT (gEx g e) = readsT e := by
  unfold readsT
  congr 2
  unfold readsA
  rw [nodes_g, List.flatMap_map]
  congr 1
  funext x
  rw [gEx_eq]
  show opRead x ++ readsI (x.Idx.map (gIx g)) = opRead x ++ readsI x.Idx
  congr 1
  unfold readsI
  rw [List.flatMap_map]
  rfl

/-! ## The example -/
def lvA : Ex := .mk 3 (bs [97]) ⟨0, 0⟩ ⟨0, 0, 0, 0, 0⟩ ⟨0, []⟩ [⟨⟨0, [⟨bs [105], 1⟩]⟩, bs [], []⟩, ⟨⟨2, []⟩, bs [], []⟩] []
def lvT : Ex := .mk 1 (bs []) ⟨3, 1⟩ ⟨3, 0, 0, 0, 0⟩ ⟨0, []⟩ [] []
def lvE : Ex := .mk 4 (bs []) ⟨0, 0⟩ ⟨0, 0, 0, 0, 0⟩ ⟨0, []⟩ [] [lvA, lvT]
def lvI : Ex := .mk 11 (bs []) ⟨0, 0⟩ ⟨0, 0, 0, 0, 0⟩ ⟨0, []⟩ [] [lvA, lvA, lvA]
def lvU : Lf := ⟨1, [⟨bs [106], 1⟩]⟩
def lvB : Ex := .mk 3 (bs [97]) ⟨0, 0⟩ ⟨0, 0, 0, 0, 0⟩ ⟨0, []⟩ [⟨⟨1, [⟨bs [106], 1⟩]⟩, bs [], []⟩, ⟨⟨2, []⟩, bs [], []⟩] []
def lvX : Ex := .mk 4 (bs []) ⟨0, 0⟩ ⟨0, 0, 0, 0, 0⟩ ⟨0, []⟩ [] [lvB, lvT]
theorem lvE_sub : outE (mEx (fun l => substP l (bs [105]) lvU) lvE) = lvX ∧ errE (mEx (fun l => substP l (bs [105]) lvU) lvE) = 0 := by decide +kernel
theorem lvE_valid : validE lvE = 0 ∧ validE lvI = 10 ∧ szT lvE = 3 ∧ depT 40 lvE = 2 := by decide +kernel
theorem lvE_wt : lvE.wt ≤ 1000 ∧ lvI.wt ≤ 1000 ∧ lvX.wt ≤ 1000 := by decide +kernel
theorem lvE_rng : lvE.allF Lf.rng := by
  intro x hx l hl
  have h : nodes lvE = [lvE, lvA, lvT] := by rfl
  rw [h] at hx
  simp only [List.mem_cons, List.not_mem_nil, or_false] at hx
  rcases hx with rfl | rfl | rfl
  · have : formsL lvE = [⟨0, []⟩] := rfl
    rw [this] at hl; simp only [List.mem_singleton] at hl; subst hl; exact zL_rng
  · have : formsL lvA = [⟨0, []⟩, ⟨0, [⟨bs [105], 1⟩]⟩, ⟨2, []⟩] := rfl
    rw [this] at hl; simp only [List.mem_cons, List.not_mem_nil, or_false] at hl
    rcases hl with rfl | rfl | rfl
    · exact zL_rng
    · exact ⟨by unfold r64; decide, fun m hm => by simp only [List.mem_singleton] at hm; subst hm; unfold r64; decide⟩
    · exact ⟨by unfold r64; decide, fun m hm => by cases hm⟩
  · have : formsL lvT = [⟨0, []⟩] := rfl
    rw [this] at hl; simp only [List.mem_singleton] at hl; subst hl; exact zL_rng
theorem lvU_rng : lvU.rng := ⟨by unfold r64; decide, fun m hm => by simp only [lvU, List.mem_singleton] at hm; subst hm; unfold r64; decide⟩
theorem sort_one (s : ByteArray) : sortB [s] = [s] := by
  unfold sortB ofB toB
  rw [List.map_singleton, List.mergeSort_singleton, List.map_singleton]
theorem thin_one (s : ByteArray) : thinB [s] = [s] := by
  cases s; rfl
theorem lvX_index : indexT lvX = [bs [106]] := by
  have h : namesA (nodes lvX) = [bs [106]] := by rfl
  unfold indexT; rw [h, sort_one, thin_one]
theorem lvE_reads : readsT lvE = [bs [97]] := by
  have h : readsA (nodes lvE) = [bs [97]] := by decide +kernel
  unfold readsT; rw [h, sort_one, thin_one]
end Go.Br
end
section
set_option linter.unusedSimpArgs false
set_option linter.unusedVariables false
namespace Go.Br
open Go Go.Eng Go.L41

theorem indexT_len (e : Ex) : (indexT e).length ≤ e.wt := by
  unfold indexT
  have h1 := thinB_len (sortB (namesA (nodes e)))
  rw [sortB_len] at h1
  have := namesA_len e
  omega
theorem has_next {l : List Mono} {k : Nat} {x : Mono} {s : ByteArray} (h : l[k]? = some x) : hasVar (l.take (k + 1)) s = (hasVar (l.take k) s || decide (x.Name = s)) := by
  unfold hasVar; rw [take_next h, List.any_append]; simp
theorem hasN_var {l : Lf} {s : ByteArray} : hasN l s ↔ hasVar l.L s = true := by
  unfold hasN hasVar
  rw [List.any_eq_true]
  constructor
  · rintro ⟨m, h1, h2⟩; exact ⟨m, h1, by simp [h2]⟩
  · rintro ⟨m, h1, h2⟩; exact ⟨m, h1, by simpa using h2⟩
abbrev SR (s : ByteArray) (u : Lf) (l : Lf) : Lf × Int := substR l s u
theorem elim_self {e : Ex} {s : ByteArray} (hv : validE e = 0) (hn : isNameB s = true) (hP : e.allF Lf.rng) : mEx (SR s ⟨0, [⟨s, 1⟩]⟩) e = .ok e := by
  have h1 := valid_lin hv
  rw [mEx_congr (P := fun l => linOk l = true ∧ l.rng) (g := idF) (fun l hl => substR_self hl.1 hn hl.2) e (fun x hx l hl => ⟨h1 x hx l hl, hP x hx l hl⟩)]
  exact mEx_id e
theorem elim_err {e : Ex} {s : ByteArray} {u : Lf} (hv : validE e = 0) (hn : isNameB s = true) (hu : linOk u = true) (h : ¬ errE (mEx (SR s u) e) = 0) : errE (mEx (SR s u) e) = 3 := by
  have h1 := valid_lin hv
  cases hm : mEx (SR s u) e with
  | ok a => rw [hm] at h; exact absurd rfl h
  | error y =>
    have := mEx_er (P := fun c => c = 0 ∨ c = 3) e (fun x hx l hl => substR_err (h1 x hx l hl) hu hn) y hm
    rw [hm] at h
    rcases this with k | k
    · exact absurd k h
    · exact k
theorem elim_ok {e : Ex} {s : ByteArray} {u : Lf} (hv : validE e = 0) (hn : isNameB s = true) (hu : linOk u = true) (h : errE (mEx (SR s u) e) = 0) :
    validE (outE (mEx (SR s u) e)) = 0 ∧ readsT (outE (mEx (SR s u) e)) = readsT e ∧ (hasVar u.L s = false → hasB (indexT (outE (mEx (SR s u) e))) s = false) := by
  have h1 := valid_lin hv
  obtain ⟨y, hy⟩ := errE_ok h (mEx_ne e)
  obtain ⟨hg, h0⟩ := mEx_g hy
  rw [hy]
  show validE y = 0 ∧ readsT y = readsT e ∧ (hasVar u.L s = false → hasB (indexT y) s = false)
  rw [hg]
  refine ⟨valid_g ?_ ?_ hv, readsT_g _ _, fun hh => ?_⟩
  · show (substR ⟨0, []⟩ s u).1 = _; rw [substR_zero hu hn]
  · exact fun x hx l hl => substR_ok (h1 x hx l hl) hu hn (h0 x hx l hl)
  · have hto : ¬ hasN u s := by rw [hasN_var, hh]; simp
    have hgone := index_gone (e := gEx (fun l => (SR s u l).1) e) (s := s) (allF_g (fun x hx l hl => substR_gone (h1 x hx l hl) hto (h0 x hx l hl)))
    unfold hasB
    rw [List.any_eq_false]
    intro t ht
    simp only [decide_eq_true_eq]
    rintro rfl
    exact hgone ht
theorem elim_fin {w h v r : Bool} (hv : v = true) (hr : r = true) (hh : w = false → h = false) : ((((w || !h) && v) && r) && true) = true := by
  subst hv hr
  cases w
  · rw [hh rfl]; rfl
  · simp
end Go.Br
end
