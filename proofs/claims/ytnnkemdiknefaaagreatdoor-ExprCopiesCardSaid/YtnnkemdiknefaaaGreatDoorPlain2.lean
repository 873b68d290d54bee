/-
  Sums of linear forms, exactly, in plain Lean: numbers of 64 and of 128 bits, merges of ascending lists, substitution.
  The reference's substitution of forms, in plain Lean: the sum, and the mapping of all forms of an expression.
  What the substitution of a form keeps, in plain Lean: valid forms stay valid, the name is gone, the shape of an expression stays.
  The comparison of expressions is a total order, in plain Lean.
  Layer 14 in plain Lean: short names, replacing, the names in forms, the example that every statement checks.
  Layer 14 in plain Lean: what the statement on elimination asks of a substitution.
  Layer 14 in plain Lean: what the statement on walks asks; and four pieces of memory at once.
  Expressions that are spoiled: how many strings a walk over a tree makes longer; cells of a region.
  Conditions: none.
-/
import Derived.Test.YtnnkemdiknefaaaGreatDoorPlain
import Derived.Test.YtnnkemdiknefaaaGreatDoorEngZ
section
set_option linter.unusedSimpArgs false
set_option linter.unusedVariables false
namespace Go.Br
open Go Go.Eng Go.L41

/-! ## The order of names -/
def r64 (n : Int) : Prop := -9223372036854775808 ≤ n ∧ n ≤ 9223372036854775807
instance (n : Int) : Decidable (r64 n) := by unfold r64; infer_instance
def w64 (n : Int) : Int := IntKind.i64.wrap n
theorem w64_in {n : Int} (h : r64 n) : w64 n = n := IntWalk.i64_in n h
theorem w64_eq (n : Int) : w64 n = (n + 9223372036854775808) % 18446744073709551616 - 9223372036854775808 := by unfold w64; rw [IntKind.wrap_i64]
theorem u64_eq (n : Int) : IntKind.u64.wrap n = n % 18446744073709551616 := by rw [IntKind.wrap_u64]
theorem plus_ok {a b : Int} (ha : r64 a) (hb : r64 b) : decide (decide (a < w64 (a + b)) = decide (0 < b)) = decide (r64 (a + b)) := by
  refine decide_eq_decide.2 ?_
  rw [w64_eq, decide_eq_decide]
  unfold r64 at *
  omega

theorem sq_le {a b : Nat} (ha : a ≤ 4294967295) (hb : b ≤ 4294967295) : a * b ≤ 18446744065119617025 := Nat.mul_le_mul ha hb
def hiN (a b : Nat) : Nat :=
  (a / 4294967296) * (b / 4294967296) + ((a / 4294967296) * (b % 4294967296) + ((a % 4294967296) * (b % 4294967296)) / 4294967296) / 4294967296 +
    ((a % 4294967296) * (b / 4294967296) + ((a / 4294967296) * (b % 4294967296) + ((a % 4294967296) * (b % 4294967296)) / 4294967296) % 4294967296) / 4294967296
theorem mul_parts (a b : Nat) : a * b = (a / 4294967296) * (b / 4294967296) * 18446744073709551616 + ((a / 4294967296) * (b % 4294967296) + (a % 4294967296) * (b / 4294967296)) * 4294967296 + (a % 4294967296) * (b % 4294967296) := by
  have ea : a = (a / 4294967296) * 4294967296 + a % 4294967296 := by omega
  have eb : b = (b / 4294967296) * 4294967296 + b % 4294967296 := by omega
  generalize a / 4294967296 = a1 at *
  generalize a % 4294967296 = a0 at *
  generalize b / 4294967296 = b1 at *
  generalize b % 4294967296 = b0 at *
  subst ea eb
  rw [Nat.add_mul, Nat.mul_add, Nat.mul_add, Nat.add_mul]
  have e1 : a1 * 4294967296 * (b1 * 4294967296) = a1 * b1 * 18446744073709551616 := by
    rw [Nat.mul_mul_mul_comm]
  have e2 : a1 * 4294967296 * b0 = a1 * b0 * 4294967296 := by rw [Nat.mul_right_comm]
  have e3 : a0 * (b1 * 4294967296) = a0 * b1 * 4294967296 := by rw [Nat.mul_assoc]
  rw [e1, e2, e3]
  omega
theorem hi_lo (a b : Nat) : hiN a b * 18446744073709551616 + (a * b) % 18446744073709551616 = a * b := by
  have h := mul_parts a b
  unfold hiN
  generalize a * b = n at *
  generalize (a / 4294967296) * (b / 4294967296) = p11 at *
  generalize (a / 4294967296) * (b % 4294967296) = p10 at *
  generalize (a % 4294967296) * (b / 4294967296) = p01 at *
  generalize (a % 4294967296) * (b % 4294967296) = p00 at *
  omega
theorem part_le {a b : Nat} (ha : a < 18446744073709551616) (hb : b < 18446744073709551616) :
    (a / 4294967296) * (b / 4294967296) ≤ 18446744065119617025 ∧ (a / 4294967296) * (b % 4294967296) ≤ 18446744065119617025 ∧ (a % 4294967296) * (b / 4294967296) ≤ 18446744065119617025 ∧ (a % 4294967296) * (b % 4294967296) ≤ 18446744065119617025 :=
  ⟨sq_le (by omega) (by omega), sq_le (by omega) (by omega), sq_le (by omega) (by omega), sq_le (by omega) (by omega)⟩
theorem hi_zero {a b : Nat} : hiN a b = 0 ↔ a * b < 18446744073709551616 := by
  have h := hi_lo a b
  constructor
  · intro e; rw [e] at h; omega
  · intro e
    by_cases c : hiN a b = 0
    · exact c
    · exfalso; generalize a * b = n at *; generalize hiN a b = m at *; omega
theorem hi_bounds {a b : Nat} (ha : a < 18446744073709551616) (hb : b < 18446744073709551616) :
    (a / 4294967296) * (b % 4294967296) + ((a % 4294967296) * (b % 4294967296)) / 4294967296 < 18446744073709551616 ∧
    (a % 4294967296) * (b / 4294967296) + ((a / 4294967296) * (b % 4294967296) + ((a % 4294967296) * (b % 4294967296)) / 4294967296) % 4294967296 < 18446744073709551616 ∧
    (a / 4294967296) * (b / 4294967296) + ((a / 4294967296) * (b % 4294967296) + ((a % 4294967296) * (b % 4294967296)) / 4294967296) / 4294967296 < 18446744073709551616 ∧ hiN a b < 18446744073709551616 := by
  obtain ⟨h1, h2, h3, h4⟩ := part_le ha hb
  have h5 := hi_lo a b
  have h6 : a * b ≤ 18446744073709551615 * 18446744073709551615 := Nat.mul_le_mul (by omega) (by omega)
  refine ⟨?_, ?_, ?_, ?_⟩
  · generalize (a / 4294967296) * (b % 4294967296) = p10 at *
    generalize (a % 4294967296) * (b % 4294967296) = p00 at *
    omega
  · generalize (a / 4294967296) * (b % 4294967296) = p10 at *
    generalize (a % 4294967296) * (b / 4294967296) = p01 at *
    generalize (a % 4294967296) * (b % 4294967296) = p00 at *
    omega
  · generalize (a / 4294967296) * (b / 4294967296) = p11 at *
    generalize (a / 4294967296) * (b % 4294967296) = p10 at *
    generalize (a % 4294967296) * (b % 4294967296) = p00 at *
    omega
  · generalize a * b = n at *
    generalize hiN a b = m at *
    omega
/-- The product of two numbers, where it is one. -/
def timesT (x y : Int) : Int × Bool := if r64 (x * y) then (x * y, true) else (0, false)
theorem magn_neg {x : Int} (h : r64 x) (hn : x < 0) : IntKind.u64.wrap (-(IntKind.u64.wrap x)) = (x.natAbs : Int) := by
  unfold r64 at h; rw [u64_eq, u64_eq]; omega
theorem magn_pos {x : Int} (h : r64 x) (hn : ¬ x < 0) : IntKind.u64.wrap x = (x.natAbs : Int) := by
  unfold r64 at h; rw [u64_eq]; omega
theorem magn_le {x : Int} (h : r64 x) : x.natAbs ≤ 9223372036854775808 := by unfold r64 at h; omega
theorem abs_mul (x y : Int) : (x * y).natAbs = x.natAbs * y.natAbs := Int.natAbs_mul x y
theorem sign_mul {x y : Int} (hx : x < 0) (hy : ¬ y < 0) : x * y ≤ 0 := Int.mul_nonpos_of_nonpos_of_nonneg (by omega) (by omega)
theorem sign_mul2 {x y : Int} (hx : ¬ x < 0) (hy : y < 0) : x * y ≤ 0 := Int.mul_nonpos_of_nonneg_of_nonpos (by omega) (by omega)
theorem sign_mul3 {x y : Int} (hx : x < 0) (hy : y < 0) : 0 ≤ x * y := Int.mul_nonneg_of_nonpos_of_nonpos (by omega) (by omega)
theorem sign_mul4 {x y : Int} (hx : ¬ x < 0) (hy : ¬ y < 0) : 0 ≤ x * y := Int.mul_nonneg (by omega) (by omega)
theorem neg_mul {x y : Int} (h : (decide (x < 0) == decide (y < 0)) = false) : x * y ≤ 0 := by
  by_cases hx : x < 0 <;> by_cases hy : y < 0
  · simp [hx, hy] at h
  · exact sign_mul hx hy
  · exact sign_mul2 hx hy
  · simp [hx, hy] at h
theorem pos_mul {x y : Int} (h : (decide (x < 0) == decide (y < 0)) = true) : 0 ≤ x * y := by
  by_cases hx : x < 0 <;> by_cases hy : y < 0
  · exact sign_mul3 hx hy
  · simp [hx, hy] at h
  · simp [hx, hy] at h
  · exact sign_mul4 hx hy
theorem times_big {x y : Int} (hx : r64 x) (hy : r64 y) (h : hiN x.natAbs y.natAbs ≠ 0 ∨ 9223372036854775808 < x.natAbs * y.natAbs % 18446744073709551616) : timesT x y = (0, false) := by
  unfold timesT
  refine if_neg fun k => ?_
  have h1 := abs_mul x y
  unfold r64 at k
  have h2 : x.natAbs * y.natAbs < 18446744073709551616 := by rw [← h1]; omega
  rcases h with h | h
  · exact h (hi_zero.2 h2)
  · rw [Nat.mod_eq_of_lt h2, ← h1] at h; omega
theorem times_edge {x y : Int} (h : (decide (x < 0) == decide (y < 0)) = true) (h2 : x.natAbs * y.natAbs % 18446744073709551616 = 9223372036854775808) : timesT x y = (0, false) := by
  unfold timesT
  refine if_neg fun k => ?_
  have h1 := abs_mul x y
  have h3 := pos_mul h
  unfold r64 at k
  rw [← h1] at h2
  omega
theorem times_neg {x y : Int} (h : (decide (x < 0) == decide (y < 0)) = false) (h0 : hiN x.natAbs y.natAbs = 0) (hl : x.natAbs * y.natAbs % 18446744073709551616 ≤ 9223372036854775808) : timesT x y = (IntKind.i64.wrap (IntKind.u64.wrap (-((x.natAbs * y.natAbs % 18446744073709551616 : Nat) : Int))), true) := by
  have h1 := abs_mul x y
  have h3 := neg_mul h
  have h4 := hi_zero.1 h0
  rw [Nat.mod_eq_of_lt h4] at hl ⊢
  rw [← h1] at hl ⊢
  unfold timesT
  rw [if_pos (by unfold r64; omega), u64_eq]
  congr 1
  show _ = w64 _
  rw [w64_eq]; omega
theorem times_pos {x y : Int} (h : (decide (x < 0) == decide (y < 0)) = true) (h0 : hiN x.natAbs y.natAbs = 0) (hl : x.natAbs * y.natAbs % 18446744073709551616 < 9223372036854775808) : timesT x y = (IntKind.i64.wrap ((x.natAbs * y.natAbs % 18446744073709551616 : Nat) : Int), true) := by
  have h1 := abs_mul x y
  have h3 := pos_mul h
  have h4 := hi_zero.1 h0
  rw [Nat.mod_eq_of_lt h4] at hl ⊢
  rw [← h1] at hl ⊢
  unfold timesT
  rw [if_pos (by unfold r64; omega)]
  congr 1
  show _ = w64 _
  rw [w64_eq]; omega
theorem times_f {x y : Int} (hx : r64 x) (hy : r64 y) (c : (¬((hiN x.natAbs y.natAbs : Nat) : Int) = 0 ∨ 9223372036854775808 < ((x.natAbs * y.natAbs % 18446744073709551616 : Nat) : Int)) ∨ ((x.natAbs * y.natAbs % 18446744073709551616 : Nat) : Int) = 9223372036854775808 ∧ (decide (x < 0) == decide (y < 0)) = true) : timesT x y = (0, false) := by
  rcases c with (c | c) | ⟨c, d⟩
  · exact times_big hx hy (.inl (by omega))
  · exact times_big hx hy (.inr (by omega))
  · exact times_edge d (by omega)
def midN (a b : Nat) : Nat := (a % 4294967296) * (b % 4294967296) / 4294967296 + (a / 4294967296) * (b % 4294967296) % 4294967296 + (a % 4294967296) * (b / 4294967296) % 4294967296
def wHi (a b : Nat) : Nat := (a / 4294967296) * (b / 4294967296) + (a / 4294967296) * (b % 4294967296) / 4294967296 + (a % 4294967296) * (b / 4294967296) / 4294967296 + midN a b / 4294967296
def wLo (a b : Nat) : Nat := midN a b % 4294967296 * 4294967296 + (a % 4294967296) * (b % 4294967296) % 4294967296
abbrev Tr := ByteArray × Int × Int
def mergeN : Nat → List Mono → List Mono → List Tr
  | 0, _, _ => []
  | _ + 1, [], [] => []
  | n + 1, a :: ar, [] => (a.Name, a.By, 0) :: mergeN n ar []
  | n + 1, [], b :: bs => (b.Name, 0, b.By) :: mergeN n [] bs
  | n + 1, a :: ar, b :: bs =>
    bif strLt a.Name b.Name then (a.Name, a.By, 0) :: mergeN n ar (b :: bs)
    else bif strLt b.Name a.Name then (b.Name, 0, b.By) :: mergeN n (a :: ar) bs
    else (a.Name, a.By, b.By) :: mergeN n ar bs
theorem mergeN_fuel : ∀ (n : Nat) (a b : List Mono), a.length + b.length ≤ n → mergeN n a b = mergeN (a.length + b.length) a b
  | 0, a, b, h => by rw [show a.length + b.length = 0 by omega]
  | n + 1, [], [], _ => rfl
  | n + 1, a :: ar, [], h => by
    have ih := mergeN_fuel n ar [] (by simp at h ⊢; omega)
    show (a.Name, a.By, 0) :: mergeN n ar [] = (a.Name, a.By, 0) :: mergeN (ar.length) ar []
    rw [ih]; rfl
  | n + 1, [], b :: bs, h => by
    have ih := mergeN_fuel n [] bs (by simp at h ⊢; omega)
    have e : ([] : List Mono).length + (b :: bs).length = bs.length + 1 := by simp
    rw [e, mergeN, mergeN, ih]; simp
  | n + 1, a :: ar, b :: bs, h => by
    have h' : ar.length + 1 + (bs.length + 1) ≤ n + 1 := by simpa using h
    have i1 := mergeN_fuel n ar (b :: bs) (by simp; omega)
    have i2 := mergeN_fuel n (a :: ar) bs (by simp; omega)
    have i3 := mergeN_fuel n ar bs (by omega)
    have j1 := mergeN_fuel (ar.length + bs.length + 1) ar (b :: bs) (by simp; omega)
    have j2 := mergeN_fuel (ar.length + bs.length + 1) (a :: ar) bs (by simp; omega)
    have j3 := mergeN_fuel (ar.length + bs.length + 1) ar bs (by omega)
    have e : (a :: ar).length + (b :: bs).length = (ar.length + bs.length + 1) + 1 := by simp; omega
    rw [e, mergeN, mergeN, i1, i2, i3, j1, j2, j3]
def mergeL (a b : List Mono) : List Tr := mergeN (a.length + b.length) a b
theorem mergeL_nil : mergeL [] [] = [] := rfl
theorem mergeL_l (a : Mono) (ar : List Mono) : mergeL (a :: ar) [] = (a.Name, a.By, 0) :: mergeL ar [] := rfl
theorem mergeL_r (b : Mono) (bs : List Mono) : mergeL [] (b :: bs) = (b.Name, 0, b.By) :: mergeL [] bs := by
  unfold mergeL; rw [show ([] : List Mono).length + (b :: bs).length = bs.length + 1 by simp, mergeN]; simp
theorem mergeL_c (a b : Mono) (ar bs : List Mono) : mergeL (a :: ar) (b :: bs) = bif strLt a.Name b.Name then (a.Name, a.By, 0) :: mergeL ar (b :: bs) else bif strLt b.Name a.Name then (b.Name, 0, b.By) :: mergeL (a :: ar) bs else (a.Name, a.By, b.By) :: mergeL ar bs := by
  unfold mergeL
  rw [show (a :: ar).length + (b :: bs).length = (ar.length + bs.length + 1) + 1 by simp; omega, mergeN]
  rw [mergeN_fuel _ ar (b :: bs) (by simp; omega), mergeN_fuel _ (a :: ar) bs (by simp; omega), mergeN_fuel _ ar bs (by omega)]
theorem mergeL_len (a b : List Mono) : (mergeL a b).length ≤ a.length + b.length := by
  have : ∀ (n : Nat) (a b : List Mono), (mergeN n a b).length ≤ n := by
    intro n
    induction n with
    | zero => intro a b; simp [mergeN]
    | succ n ih =>
      intro a b
      cases a with
      | nil =>
        cases b with
        | nil => simp [mergeN]
        | cons b bs => simp only [mergeN, List.length_cons]; have := ih [] bs; omega
      | cons a ar =>
        cases b with
        | nil => simp only [mergeN, List.length_cons]; have := ih ar []; omega
        | cons b bs =>
          have h1 := ih ar (b :: bs)
          have h2 := ih (a :: ar) bs
          have h3 := ih ar bs
          simp only [mergeN]
          cases strLt a.Name b.Name <;> cases strLt b.Name a.Name <;> simp only [cond_true, cond_false, List.length_cons] <;> omega
  exact this _ a b

def hdM (l : List Mono) : Mono := l.headD ⟨bs [], 0⟩
theorem hd_get {l : List Mono} (h : 0 < l.length) : l[0]? = some (hdM l) := by
  cases l with
  | nil => simp at h
  | cons x r => rfl
def mC2 (a b : List Mono) : Bool := decide ((b.length : Int) = 0) || (decide ((0 : Int) < a.length) && strLt (hdM a).Name (hdM b).Name)
def mC3 (a b : List Mono) : Bool := decide ((a.length : Int) = 0) || strLt (hdM b).Name (hdM a).Name
theorem mC2_b {a b : List Mono} (c : mC2 a b = false) : 0 < b.length := by
  unfold mC2 at c
  cases b with
  | nil => simp at c
  | cons y s => simp
theorem merge_left {a b : List Mono} (h : 0 < a.length ∨ 0 < b.length) (c : mC2 a b = true) : 0 < a.length ∧ mergeL a b = ((hdM a).Name, (hdM a).By, 0) :: mergeL (a.drop 1) b := by
  unfold mC2 at c
  cases a with
  | nil =>
    cases b with
    | nil => simp at h
    | cons y s => simp at c; omega
  | cons x r =>
    refine ⟨by simp, ?_⟩
    cases b with
    | nil => rw [mergeL_l]; rfl
    | cons y s =>
      have c2 : strLt x.Name y.Name = true := by
        rw [Bool.or_eq_true, Bool.and_eq_true, decide_eq_true_eq] at c
        rcases c with c | c
        · simp at c; omega
        · exact c.2
      rw [mergeL_c, c2]; rfl
theorem merge_right {a b : List Mono} (h : 0 < a.length ∨ 0 < b.length) (c : mC2 a b = false) (c3 : mC3 a b = true) : 0 < b.length ∧ mergeL a b = ((hdM b).Name, 0, (hdM b).By) :: mergeL a (b.drop 1) := by
  unfold mC2 at c
  unfold mC3 at c3
  cases b with
  | nil => simp at c
  | cons y s =>
    refine ⟨by simp, ?_⟩
    cases a with
    | nil => rw [mergeL_r]; rfl
    | cons x r =>
      have c2 : strLt x.Name y.Name = false := by
        rw [Bool.or_eq_false_iff, Bool.and_eq_false_iff] at c
        rcases c.2 with c | c
        · simp at c
        · exact c
      have c4 : strLt y.Name x.Name = true := by
        rw [Bool.or_eq_true, decide_eq_true_eq] at c3
        rcases c3 with c | c
        · simp at c; omega
        · exact c
      rw [mergeL_c, c2, c4]; rfl
theorem merge_both {a b : List Mono} (c : mC2 a b = false) (c3 : mC3 a b = false) : 0 < a.length ∧ 0 < b.length ∧ mergeL a b = ((hdM a).Name, (hdM a).By, (hdM b).By) :: mergeL (a.drop 1) (b.drop 1) := by
  unfold mC2 at c
  unfold mC3 at c3
  cases b with
  | nil => simp at c
  | cons y s =>
    cases a with
    | nil => simp at c3
    | cons x r =>
      refine ⟨by simp, by simp, ?_⟩
      have c2 : strLt x.Name y.Name = false := by
        rw [Bool.or_eq_false_iff, Bool.and_eq_false_iff] at c
        rcases c.2 with c | c
        · simp at c
        · exact c
      have c4 : strLt y.Name x.Name = false := by
        rw [Bool.or_eq_false_iff] at c3
        exact c3.2
      rw [mergeL_c, c2, c4]; rfl

/-! ## Sums -/
def trV (t : Tr) : Int := t.2.1 + t.2.2
def trOk (t : Tr) : Bool := decide (r64 (trV t))
/-- The monomials of a sum; the numbers as the machine has them. -/
def sumW (ts : List Tr) : List Mono := ts.filterMap fun t => if w64 (trV t) = 0 then none else some ⟨t.1, w64 (trV t)⟩
theorem sumW_next (d : List Tr) (t : Tr) : sumW (d ++ [t]) = sumW d ++ (if w64 (trV t) = 0 then [] else [⟨t.1, w64 (trV t)⟩]) := by
  unfold sumW; rw [List.filterMap_append]; congr 1
  by_cases h : w64 (trV t) = 0 <;> simp [h]
theorem sumW_len (d : List Tr) : (sumW d).length ≤ d.length := List.length_filterMap_le _ _
def okF (ok : Bool) (d : List Tr) : Bool := d.foldl (fun b t => b && decide (r64 (t.2.1 + t.2.2))) ok
theorem okF_next (ok : Bool) (d : List Tr) (t : Tr) : okF ok (d ++ [t]) = (okF ok d && decide (r64 (t.2.1 + t.2.2))) := by unfold okF; rw [List.foldl_append]; rfl
theorem okF_all (ok : Bool) (d : List Tr) : okF ok d = (ok && d.all trOk) := by
  induction d generalizing ok with
  | nil => simp [okF]
  | cons t r ih =>
    show okF (ok && trOk t) r = _
    rw [ih, List.all_cons, Bool.and_assoc]
theorem mergeN_rng : ∀ (n : Nat) (a b : List Mono), (∀ m, m ∈ a → r64 m.By) → (∀ m, m ∈ b → r64 m.By) → ∀ t, t ∈ mergeN n a b → r64 t.2.1 ∧ r64 t.2.2
  | 0, _, _, _, _, t, ht => by simp [mergeN] at ht
  | _ + 1, [], [], _, _, t, ht => by simp [mergeN] at ht
  | n + 1, x :: r, [], h1, h2, t, ht => by
    simp only [mergeN] at ht
    rcases List.mem_cons.1 ht with rfl | ht
    · exact ⟨h1 x (by simp), by show r64 0; unfold r64; omega⟩
    · exact mergeN_rng n r [] (fun m hm => h1 m (by simp [hm])) h2 t ht
  | n + 1, [], y :: s, h1, h2, t, ht => by
    simp only [mergeN] at ht
    rcases List.mem_cons.1 ht with rfl | ht
    · exact ⟨by show r64 0; unfold r64; omega, h2 y (by simp)⟩
    · exact mergeN_rng n [] s h1 (fun m hm => h2 m (by simp [hm])) t ht
  | n + 1, x :: r, y :: s, h1, h2, t, ht => by
    have g1 := mergeN_rng n r (y :: s) (fun m hm => h1 m (by simp [hm])) h2 t
    have g2 := mergeN_rng n (x :: r) s h1 (fun m hm => h2 m (by simp [hm])) t
    have g3 := mergeN_rng n r s (fun m hm => h1 m (by simp [hm])) (fun m hm => h2 m (by simp [hm])) t
    have z0 : r64 0 := by unfold r64; omega
    simp only [mergeN] at ht
    cases c1 : strLt x.Name y.Name with
    | true =>
      rw [c1, cond_true] at ht
      rcases List.mem_cons.1 ht with rfl | ht
      · exact ⟨h1 x (by simp), z0⟩
      · exact g1 ht
    | false =>
      rw [c1, cond_false] at ht
      cases c2 : strLt y.Name x.Name with
      | true =>
        rw [c2, cond_true] at ht
        rcases List.mem_cons.1 ht with rfl | ht
        · exact ⟨z0, h2 y (by simp)⟩
        · exact g2 ht
      | false =>
        rw [c2, cond_false] at ht
        rcases List.mem_cons.1 ht with rfl | ht
        · exact ⟨h1 x (by simp), h2 y (by simp)⟩
        · exact g3 ht
theorem merge_rng {a b : List Mono} (h1 : ∀ m, m ∈ a → r64 m.By) (h2 : ∀ m, m ∈ b → r64 m.By) {d s : List Tr} {t : Tr} (h : mergeL a b = d ++ t :: s) : r64 t.2.1 ∧ r64 t.2.2 ∧ d.length ≤ a.length + b.length := by
  have h3 := mergeL_len a b
  rw [h] at h3
  simp only [List.length_append, List.length_cons] at h3
  obtain ⟨k1, k2⟩ := mergeN_rng _ a b h1 h2 t (by rw [show mergeN (a.length + b.length) a b = mergeL a b from rfl, h]; simp)
  exact ⟨k1, k2, by omega⟩
def addT (k : Int) (ts : List Tr) : Lf × Int := if r64 k ∧ ts.all trOk = true then (⟨k, sumW ts⟩, 0) else (zL, 3)
def addL (a b : Lf) : Lf × Int := if linOk a = true ∧ linOk b = true then addT (a.K + b.K) (mergeL a.L b.L) else (zL, 1)
theorem add_bad {a b : Lf} (h : ¬ (linOk a = true ∧ linOk b = true)) : addL a b = (zL, 1) := by unfold addL; rw [if_neg h]
theorem add_c1 {a b : Lf} (c : ¬ linErr a = 0 ∨ ¬ linErr b = 0) : addL a b = (zL, 1) := add_bad fun h => by
  rcases c with c | c
  · have := linErr_ne c; rw [h.1] at this; cases this
  · have := linErr_ne c; rw [h.2] at this; cases this
theorem add_no {a b : Lf} (h1 : linOk a = true) (h2 : linOk b = true) (h : okF (decide (r64 (a.K + b.K))) (mergeL a.L b.L) = false) : addL a b = (zL, 3) := by
  unfold addL addT
  rw [if_pos ⟨h1, h2⟩, if_neg fun k => ?_]
  rw [okF_all, decide_eq_true k.1, k.2] at h
  cases h
theorem add_ok {a b : Lf} (h1 : linOk a = true) (h2 : linOk b = true) (h : okF (decide (r64 (a.K + b.K))) (mergeL a.L b.L) = true) : addL a b = (⟨w64 (a.K + b.K), sumW (mergeL a.L b.L)⟩, 0) := by
  rw [okF_all, Bool.and_eq_true, decide_eq_true_eq] at h
  unfold addL addT
  rw [if_pos ⟨h1, h2⟩, if_pos h, w64_in h.1]
def scaleM (by_ : Int) (l : List Mono) : List Mono := l.map fun m => ⟨m.Name, m.By * by_⟩
def scaleOk (by_ : Int) (l : List Mono) : Bool := l.all fun m => decide (r64 (m.By * by_))
def scaleL (a : Lf) (by_ : Int) : Lf × Int := if linOk a = true then (if by_ = 0 then (zL, 0) else if r64 (a.K * by_) ∧ scaleOk by_ a.L = true then (⟨a.K * by_, scaleM by_ a.L⟩, 0) else (zL, 3)) else (zL, 1)
def restL (l : Lf) (s : ByteArray) : Lf := ⟨l.K, l.L.filter fun m => !decide (m.Name = s)⟩
def lastBy (l : List Mono) (s : ByteArray) : Int := l.foldl (fun by_ m => if m.Name = s then m.By else by_) 0
/-- The program's substitution. -/
def substP (l : Lf) (s : ByteArray) (to_ : Lf) : Lf × Int :=
  if linOk l = true ∧ isNameB s = true ∧ linOk to_ = true then (if (scaleL to_ (lastBy l.L s)).2 = 0 then addL (restL l s) (scaleL to_ (lastBy l.L s)).1 else (zL, (scaleL to_ (lastBy l.L s)).2)) else (zL, 1)
def mulT (by_ : Int) (ts : List Tr) : List Tr := ts.map fun t => (t.1, t.2.1, t.2.2 * by_)
/-- The reference's. -/
def substR (l : Lf) (s : ByteArray) (to_ : Lf) : Lf × Int :=
  if linOk l = true ∧ linOk to_ = true ∧ isNameB s = true then
    (if lastBy l.L s = 0 then (l, 0) else if r64 (to_.K * lastBy l.L s) ∧ scaleOk (lastBy l.L s) to_.L = true then addT (l.K + to_.K * lastBy l.L s) (mulT (lastBy l.L s) (mergeL (restL l s).L to_.L)) else (zL, 3))
  else (zL, 1)

def scaleW (by_ : Int) (l : List Mono) : List Mono := l.map fun m => ⟨m.Name, (timesT m.By by_).1⟩
def scaleB (by_ : Int) (l : List Mono) : Bool := l.all fun m => (timesT m.By by_).2
theorem scaleW_len (by_ : Int) (l : List Mono) : (scaleW by_ l).length = l.length := by simp [scaleW]
theorem scaleW_next {by_ : Int} {l : List Mono} {k : Nat} {x : Mono} (h : l[k]? = some x) : scaleW by_ (l.take (k + 1)) = scaleW by_ (l.take k) ++ [⟨x.Name, (timesT x.By by_).1⟩] := by unfold scaleW; rw [take_next h, List.map_append]; rfl
theorem scaleB_next {by_ : Int} {l : List Mono} {k : Nat} {x : Mono} (h : l[k]? = some x) : scaleB by_ (l.take (k + 1)) = (scaleB by_ (l.take k) && (timesT x.By by_).2) := by unfold scaleB; rw [take_next h, List.all_append]; simp
theorem timesT_2 (x y : Int) : (timesT x y).2 = decide (r64 (x * y)) := by unfold timesT; by_cases h : r64 (x * y) <;> simp [h]
theorem timesT_1 {x y : Int} (h : r64 (x * y)) : (timesT x y).1 = x * y := by unfold timesT; rw [if_pos h]
theorem scaleB_ok (by_ : Int) (l : List Mono) : scaleB by_ l = scaleOk by_ l := by unfold scaleB scaleOk; congr 1; funext m; exact timesT_2 _ _
theorem scaleW_ok {by_ : Int} {l : List Mono} (h : scaleOk by_ l = true) : scaleW by_ l = scaleM by_ l := by
  unfold scaleOk at h
  rw [List.all_eq_true] at h
  unfold scaleW scaleM
  refine List.map_congr_left fun m hm => ?_
  rw [timesT_1 (by simpa using h m hm)]
theorem scale_ok {l : Lf} {by_ : Int} (h1 : linOk l = true) (h2 : ¬ by_ = 0) (h3 : (timesT l.K by_).2 = true ∧ scaleB by_ l.L = true) : scaleL l by_ = (⟨(timesT l.K by_).1, scaleW by_ l.L⟩, 0) := by
  rw [timesT_2, decide_eq_true_eq, scaleB_ok] at h3
  unfold scaleL
  rw [if_pos h1, if_neg h2, if_pos h3, timesT_1 h3.1, scaleW_ok h3.2]
theorem scale_no {l : Lf} {by_ : Int} (h1 : linOk l = true) (h2 : ¬ by_ = 0) (h3 : (timesT l.K by_).2 = false ∨ scaleB by_ l.L = false) : scaleL l by_ = (zL, 3) := by
  unfold scaleL
  rw [if_pos h1, if_neg h2, if_neg fun h => ?_]
  rw [timesT_2, scaleB_ok, decide_eq_true h.1, h.2] at h3
  rcases h3 with h3 | h3 <;> cases h3
theorem scale_zero {l : Lf} {by_ : Int} (h1 : linOk l = true) (h2 : by_ = 0) : scaleL l by_ = (zL, 0) := by unfold scaleL; rw [if_pos h1, if_pos h2]
theorem scale_bad {l : Lf} {by_ : Int} (h1 : linOk l = false) : scaleL l by_ = (zL, 1) := by unfold scaleL; rw [if_neg (by rw [h1]; simp)]

theorem lastBy_next {l : List Mono} {k : Nat} {x : Mono} {s : ByteArray} (h : l[k]? = some x) : lastBy (l.take (k + 1)) s = if x.Name = s then x.By else lastBy (l.take k) s := by
  unfold lastBy; rw [take_next h, List.foldl_append]; rfl
theorem rest_next {l : List Mono} {k : Nat} {x : Mono} {s : ByteArray} (h : l[k]? = some x) : (l.take (k + 1)).filter (fun m => !decide (m.Name = s)) = (l.take k).filter (fun m => !decide (m.Name = s)) ++ (if x.Name = s then [] else [x]) := by
  rw [take_next h, List.filter_append]; by_cases e : x.Name = s <;> simp [e]
def Lf.rng (l : Lf) : Prop := r64 l.K ∧ ∀ m, m ∈ l.L → r64 m.By
theorem last_rng {l : Lf} (h : l.rng) (s : ByteArray) : r64 (lastBy l.L s) := by
  have key : ∀ (l : List Mono) (b : Int), (∀ m, m ∈ l → r64 m.By) → r64 b → r64 (l.foldl (fun by_ m => if m.Name = s then m.By else by_) b) := by
    intro l
    induction l with
    | nil => intro b _ h; exact h
    | cons x r ih =>
      intro b hl hb
      rw [List.foldl_cons]
      refine ih _ (fun m hm => hl m (by simp [hm])) ?_
      split
      · exact hl x (by simp)
      · exact hb
  exact key l.L 0 h.2 (by unfold r64; omega)
theorem zL_rng : zL.rng := ⟨by show r64 0; unfold r64; omega, fun m hm => by cases hm⟩
theorem scale_rng (l : Lf) (b : Int) : (scaleL l b).1.rng ∧ (scaleL l b).1.L.length ≤ l.L.length := by
  unfold scaleL
  split
  · split
    · exact ⟨zL_rng, by simp [zL]⟩
    · split
      · rename_i h
        refine ⟨⟨h.1, fun m hm => ?_⟩, by simp [scaleM]⟩
        obtain ⟨x, hx, rfl⟩ := List.mem_map.1 hm
        have := h.2
        unfold scaleOk at this
        rw [List.all_eq_true] at this
        simpa using this x hx
      · exact ⟨zL_rng, by simp [zL]⟩
  · exact ⟨zL_rng, by simp [zL]⟩
theorem rest_rng {l : Lf} (h : l.rng) (s : ByteArray) : (restL l s).rng ∧ (restL l s).L.length ≤ l.L.length :=
  ⟨⟨h.1, fun m hm => h.2 m (List.mem_filter.1 hm).1⟩, List.length_filter_le _ _⟩
theorem subst_c1 {l to_ : Lf} {s : ByteArray} (c : (¬ linErr l = 0 ∨ isNameB s = false) ∨ ¬ linErr to_ = 0) : substP l s to_ = (zL, 1) := by
  unfold substP
  refine if_neg fun h => ?_
  rcases c with (c | c) | c
  · have := linErr_ne c; rw [h.1] at this; cases this
  · rw [h.2.1] at c; cases c
  · have := linErr_ne c; rw [h.2.2] at this; cases this
theorem subst_c4 {l to_ : Lf} {s : ByteArray} (c : (linErr l = 0 ∧ isNameB s = true) ∧ linErr to_ = 0) (c4 : ¬ (scaleL to_ (lastBy l.L s)).2 = 0) : substP l s to_ = (zL, (scaleL to_ (lastBy l.L s)).2) := by
  unfold substP
  rw [if_pos ⟨linErr_eq c.1.1, c.1.2, linErr_eq c.2⟩, if_neg c4]
theorem subst_ok {l to_ : Lf} {s : ByteArray} (c : (linErr l = 0 ∧ isNameB s = true) ∧ linErr to_ = 0) (c4 : (scaleL to_ (lastBy l.L s)).2 = 0) : substP l s to_ = addL (restL l s) (scaleL to_ (lastBy l.L s)).1 := by
  unfold substP
  rw [if_pos ⟨linErr_eq c.1.1, c.1.2, linErr_eq c.2⟩, if_pos c4]

end Go.Br
end
section
set_option linter.unusedSimpArgs false
set_option linter.unusedVariables false
namespace Go.Br
open Go Go.Eng Go.L41

def atM (l : List Mono) (k : Nat) : Mono := l.getD k ⟨bs [], 0⟩
def sC2 (a b : List Mono) (i n : Nat) : Bool := decide ((n : Int) = b.length) || (decide ((i : Int) < a.length) && (strLt (atM a i).Name (atM b n).Name || decide ((atM a i).Name = (atM b n).Name)))
def sC3 (b : List Mono) (n : Nat) (s : ByteArray) : Bool := decide ((n : Int) < b.length) && decide ((atM b n).Name = s)
def zI : Ix := ⟨zL, bs [], []⟩
def outI : Except Int Ix → Ix
  | .ok e => e
  | .error _ => zI
end Go.Br
end
section
set_option linter.unusedSimpArgs false
set_option linter.unusedVariables false
namespace Go.Br
open Go Go.Eng Go.L41

/-! ## Ascending triples -/
def trsOk : Option ByteArray → List Tr → Bool
  | _, [] => true
  | p, t :: r => isNameB t.1 && ltO p t.1 && trsOk (some t.1) r
def hasN (l : Lf) (s : ByteArray) : Prop := ∃ m, m ∈ l.L ∧ m.Name = s
def gIx (g : Lf → Lf) (x : Ix) : Ix := ⟨g x.Lin, x.From, x.At.map g⟩
mutual
def gEx (g : Lf → Lf) : Ex → Ex
  | .mk o n v t l i arg_ => .mk o n v t (g l) (i.map (gIx g)) (gExs g arg_)
def gExs (g : Lf → Lf) : List Ex → List Ex
  | [] => []
  | a :: r => gEx g a :: gExs g r
end
theorem gExs_map (g : Lf → Lf) (l : List Ex) : gExs g l = l.map (gEx g) := by
  induction l with
  | nil => rfl
  | cons a r ih => rw [gExs, ih]; rfl
theorem mLins_g {f : Lf → Lf × Int} : ∀ {l r : List Lf}, mLins f l = .ok r → r = l.map (fun x => (f x).1) ∧ ∀ x, x ∈ l → (f x).2 = 0
  | [], r, h => by rw [mLins] at h; injection h with h; subst h; exact ⟨rfl, fun x hx => by cases hx⟩
  | a :: t, r, h => by
    rw [mLins] at h
    by_cases c : (f a).2 = 0
    · rw [fE_ok c] at h
      cases hm : mLins f t with
      | error y => rw [hm] at h; cases h
      | ok u =>
        rw [hm] at h
        injection h with h
        subst h
        obtain ⟨h1, h2⟩ := mLins_g hm
        exact ⟨by rw [h1]; rfl, fun x hx => by rcases List.mem_cons.1 hx with rfl | hx; exact c; exact h2 x hx⟩
    · rw [fE_err c] at h; cases h
theorem mIx_g {f : Lf → Lf × Int} {x y : Ix} (h : mIx f x = .ok y) : y = gIx (fun l => (f l).1) x ∧ (f x.Lin).2 = 0 ∧ ∀ l, l ∈ x.At → (f l).2 = 0 := by
  rw [mIx] at h
  by_cases c : (f x.Lin).2 = 0
  · rw [fE_ok c] at h
    cases hm : mLins f x.At with
    | error y => rw [hm] at h; cases h
    | ok u =>
      rw [hm] at h
      injection h with h
      subst h
      obtain ⟨h1, h2⟩ := mLins_g hm
      exact ⟨by rw [h1]; rfl, c, h2⟩
  · rw [fE_err c] at h; cases h
theorem mIxs_g {f : Lf → Lf × Int} : ∀ {l r : List Ix}, mIxs f l = .ok r → r = l.map (gIx fun x => (f x).1) ∧ ∀ x, x ∈ l → (f x.Lin).2 = 0 ∧ ∀ y, y ∈ x.At → (f y).2 = 0
  | [], r, h => by rw [mIxs] at h; injection h with h; subst h; exact ⟨rfl, fun x hx => by cases hx⟩
  | a :: t, r, h => by
    rw [mIxs] at h
    cases h1 : mIx f a with
    | error y => rw [h1] at h; cases h
    | ok a' =>
      rw [h1] at h
      cases hm : mIxs f t with
      | error y => rw [hm] at h; cases h
      | ok u =>
        rw [hm] at h
        injection h with h
        subst h
        obtain ⟨k1, k2⟩ := mIx_g h1
        obtain ⟨k3, k4⟩ := mIxs_g hm
        exact ⟨by rw [k1, k3]; rfl, fun x hx => by rcases List.mem_cons.1 hx with rfl | hx; exact k2; exact k4 x hx⟩
theorem nodes_allF {P : Lf → Prop} {e : Ex} (h1 : ∀ l, l ∈ formsL e → P l) (h2 : ∀ a, a ∈ e.Args → a.allF P) : e.allF P := by
  intro x hx
  rw [nodes_eq] at hx
  rcases List.mem_cons.1 hx with rfl | hx
  · exact h1
  · have : ∀ l : List Ex, (∀ a, a ∈ l → a.allF P) → x ∈ nodesL l → ∀ y, y ∈ formsL x → P y := by
      intro l
      induction l with
      | nil => intro _ h; simp [nodesL] at h
      | cons a r ih =>
        intro h hm
        rw [nodesL] at hm
        rcases List.mem_append.1 hm with k | k
        · exact h a (by simp) x k
        · exact ih (fun b hb => h b (by simp [hb])) k
    exact this e.Args h2 hx
mutual
theorem mEx_g {f : Lf → Lf × Int} : ∀ {e e' : Ex}, mEx f e = .ok e' → e' = gEx (fun l => (f l).1) e ∧ e.allF fun l => (f l).2 = 0
  | .mk o n v t l i arg_, e', h => by
    rw [mEx] at h
    by_cases c : (f l).2 = 0
    · rw [fE_ok c] at h
      cases h1 : mIxs f i with
      | error y => rw [h1] at h; cases h
      | ok i' =>
        rw [h1] at h
        cases h2 : mExs f arg_ with
        | error y => rw [h2] at h; cases h
        | ok as' =>
          rw [h2] at h
          injection h with h
          subst h
          obtain ⟨k1, k2⟩ := mIxs_g h1
          obtain ⟨k3, k4⟩ := mExs_g h2
          refine ⟨by rw [gEx, k1, k3, gExs_map], nodes_allF ?_ k4⟩
          intro y hy
          unfold formsL at hy
          rcases List.mem_cons.1 hy with rfl | hy
          · exact c
          · obtain ⟨x, hx, hy⟩ := List.mem_flatMap.1 hy
            rcases List.mem_cons.1 hy with rfl | hy
            · exact (k2 x hx).1
            · exact (k2 x hx).2 y hy
    · rw [fE_err c] at h; cases h
theorem mExs_g {f : Lf → Lf × Int} : ∀ {l r : List Ex}, mExs f l = .ok r → r = l.map (gEx fun l => (f l).1) ∧ ∀ a, a ∈ l → a.allF fun l => (f l).2 = 0
  | [], r, h => by rw [mExs] at h; injection h with h; subst h; exact ⟨rfl, fun x hx => by cases hx⟩
  | a :: t, r, h => by
    rw [mExs] at h
    cases h1 : mEx f a with
    | error y => rw [h1] at h; cases h
    | ok a' =>
      rw [h1] at h
      cases hm : mExs f t with
      | error y => rw [hm] at h; cases h
      | ok u =>
        rw [hm] at h
        injection h with h
        subst h
        obtain ⟨k1, k2⟩ := mEx_g h1
        obtain ⟨k3, k4⟩ := mExs_g hm
        exact ⟨by rw [k1, k3]; rfl, fun x hx => by rcases List.mem_cons.1 hx with rfl | hx; exact k2; exact k4 x hx⟩
end
mutual
theorem nodes_g (g : Lf → Lf) : ∀ e : Ex, nodes (gEx g e) = (nodes e).map (gEx g)
  | .mk o n v t l i arg_ => by rw [gEx, nodes, nodes, nodesL_g g arg_, List.map_cons, gEx]
theorem nodesL_g (g : Lf → Lf) : ∀ l : List Ex, nodesL (gExs g l) = (nodesL l).map (gEx g)
  | [] => by rw [gExs, nodesL]; rfl
  | a :: r => by rw [gExs, nodesL, nodesL, nodes_g g a, nodesL_g g r, List.map_append]
end
end Go.Br
end
section
set_option linter.unusedSimpArgs false
set_option linter.unusedVariables false
namespace Go.Br
open Go Go.Eng Go.Proofs Go.L41

/-- What a comparison keeps at one of its arguments. -/
structure PO {α : Type} (f : α → α → Int) (a : α) : Prop where
  anti : ∀ b, f b a = - f a b
  rng : ∀ b, -1 ≤ f a b ∧ f a b ≤ 1
  cong : ∀ b, f a b = 0 → ∀ c, f a c = f b c
  cong' : ∀ b c, f b c = 0 → f a b = f a c
  trans : ∀ b c, f a b < 0 → f b c < 0 → f a c < 0

theorem PO.zero {α : Type} (a : α) : PO (fun _ _ => 0) a :=
  ⟨fun _ => rfl, fun _ => ⟨by show (-1 : Int) ≤ 0; omega, by show (0 : Int) ≤ 1; omega⟩, fun _ _ _ => rfl, fun _ _ _ => rfl, fun _ _ h _ => h⟩
end Go.Br
end
section
set_option linter.unusedSimpArgs false
set_option linter.unusedVariables false
namespace Go.Br
open Go Go.Eng Go.L41

/-! ## Short names -/
def shortI (x : Ix) : Bool := !decide ((100 : Int) < x.From.size)
mutual
def shortE : Ex → Bool
  | .mk o n v t l i r => !(decide ((100 : Int) < n.size) || decide ((20 : Int) < i.length)) && (i.all shortI && shortEs r)
def shortEs : List Ex → Bool
  | [] => true
  | a :: r => shortE a && shortEs r
end
theorem shortEs_all (l : List Ex) : shortEs l = l.all shortE := by
  induction l with
  | nil => rfl
  | cons a r ih => rw [shortEs, ih]; rfl
theorem shortE_eq (e : Ex) : shortE e = (!(decide ((100 : Int) < e.Name.size) || decide ((20 : Int) < e.Idx.length)) && (e.Idx.all shortI && e.Args.all shortE)) := by
  cases e; rw [shortE, shortEs_all]; rfl
theorem all_next' {α : Type} {p : α → Bool} {l : List α} {k : Nat} {x : α} (h : l[k]? = some x) (hp : (l.take k).all p = true) (hx : p x = true) : (l.take (k + 1)).all p = true := by
  rw [take_next h, List.all_append, hp]; simp [hx]
theorem short_1 {e : Ex} (h : (100 : Int) < e.Name.size ∨ (20 : Int) < e.Idx.length) : shortE e = false := by
  rw [shortE_eq]
  rcases h with h | h <;> simp [h]
theorem short_2 {e : Ex} {k : Nat} {x : Ix} (h : e.Idx[k]? = some x) (hx : shortI x = false) : shortE e = false := by
  rw [shortE_eq, all_no h hx]; simp
theorem short_3 {e : Ex} {k : Nat} {x : Ex} (h : e.Args[k]? = some x) (hx : shortE x = false) : shortE e = false := by
  rw [shortE_eq, all_no h hx]; simp
theorem short_4 {e : Ex} (h1 : ¬ ((100 : Int) < e.Name.size ∨ (20 : Int) < e.Idx.length)) (h2 : e.Idx.all shortI = true) (h3 : e.Args.all shortE = true) : shortE e = true := by
  rw [shortE_eq, h2, h3]
  simp only [not_or] at h1
  simp [h1.1, h1.2]
def fewE (e : Ex) (m : Nat) : Bool := decide (weighE e m ≤ m) && shortE e
theorem few_wt {e : Ex} {m : Nat} (h : fewE e m = true) : e.wt ≤ m := by
  unfold fewE at h
  rw [Bool.and_eq_true, decide_eq_true_eq] at h
  have := weighE_wt e m h.1
  omega
theorem few_bool (e : Ex) (m : Nat) : (decide ((weighE e m : Int) ≤ m) && shortE e) = fewE e m := by
  unfold fewE; congr 1; exact decide_eq_decide.2 (by omega)

mutual
def replE (f t : Ex) : Ex → Ex
  | .mk o n v y l i r => if .mk o n v y l i r = f then t else .mk o n v y l i (replEs f t r)
def replEs (f t : Ex) : List Ex → List Ex
  | [] => []
  | a :: r => replE f t a :: replEs f t r
end
def namesF (l : Lf) : List ByteArray := l.L.map Mono.Name
def namesN (x : Ex) : List ByteArray := (formsL x).flatMap namesF
def namesA (l : List Ex) : List ByteArray := l.flatMap namesN
def indexT (e : Ex) : List ByteArray := thinB (sortB (namesA (nodes e)))
theorem namesF_one (pre : List Lf) (x : Lf) : (pre ++ [x]).flatMap namesF = pre.flatMap namesF ++ namesF x := by rw [List.flatMap_append]; simp
theorem namesA_one (pre : List Ex) (x : Ex) : namesA (pre ++ [x]) = namesA pre ++ namesN x := by unfold namesA; rw [List.flatMap_append]; simp
theorem namesM_next {l : List Mono} {k : Nat} {x : Mono} (h : l[k]? = some x) : (l.take (k + 1)).map Mono.Name = (l.take k).map Mono.Name ++ [x.Name] := by rw [take_next h, List.map_append]; rfl
theorem namesN_len (x : Ex) : (namesN x).length ≤ x.Lin.L.length + idxWt x.Idx := by
  unfold namesN formsL
  rw [List.flatMap_cons, List.length_append]
  have h1 : ∀ l : List Lf, (l.flatMap namesF).length = linsWt l := by
    intro l
    induction l with
    | nil => rfl
    | cons a r ih => rw [List.flatMap_cons, List.length_append, ih, linsWt]; unfold namesF; rw [List.length_map]
  have h2 : ∀ l : List Ix, ((l.flatMap fun x => x.Lin :: x.At).flatMap namesF).length ≤ idxWt l := by
    intro l
    induction l with
    | nil => simp [idxWt]
    | cons a r ih =>
      rw [List.flatMap_cons, List.flatMap_append, List.length_append, idxWt, h1, linsWt, Ix.wt]
      omega
  have := h2 x.Idx
  have e : (namesF x.Lin).length = x.Lin.L.length := by unfold namesF; rw [List.length_map]
  omega
theorem namesA_len (e : Ex) : (namesA (nodes e)).length ≤ e.wt := by
  induction e using Ex.ind with
  | _ e ih =>
    rw [nodes_eq, Ex.wt_eq]
    have e1 : namesA (e :: nodesL e.Args) = namesN e ++ namesA (nodesL e.Args) := rfl
    rw [e1, List.length_append]
    have h2 : ∀ l : List Ex, (∀ a, a ∈ l → (namesA (nodes a)).length ≤ a.wt) → (namesA (nodesL l)).length ≤ argsWt l := by
      intro l
      induction l with
      | nil => intro _; simp [namesA, nodesL, argsWt]
      | cons a r ih2 =>
        intro h
        have h3 := h a (by simp)
        have h4 := ih2 fun b hb => h b (by simp [hb])
        have e2 : namesA (nodesL (a :: r)) = namesA (nodes a) ++ namesA (nodesL r) := by rw [nodesL]; unfold namesA; rw [List.flatMap_append]
        rw [e2, List.length_append, argsWt]; omega
    have h5 := h2 e.Args ih
    have h6 := namesN_len e
    omega
theorem namesP_len {e : Ex} {pre suf : List Ex} (h : nodes e = pre ++ suf) : (namesA pre).length ≤ e.wt := by
  have h1 := namesA_len e
  have e1 : namesA (nodes e) = namesA pre ++ namesA suf := by rw [h]; unfold namesA; rw [List.flatMap_append]
  rw [e1, List.length_append] at h1; omega
theorem namesX_len {x : Ex} {pre suf : List Lf} (h : formsL x = pre ++ suf) : (pre.flatMap namesF).length ≤ (namesN x).length := by
  unfold namesN
  rw [h, List.flatMap_append, List.length_append]; omega
def lvA : Ex := .mk 3 (bs [97]) ⟨0, 0⟩ ⟨0, 0, 0, 0, 0⟩ ⟨0, []⟩ [⟨⟨0, [⟨bs [105], 1⟩]⟩, bs [], []⟩, ⟨⟨2, []⟩, bs [], []⟩] []
def lvT : Ex := .mk 1 (bs []) ⟨3, 1⟩ ⟨3, 0, 0, 0, 0⟩ ⟨0, []⟩ [] []
def lvE : Ex := .mk 4 (bs []) ⟨0, 0⟩ ⟨0, 0, 0, 0, 0⟩ ⟨0, []⟩ [] [lvA, lvT]
def lvI : Ex := .mk 11 (bs []) ⟨0, 0⟩ ⟨0, 0, 0, 0, 0⟩ ⟨0, []⟩ [] [lvA, lvA, lvA]
def lvU : Lf := ⟨1, [⟨bs [106], 1⟩]⟩
def lvB : Ex := .mk 3 (bs [97]) ⟨0, 0⟩ ⟨0, 0, 0, 0, 0⟩ ⟨0, []⟩ [⟨⟨1, [⟨bs [106], 1⟩]⟩, bs [], []⟩, ⟨⟨2, []⟩, bs [], []⟩] []
def lvX : Ex := .mk 4 (bs []) ⟨0, 0⟩ ⟨0, 0, 0, 0, 0⟩ ⟨0, []⟩ [] [lvB, lvT]
theorem lvE_sub : outE (mEx (fun l => substP l (bs [105]) lvU) lvE) = lvX ∧ errE (mEx (fun l => substP l (bs [105]) lvU) lvE) = 0 := by decide +kernel
theorem lvE_valid : validE lvE = 0 ∧ validE lvI = 10 ∧ szT lvE = 3 ∧ depT 40 lvE = 2 := by decide +kernel
theorem lvE_wt : lvE.wt ≤ 1000 ∧ lvI.wt ≤ 1000 ∧ lvX.wt ≤ 1000 := by decide +kernel
theorem lvE_rng : lvE.allF Lf.rng := by
  intro x hx l hl
  have h : nodes lvE = [lvE, lvA, lvT] := by rfl
  rw [h] at hx
  simp only [List.mem_cons, List.not_mem_nil, or_false] at hx
  rcases hx with rfl | rfl | rfl
  · have : formsL lvE = [⟨0, []⟩] := rfl
    rw [this] at hl; simp only [List.mem_singleton] at hl; subst hl; exact zL_rng
  · have : formsL lvA = [⟨0, []⟩, ⟨0, [⟨bs [105], 1⟩]⟩, ⟨2, []⟩] := rfl
    rw [this] at hl; simp only [List.mem_cons, List.not_mem_nil, or_false] at hl
    rcases hl with rfl | rfl | rfl
    · exact zL_rng
    · exact ⟨by unfold r64; decide, fun m hm => by simp only [List.mem_singleton] at hm; subst hm; unfold r64; decide⟩
    · exact ⟨by unfold r64; decide, fun m hm => by cases hm⟩
  · have : formsL lvT = [⟨0, []⟩] := rfl
    rw [this] at hl; simp only [List.mem_singleton] at hl; subst hl; exact zL_rng
theorem lvU_rng : lvU.rng := ⟨by unfold r64; decide, fun m hm => by simp only [lvU, List.mem_singleton] at hm; subst hm; unfold r64; decide⟩
theorem sort_one (s : ByteArray) : sortB [s] = [s] := by
  unfold sortB ofB toB
  rw [List.map_singleton, List.mergeSort_singleton, List.map_singleton]
theorem thin_one (s : ByteArray) : thinB [s] = [s] := by
  cases s; rfl
theorem lvX_index : indexT lvX = [bs [106]] := by
  have h : namesA (nodes lvX) = [bs [106]] := by rfl
  unfold indexT; rw [h, sort_one, thin_one]
theorem lvE_reads : readsT lvE = [bs [97]] := by
  have h : readsA (nodes lvE) = [bs [97]] := by decide +kernel
  unfold readsT; rw [h, sort_one, thin_one]
end Go.Br
end
section
set_option linter.unusedSimpArgs false
set_option linter.unusedVariables false
namespace Go.Br
open Go Go.Eng Go.L41

abbrev SR (s : ByteArray) (u : Lf) (l : Lf) : Lf × Int := substR l s u
end Go.Br
end
section
set_option linter.unusedSimpArgs false
set_option linter.unusedVariables false
namespace Go.Br
open Go Go.Eng Go.L41

end Go.Br
end
section
namespace Go.Br
open Go Go.Eng Go.L41

mutual
def Ex.ixc : Ex → Nat
  | .mk _ _ _ _ _ i l => i.length + ixcL l
def ixcL : List Ex → Nat
  | [] => 0
  | e :: r => e.ixc + ixcL r
end
theorem Ex.ixc_eq (e : Ex) : e.ixc = e.Idx.length + ixcL e.Args := by cases e; rw [Ex.ixc]; rfl
theorem ixcL_append (a b : List Ex) : ixcL (a ++ b) = ixcL a + ixcL b := by
  induction a with
  | nil => simp [ixcL]
  | cons x r ih => rw [List.cons_append, ixcL, ixcL, ih]; omega
theorem ixcL_next {l : List Ex} {k : Nat} {x : Ex} (h : l[k]? = some x) : ixcL (l.take (k + 1)) = ixcL (l.take k) + x.ixc := by
  rw [take_next h, ixcL_append]; simp [ixcL]
theorem ixcL_le {l : List Ex} {k : Nat} {x : Ex} (h : l[k]? = some x) : ixcL (l.take k) + x.ixc ≤ ixcL l := by
  have := ixcL_append (l.take (k + 1)) (l.drop (k + 1))
  rw [List.take_append_drop, ixcL_next h] at this
  omega
theorem Ex.ixc_le : ∀ e : Ex, e.ixc ≤ e.wt := by
  intro e
  induction e using Ex.ind with
  | _ e ih =>
    rw [Ex.ixc_eq, Ex.wt_eq]
    have : ixcL e.Args ≤ argsWt e.Args := by
      generalize e.Args = l at ih
      induction l with
      | nil => simp [ixcL]
      | cons x r ihr =>
        rw [ixcL, argsWt]
        have h1 := ih x (by simp)
        have h2 := ihr fun a ha => ih a (by simp [ha])
        omega
    omega
/-- Strings that may grow. -/
def Ex.short (S : Nat) (e : Ex) : Prop := ∀ x, x ∈ nodes e → ∀ i, i ∈ x.Idx → i.From.size ≤ S
theorem nodesL_mem {l : List Ex} {a x : Ex} (ha : a ∈ l) (hx : x ∈ nodes a) : x ∈ nodesL l := by
  induction l with
  | nil => cases ha
  | cons y r ih =>
    rw [nodesL]
    rcases List.mem_cons.1 ha with rfl | h
    · exact List.mem_append.2 (.inl hx)
    · exact List.mem_append.2 (.inr (ih h))
theorem Ex.short.arg {S : Nat} {e a : Ex} (h : e.short S) (ha : a ∈ e.Args) : a.short S := fun x hx => h x (by rw [nodes_eq]; exact List.mem_cons_of_mem _ (nodesL_mem ha hx))
theorem Ex.short.head {S : Nat} {e : Ex} (h : e.short S) {i : Ix} (hi : i ∈ e.Idx) : i.From.size ≤ S := h e (by rw [nodes_eq]; exact List.mem_cons_self) i hi
abbrev vG (w0 : World) (bs : List Nat) (m : Nat) (e : Ex) : V := .agg (e.cs.map (Gc w0 bs m))
theorem few_short {e : Ex} {m : Nat} (h : fewE e m = true) : e.short 1000000 := by
  have h2 : shortE e = true := by unfold fewE at h; simp only [Bool.and_eq_true] at h; exact h.2
  clear h
  induction e using Ex.ind with
  | _ e ih =>
    rw [shortE_eq] at h2
    simp only [Bool.and_eq_true, List.all_eq_true] at h2
    intro x hx i hi
    rw [nodes_eq] at hx
    rcases List.mem_cons.1 hx with rfl | hx
    · have := h2.2.1 i hi
      unfold shortI at this
      simp only [Bool.not_eq_true', decide_eq_false_iff_not] at this
      omega
    · obtain ⟨a, ha, hxa⟩ : ∃ a, a ∈ e.Args ∧ x ∈ nodes a := by
        generalize e.Args = l at hx
        induction l with
        | nil => rw [nodesL] at hx; cases hx
        | cons y r ihr =>
          rw [nodesL] at hx
          rcases List.mem_append.1 hx with h | h
          · exact ⟨y, by simp, h⟩
          · obtain ⟨a, h1, h3⟩ := ihr h
            exact ⟨a, by simp [h1], h3⟩
      exact ih a ha (h2.2.2 a ha) x hxa i hi
/-- Thirteen values. -/
structure P13 where
  (a0 a1 a2 a3 a4 a5 a6 a7 a8 a9 a10 a11 a12 : Value)
def P13.vals (p : P13) : List Value := [p.a0, p.a1, p.a2, p.a3, p.a4, p.a5, p.a6, p.a7, p.a8, p.a9, p.a10, p.a11, p.a12]
abbrev P13.v (p : P13) : V := .agg [.lit p.a0, .lit p.a1, .lit p.a2, .lit p.a3, .lit p.a4, .lit p.a5, .lit p.a6, .lit p.a7, .lit p.a8, .lit p.a9, .lit p.a10, .lit p.a11, .lit p.a12]
theorem list13 {vs : List Value} (h : vs.length = 13) : ∃ p : P13, vs = p.vals := by
  match vs, h with
  | [a0, a1, a2, a3, a4, a5, a6, a7, a8, a9, a10, a11, a12], _ => exact ⟨⟨a0, a1, a2, a3, a4, a5, a6, a7, a8, a9, a10, a11, a12⟩, rfl⟩
end Go.Br
end
