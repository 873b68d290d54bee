/-
  Arithmetic on elements, in plain Lean: fractions in lowest terms, rounded quotients, numbers brought into a width.
  Arithmetic on elements, in plain Lean, as the walks meet it.
  Conditions: none.
-/
import Derived.Test.YtmmiedgoamlhpaaDoorSpec
section
set_option linter.unusedSimpArgs false
set_option linter.unusedVariables false
namespace Go.Br
open Go Go.Eng Go.L41

/-! ## Fractions -/
def frOk (v : Vl) : Bool := decide (1 ≤ v.D) && decide (v.D ≤ 2147483647) && num31 v.N && decide (Int.gcd v.N v.D = 1)
def sgnD (n d : Int) : Bool := decide (n < 0) != decide (d < 0)
def madF (s : Bool) (a b : Nat) : Vl × Int :=
  bif decide ((2147483647 : Int) < ((a / Nat.gcd a b : Nat) : Int)) || decide ((2147483647 : Int) < ((b / Nat.gcd a b : Nat) : Int)) then (⟨0, 0⟩, 3) else
  (⟨bif s then -((a / Nat.gcd a b : Nat) : Int) else ((a / Nat.gcd a b : Nat) : Int), ((b / Nat.gcd a b : Nat) : Int)⟩, 0)
def newF (n d : Int) : Vl × Int := bif decide (d = 0) then (⟨0, 0⟩, 4) else madF (sgnD n d) n.natAbs d.natAbs

theorem frOk_in {v : Vl} (h : frOk v = true) : 1 ≤ v.D ∧ v.D ≤ 2147483647 ∧ -2147483647 ≤ v.N ∧ v.N ≤ 2147483647 ∧ Int.gcd v.N v.D = 1 := by
  simp only [frOk, Bool.and_eq_true, decide_eq_true_eq, num31] at h
  omega

theorem madF_ok {s : Bool} {a b : Nat} (hb : 0 < b) (h : (madF s a b).2 = 0) : frOk (madF s a b).1 = true := by
  have hg : 0 < Nat.gcd a b := Nat.gcd_pos_of_pos_right _ hb
  have hpos : 0 < b / Nat.gcd a b := Nat.div_pos (Nat.le_of_dvd hb (Nat.gcd_dvd_right a b)) hg
  unfold madF at h ⊢
  cases hc : (decide ((2147483647 : Int) < ((a / Nat.gcd a b : Nat) : Int)) || decide ((2147483647 : Int) < ((b / Nat.gcd a b : Nat) : Int))) with
  | true => rw [hc] at h; simp at h
  | false =>
    simp only [Bool.or_eq_false_iff, decide_eq_false_iff_not] at hc
    simp only [cond_false]
    have hgc : Nat.gcd (a / Nat.gcd a b) (b / Nat.gcd a b) = 1 := by rw [Nat.gcd_div (Nat.gcd_dvd_left a b) (Nat.gcd_dvd_right a b), Nat.div_self hg]
    generalize a / Nat.gcd a b = x at *
    generalize b / Nat.gcd a b = y at *
    unfold frOk num31
    simp only [Bool.and_eq_true, decide_eq_true_eq]
    refine ⟨⟨⟨by omega, by omega⟩, ?_⟩, ?_⟩
    · cases s <;> simp only [cond_true, cond_false] <;> omega
    · unfold Int.gcd
      cases s <;> simp only [cond_true, cond_false, Int.natAbs_neg, Int.natAbs_natCast] <;> exact hgc
theorem newF_ok {n d : Int} (hd : d ≠ 0) (h : (newF n d).2 = 0) : frOk (newF n d).1 = true := by
  unfold newF at h ⊢
  rw [dec_false hd] at h ⊢
  exact madF_ok (by omega) h

/-- Equal fractions in lowest terms are the same. -/
theorem frOk_eq {a b : Vl} (ha : frOk a = true) (hb : frOk b = true) (h : a.N * b.D = b.N * a.D) : a = b := by
  obtain ⟨a1, a2, a3, a4, a5⟩ := frOk_in ha
  obtain ⟨b1, b2, b3, b4, b5⟩ := frOk_in hb
  have e : a.N.natAbs * b.D.natAbs = b.N.natAbs * a.D.natAbs := by rw [← Int.natAbs_mul, ← Int.natAbs_mul, h]
  have c1 : Nat.Coprime a.D.natAbs a.N.natAbs := by unfold Int.gcd at a5; rw [Nat.coprime_comm]; exact a5
  have c2 : Nat.Coprime b.D.natAbs b.N.natAbs := by unfold Int.gcd at b5; rw [Nat.coprime_comm]; exact b5
  have d1 : a.D.natAbs ∣ b.D.natAbs := c1.dvd_of_dvd_mul_left (m := a.N.natAbs) (by rw [e]; exact Nat.dvd_mul_left _ _)
  have d2 : b.D.natAbs ∣ a.D.natAbs := c2.dvd_of_dvd_mul_left (m := b.N.natAbs) (by rw [← e]; exact Nat.dvd_mul_left _ _)
  have e2 := Nat.dvd_antisymm d1 d2
  have e3 : a.D = b.D := by omega
  have e4 : a.N = b.N := by
    rw [e3] at h
    exact Int.eq_of_mul_eq_mul_right (by omega) h
  cases a; cases b; simp_all

def ordI (a b : Int) : Int := bif decide (a < b) then -1 else bif decide (b < a) then 1 else 0
theorem ordI_zero {a b : Int} : ordI a b = 0 ↔ a = b := by
  unfold ordI
  by_cases h : a < b
  · rw [decide_eq_true h]; simp; omega
  · rw [dec_false h]
    by_cases k : b < a
    · rw [decide_eq_true k]; simp; omega
    · rw [dec_false k]; simp; omega

/-! ## Quotients -/
def flo (n d : Int) : Int := bif decide (n < n.tdiv d * d) then n.tdiv d - 1 else n.tdiv d
theorem flo_eq {n d : Int} (h : 0 < d) : flo n d = n / d := by
  unfold flo
  have e1 := Int.mul_ediv_add_emod n d
  have e2 := Int.emod_nonneg n (show d ≠ 0 by omega)
  have e3 := Int.emod_lt_of_pos n h
  have e4 := Int.mul_tdiv_add_tmod n d
  rw [Int.tdiv_eq_ediv]
  by_cases c : 0 ≤ n ∨ d ∣ n
  · rw [if_pos c, Int.add_zero]
    have : ¬ n < n / d * d := by rw [Int.mul_comm]; omega
    rw [dec_false this]; rfl
  · rw [if_neg c, Int.sign_eq_one_of_pos h]
    have hr : n % d ≠ 0 := fun h0 => c (.inr (Int.dvd_of_emod_eq_zero h0))
    have : n < (n / d + 1) * d := by rw [Int.add_mul, Int.one_mul, Int.mul_comm]; omega
    rw [decide_eq_true this]
    simp only [cond_true]
    omega

/-- A quotient rounded in one of the four ways, for a divisor above 0. -/
def rnd (n d how : Int) : Int :=
  bif decide (n - n / d * d = 0) || decide (how = 1) then n / d else bif decide (how = 2) then n / d + 1 else
  bif decide (how = 3) then (bif decide (n < 0) then n / d + 1 else n / d) else
  bif decide (d - (n - n / d * d) < n - n / d * d) || (decide (n - n / d * d = d - (n - n / d * d)) && !decide ((n / d).tmod 2 = 0)) then n / d + 1 else n / d

/-- The same from magnitudes. -/
def staysN (q r b : Nat) (neg : Bool) (how : Int) : Bool := (decide (r = 0) || decide (how = 3)) || ((decide (how = 1) && !neg) || (decide (how = 2) && neg)) || (decide (how = 4) && (decide (2 * r < b) || (decide (2 * r = b) && decide (q % 2 = 0))))
def stays (q r b : Nat) (neg : Bool) (how : Int) : Bool := (decide ((r : Int) = 0) || decide (how = 3)) || ((decide (how = 1) && !neg) || (decide (how = 2) && neg)) || (decide (how = 4) && (decide (((2 * r : Nat) : Int) < (b : Int)) || (decide (((2 * r : Nat) : Int) = (b : Int)) && decide (((q % 2 : Nat) : Int) = 0))))
theorem stays_eq (q r b : Nat) (neg : Bool) (how : Int) : stays q r b neg how = staysN q r b neg how := by
  unfold stays staysN
  rw [show decide ((r : Int) = 0) = decide (r = 0) from decide_eq_decide.2 (by omega), show decide (((2 * r : Nat) : Int) < (b : Int)) = decide (2 * r < b) from decide_eq_decide.2 (by omega), show decide (((2 * r : Nat) : Int) = (b : Int)) = decide (2 * r = b) from decide_eq_decide.2 (by omega), show decide (((q % 2 : Nat) : Int) = 0) = decide (q % 2 = 0) from decide_eq_decide.2 (by omega)]
def rdd (a b : Nat) (neg : Bool) (how : Int) : Nat := bif stays (a / b) (a % b) b neg how then a / b else a / b + 1
def sgd (neg : Bool) (m : Nat) : Int := bif neg then -(m : Int) else m

theorem rdd_rnd {a b : Nat} (hb : 0 < b) {how : Int} (h1 : 1 ≤ how) (h4 : how ≤ 4) : (rdd a b false how : Int) = rnd a b how := by
  have e1 : ((a : Int) / (b : Int)) = ((a / b : Nat) : Int) := rfl
  have e2 : (a : Int) - ((a / b : Nat) : Int) * (b : Int) = ((a % b : Nat) : Int) := by
    have := Nat.div_add_mod a b
    rw [Nat.mul_comm] at this
    have h := congrArg (fun x : Nat => (x : Int)) this
    simp only [Int.natCast_add, Int.natCast_mul] at h
    omega
  have e3 : Int.tmod (((a / b : Nat) : Int)) 2 = ((a / b % 2 : Nat) : Int) := rfl
  have hr := Nat.mod_lt a hb
  unfold rnd rdd
  rw [stays_eq]
  unfold staysN
  rw [e1, e2, e3]
  generalize a / b = q at *
  generalize a % b = r at *
  have hh : how = 1 ∨ how = 2 ∨ how = 3 ∨ how = 4 := by omega
  have na : ¬ ((a : Int) < 0) := by omega
  have q2 := Nat.mod_two_eq_zero_or_one q
  rcases hh with rfl | rfl | rfl | rfl
  · simp
  · by_cases h0 : r = 0
    · simp [h0]
    · simp [h0]
  · simp [na]
  · by_cases h0 : r = 0
    · simp [h0]
    · by_cases h5 : 2 * r < b
      · have h6 : ¬ ((b : Int) - r < r) := by omega
        have h7 : ¬ ((r : Int) = b - r) := by omega
        simp [h0, h5, h6, h7]
      · by_cases h7 : 2 * r = b
        · have h8 : ((r : Int) = b - r) := by omega
          have h6 : ¬ ((b : Int) - r < r) := by omega
          have h9 : ((b : Int) - r = r) := by omega
          rcases q2 with h10 | h10
          · have : ((q : Int) % 2 = 0) := by omega
            simp [h0, h5, h7, h10, h9, this]
          · have : ¬ ((q : Int) % 2 = 0) := by omega
            simp [h0, h5, h7, h10, h9, this]
        · have h6 : ((b : Int) - r < r) := by omega
          simp [h0, h5, h7, h6]

theorem rdd_neg {a b : Nat} (hb : 0 < b) {how : Int} (h1 : 1 ≤ how) (h4 : how ≤ 4) (ha : 0 < a) : -(rdd a b true how : Int) = rnd (-a) b how := by
  have hr := Nat.mod_lt a hb
  have e := Nat.div_add_mod a b
  rw [Nat.mul_comm] at e
  have e' := congrArg (fun x : Nat => (x : Int)) e
  simp only [Int.natCast_add, Int.natCast_mul] at e'
  have na : (-(a : Int) < 0) := by omega
  have hbi : (0 : Int) < b := by omega
  have hh : how = 1 ∨ how = 2 ∨ how = 3 ∨ how = 4 := by omega
  have q2 := Nat.mod_two_eq_zero_or_one (a / b)
  by_cases h0 : a % b = 0
  · have e1 : (-(a : Int)) / (b : Int) = -((a / b : Nat) : Int) := by
      have : -(a : Int) = (b : Int) * -((a / b : Nat) : Int) := by rw [Int.mul_neg, Int.mul_comm]; omega
      rw [this, Int.mul_ediv_cancel_left _ (by omega)]
    have e2 : (-(a : Int)) - -((a / b : Nat) : Int) * (b : Int) = 0 := by rw [Int.neg_mul]; omega
    unfold rnd rdd
    rw [stays_eq]
    unfold staysN
    rw [e1, e2, h0]
    simp
  · have e1 : (-(a : Int)) / (b : Int) = -((a / b : Nat) : Int) - 1 := by
      refine ((Int.ediv_emod_unique (r := (b : Int) - ((a % b : Nat) : Int)) hbi).2 ⟨?_, by omega, by omega⟩).1
      simp only [Int.mul_sub, Int.mul_neg, Int.mul_one]
      rw [Int.mul_comm]; omega
    have e2 : (-(a : Int)) - (-((a / b : Nat) : Int) - 1) * (b : Int) = (b : Int) - ((a % b : Nat) : Int) := by
      simp only [Int.sub_mul, Int.neg_mul, Int.one_mul]; omega
    unfold rnd rdd
    rw [stays_eq]
    unfold staysN
    rw [e1, e2]
    generalize a / b = q at *
    generalize a % b = r at *
    have z0 : ¬ ((b : Int) - r = 0) := by omega
    have t2 : ((-(q : Int) - 1).tmod 2 = 0) ↔ ¬ (q % 2 = 0) := by
      rw [show (-(q : Int) - 1) = -((q + 1 : Nat) : Int) by omega, Int.neg_tmod, show Int.tmod ((q + 1 : Nat) : Int) 2 = (((q + 1) % 2 : Nat) : Int) from rfl]
      omega
    rcases hh with rfl | rfl | rfl | rfl
    · simp [h0]; omega
    · simp [h0, z0]
    · simp [h0, z0, ha]
    · by_cases h5 : 2 * r < b
      · have h6 : ((b : Int) - (b - r) < b - r) := by omega
        simp [h0, z0, h5, h6]
      · by_cases h7 : 2 * r = b
        · have h6 : ¬ ((b : Int) - (b - r) < b - r) := by omega
          have h8 : ((b : Int) - r = b - (b - r)) := by omega
          have d1 := dec_false z0
          have d2 := dec_false h6
          have d3 := decide_eq_true h8
          have d4 := dec_false h0
          have d5 := dec_false h5
          have d6 := decide_eq_true h7
          rcases q2 with h10 | h10
          · have d7 := dec_false (fun h => t2.1 h h10 : ¬ ((-(q : Int) - 1).tmod 2 = 0))
            have d8 := decide_eq_true h10
            rw [d1, d2, d3, d4, d5, d6, d7, d8]
            simp
          · have d7 := decide_eq_true (t2.2 (by omega))
            have d8 := dec_false (show ¬ q % 2 = 0 by omega)
            rw [d1, d2, d3, d4, d5, d6, d7, d8]
            simp; omega
        · have h6 : ¬ ((b : Int) - (b - r) < b - r) := by omega
          have h8 : ¬ ((b : Int) - r = b - (b - r)) := by omega
          have d1 := dec_false z0
          have d2 := dec_false h6
          have d3 := dec_false h8
          have d4 := dec_false h0
          have d5 := dec_false h5
          have d6 := dec_false h7
          rw [d1, d2, d3, d4, d5, d6]
          simp; omega

def posN (n d : Int) : Int := bif decide (d < 0) then -n else n
/-- The program's quotient from magnitudes is the rounded quotient. -/
theorem div_rnd {n d how : Int} (hd : d ≠ 0) (h1 : 1 ≤ how) (h4 : how ≤ 4) : sgd (sgnD n d) (rdd n.natAbs d.natAbs (sgnD n d) how) = rnd (posN n d) d.natAbs how := by
  have hb : 0 < d.natAbs := by omega
  by_cases hs : sgnD n d = true
  · rw [hs]
    by_cases h0 : n = 0
    · subst h0
      have : posN 0 d = 0 := by unfold posN; cases decide (d < 0) <;> rfl
      rw [this]
      show -((rdd 0 d.natAbs true how : Nat) : Int) = _
      unfold rdd rnd
      rw [stays_eq]
      unfold staysN
      simp
    · have e : posN n d = -(n.natAbs : Int) := by
        unfold sgnD at hs; unfold posN
        by_cases a : n < 0 <;> by_cases b : d < 0 <;> simp [a, b] at hs ⊢ <;> omega
      rw [e]
      exact rdd_neg hb h1 h4 (by omega)
  · have hs' : sgnD n d = false := by simpa using hs
    rw [hs']
    have e : posN n d = (n.natAbs : Int) := by
      unfold sgnD at hs'; unfold posN
      by_cases a : n < 0 <;> by_cases b : d < 0 <;> simp [a, b] at hs' ⊢ <;> omega
    rw [e]
    exact rdd_rnd hb h1 h4

/-! ## Widths -/
def wrapW (b n : Int) : Int := n - (n + half b) / (2 * half b) * (2 * half b)
def narI (b o n : Int) : Int := max (-half b) (min (half b - 1) (bif decide (o = 2) then wrapW b n else n))
def nar (t : Ty) (n : Int) : Int := narI t.Bits t.Over n
theorem wrapW_in {b n : Int} (h1 : 2 ≤ b) (h2 : b ≤ 31) : -half b ≤ wrapW b n ∧ wrapW b n ≤ half b - 1 := by
  have hh := half_le h1 h2
  have e1 := Int.mul_ediv_add_emod (n + half b) (2 * half b)
  have e2 := Int.emod_nonneg (n + half b) (show 2 * half b ≠ 0 by omega)
  have e3 := Int.emod_lt_of_pos (n + half b) (show 0 < 2 * half b by omega)
  unfold wrapW
  rw [Int.mul_comm]
  omega
theorem wrapW_id {b n : Int} (h1 : 2 ≤ b) (h2 : b ≤ 31) (h3 : -half b ≤ n) (h4 : n ≤ half b - 1) : wrapW b n = n := by
  have hh := half_le h1 h2
  unfold wrapW
  rw [Int.ediv_eq_zero_of_lt (by omega) (by omega)]
  omega

def pow2 (n : Int) : Int := 2 ^ n.toNat
theorem pow2_le {n : Int} (h1 : 0 ≤ n) (h2 : n ≤ 30) : 1 ≤ pow2 n ∧ pow2 n ≤ 1073741824 := by
  have h := half_le (b := n + 1) 
  unfold pow2
  have h3 : n.toNat ≤ 30 := by omega
  have h4 : (2 : Int) ^ n.toNat ≤ 2 ^ 30 := by
    have := Nat.pow_le_pow_right (n := 2) (by omega) h3
    exact_mod_cast this
  have h5 : (1 : Int) ≤ 2 ^ n.toNat := by
    have := Nat.one_le_two_pow (n := n.toNat)
    exact_mod_cast this
  omega

/-- Shifted up and down again, as the program wraps. -/
theorem wrap_shift {b n : Int} (h1 : 2 ≤ b) (h2 : b ≤ 31) (hn : In64 n) :
    Int.fdiv (IntKind.i64.wrap (IntKind.u64.wrap (IntKind.u64.wrap n * 2 ^ (64 - b).toNat))) (2 ^ (64 - b).toNat) = wrapW b n := by
  have hh := half_le h1 h2
  have hU : (0 : Int) < 2 ^ (64 - b).toNat := by
    have := Nat.one_le_two_pow (n := (64 - b).toNat)
    have : (1 : Int) ≤ 2 ^ (64 - b).toNat := by exact_mod_cast this
    omega
  have hMU : half b * 2 ^ (64 - b).toNat = 9223372036854775808 := by
    unfold half
    rw [← Int.pow_add, show (b - 1).toNat + (64 - b).toNat = 63 by omega]
    rfl
  generalize hU' : (2 : Int) ^ (64 - b).toNat = U at *
  have e1 : IntKind.u64.wrap n = n % 18446744073709551616 := by rw [IntKind.wrap_u64]
  have e2 : IntKind.u64.wrap (n % 18446744073709551616 * U) = n % (2 * half b) * U := by
    rw [IntKind.wrap_u64]
    have : (18446744073709551616 : Int) = 2 * half b * U := by rw [Int.mul_assoc, hMU]; rfl
    rw [this, Int.mul_comm _ U, Int.mul_comm _ U, Int.mul_emod_mul_of_pos _ _ hU, Int.mul_comm U, Int.emod_emod_of_dvd]
    exact Int.dvd_mul_left _ _
  rw [e1, e2]
  have m2 := Int.emod_nonneg n (show 2 * half b ≠ 0 by omega)
  have m3 := Int.emod_lt_of_pos n (show 0 < 2 * half b by omega)
  have m1 := Int.mul_ediv_add_emod n (2 * half b)
  have key : ∀ s : Int, IntKind.i64.wrap (n % (2 * half b) * U) = s * U → s = wrapW b n → Int.fdiv (IntKind.i64.wrap (n % (2 * half b) * U)) U = wrapW b n := by
    intro s hs hw
    rw [hs, Int.fdiv_eq_ediv_of_nonneg _ (by omega), Int.mul_ediv_cancel _ (by omega), hw]
  have up : n % (2 * half b) * U < 2 * half b * U := Int.mul_lt_mul_of_pos_right m3 hU
  have lo : 0 ≤ n % (2 * half b) * U := Int.mul_nonneg m2 (by omega)
  have e5 : 2 * half b * U = 18446744073709551616 := by rw [Int.mul_assoc, hMU]; rfl
  by_cases c : n % (2 * half b) < half b
  · refine key (n % (2 * half b)) ?_ ?_
    · have := Int.mul_lt_mul_of_pos_right c hU
      exact wrap_in ⟨by omega, by omega⟩
    · unfold wrapW
      have : (n + half b) / (2 * half b) = n / (2 * half b) := ((Int.ediv_emod_unique (r := n % (2 * half b) + half b) (by omega)).2 ⟨by omega, by omega, by omega⟩).1
      rw [this, Int.mul_comm (n / (2 * half b))]
      omega
  · refine key (n % (2 * half b) - 2 * half b) ?_ ?_
    · have := Int.mul_le_mul_of_nonneg_right (show half b ≤ n % (2 * half b) by omega) (show 0 ≤ U by omega)
      rw [Int.sub_mul, e5]
      rw [IntKind.wrap_i64]
      omega
    · unfold wrapW
      have : (n + half b) / (2 * half b) = n / (2 * half b) + 1 := ((Int.ediv_emod_unique (r := n % (2 * half b) - half b) (by omega)).2 ⟨by rw [Int.mul_add, Int.mul_one]; omega, by omega, by omega⟩).1
      rw [this, Int.add_mul, Int.one_mul, Int.mul_comm (n / (2 * half b))]
      omega

/-! ## Elements -/
def fixA (op : Int) (t : Ty) (a b : Int) : Vl × Int :=
  bif decide (op = 4) then (⟨nar t (a + b), 1⟩, 0) else bif decide (op = 5) then (⟨nar t (a - b), 1⟩, 0) else
  bif decide (op = 6) then (⟨nar t (rnd (a * b) (pow2 t.Frac) t.Round), 1⟩, 0) else bif decide (op = 8) then (⟨nar t (-a), 1⟩, 0) else
  bif decide (b = 0) then (⟨0, 0⟩, 4) else (⟨nar t (rnd (posN a b * pow2 t.Frac) b.natAbs t.Round), 1⟩, 0)
def intN (op a b : Int) : Int :=
  bif decide (op = 4) then a + b else bif decide (op = 5) then a - b else bif decide (op = 6) then a * b else bif decide (op = 7) then posN a b / b.natAbs else -a
def intA (op a b : Int) : Vl × Int :=
  bif decide (op = 7) && decide (b = 0) then (⟨0, 0⟩, 4) else bif num31 (intN op a b) then (⟨intN op a b, 1⟩, 0) else (⟨0, 0⟩, 3)
def fracA (op : Int) (a b : Vl) : Vl × Int :=
  bif decide (op = 4) then newF (a.N * b.D + b.N * a.D) (a.D * b.D) else bif decide (op = 5) then newF (a.N * b.D - b.N * a.D) (a.D * b.D) else
  bif decide (op = 6) then newF (a.N * b.N) (a.D * b.D) else bif decide (op = 7) then newF (a.N * b.D) (a.D * b.N) else (⟨-a.N, a.D⟩, 0)
def cmpV (t : Ty) (a b : Vl) : Int := bif (tyOk t && valOk t a) && (tyOk t && valOk t b) then ordI (a.N * b.D) (b.N * a.D) else 0
def aplV (op : Int) (t : Ty) (a b : Vl) : Vl × Int :=
  bif decide (op < 4) || decide (10 < op) then (⟨0, 0⟩, 1) else bif !tyOk t then (⟨0, 0⟩, 10) else
  bif !valOk t a || (!decide (op = 8) && !valOk t b) then (⟨0, 0⟩, 1) else
  bif decide (op = 9) || decide (op = 10) then (bif decide (0 < cmpV t a b) == decide (op = 9) then b else a, 0) else
  bif decide (t.Kind = 2) then fixA op t a.N b.N else bif decide (t.Kind = 3) then intA op a.N b.N else fracA op a b
def fracV (t : Ty) (v : Vl) : Vl := bif decide (t.Kind = 2) then (newF v.N (pow2 t.Frac)).1 else v
def cstV (f t : Ty) (v : Vl) : Vl × Int :=
  bif !tyOk f || !tyOk t then (⟨0, 0⟩, 10) else bif !valOk f v then (⟨0, 0⟩, 1) else
  bif decide (t.Kind = 3) then (⟨(fracV f v).N / (fracV f v).D, 1⟩, 0) else
  bif decide (t.Kind = 2) then (⟨nar t (rnd ((fracV f v).N * pow2 t.Frac) (fracV f v).D t.Round), 1⟩, 0) else (fracV f v, 0)

theorem val_fr {t : Ty} {v : Vl} (ht : tyOk t = true) (h : valOk t v = true) : (t.Kind ≠ 2 → frOk v = true) ∧ (t.Kind = 2 → v.D = 1 ∧ -half t.Bits ≤ v.N ∧ v.N < half t.Bits) ∧ frOk v = true := by
  have key : (t.Kind = 2 → v.D = 1 ∧ -half t.Bits ≤ v.N ∧ v.N < half t.Bits) := by
    intro hk
    rw [valOk, decide_eq_true hk] at h
    simp only [cond_true, Bool.and_eq_true, decide_eq_true_eq] at h
    omega
  have all : frOk v = true := by
    by_cases hk : t.Kind = 2
    · obtain ⟨k1, k2, k3⟩ := key hk
      have hb := fixB (by rw [← fix_ty hk]; exact ht)
      have hh := half_le hb.1 hb.2
      unfold frOk num31
      rw [k1]
      simp only [Bool.and_eq_true, decide_eq_true_eq]
      exact ⟨⟨⟨by omega, by omega⟩, by omega, by omega⟩, Int.gcd_one⟩
    · rw [valOk, dec_false hk] at h
      by_cases h3 : t.Kind = 3
      · rw [decide_eq_true h3] at h
        simp only [cond_false, cond_true, Bool.and_eq_true, decide_eq_true_eq, num31] at h
        unfold frOk num31
        rw [h.1]
        simp only [Bool.and_eq_true, decide_eq_true_eq]
        exact ⟨⟨⟨by omega, by omega⟩, by omega, by omega⟩, Int.gcd_one⟩
      · rw [dec_false h3] at h
        exact h
  exact ⟨fun _ => all, key, all⟩
theorem cmp_zero {t : Ty} {a b : Vl} (ha : (tyOk t && valOk t a) = true) (hb : (tyOk t && valOk t b) = true) (h : cmpV t a b = 0) : a = b := by
  rw [cmpV, ha, hb] at h
  simp only [Bool.and_eq_true] at ha hb
  exact frOk_eq (val_fr ha.1 ha.2).2.2 (val_fr hb.1 hb.2).2.2 (ordI_zero.1 h)
theorem newF_small {n f : Int} (h1 : -1073741824 ≤ n) (h2 : n ≤ 1073741824) (h3 : 1 ≤ f) (h4 : f ≤ 1073741824) : (newF n f).2 = 0 := by
  unfold newF madF
  rw [dec_false (show ¬ f = 0 by omega)]
  have a1 : n.natAbs / Nat.gcd n.natAbs f.natAbs ≤ n.natAbs := Nat.div_le_self _ _
  have a2 : f.natAbs / Nat.gcd n.natAbs f.natAbs ≤ f.natAbs := Nat.div_le_self _ _
  rw [dec_false (show ¬ (2147483647 : Int) < ((n.natAbs / Nat.gcd n.natAbs f.natAbs : Nat) : Int) by omega), dec_false (show ¬ (2147483647 : Int) < ((f.natAbs / Nat.gcd n.natAbs f.natAbs : Nat) : Int) by omega)]
  rfl
theorem fracV_ok {t : Ty} {v : Vl} (ht : tyOk t = true) (h : valOk t v = true) : frOk (fracV t v) = true := by
  obtain ⟨h1, h2, h3⟩ := val_fr ht h
  unfold fracV
  by_cases hk : t.Kind = 2
  · rw [decide_eq_true hk]
    obtain ⟨k1, k2, k3⟩ := h2 hk
    have hf : fixOk t = true := by rw [← fix_ty hk]; exact ht
    have hb := fixB hf
    have hh := half_le hb.1 hb.2
    have hfr : 0 ≤ t.Frac ∧ t.Frac ≤ 30 := by
      simp only [fixOk, Bool.and_eq_true, decide_eq_true_eq] at hf
      omega
    have hp := pow2_le hfr.1 hfr.2
    exact newF_ok (by omega) (newF_small (by omega) (by omega) (by omega) (by omega))
  · rw [dec_false hk]
    exact h3

/-! ## As the walks meet them -/
theorem m31 {x y : Int} (h1 : -2147483647 ≤ x) (h2 : x ≤ 2147483647) (h3 : -2147483647 ≤ y) (h4 : y ≤ 2147483647) : -4611686014132420609 ≤ x * y ∧ x * y ≤ 4611686014132420609 := by
  have e : (x * y).natAbs ≤ 2147483647 * 2147483647 := by
    rw [Int.natAbs_mul]
    exact Nat.mul_le_mul (by omega) (by omega)
  omega
theorem m60 {x y : Int} {B : Nat} (h1 : x.natAbs ≤ B) (h3 : 0 ≤ y) (h4 : y ≤ 1073741824) : -((B * 1073741824 : Nat) : Int) ≤ x * y ∧ x * y ≤ ((B * 1073741824 : Nat) : Int) := by
  have e : (x * y).natAbs ≤ B * 1073741824 := by
    rw [Int.natAbs_mul]
    exact Nat.mul_le_mul h1 (by omega)
  omega
theorem w31 {m : Nat} (h : ¬ (2147483647 : Int) < (m : Int)) : IntKind.i64.wrap (m : Int) = m := wrap_in ⟨by omega, by omega⟩
theorem w31n {m : Nat} (h : ¬ (2147483647 : Int) < (m : Int)) : IntKind.i64.wrap (-(m : Int)) = -(m : Int) := wrap_in ⟨by omega, by omega⟩
theorem madF_big {s : Bool} {a b : Nat} (h : (decide ((2147483647 : Int) < ((a / Nat.gcd a b : Nat) : Int)) || decide ((2147483647 : Int) < ((b / Nat.gcd a b : Nat) : Int))) = true) : madF s a b = (⟨0, 0⟩, 3) := by
  unfold madF; rw [h]; rfl
theorem madF_fin {s : Bool} {a b : Nat} (h : (decide ((2147483647 : Int) < ((a / Nat.gcd a b : Nat) : Int)) || decide ((2147483647 : Int) < ((b / Nat.gcd a b : Nat) : Int))) = false) :
    madF s a b = (⟨bif s then IntKind.i64.wrap (-(IntKind.i64.wrap ((a / Nat.gcd a b : Nat) : Int))) else IntKind.i64.wrap ((a / Nat.gcd a b : Nat) : Int), IntKind.i64.wrap ((b / Nat.gcd a b : Nat) : Int)⟩, 0) := by
  have h' := h
  simp only [Bool.or_eq_false_iff, decide_eq_false_iff_not] at h'
  rw [w31 h'.1, w31n h'.1, w31 h'.2]
  unfold madF; rw [h]; rfl
theorem newF_nz {n d : Int} (h : ¬ d = 0) : newF n d = madF (sgnD n d) n.natAbs d.natAbs := by unfold newF; rw [dec_false h]; rfl
theorem newF_zero {n d : Int} (h : d = 0) : newF n d = (⟨0, 0⟩, 4) := by unfold newF; rw [decide_eq_true h]; rfl
def frX (op : Int) (a b : Vl) : Vl × Int := bif !frOk a || !frOk b then (⟨0, 0⟩, 1) else fracA op a b
theorem frX_no {op : Int} {a b : Vl} (h : (!frOk a || !frOk b) = true) : frX op a b = (⟨0, 0⟩, 1) := by unfold frX; rw [h]; rfl
theorem fr_both {a b : Vl} (h : (!frOk a || !frOk b) = false) : frOk a = true ∧ frOk b = true := by
  simpa using h
theorem frX_yes {op : Int} {a b : Vl} (ha : frOk a = true) (hb : frOk b = true) : frX op a b = fracA op a b := by unfold frX; rw [ha, hb]; rfl
/-- All products of two fractions' parts are small. -/
structure FrB (a b : Vl) : Prop where
  d1 : 1 ≤ a.D
  d2 : 1 ≤ b.D
  nd : -4611686014132420609 ≤ a.N * b.D ∧ a.N * b.D ≤ 4611686014132420609
  dn : -4611686014132420609 ≤ b.N * a.D ∧ b.N * a.D ≤ 4611686014132420609
  nd' : -4611686014132420609 ≤ a.D * b.N ∧ a.D * b.N ≤ 4611686014132420609
  nn : -4611686014132420609 ≤ a.N * b.N ∧ a.N * b.N ≤ 4611686014132420609
  dd : -4611686014132420609 ≤ a.D * b.D ∧ a.D * b.D ≤ 4611686014132420609
theorem fr_bounds {a b : Vl} (ha : frOk a = true) (hb : frOk b = true) : FrB a b := by
  obtain ⟨a1, a2, a3, a4, _⟩ := frOk_in ha
  obtain ⟨b1, b2, b3, b4, _⟩ := frOk_in hb
  exact ⟨a1, b1, m31 (by omega) (by omega) (by omega) (by omega), m31 (by omega) (by omega) (by omega) (by omega), m31 (by omega) (by omega) (by omega) (by omega), m31 (by omega) (by omega) (by omega) (by omega), m31 (by omega) (by omega) (by omega) (by omega)⟩
theorem ordI_lt {a b : Int} (h : a < b) : ordI a b = -1 := by unfold ordI; rw [decide_eq_true h]; rfl
theorem ordI_gt {a b : Int} (h : ¬ a < b) (k : b < a) : ordI a b = 1 := by unfold ordI; rw [dec_false h, decide_eq_true k]; rfl
theorem ordI_eq {a b : Int} (h : ¬ a < b) (k : ¬ b < a) : ordI a b = 0 := by unfold ordI; rw [dec_false h, dec_false k]; rfl
theorem tdiv_le {n d : Int} (h1 : -2147483647 ≤ n) (h2 : n ≤ 2147483647) : -2147483647 ≤ n.tdiv d ∧ n.tdiv d ≤ 2147483647 := by
  have e : (n.tdiv d).natAbs ≤ n.natAbs := by rw [Int.natAbs_tdiv]; exact Nat.div_le_self _ _
  omega
theorem tdivW {n d : Int} (h1 : -2147483647 ≤ n) (h2 : n ≤ 2147483647) : IntKind.i64.wrap (n.tdiv d) = n.tdiv d := wrap_in (by have := tdiv_le (d := d) h1 h2; exact ⟨by omega, by omega⟩)
theorem floor_neg {n d : Int} (h : 0 < d) (hr : n.tmod d < 0) : n.tdiv d - 1 = n / d := by
  rw [← flo_eq h, flo, decide_eq_true]
  · rfl
  · have := Int.mul_tdiv_add_tmod n d
    rw [Int.mul_comm]; omega
theorem floor_pos {n d : Int} (h : 0 < d) (hr : ¬ n.tmod d < 0) : n.tdiv d = n / d := by
  rw [← flo_eq h, flo, dec_false]
  · rfl
  · have := Int.mul_tdiv_add_tmod n d
    rw [Int.mul_comm]; omega
def divR (n d how : Int) : Int × Int := bif decide (d = 0) then (0, 4) else (rnd (posN n d) d.natAbs how, 0)
theorem divR_zero {n d how : Int} (h : d = 0) : divR n d how = (0, 4) := by unfold divR; rw [decide_eq_true h]; rfl
theorem rdd_le {a b : Nat} {neg : Bool} {how : Int} : rdd a b neg how ≤ a + 1 := by
  unfold rdd
  have := Nat.div_le_self a b
  cases stays (a / b) (a % b) b neg how <;> simp <;> omega
theorem divR_neg {n d how : Int} (hd : ¬ d = 0) (h1 : 1 ≤ how) (h4 : how ≤ 4) (hn : n.natAbs ≤ 4611686018427387904) (hs : sgnD n d = true) : divR n d how = (IntKind.i64.wrap (IntKind.u64.wrap (-((rdd n.natAbs d.natAbs (sgnD n d) how : Nat) : Int))), 0) := by
  have h := div_rnd (n := n) hd h1 h4
  have hle := rdd_le (a := n.natAbs) (b := d.natAbs) (neg := sgnD n d) (how := how)
  unfold divR
  rw [dec_false hd, ← h]
  rw [hs] at hle ⊢
  simp only [cond_false, sgd, cond_true]
  generalize rdd n.natAbs d.natAbs true how = m at *
  congr 1
  rw [IntKind.wrap_u64, IntKind.wrap_i64]
  omega
theorem divR_pos {n d how : Int} (hd : ¬ d = 0) (h1 : 1 ≤ how) (h4 : how ≤ 4) (hn : n.natAbs ≤ 4611686018427387904) (hs : sgnD n d = false) : divR n d how = (IntKind.i64.wrap ((rdd n.natAbs d.natAbs (sgnD n d) how : Nat) : Int), 0) := by
  have h := div_rnd (n := n) hd h1 h4
  have hle := rdd_le (a := n.natAbs) (b := d.natAbs) (neg := sgnD n d) (how := how)
  unfold divR
  rw [dec_false hd, ← h]
  rw [hs] at hle ⊢
  simp only [cond_false, sgd]
  generalize rdd n.natAbs d.natAbs false how = m at *
  congr 1
  exact (wrap_in ⟨by omega, by omega⟩).symm
theorem shl_eq {x b : Int} {B : Nat} (h1 : 0 ≤ b) (h2 : b ≤ 30) (hx : x.natAbs ≤ B) (hB : B ≤ 2147483648) : IntKind.i64.wrap (x * 2 ^ (min b.toNat IntKind.i64.bits)) = x * pow2 b := by
  have hp := pow2_le h1 h2
  have hm := m60 (B := B) (y := pow2 b) hx (by omega) hp.2
  have h4 : min b.toNat IntKind.i64.bits = b.toNat := Nat.min_eq_left (by simp [IntKind.bits]; omega)
  rw [h4]
  exact wrap_in ⟨by unfold pow2 at hm; omega, by unfold pow2 at hm; omega⟩
theorem one_shl {b : Int} (h1 : 0 ≤ b) (h2 : b ≤ 30) : IntKind.i64.wrap (1 * 2 ^ (min b.toNat IntKind.i64.bits)) = pow2 b := by
  rw [shl_eq (B := 1) h1 h2 (by decide) (by decide), Int.one_mul]
theorem narI_in {b o n : Int} (h1 : 2 ≤ b) (h2 : b ≤ 31) (h : (decide (-half b ≤ n) && decide (n ≤ half b - 1)) = true) : narI b o n = n := by
  simp only [Bool.and_eq_true, decide_eq_true_eq] at h
  unfold narI
  cases decide (o = 2) with
  | true => simp only [cond_true]; rw [wrapW_id h1 h2 h.1 h.2]; omega
  | false => simp only [cond_false]; omega
theorem narI_lo {b o n : Int} (h1 : 2 ≤ b) (h2 : b ≤ 31) (ho : o = 1) (h : n < -half b) : narI b o n = -half b := by
  have := half_le h1 h2
  unfold narI; subst ho; simp; omega
theorem narI_hi {b o n : Int} (h1 : 2 ≤ b) (h2 : b ≤ 31) (ho : o = 1) (h : ¬ n < -half b) (h' : (decide (-half b ≤ n) && decide (n ≤ half b - 1)) = false) : narI b o n = half b - 1 := by
  have := half_le h1 h2
  simp only [Bool.and_eq_false_iff, decide_eq_false_iff_not] at h'
  unfold narI; subst ho; simp; omega
theorem narI_wrap {b o n : Int} (h1 : 2 ≤ b) (h2 : b ≤ 31) (ho : o = 2) : narI b o n = wrapW b n := by
  have := wrapW_in (n := n) h1 h2
  unfold narI; subst ho; simp; omega
end Go.Br
end
section
set_option linter.unusedSimpArgs false
set_option linter.unusedVariables false
namespace Go.Br
open Go Go.Eng Go.L41

structure FxT (t : Ty) : Prop where
  k : t.Kind = 2
  b1 : 2 ≤ t.Bits
  b2 : t.Bits ≤ 31
  f1 : 0 ≤ t.Frac
  f2 : t.Frac ≤ 30
  r1 : 1 ≤ t.Round
  r4 : t.Round ≤ 4
  ov : t.Over = 1 ∨ t.Over = 2
  h1 : 1 ≤ half t.Bits
  h2 : half t.Bits ≤ 1073741824
  p1 : 1 ≤ pow2 t.Frac
  p2 : pow2 t.Frac ≤ 1073741824
theorem fxT {t : Ty} (h : fixOk t = true) : FxT t := by
  have h' := h
  simp only [fixOk, Bool.and_eq_true, Bool.or_eq_true, decide_eq_true_eq] at h'
  obtain ⟨⟨⟨⟨⟨⟨⟨h1, h2⟩, h3⟩, h4⟩, h5⟩, h6⟩, h7⟩, h8⟩ := h'
  have a := half_le h2 h3
  have b := pow2_le h4 h5
  exact ⟨h1, h2, h3, h4, h5, h6, h7, h8, a.1, a.2, b.1, b.2⟩
theorem fxV {t : Ty} {v : Vl} (h : fixOk t = true) (hv : valOk t v = true) : v.D = 1 ∧ -half t.Bits ≤ v.N ∧ v.N < half t.Bits := by
  have hk := (fxT h).k
  exact (val_fr (by rw [fix_ty hk]; exact h) hv).2.1 hk
theorem fxN {t : Ty} {v : Vl} (h : fixOk t = true) (hv : valOk t v = true) : v.N.natAbs ≤ 1073741824 := by
  have := fxV h hv
  have := fxT h
  have := this.h2
  omega
theorem tdiv_le' {n d : Int} : (n.tdiv d).natAbs ≤ n.natAbs := by rw [Int.natAbs_tdiv]; exact Nat.div_le_self _ _
theorem ediv_b {n d : Int} (hd : 0 < d) : -(n.natAbs : Int) ≤ n / d ∧ n / d ≤ n.natAbs ∧ n / d * d ≤ n ∧ n < n / d * d + d := by
  have e1 := Int.mul_ediv_add_emod n d
  have e2 := Int.emod_nonneg n (show d ≠ 0 by omega)
  have e3 := Int.emod_lt_of_pos n hd
  rw [Int.mul_comm] at e1
  refine ⟨?_, ?_, by omega, by omega⟩
  · by_cases h : 0 ≤ n
    · have := Int.ediv_nonneg h (Int.le_of_lt hd); omega
    · refine Int.le_ediv_of_mul_le hd ?_
      have : -(n.natAbs : Int) = n := by omega
      rw [this]
      have : n * d ≤ n * 1 := Int.mul_le_mul_of_nonpos_left (by omega) (by omega)
      omega
  · by_cases h : 0 ≤ n
    · have := Int.ediv_le_self d h; omega
    · have : n / d < 0 := Int.ediv_neg_of_neg_of_pos (by omega) hd
      omega
theorem rnd_b {n d how : Int} (hd : 0 < d) : (rnd n d how).natAbs ≤ n.natAbs + 1 := by
  obtain ⟨h1, h2, _, _⟩ := ediv_b (n := n) hd
  have : rnd n d how = n / d ∨ rnd n d how = n / d + 1 := by
    unfold rnd
    generalize (decide (n - n / d * d = 0) || decide (how = 1)) = b1
    generalize (decide (d - (n - n / d * d) < n - n / d * d) || (decide (n - n / d * d = d - (n - n / d * d)) && !decide ((n / d).tmod 2 = 0))) = b2
    cases b1 <;> cases decide (how = 2) <;> cases decide (how = 3) <;> cases decide (n < 0) <;> cases b2 <;> simp
  omega
theorem posN_pos {n d : Int} (h : 0 < d) : posN n d = n := by unfold posN; rw [dec_false (by omega)]; rfl
theorem posN_neg {n d : Int} (h : d < 0) : posN n d = -n := by unfold posN; rw [decide_eq_true h]; rfl
theorem divR_eq {n d how : Int} (h : 0 < d) : divR n d how = (rnd n d how, 0) := by
  unfold divR
  rw [dec_false (show ¬ d = 0 by omega), posN_pos h, show (d.natAbs : Int) = d by omega]; rfl
theorem divR_nz {n d how : Int} (h : ¬ d = 0) : divR n d how = (rnd (posN n d) d.natAbs how, 0) := by
  unfold divR; rw [dec_false h]; rfl
theorem tmod_np {a b : Int} (h : a ≤ 0) : a.tmod b ≤ 0 := by
  have := Int.tmod_nonneg (a := -a) b (by omega)
  rw [Int.neg_tmod] at this
  omega
theorem fixA_div (t : Ty) (a b : Int) : fixA 7 t a b = (bif decide ((divR (a * pow2 t.Frac) b t.Round).2 = 0) then ⟨nar t (divR (a * pow2 t.Frac) b t.Round).1, 1⟩ else ⟨0, 0⟩, (divR (a * pow2 t.Frac) b t.Round).2) := by
  unfold fixA
  by_cases h : b = 0
  · rw [divR_zero h, decide_eq_true h]; rfl
  · rw [divR_nz h, dec_false h]
    have : posN (a * pow2 t.Frac) b = posN a b * pow2 t.Frac := by
      unfold posN; cases decide (b < 0)
      · rfl
      · show -(a * pow2 t.Frac) = -a * pow2 t.Frac
        rw [Int.neg_mul]
    rw [this]; rfl
theorem divR_b {x y how : Int} (hx : -((1073741824 * 1073741824 : Nat) : Int) ≤ x ∧ x ≤ ((1073741824 * 1073741824 : Nat) : Int)) : In64 (divR x y how).1 := by
  by_cases h : y = 0
  · rw [divR_zero h]; exact ⟨by decide, by decide⟩
  · rw [divR_nz h]
    have := rnd_b (n := posN x y) (d := (y.natAbs : Int)) (how := how) (by omega)
    have hp : (posN x y).natAbs = x.natAbs := by unfold posN; cases decide (y < 0) <;> simp
    exact ⟨by show _ ≤ rnd _ _ _; omega, by show rnd _ _ _ ≤ _; omega⟩
theorem fixA1 {op : Int} {t : Ty} {a b : Int} (h : op = 4) : fixA op t a b = (⟨nar t (a + b), 1⟩, 0) := by subst h; rfl
theorem fixA2 {op : Int} {t : Ty} {a b : Int} (h : op = 5) : fixA op t a b = (⟨nar t (a - b), 1⟩, 0) := by subst h; rfl
theorem fixA3 {op : Int} {t : Ty} {a b : Int} (h : op = 6) : fixA op t a b = (⟨nar t (rnd (a * b) (pow2 t.Frac) t.Round), 1⟩, 0) := by subst h; rfl
theorem intN1 {op a b : Int} (h : op = 4) : intN op a b = a + b := by subst h; rfl
theorem intN2 {op a b : Int} (h : op = 5) : intN op a b = a - b := by subst h; rfl
theorem intN3 {op a b : Int} (h : op = 6) : intN op a b = a * b := by subst h; rfl
theorem intN4 {op a b : Int} (h : op = 7) : intN op a b = posN a b / b.natAbs := by subst h; rfl
theorem n31 {a : Int} (h : num31 a = true) : -2147483647 ≤ a ∧ a ≤ 2147483647 := by
  simp only [num31, Bool.and_eq_true, decide_eq_true_eq] at h; exact h
theorem intA1 {op a b : Int} (h : op = 7) (h0 : b = 0) : intA op a b = (⟨0, 0⟩, 4) := by subst h; subst h0; rfl
theorem intA2 {op a b : Int} (h : ¬ (op = 7 ∧ b = 0)) (hx : num31 (intN op a b) = false) : intA op a b = (⟨0, 0⟩, 3) := by
  unfold intA
  rw [hx, show (decide (op = 7) && decide (b = 0)) = false by simp; omega]; rfl
theorem intA3 {op a b : Int} (h : ¬ (op = 7 ∧ b = 0)) (hx : num31 (intN op a b) = true) : intA op a b = (⟨intN op a b, 1⟩, 0) := by
  unfold intA
  rw [hx, show (decide (op = 7) && decide (b = 0)) = false by simp; omega]; rfl
theorem idiv {a b : Int} (hb : ¬ b = 0) (h : (!decide (a.tmod b = 0) && sgnD a b) = true) : a.tdiv b - 1 = posN a b / b.natAbs := by
  simp only [Bool.and_eq_true, Bool.not_eq_true', decide_eq_false_iff_not, sgnD, bne_iff_ne, ne_eq, decide_eq_decide] at h
  by_cases k : 0 < b
  · rw [posN_pos k, show (b.natAbs : Int) = b by omega]
    refine floor_neg k ?_
    have := Int.tmod_nonneg (a := a) b
    have h0 : a < 0 := by omega
    have := tmod_np (a := a) (b := b) (by omega)
    omega
  · have k' : 0 < -b := by omega
    rw [posN_neg (by omega), show (b.natAbs : Int) = -b by omega]
    have e : (-a).tdiv (-b) = a.tdiv b := by rw [Int.neg_tdiv_neg]
    have e2 : (-a).tmod (-b) = -(a.tmod b) := by rw [Int.tmod_neg, Int.neg_tmod]
    rw [← e]
    refine floor_neg k' ?_
    rw [e2]
    have := Int.tmod_nonneg (a := a) b (by omega)
    omega
theorem idiv0 {a b : Int} (hb : ¬ b = 0) (h : (!decide (a.tmod b = 0) && sgnD a b) = false) : a.tdiv b = posN a b / b.natAbs := by
  simp only [Bool.and_eq_false_iff, Bool.not_eq_false', decide_eq_true_eq, sgnD, bne_eq_false_iff_eq, decide_eq_decide] at h
  by_cases k : 0 < b
  · rw [posN_pos k, show (b.natAbs : Int) = b by omega]
    refine floor_pos k ?_
    rcases h with h | h
    · omega
    · have := Int.tmod_nonneg (a := a) b (by omega); omega
  · have k' : 0 < -b := by omega
    rw [posN_neg (by omega), show (b.natAbs : Int) = -b by omega]
    have e : (-a).tdiv (-b) = a.tdiv b := by rw [Int.neg_tdiv_neg]
    have e2 : (-a).tmod (-b) = -(a.tmod b) := by rw [Int.tmod_neg, Int.neg_tmod]
    rw [← e]
    refine floor_pos k' ?_
    rw [e2]
    rcases h with h | h
    · omega
    · have := tmod_np (a := a) (b := b) (by omega); omega
def negV (t : Ty) (a : Vl) : Vl × Int := bif decide (t.Kind = 2) then (⟨nar t (-a.N), 1⟩, 0) else (⟨-a.N, a.D⟩, 0)
def ariV (op : Int) (t : Ty) (a b : Vl) : Vl × Int := bif decide (t.Kind = 2) then fixA op t a.N b.N else bif decide (t.Kind = 3) then intA op a.N b.N else fracA op a b
theorem apl1 {op : Int} {t : Ty} {a b : Vl} (h : (decide (op < 4) || decide (10 < op)) = true) : aplV op t a b = (⟨0, 0⟩, 1) := by rw [aplV, h]; rfl
theorem apl2 {op : Int} {t : Ty} {a b : Vl} (h : (decide (op < 4) || decide (10 < op)) = false) (h2 : tyOk t = false) : aplV op t a b = (⟨0, 0⟩, 10) := by rw [aplV, h, h2]; rfl
theorem apl3 {op : Int} {t : Ty} {a b : Vl} (h : (decide (op < 4) || decide (10 < op)) = false) (h2 : tyOk t = true) (h3 : (!valOk t a || (!decide (op = 8) && !valOk t b)) = true) : aplV op t a b = (⟨0, 0⟩, 1) := by rw [aplV, h, h2, h3]; rfl
theorem apl4 {op : Int} {t : Ty} {a b : Vl} (h : (decide (op < 4) || decide (10 < op)) = false) (h2 : tyOk t = true) (h3 : (!valOk t a || (!decide (op = 8) && !valOk t b)) = false) : aplV op t a b = bif decide (op = 9) || decide (op = 10) then (bif decide (0 < cmpV t a b) == decide (op = 9) then b else a, 0) else ariV op t a b := by rw [aplV, h, h2, h3]; rfl
theorem apl5 {op : Int} {t : Ty} {a b : Vl} (h : (decide (op < 4) || decide (10 < op)) = false) (h2 : tyOk t = true) (h3 : (!valOk t a || (!decide (op = 8) && !valOk t b)) = false) (hm : (decide (op = 9) || decide (op = 10)) = false) : aplV op t a b = ariV op t a b := by rw [apl4 h h2 h3, hm]; rfl
theorem apl6 {op : Int} {t : Ty} {a b : Vl} (h : (decide (op < 4) || decide (10 < op)) = false) (h2 : tyOk t = true) (h3 : (!valOk t a || (!decide (op = 8) && !valOk t b)) = false) (hm : (decide (op = 9) || decide (op = 10)) = true) : aplV op t a b = (bif decide (0 < cmpV t a b) == decide (op = 9) then b else a, 0) := by rw [apl4 h h2 h3, hm]; rfl
theorem apl_ok {op : Int} {t : Ty} {a b : Vl} (h : (!valOk t a || (!decide (op = 8) && !valOk t b)) = false) : valOk t a = true ∧ (¬ op = 8 → valOk t b = true) := by
  rw [Bool.or_eq_false_iff, Bool.and_eq_false_iff] at h
  refine ⟨by simpa using h.1, fun h8 => ?_⟩
  rcases h.2 with h | h
  · simp at h; exact absurd h h8
  · simpa using h
theorem apl_rng {op : Int} (h : (decide (op < 4) || decide (10 < op)) = false) : 4 ≤ op ∧ op ≤ 10 := by
  simp only [Bool.or_eq_false_iff, decide_eq_false_iff_not] at h; omega
theorem fr31 {v : Vl} (h : frOk v = true) : num31 v.N = true := by
  have := frOk_in h
  simp only [num31, Bool.and_eq_true, decide_eq_true_eq]; omega
theorem and_dec {p q : Prop} [Decidable p] [Decidable q] (h : (decide p && decide q) = true) : p ∧ q := by simpa using h
theorem ari7 {op : Int} {t : Ty} (hk : t.Kind = 2) (h1 : 4 ≤ op) (h2 : op ≤ 7) (c2 : (decide (op = 4) && decide (t.Kind = 2)) = false) (c3 : (decide (op = 5) && decide (t.Kind = 2)) = false) (c4 : (decide (op = 6) && decide (t.Kind = 2)) = false) : op = 7 := by
  simp [hk] at c2 c3 c4; omega
theorem ari1 {op : Int} {t : Ty} {a b : Vl} (h2 : ¬ t.Kind = 2) (h3 : ¬ t.Kind = 3) : ariV op t a b = fracA op a b := by unfold ariV; rw [dec_false h2, dec_false h3]; rfl
theorem ari2 {op : Int} {t : Ty} {a b : Vl} (h : t.Kind = 2) : ariV op t a b = fixA op t a.N b.N := by unfold ariV; rw [decide_eq_true h]; rfl
theorem ari3 {op : Int} {t : Ty} {a b : Vl} (h : t.Kind = 3) : ariV op t a b = intA op a.N b.N := by unfold ariV; rw [dec_false (show ¬ t.Kind = 2 by omega), decide_eq_true h]; rfl
theorem ari_neg {t : Ty} {a b : Vl} (h2 : tyOk t = true) (ha : valOk t a = true) : ariV 8 t a b = negV t a := by
  have hfr := frOk_in (val_fr h2 ha).2.2
  unfold ariV negV
  by_cases hk : t.Kind = 2
  · rw [decide_eq_true hk]; rfl
  · rw [dec_false hk]
    by_cases h3 : t.Kind = 3
    · rw [decide_eq_true h3]
      rw [valOk, dec_false hk, decide_eq_true h3] at ha
      simp only [cond_false, cond_true, Bool.and_eq_true, decide_eq_true_eq, num31] at ha
      have : num31 (-a.N) = true := by simp only [num31, Bool.and_eq_true, decide_eq_true_eq]; omega
      rw [ha.1]
      show intA 8 a.N b.N = _
      unfold intA intN
      simp [this]
    · rw [dec_false h3]; rfl
theorem apl_min {t : Ty} {a b : Vl} {op : Int} (h2 : tyOk t = true) (ha : valOk t a = true) (hb : valOk t b = true) (h : ((decide (0 < cmpV t a b) == decide (op = 9)) && !decide (cmpV t a b = 0)) = true) : (bif decide (0 < cmpV t a b) == decide (op = 9) then b else a) = b := by
  rw [Bool.and_eq_true] at h; rw [h.1]; rfl
theorem apl_min0 {t : Ty} {a b : Vl} {op : Int} (h2 : tyOk t = true) (ha : valOk t a = true) (hb : valOk t b = true) (h : ((decide (0 < cmpV t a b) == decide (op = 9)) && !decide (cmpV t a b = 0)) = false) : (bif decide (0 < cmpV t a b) == decide (op = 9) then b else a) = a := by
  rw [Bool.and_eq_false_iff] at h
  rcases h with h | h
  · rw [h]; rfl
  · have := cmp_zero (t := t) (a := a) (b := b) (by rw [h2, ha]; rfl) (by rw [h2, hb]; rfl) (by simpa using h)
    subst this
    cases (decide (0 < cmpV t a a) == decide (op = 9)) <;> rfl
theorem cmp_yes {t : Ty} {a b : Vl} (ha : (tyOk t && valOk t a) = true) (hb : (tyOk t && valOk t b) = true) : cmpV t a b = ordI (a.N * b.D) (b.N * a.D) := by rw [cmpV, ha, hb]; rfl
theorem cmp_no {t : Ty} {a b : Vl} (h : (!(tyOk t && valOk t a) || !(tyOk t && valOk t b)) = true) : cmpV t a b = 0 := by
  rw [cmpV]
  cases h1 : (tyOk t && valOk t a) <;> cases h2 : (tyOk t && valOk t b)
  · rfl
  · rfl
  · rfl
  · rw [h1, h2] at h; cases h
theorem both_ok {t : Ty} {a b : Vl} (h : (!(tyOk t && valOk t a) || !(tyOk t && valOk t b)) = false) : (tyOk t && valOk t a) = true ∧ (tyOk t && valOk t b) = true := by
  simpa using h
theorem cmp_int {t : Ty} {a b : Vl} (hk : ¬ t.Kind = 1) (ha : (tyOk t && valOk t a) = true) (hb : (tyOk t && valOk t b) = true) : cmpV t a b = ordI a.N b.N := by
  rw [cmp_yes ha hb]
  have one : ∀ v : Vl, (tyOk t && valOk t v) = true → v.D = 1 := by
    intro v hv
    rw [Bool.and_eq_true] at hv
    obtain ⟨ht, h⟩ := hv
    by_cases h2 : t.Kind = 2
    · rw [valOk, decide_eq_true h2] at h
      simp only [cond_true, Bool.and_eq_true, decide_eq_true_eq] at h; exact h.1.1
    · by_cases h3 : t.Kind = 3
      · rw [valOk, dec_false h2, decide_eq_true h3] at h
        simp only [cond_true, cond_false, Bool.and_eq_true, decide_eq_true_eq] at h; exact h.1
      · rw [tyk0 hk h3 h2] at ht; cases ht
  rw [one a ha, one b hb, Int.mul_one, Int.mul_one]
theorem cst1 {f t : Ty} {v : Vl} (h : (!tyOk f || !tyOk t) = true) : cstV f t v = (⟨0, 0⟩, 10) := by rw [cstV, h]; rfl
theorem cst2 {f t : Ty} {v : Vl} (h : (!tyOk f || !tyOk t) = false) (h2 : valOk f v = false) : cstV f t v = (⟨0, 0⟩, 1) := by rw [cstV, h, h2]; rfl
theorem cst3 {f t : Ty} {v : Vl} (h : (!tyOk f || !tyOk t) = false) (h2 : valOk f v = true) (h3 : t.Kind = 3) : cstV f t v = (⟨(fracV f v).N / (fracV f v).D, 1⟩, 0) := by rw [cstV, h, h2, decide_eq_true h3]; rfl
theorem cst4 {f t : Ty} {v : Vl} (h : (!tyOk f || !tyOk t) = false) (h2 : valOk f v = true) (h3 : ¬ t.Kind = 3) (h4 : t.Kind = 2) : cstV f t v = (⟨nar t (rnd ((fracV f v).N * pow2 t.Frac) (fracV f v).D t.Round), 1⟩, 0) := by rw [cstV, h, h2, dec_false h3, decide_eq_true h4]; rfl
theorem cst5 {f t : Ty} {v : Vl} (h : (!tyOk f || !tyOk t) = false) (h2 : valOk f v = true) (h3 : ¬ t.Kind = 3) (h4 : ¬ t.Kind = 2) : cstV f t v = (fracV f v, 0) := by rw [cstV, h, h2, dec_false h3, dec_false h4]; rfl
theorem err_ty {f t : Ty} : (!decide (tyErr f = 0) || !decide (tyErr t = 0)) = (!tyOk f || !tyOk t) := by
  unfold tyErr; cases tyOk f <;> cases tyOk t <;> rfl
theorem fracV_2 {t : Ty} {v : Vl} (h : t.Kind = 2) : fracV t v = (newF v.N (pow2 t.Frac)).1 := by unfold fracV; rw [decide_eq_true h]; rfl
theorem fracV_n {t : Ty} {v : Vl} (h : ¬ t.Kind = 2) : fracV t v = v := by unfold fracV; rw [dec_false h]; rfl
end Go.Br
end
