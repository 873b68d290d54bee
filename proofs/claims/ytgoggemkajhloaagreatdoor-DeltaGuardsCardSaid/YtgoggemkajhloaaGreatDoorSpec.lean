/-
  What the program's functions compute, in plain Lean.
  Conditions: none.
-/
import Derived.Test.YtgoggemkajhloaaGreatDoorTypes
set_option linter.unusedSimpArgs false
set_option linter.unusedVariables false
namespace Go.Br
open Go Go.Eng Go.L41

/-! ## Linear forms -/
def ltO : Option ByteArray → ByteArray → Bool
  | none, _ => true
  | some q, n => strLt q n
def monosOk : Option ByteArray → List Mono → Bool
  | _, [] => true
  | p, m :: r => isNameB m.Name && !decide (m.By = 0) && ltO p m.Name && monosOk (some m.Name) r
def linOk (l : Lf) : Bool := monosOk none l.L
def linErr (l : Lf) : Int := bif linOk l then 0 else 1
def pv (l : List Mono) (k : Nat) : Mono := l.getD (k - 1) ⟨bs [], 0⟩
def prevOf (l : List Mono) (k : Nat) : Option ByteArray := if k = 0 then none else some (pv l k).Name
def badM (l : List Mono) (k : Nat) (x : Mono) : Bool := (!isNameB x.Name || decide (x.By = 0)) || (decide ((0 : Int) < k) && !strLt (pv l k).Name x.Name)

theorem pv_get {α : Type} {f : Mono → α} {l : List Mono} {k : Nat} (h0 : 0 < k) (h : k ≤ l.length) : (l.map f)[((k : Int) - 1).toNat]? = some (f (pv l k)) := by
  have e : ((k : Int) - 1).toNat = k - 1 := by omega
  have h1 : k - 1 < l.length := by omega
  rw [e, List.getElem?_map, List.getElem?_eq_getElem h1]
  simp [pv, List.getD, List.getElem?_eq_getElem h1]

theorem pv_next {l : List Mono} {k : Nat} {x : Mono} (h : l[k]? = some x) : pv l (k + 1) = x := by simp [pv, List.getD, h]

theorem monos_step {l : List Mono} {k : Nat} {x : Mono} (h : l[k]? = some x) : monosOk (prevOf l k) (l.drop k) = (!badM l k x && monosOk (prevOf l (k + 1)) (l.drop (k + 1))) := by
  rw [drop_cons h, monosOk]
  have e : prevOf l (k + 1) = some x.Name := by simp [prevOf, pv_next h]
  rw [e]
  congr 1
  unfold badM prevOf ltO
  by_cases hk : k = 0
  · subst hk; simp
  · have hk' : (0 : Int) < k := by omega
    rw [if_neg hk, decide_eq_true hk']
    cases isNameB x.Name <;> cases decide (x.By = 0) <;> simp

theorem monos_end {l : List Mono} {k : Nat} (h : ¬ k < l.length) : monosOk (prevOf l k) (l.drop k) = true := by
  rw [drop_end h]; cases prevOf l k <;> rfl

def varL (s : ByteArray) : Lf := bif isNameB s then ⟨0, [⟨s, 1⟩]⟩ else ⟨0, []⟩
def coeffL : List Mono → ByteArray → Int
  | [], _ => 0
  | m :: r, s => if m.Name = s then m.By else coeffL r s
def hasVar (l : List Mono) (s : ByteArray) : Bool := l.any fun m => decide (m.Name = s)

theorem coeff_has : ∀ {p : Option ByteArray} {l : List Mono} (s : ByteArray), monosOk p l = true → decide (coeffL l s = 0) = !hasVar l s
  | _, [], s, _ => rfl
  | p, m :: r, s, h => by
    simp only [monosOk, Bool.and_eq_true, Bool.not_eq_true', decide_eq_false_iff_not] at h
    have ih := coeff_has s h.2
    by_cases e : m.Name = s
    · simp [coeffL, hasVar, e, h.1.1.2]
    · simp only [coeffL, e, if_false, hasVar, List.any_cons, decide_false, Bool.false_or]
      exact ih

/-! ## The first element with a property -/
def idxOf {α : Type} (p : α → Bool) : List α → Int
  | [] => -1
  | x :: r => bif p x then 0 else (bif decide (idxOf p r = -1) then -1 else idxOf p r + 1)

theorem idxOf_ge {α : Type} (p : α → Bool) (l : List α) : -1 ≤ idxOf p l := by
  induction l with
  | nil => simp [idxOf]
  | cons x r ih => unfold idxOf; cases p x <;> simp; by_cases h : idxOf p r = -1 <;> simp [h]; omega

theorem idxOf_any {α : Type} (p : α → Bool) (l : List α) : decide (0 ≤ idxOf p l) = l.any p := by
  induction l with
  | nil => rfl
  | cons x r ih =>
    have := idxOf_ge p r
    unfold idxOf
    cases hp : p x
    · simp only [cond_false, List.any_cons, hp, Bool.false_or, ← ih]
      by_cases h : idxOf p r = -1
      · simp [h]
      · simp [h]; omega
    · simp [hp]

theorem idxOf_at {α : Type} {p : α → Bool} {l : List α} {k : Nat} {x : α} (h : l[k]? = some x) (hp : p x = true) (hn : (l.take k).any p = false) : idxOf p l = k := by
  induction l generalizing k with
  | nil => simp at h
  | cons y r ih =>
    cases k with
    | zero => simp at h; subst h; simp [idxOf, hp]
    | succ k =>
      simp only [List.take_succ_cons, List.any_cons, Bool.or_eq_false_iff] at hn
      have := ih (k := k) (by simpa using h) hn.2
      simp only [idxOf, hn.1, cond_false, this]
      have h2 : ¬ ((k : Int) = -1) := by omega
      simp [h2]

theorem idxOf_none {α : Type} {p : α → Bool} {l : List α} (hn : l.any p = false) : idxOf p l = -1 := by
  induction l with
  | nil => rfl
  | cons y r ih =>
    simp only [List.any_cons, Bool.or_eq_false_iff] at hn
    simp [idxOf, hn.1, ih hn.2]

theorem any_next {α : Type} {p : α → Bool} {l : List α} {k : Nat} {x : α} (h : l[k]? = some x) (hn : (l.take k).any p = false) (hp : p x = false) : (l.take (k + 1)).any p = false := by
  rw [take_next h, List.any_append, hn]; simp [hp]

/-! ## Types and values -/
def tyOk (t : Ty) : Bool :=
  ((decide (t.Kind = 1) || decide (t.Kind = 3)) && decide (t.Bits = 0) && decide (t.Frac = 0) && decide (t.Round = 0) && decide (t.Over = 0)) ||
  (decide (t.Kind = 2) && decide (2 ≤ t.Bits) && decide (t.Bits ≤ 31) && decide (0 ≤ t.Frac) && decide (t.Frac ≤ 30) && decide (1 ≤ t.Round) && decide (t.Round ≤ 4) && (decide (t.Over = 1) || decide (t.Over = 2)))
def tyErr (t : Ty) : Int := bif tyOk t then 0 else 10
def fixOk (t : Ty) : Bool := decide (t.Kind = 2) && decide (2 ≤ t.Bits) && decide (t.Bits ≤ 31) && decide (0 ≤ t.Frac) && decide (t.Frac ≤ 30) && decide (1 ≤ t.Round) && decide (t.Round ≤ 4) && (decide (t.Over = 1) || decide (t.Over = 2))
def half (b : Int) : Int := 2 ^ (b - 1).toNat
def num31 (n : Int) : Bool := decide (-2147483647 ≤ n) && decide (n ≤ 2147483647)
def valOk (t : Ty) (v : Vl) : Bool :=
  bif decide (t.Kind = 2) then decide (v.D = 1) && decide (-half t.Bits ≤ v.N) && decide (v.N < half t.Bits)
  else bif decide (t.Kind = 3) then decide (v.D = 1) && num31 v.N
  else decide (1 ≤ v.D) && decide (v.D ≤ 2147483647) && num31 v.N && decide (Int.gcd v.N v.D = 1)
def zeroV (t : Ty) : Vl := bif tyOk t then ⟨0, 1⟩ else ⟨0, 0⟩

theorem fix_ty {t : Ty} (h : t.Kind = 2) : tyOk t = fixOk t := by simp [tyOk, fixOk, h]

theorem half_le {b : Int} (h1 : 2 ≤ b) (h2 : b ≤ 31) : 1 ≤ half b ∧ half b ≤ 1073741824 := by
  unfold half
  have h3 : (b - 1).toNat ≤ 30 := by omega
  have h4 : (2 : Int) ^ (b - 1).toNat ≤ 2 ^ 30 := by
    have := Nat.pow_le_pow_right (n := 2) (by omega) h3
    exact_mod_cast this
  have h5 : (1 : Int) ≤ 2 ^ (b - 1).toNat := by
    have := Nat.one_le_two_pow (n := (b - 1).toNat)
    exact_mod_cast this
  omega

/-! ## Conditions as the walks meet them -/
theorem lin_mk {a b : Lf} (h : a.K = b.K) (k : a.L = b.L) : a = b := by cases a; cases b; simp_all
theorem lin_eq (a b : Lf) : (decide (a.K = b.K) && decide (a.L = b.L)) = decide (a = b) := by
  rw [Bool.eq_iff_iff]; simp only [Bool.and_eq_true, decide_eq_true_eq]
  exact ⟨fun h => lin_mk h.1 h.2, fun h => by subst h; exact ⟨rfl, rfl⟩⟩
theorem mono_ne {x y : Mono} (h : (!litsEq x.cells y.cells) = true) : ¬ x = y := by
  rintro rfl
  simp [litsEq, cEq, Mono.cells] at h
theorem mono_eq {x y : Mono} (h : (!litsEq x.cells y.cells) = false) : x = y := by
  cases x; cases y
  simpa [litsEq, cEq, Mono.cells] using h

def byteAt (s : ByteArray) (k : Nat) : Int := (s.data.toList.getD k 0).toNat
def idHead (s : ByteArray) : Bool := (((decide ((s.size : Int) < 1) || decide ((16 : Int) < s.size)) || hasB words s) || decide (byteAt s 0 < 97)) || decide (122 < byteAt s 0)
theorem ident_no {s : ByteArray} (h : idHead s = true) : isNameB s = false := by
  unfold idHead byteAt at h
  cases hn : isNameB s with
  | false => rfl
  | true =>
    exfalso
    simp only [isNameB, Bool.and_eq_true, decide_eq_true_eq, Bool.not_eq_true'] at hn
    obtain ⟨⟨⟨⟨h1, h2⟩, h3⟩, h4⟩, h5⟩ := hn
    have h6 : s.data.toList.head? = some (s.data.toList.getD 0 0) := by rw [List.head?_eq_getElem?]; exact getD_get (by omega)
    rw [h6] at h3
    simp only [Option.all_some, letterB, letterI, Bool.and_eq_true, decide_eq_true_eq] at h3
    simp only [Bool.or_eq_true, decide_eq_true_eq, h5] at h
    rcases h with (((h | h) | h) | h) | h
    · omega
    · omega
    · cases h
    · omega
    · omega
theorem ident_yes {s : ByteArray} (h : idHead s = false) : 1 ≤ s.size ∧ s.size ≤ 16 ∧ isNameB s = s.data.toList.all inWordB := by
  unfold idHead byteAt at h
  simp only [Bool.or_eq_false_iff, decide_eq_false_iff_not] at h
  obtain ⟨⟨⟨⟨h1, h2⟩, h3⟩, h4⟩, h5⟩ := h
  have h7 : 1 ≤ s.size := by omega
  refine ⟨h7, by omega, ?_⟩
  have h6 : s.data.toList.head? = some (s.data.toList.getD 0 0) := by rw [List.head?_eq_getElem?]; exact getD_get (by omega)
  unfold isNameB
  rw [h6, h3]
  have e1 : decide (1 ≤ s.size) = true := by simp; omega
  have e2 : decide (s.size ≤ 16) = true := by simp; omega
  have e3 : letterB (s.data.toList.getD 0 0) = true := by simp only [letterB, letterI, Bool.and_eq_true, decide_eq_true_eq]; omega
  simp only [e1, e2, Option.all_some, e3, Bool.true_and, Bool.not_false, Bool.and_true]
def notWord (n : Int) : Bool := ((decide (n < 97) || decide (122 < n)) && (decide (n < 48) || decide (57 < n))) && !decide (n = 95)
theorem notWord_eq (c : UInt8) : notWord c.toNat = !inWordB c := by
  unfold notWord inWordB inWordI letterI digitI
  rw [Bool.eq_iff_iff]
  simp only [Bool.and_eq_true, Bool.or_eq_true, Bool.not_eq_true', Bool.or_eq_false_iff, Bool.and_eq_false_iff, decide_eq_true_eq, decide_eq_false_iff_not]
  omega
theorem word_no {s : ByteArray} {k : Nat} (hlt : k < s.size) (h : notWord ((s.data.toList.getD k 0).toNat : Int) = true) : s.data.toList.all inWordB = false := by
  rw [notWord_eq] at h
  rw [List.all_eq_false]
  exact ⟨_, List.mem_of_getElem? (getD_get hlt), by simpa using h⟩
theorem word_yes {s : ByteArray} {k : Nat} (hlt : k < s.size) (hp : (s.data.toList.take k).all inWordB = true) (h : notWord ((s.data.toList.getD k 0).toNat : Int) = false) : (s.data.toList.take (k + 1)).all inWordB = true := by
  rw [notWord_eq] at h
  rw [all_take_next (getD_get hlt), hp]
  simpa using h
theorem word_all {s : ByteArray} {k : Nat} (hp : (s.data.toList.take k).all inWordB = true) (h : ¬ k < s.size) : s.data.toList.all inWordB = true := by
  rw [List.take_of_length_le (by simp; omega)] at hp
  exact hp

def plainT (t : Ty) : Bool := decide (t.Bits = 0) && decide (t.Frac = 0) && decide (t.Round = 0) && decide (t.Over = 0)
theorem plainT_eq (t : Ty) : litsEq [cI t.Kind, cI t.Bits, cI t.Frac, cI t.Round, cI t.Over] [cI t.Kind, .lit (.int .i64 0), .lit (.int .i64 0), .lit (.int .i64 0), .lit (.int .i64 0)] = plainT t := by
  simp [litsEq, cEq, plainT, Bool.and_assoc]
def fixCond (t : Ty) : Bool := ((((!decide (t.Kind = 2) || decide (t.Bits < 2)) || decide (31 < t.Bits)) || decide (t.Frac < 0)) || decide (30 < t.Frac)) || !((decide (1 ≤ t.Round) && decide (t.Round ≤ 4)) && (decide (t.Over = 1) || decide (t.Over = 2)))
theorem fixCond_eq (t : Ty) : fixCond t = !fixOk t := by
  unfold fixCond fixOk
  rw [Bool.eq_iff_iff]
  simp only [Bool.and_eq_true, Bool.or_eq_true, Bool.not_eq_true', Bool.or_eq_false_iff, Bool.and_eq_false_iff, decide_eq_true_eq, decide_eq_false_iff_not]
  omega
theorem fix_no {t : Ty} (h : fixCond t = true) : fixOk t = false := by rw [fixCond_eq] at h; simpa using h
theorem fix_yes {t : Ty} (h : fixCond t = false) : fixOk t = true := by rw [fixCond_eq] at h; simpa using h
theorem type1 {t : Ty} (h : (decide (t.Kind = 1) || decide (t.Kind = 3)) = true) : (((decide (t.Bits = 0) && decide (t.Frac = 0)) && decide (t.Round = 0)) && decide (t.Over = 0)) = tyOk t := by
  unfold tyOk
  rw [h]
  have : decide (t.Kind = 2) = false := by
    simp only [Bool.or_eq_true, decide_eq_true_eq] at h
    simp; omega
  simp [this]
theorem type2 {t : Ty} (h : (decide (t.Kind = 1) || decide (t.Kind = 3)) = false) : (((((((decide (t.Kind = 2) && decide (2 ≤ t.Bits)) && decide (t.Bits ≤ 31)) && decide (0 ≤ t.Frac)) && decide (t.Frac ≤ 30)) && decide (1 ≤ t.Round)) && decide (t.Round ≤ 4)) && (decide (t.Over = 1) || decide (t.Over = 2))) = tyOk t := by
  unfold tyOk
  rw [h]
  simp
theorem tyk1 {t : Ty} (h : t.Kind = 1 ∨ t.Kind = 3) : tyOk t = plainT t := by
  rw [← type1 (t := t) (by simpa using h)]; rfl
theorem tyk0 {t : Ty} (h1 : ¬ t.Kind = 1) (h3 : ¬ t.Kind = 3) (h2 : ¬ t.Kind = 2) : tyOk t = false := by
  simp [tyOk, h1, h2, h3]
theorem tyErr_ne {t : Ty} (h : ¬ tyErr t = 0) : tyOk t = false := by
  unfold tyErr at h; cases ht : tyOk t <;> simp_all
theorem tyErr_eq {t : Ty} (h : tyErr t = 0) : tyOk t = true := by
  unfold tyErr at h; cases ht : tyOk t <;> simp_all
theorem wrap_u64 {n : Int} (h : 0 ≤ n ∧ n ≤ 18446744073709551615) : IntKind.u64.wrap n = n := IntWalk.u64_in _ h
theorem min_shift {b : Int} (h1 : 2 ≤ b) (h2 : b ≤ 31) : IntKind.i64.wrap (1 * 2 ^ (min (IntKind.u64.wrap (b - 1)).toNat IntKind.i64.bits)) = half b := by
  rw [wrap_u64 (by omega)]
  have h3 := half_le h1 h2
  have h4 : min (b - 1).toNat IntKind.i64.bits = (b - 1).toNat := Nat.min_eq_left (by simp [IntKind.bits]; omega)
  rw [h4, Int.one_mul]
  exact wrap_in ⟨by unfold half at h3; omega, by unfold half at h3; omega⟩
theorem min_eq {b : Int} (h1 : 2 ≤ b) (h2 : b ≤ 31) : IntKind.i64.wrap (-(IntKind.i64.wrap (1 * 2 ^ (min (IntKind.u64.wrap (b - 1)).toNat IntKind.i64.bits)))) = -half b := by
  rw [min_shift h1 h2]
  have := half_le h1 h2
  exact wrap_in ⟨by omega, by omega⟩
theorem max_eq {b : Int} (h1 : 2 ≤ b) (h2 : b ≤ 31) : IntKind.i64.wrap (IntKind.i64.wrap (1 * 2 ^ (min (IntKind.u64.wrap (b - 1)).toNat IntKind.i64.bits)) - 1) = half b - 1 := by
  rw [min_shift h1 h2]
  have := half_le h1 h2
  exact wrap_in ⟨by omega, by omega⟩
theorem fixB {t : Ty} (h : fixOk t = true) : 2 ≤ t.Bits ∧ t.Bits ≤ 31 := by
  simp only [fixOk, Bool.and_eq_true, decide_eq_true_eq] at h
  omega
theorem fxz {t : Ty} (h : (bif fixOk t then (0 : Int) else 10) = 0) : fixOk t = true := by cases ht : fixOk t <;> simp_all
theorem fxn {t : Ty} (h : ¬ (bif fixOk t then (0 : Int) else 10) = 0) : fixOk t = false := by cases ht : fixOk t <;> simp_all
theorem fxa {t : Ty} {p : Bool} (h : Lz (decide ((bif fixOk t then (0 : Int) else 10) = 0) && p) true = true) : fixOk t = true := by
  simp only [Lz, cond_true, Bool.and_eq_true, decide_eq_true_eq] at h
  exact fxz h.1
theorem fxb {t : Ty} {p q : Bool} (h : Lz (decide ((bif fixOk t then (0 : Int) else 10) = 0) && p && q) true = true) : fixOk t = true := by
  simp only [Lz, cond_true, Bool.and_eq_true, decide_eq_true_eq] at h
  exact fxz h.1.1
theorem fixV (t : Ty) (v : Vl) : (decide ((bif fixOk t then (0 : Int) else 10) = 0) && decide (v.D = 1) && decide (-half t.Bits ≤ v.N) && decide (v.N ≤ half t.Bits - 1)) = (fixOk t && (decide (v.D = 1) && decide (-half t.Bits ≤ v.N) && decide (v.N < half t.Bits))) := by
  have : decide (v.N ≤ half t.Bits - 1) = decide (v.N < half t.Bits) := decide_eq_decide.2 (by omega)
  rw [this]
  cases fixOk t <;> simp
theorem mag_neg {n : Int} (h : n < 0) (hn : -9223372036854775808 ≤ n) : IntKind.u64.wrap (-(IntKind.u64.wrap n)) = n.natAbs := by
  have e : IntKind.u64.wrap n = n + 18446744073709551616 := by simp [IntKind.wrap, IntKind.bits, IntKind.signed]; omega
  rw [e]
  simp [IntKind.wrap, IntKind.bits, IntKind.signed]; omega
theorem mag_pos {n : Int} (h : ¬ n < 0) (hn : n ≤ 9223372036854775807) : IntKind.u64.wrap n = n.natAbs := by
  rw [wrap_u64 (by omega)]; omega
theorem gcd_step {x y : Nat} (h : ¬ y = 0) : Nat.gcd x y = Nat.gcd y (x % y) := by
  rw [Nat.gcd_comm x y, Nat.gcd_rec y x, Nat.gcd_comm]
theorem frV {v : Vl} (h : Lz (decide (1 ≤ v.D) && decide (v.D ≤ 2147483647) && num31 v.N) true = true) : 1 ≤ v.D ∧ v.D ≤ 2147483647 ∧ -9223372036854775808 ≤ v.N ∧ v.N ≤ 9223372036854775807 := by
  simp only [Lz, cond_true, Bool.and_eq_true, decide_eq_true_eq, num31] at h
  omega
theorem u64_D {d : Int} (h1 : 1 ≤ d) (h2 : d ≤ 2147483647) : IntKind.u64.wrap d = d.natAbs := by
  rw [wrap_u64 (by omega)]; omega
theorem max_abs {n : Int} (h1 : -2147483647 ≤ n) (h2 : n ≤ 2147483647) : max n (IntKind.i64.wrap (-n)) = n.natAbs := by
  rw [wrap_in ⟨by omega, by omega⟩]; omega
def valOut (v : Vl) : Bool := ((decide (2147483647 < v.N) || decide (v.N < -2147483647)) || decide (v.D < 1)) || decide (2147483647 < v.D)
theorem val_in {v : Vl} (h : valOut v = false) : -2147483647 ≤ v.N ∧ v.N ≤ 2147483647 ∧ 1 ≤ v.D ∧ v.D ≤ 2147483647 := by
  simp only [valOut, Bool.or_eq_false_iff, decide_eq_false_iff_not] at h
  omega
theorem val_out {t : Ty} {v : Vl} (hk : ¬ t.Kind = 2) (h : valOut v = true) : valOk t v = false := by
  unfold valOk num31
  rw [dec_false hk]
  simp only [valOut, Bool.or_eq_true, decide_eq_true_eq] at h
  by_cases h3 : t.Kind = 3
  · simp [h3]; omega
  · simp [h3]; omega
theorem valfix {t : Ty} {v : Vl} (hk : t.Kind = 2) (b1 : 2 ≤ t.Bits) (b2 : t.Bits ≤ 31) : (decide (v.D = 1) && decide (IntKind.i64.wrap (-(IntKind.i64.wrap (1 * 2 ^ (min (t.Bits - 1).toNat IntKind.i64.bits)))) ≤ v.N) && decide (v.N < IntKind.i64.wrap (1 * 2 ^ (min (t.Bits - 1).toNat IntKind.i64.bits)))) = valOk t v := by
  have e := min_shift b1 b2
  have e' := min_eq b1 b2
  rw [wrap_u64 (by omega)] at e e'
  rw [e', e, valOk, hk]
  rfl

/-! ## Expressions -/
def nArgs (op : Int) : Int := if op = 1 ∨ op = 2 ∨ op = 3 then 0 else if op = 8 ∨ op = 12 ∨ op = 18 then 1 else if op = 11 then 3 else 2
def isCond (e : Ex) : Bool := decide (13 ≤ e.Op) && decide (e.Op ≤ 18)
def wantC (op i : Int) : Bool := (((decide (op = 11) && decide (i = 0)) || decide (op = 16)) || decide (op = 17)) || decide (op = 18)
def zeroL (l : Lf) : Bool := decide (l.K = 0) && decide ((l.L.length : Int) = 0)
def wellIx (x : Ix) : Bool := bif decide (x.From = bs []) then decide ((x.At.length : Int) = 0) else zeroL x.Lin
def val0 (v : Vl) : Bool := litsEq [cI v.N, cI v.D] [cI 0, cI 0]
def ty0 (t : Ty) : Bool := litsEq [cI t.Kind, cI t.Bits, cI t.Frac, cI t.Round, cI t.Over] [cI 0, cI 0, cI 0, cI 0, cI 0]
def synOk (e : Ex) : Bool :=
  !(decide (e.Op < 1) || decide (18 < e.Op)) && !(!decide (e.Op = 1) && !val0 e.Val) && !(!(decide (e.Op = 1) || decide (e.Op = 12)) && !ty0 e.Ty) && !(!decide (e.Op = 2) && !zeroL e.Lin) &&
  !(!decide (e.Op = 3) && (!decide (e.Name = bs []) || decide ((0 : Int) < e.Idx.length))) && e.Idx.all wellIx
def nmIx (x : Ix) : Bool := !(!decide (x.From = bs []) && !isNameB x.From)
def namesE (e : Ex) : Bool := !(decide (e.Op = 3) && !isNameB e.Name) && e.Idx.all nmIx
def rkIx (x : Ix) : Bool := !decide ((6 : Int) < x.At.length)
def rankE (e : Ex) : Bool := !(!decide ((e.Args.length : Int) = nArgs e.Op) || decide ((6 : Int) < e.Idx.length)) && e.Idx.all rkIx
def condsOk (op i : Int) : List Ex → Bool
  | [] => true
  | a :: r => (isCond a == wantC op i) && condsOk op (i + 1) r
def typesE (e : Ex) : Bool := !((decide (e.Op = 1) || decide (e.Op = 12)) && !tyOk e.Ty) && condsOk e.Op 0 e.Args
def formsL (e : Ex) : List Lf := e.Lin :: e.Idx.flatMap fun x => x.Lin :: x.At
def formOk (e : Ex) : Bool := !(decide (e.Op = 1) && !valOk e.Ty e.Val) && (formsL e).all linOk
def nodeErr (e : Ex) : Int := bif !synOk e then 5 else bif !namesE e then 7 else bif !rankE e then 11 else bif !typesE e then 10 else bif !formOk e then 1 else 0
mutual
def nodes : Ex → List Ex
  | .mk o n v t l i as => .mk o n v t l i as :: nodesL as
def nodesL : List Ex → List Ex
  | [] => []
  | e :: r => nodes e ++ nodesL r
end
theorem nodes_eq (e : Ex) : nodes e = e :: nodesL e.Args := by cases e; rw [nodes]; rfl
theorem nodesL_append (a b : List Ex) : nodesL (a ++ b) = nodesL a ++ nodesL b := by
  induction a with
  | nil => rfl
  | cons x r ih => rw [List.cons_append, nodesL, nodesL, ih, List.append_assoc]
def errsL : List Ex → Int
  | [] => 0
  | e :: r => bif decide (nodeErr e = 0) then errsL r else nodeErr e
theorem errsL_append (a b : List Ex) : errsL (a ++ b) = bif decide (errsL a = 0) then errsL b else errsL a := by
  induction a with
  | nil => rfl
  | cons x r ih =>
    rw [List.cons_append, errsL, errsL, ih]
    by_cases h : nodeErr x = 0
    · simp [h]
    · simp [h]
def partE (e : Ex) : Int := errsL (nodes e)
def partL (l : List Ex) : Int := errsL (nodesL l)
theorem partE_eq (e : Ex) : partE e = bif decide (nodeErr e = 0) then partL e.Args else nodeErr e := by rw [partE, nodes_eq, errsL]; rfl
theorem partL_cons (e : Ex) (r : List Ex) : partL (e :: r) = bif decide (partE e = 0) then partL r else partE e := by rw [partL, nodesL, errsL_append]; rfl
def depF (f : Ex → Int) (d : Int) : List Ex → Int
  | [] => d
  | a :: r => depF f (max d (1 + f a)) r
def depT : Nat → Ex → Int
  | 0, _ => 1
  | n + 1, e => depF (depT n) 1 e.Args
theorem depF_le {f : Ex → Int} {n : Int} (h : ∀ a, 1 ≤ f a ∧ f a ≤ n) : ∀ (l : List Ex) (d : Int), 1 ≤ d → d ≤ n + 1 → 1 ≤ depF f d l ∧ depF f d l ≤ n + 1
  | [], d, h1, h2 => ⟨h1, h2⟩
  | a :: r, d, h1, h2 => by
    have := h a
    exact depF_le h r _ (by omega) (by omega)
theorem depT_le : ∀ (n : Nat) (e : Ex), 1 ≤ depT n e ∧ depT n e ≤ n + 1
  | 0, e => by simp [depT]
  | n + 1, e => by
    have := depF_le (n := n + 1) (depT_le n) e.Args 1 (by omega) (by omega)
    rw [depT]; omega
mutual
def sizE : Ex → Nat → Nat
  | .mk _ _ _ _ _ _ as, most => sizL as most 1
def sizL : List Ex → Nat → Nat → Nat
  | [], _, n => n
  | a :: r, most, n => if n ≤ most then sizL r most (n + sizE a (most - n)) else n
end
theorem sizE_eq (e : Ex) (m : Nat) : sizE e m = sizL e.Args m 1 := by cases e; rw [sizE]; rfl
theorem nodes_pos (e : Ex) : 1 ≤ (nodes e).length := by rw [nodes_eq]; simp
mutual
theorem sizE_min : ∀ (e : Ex) (m : Nat), sizE e m = min (nodes e).length (m + 1)
  | .mk o n v t l i as, m => by
    rw [sizE, nodes, sizL_min as m 1 (by omega)]
    simp; omega
theorem sizL_min : ∀ (l : List Ex) (m n : Nat), n ≤ m + 1 → sizL l m n = min (n + (nodesL l).length) (m + 1)
  | [], m, n, h => by simp [sizL, nodesL]; omega
  | a :: r, m, n, h => by
    rw [sizL, nodesL, List.length_append]
    split
    · rename_i hn
      rw [sizE_min a (m - n), sizL_min r m _ (by omega)]
      omega
    · omega
end
def szT (e : Ex) : Nat := min (nodes e).length 2001
def validE (e : Ex) : Int := bif decide (40 < depT 40 e) then 13 else bif decide ((2000 : Int) < szT e) then 2 else partE e

theorem nodes_wt : ∀ e : Ex, (nodes e).length ≤ e.wt := by
  intro e
  induction e using Ex.ind with
  | _ e ih =>
    rw [nodes_eq, Ex.wt_eq]
    have : ∀ l : List Ex, (∀ a, a ∈ l → (nodes a).length ≤ a.wt) → (nodesL l).length ≤ argsWt l := by
      intro l hl
      induction l with
      | nil => simp [nodesL]
      | cons a r ihr =>
        rw [nodesL, argsWt, List.length_append]
        have h1 := hl a (by simp)
        have h2 := ihr fun b hb => hl b (by simp [hb])
        omega
    have := this e.Args ih
    simp; omega

theorem node_mem_wt : ∀ (e x : Ex), x ∈ nodes e → x.wt ≤ e.wt := by
  intro e
  induction e using Ex.ind with
  | _ e ih =>
    intro x hx
    rw [nodes_eq] at hx
    rcases List.mem_cons.1 hx with rfl | hx
    · omega
    · have : ∀ l : List Ex, (∀ a, a ∈ l → a ∈ e.Args) → x ∈ nodesL l → x.wt ≤ e.wt := by
        intro l hl hx
        induction l with
        | nil => simp [nodesL] at hx
        | cons a r ihr =>
          rw [nodesL] at hx
          rcases List.mem_append.1 hx with h | h
          · have h1 := ih a (hl a (by simp)) x h
            have h2 := Ex.arg_wt (hl a (by simp))
            omega
          · exact ihr (fun b hb => hl b (by simp [hb])) h
      exact this e.Args (fun a h => h) hx

theorem notanynot {α : Type} (l : List α) (p : α → Bool) : (!l.any fun x => !p x) = l.all p := by
  induction l with
  | nil => rfl
  | cons x r ih => simp only [List.any_cons, List.all_cons, ← ih]; cases p x <;> simp

theorem all_take {α : Type} {p : α → Bool} {l : List α} {k : Nat} {x : α} (h : l[k]? = some x) (hp : l.all p = (l.drop k).all p) (hx : p x = true) : l.all p = (l.drop (k + 1)).all p := by
  rw [hp, drop_cons h, List.all_cons, hx]; rfl
theorem all_no {α : Type} {p : α → Bool} {l : List α} {k : Nat} {x : α} (h : l[k]? = some x) (hx : p x = false) : l.all p = false := by
  rw [List.all_eq_false]; exact ⟨x, mem_of_get h, by simp [hx]⟩
theorem all_end {α : Type} {p : α → Bool} {l : List α} {k : Nat} (hp : l.all p = (l.drop k).all p) (h : ¬ k < l.length) : l.all p = true := by
  rw [hp, drop_end h]; rfl
theorem tyErr_dec (t : Ty) : decide (tyErr t = 0) = tyOk t := by unfold tyErr; cases tyOk t <;> rfl
theorem linErr_dec (l : Lf) : decide (linErr l = 0) = linOk l := by unfold linErr; cases linOk l <;> rfl
theorem linErr_ne {l : Lf} (h : ¬ linErr l = 0) : linOk l = false := by unfold linErr at h; cases hl : linOk l <;> simp_all
theorem linErr_eq {l : Lf} (h : linErr l = 0) : linOk l = true := by unfold linErr at h; cases hl : linOk l <;> simp_all

theorem plain2 {e : Ex} {b : Bool} (h : ((!decide (e.Op = 1) && !litsEq [cI e.Val.N, cI e.Val.D] [cI 0, cI 0]) || ((!decide (e.Op = 1) && !decide (e.Op = 12)) && !litsEq [cI e.Ty.Kind, cI e.Ty.Bits, cI e.Ty.Frac, cI e.Ty.Round, cI e.Ty.Over] [cI 0, cI 0, cI 0, cI 0, cI 0])) = b) :
    ((!decide (e.Op = 1) && !val0 e.Val) || (!(decide (e.Op = 1) || decide (e.Op = 12)) && !ty0 e.Ty)) = b := by
  rw [← h]; unfold val0 ty0; cases decide (e.Op = 1) <;> simp
theorem plain3 {e : Ex} {b : Bool} (h : ((!decide (e.Op = 2) && (!decide (e.Lin.K = 0) || decide ((0 : Int) < e.Lin.L.length))) || (!decide (e.Op = 3) && (!decide (e.Name = bs []) || decide ((0 : Int) < e.Idx.length)))) = b) :
    ((!decide (e.Op = 2) && !zeroL e.Lin) || (!decide (e.Op = 3) && (!decide (e.Name = bs []) || decide ((0 : Int) < e.Idx.length)))) = b := by
  rw [← h]
  have : (!zeroL e.Lin) = (!decide (e.Lin.K = 0) || decide ((0 : Int) < e.Lin.L.length)) := by
    unfold zeroL
    rw [Bool.not_and]
    congr 1
    rw [Bool.eq_iff_iff]; simp only [Bool.not_eq_true', decide_eq_true_eq, decide_eq_false_iff_not]; omega
  rw [this]
theorem well_dec {x : Ix} {b : Bool} (h : ((decide (x.From = bs []) && decide ((0 : Int) < x.At.length)) || (!decide (x.From = bs []) && (!decide (x.Lin.K = 0) || decide ((0 : Int) < x.Lin.L.length)))) = b) : (!wellIx x) = b := by
  rw [← h]
  unfold wellIx zeroL
  by_cases hf : x.From = bs []
  · simp only [hf, decide_true, cond_true, Bool.true_and, Bool.not_true, Bool.false_and, Bool.or_false]
    rw [Bool.eq_iff_iff]; simp only [Bool.not_eq_true', decide_eq_true_eq, decide_eq_false_iff_not]; omega
  · simp only [hf, decide_false, cond_false, Bool.false_and, Bool.not_false, Bool.true_and, Bool.false_or, Bool.not_and]
    congr 1
    rw [Bool.eq_iff_iff]; simp only [Bool.not_eq_true', decide_eq_true_eq, decide_eq_false_iff_not]; omega
theorem syn2 {e : Ex} (h : ((!decide (e.Op = 1) && !val0 e.Val) || (!(decide (e.Op = 1) || decide (e.Op = 12)) && !ty0 e.Ty)) = true) : false = synOk e := by
  unfold synOk
  rw [Bool.or_eq_true] at h
  rcases h with h | h <;> simp only [h, Bool.not_true, Bool.and_false, Bool.false_and]
theorem syn3 {e : Ex} (h : ((!decide (e.Op = 2) && !zeroL e.Lin) || (!decide (e.Op = 3) && (!decide (e.Name = bs []) || decide ((0 : Int) < e.Idx.length)))) = true) : false = synOk e := by
  unfold synOk
  rw [Bool.or_eq_true] at h
  rcases h with h | h <;> simp only [h, Bool.not_true, Bool.and_false, Bool.false_and]
theorem syn5 {e : Ex} (h1 : (decide (e.Op < 1) || decide (18 < e.Op)) = false) (h2 : ((!decide (e.Op = 1) && !val0 e.Val) || (!(decide (e.Op = 1) || decide (e.Op = 12)) && !ty0 e.Ty)) = false) (h3 : ((!decide (e.Op = 2) && !zeroL e.Lin) || (!decide (e.Op = 3) && (!decide (e.Name = bs []) || decide ((0 : Int) < e.Idx.length)))) = false) (h4 : e.Idx.all wellIx = true) : true = synOk e := by
  unfold synOk
  obtain ⟨a, b⟩ := Bool.or_eq_false_iff.1 h2
  obtain ⟨c, d⟩ := Bool.or_eq_false_iff.1 h3
  simp only [h1, a, b, c, d, h4, Bool.not_false, Bool.and_self]
theorem form_start {e : Ex} (h : ((decide (e.Op = 1) && !valOk e.Ty e.Val) || !linOk e.Lin) = false) : (formsL e).all linOk = ((e.Idx.drop 0).flatMap fun x => x.Lin :: x.At).all linOk := by
  obtain ⟨_, h2⟩ := Bool.or_eq_false_iff.1 h
  rw [formsL, List.all_cons, show linOk e.Lin = true by simpa using h2]; rfl
theorem form_no {e : Ex} (h : ((decide (e.Op = 1) && !valOk e.Ty e.Val) || !linOk e.Lin) = true) : false = formOk e := by
  unfold formOk formsL
  rw [Bool.or_eq_true] at h
  rcases h with h | h
  · simp only [h, Bool.not_true, Bool.false_and]
  · rw [List.all_cons, show linOk e.Lin = false by simpa using h]; simp
theorem form_no2 {e : Ex} {l : List Lf} (h : (formsL e).all linOk = l.all linOk) (h2 : l.all linOk = false) : false = formOk e := by
  unfold formOk; rw [h, h2, Bool.and_false]
theorem form_yes {e : Ex} (h : ((decide (e.Op = 1) && !valOk e.Ty e.Val) || !linOk e.Lin) = false) (h2 : (formsL e).all linOk = true) : true = formOk e := by
  obtain ⟨h1, _⟩ := Bool.or_eq_false_iff.1 h
  unfold formOk; rw [h1, h2]; rfl
theorem types_ty {e : Ex} (h : typesE e = true) : e.Op = 1 → tyOk e.Ty = true := by
  intro h1
  simp only [typesE, h1, decide_true, Bool.true_or, Bool.true_and, Bool.not_not, Bool.and_eq_true] at h
  exact h.1
theorem dep_start {n : Nat} {e : Ex} (h : n ≠ 0) : depT n e = depF (depT (n - 1)) 1 (e.Args.drop 0) := by
  cases n with
  | zero => exact absurd rfl h
  | succ n => rfl
theorem dep_end {n : Nat} {e : Ex} {l d : Int} {k : Nat} (hl : l = n + 1) (c : e.Args.length ≤ k ∨ l ≤ 1) (h3 : n ≠ 0 → depT n e = depF (depT (n - 1)) d (e.Args.drop k)) (h4 : n = 0 → d = 1) : d = depT n e := by
  by_cases h0 : n = 0
  · rw [h4 h0, h0]; rfl
  · rw [h3 h0, drop_end (by omega)]; rfl

theorem siz_end {l : List Ex} {k n m : Nat} {x : Int} (hl : x = m) (h : l.length ≤ k ∨ x < n) : n = sizL (l.drop k) m n := by
  by_cases hk : k < l.length
  · obtain ⟨a, ha⟩ := ex_get l k hk
    rw [drop_cons ha, sizL, if_neg (by omega)]
  · rw [drop_end hk, sizL]

abbrev ixF (x : Ix) : List Lf := x.Lin :: x.At
theorem forms_at {e : Ex} {k : Nat} {x : Ix} (h : e.Idx[k]? = some x) : formsL e = (e.Lin :: (e.Idx.take k).flatMap ixF) ++ x.Lin :: (x.At ++ (e.Idx.drop (k + 1)).flatMap ixF) := by
  have e1 : e.Idx = e.Idx.take k ++ x :: e.Idx.drop (k + 1) := by rw [← drop_cons h, List.take_append_drop]
  have e2 : formsL e = e.Lin :: e.Idx.flatMap ixF := rfl
  have e3 : e.Idx.flatMap ixF = (e.Idx.take k ++ x :: e.Idx.drop (k + 1)).flatMap ixF := congrArg _ e1
  rw [e2, e3, List.flatMap_append, List.flatMap_cons]
  simp [ixF]
theorem forms_at2 {e : Ex} {k j : Nat} {x : Ix} {l : Lf} (h : e.Idx[k]? = some x) (hl : x.At[j]? = some l) : formsL e = ((e.Lin :: (e.Idx.take k).flatMap ixF) ++ [x.Lin] ++ x.At.take j) ++ l :: (x.At.drop (j + 1) ++ (e.Idx.drop (k + 1)).flatMap ixF) := by
  rw [forms_at h]
  have e1 : x.At = x.At.take j ++ l :: x.At.drop (j + 1) := by rw [← drop_cons hl, List.take_append_drop]
  have e2 : x.At ++ (e.Idx.drop (k + 1)).flatMap ixF = (x.At.take j ++ l :: x.At.drop (j + 1)) ++ (e.Idx.drop (k + 1)).flatMap ixF := congrArg (· ++ (e.Idx.drop (k + 1)).flatMap ixF) e1
  rw [e2]
  simp
theorem forms_next {e : Ex} {k : Nat} {x : Ix} (h : e.Idx[k]? = some x) : e.Lin :: (e.Idx.take (k + 1)).flatMap ixF = (e.Lin :: (e.Idx.take k).flatMap ixF) ++ [x.Lin] ++ x.At := by
  rw [take_next h, List.flatMap_append]; simp [ixF]
theorem nodes_at {e a : Ex} {k : Nat} (h : e.Args[k]? = some a) {pre suf : List Ex} {x : Ex} (hx : nodes a = pre ++ x :: suf) : nodes e = (e :: nodesL (e.Args.take k) ++ pre) ++ x :: (suf ++ nodesL (e.Args.drop (k + 1))) := by
  have e1 : e.Args = e.Args.take k ++ a :: e.Args.drop (k + 1) := by rw [← drop_cons h, List.take_append_drop]
  have e2 : nodesL e.Args = nodesL (e.Args.take k) ++ (nodes a ++ nodesL (e.Args.drop (k + 1))) := by
    have := congrArg nodesL e1
    rw [nodesL_append, nodesL] at this
    exact this
  rw [nodes_eq, e2, hx]
  simp
theorem nodesL_next {l : List Ex} {k : Nat} {a : Ex} (h : l[k]? = some a) : nodesL (l.take (k + 1)) = nodesL (l.take k) ++ nodes a := by
  rw [take_next h, nodesL_append, nodesL, nodesL, List.append_nil]

theorem forms_wt {e : Ex} {l : Lf} {B : Nat} (he : e.wt ≤ B) (h : l ∈ formsL e) : l.L.length ≤ B := by
  unfold formsL at h
  rcases List.mem_cons.1 h with rfl | h
  · exact (e.parts he).1
  · obtain ⟨x, hx, hl⟩ := List.mem_flatMap.1 h
    have h1 := Ex.idx_wt hx
    rcases List.mem_cons.1 hl with rfl | hl
    · omega
    · have := linsWt_mem hl; omega
theorem node5 {e : Ex} {b : Bool} (h : typesE e = true) (c : (decide (e.Op = 1) && !(tyOk e.Ty && valOk e.Ty e.Val)) = b) : (decide (e.Op = 1) && !valOk e.Ty e.Val) = b := by
  rw [← c]
  by_cases h1 : e.Op = 1
  · rw [types_ty h h1]; simp [h1]
  · simp [h1]
theorem all_app_no {α : Type} {p : α → Bool} {pre suf : List α} {x : α} (h : (pre ++ [x]).all p = false) : (pre ++ x :: suf).all p = false := by
  rw [show pre ++ x :: suf = (pre ++ [x]) ++ suf by simp, List.all_append, h]; rfl
theorem errs_one {pre : List Ex} {x : Ex} (h : errsL pre = 0) (c : ¬ nodeErr x = 0) : errsL (pre ++ [x]) = nodeErr x := by
  rw [errsL_append, h, errsL, dec_false c]; rfl
theorem errs_pre {pre suf : List Ex} {x : Ex} (h : ¬ errsL (pre ++ [x]) = 0) : errsL (pre ++ x :: suf) = errsL (pre ++ [x]) := by
  rw [show pre ++ x :: suf = (pre ++ [x]) ++ suf by simp, errsL_append, dec_false h]; rfl

end Go.Br
