/-
  Lifetimes as plain data, and what the functions of the layer compute.
  Conditions: none.
-/
import Derived.Test.YthgabpbbjnejnaaDoorNames
namespace Go.L41
open Go Go.Eng

structure Lifetime where
  Name : ByteArray
  From : Int
  To : Int
  Size : Int

def Lifetime.cells (x : Lifetime) : List C := [cS x.Name, cI x.From, cI x.To, cI x.Size]

abbrev vL (x : Lifetime) : V := .agg x.cells
abbrev vLs (l : List Lifetime) : V := .c (.sl 4 (l.map Lifetime.cells))

def Overlap (a b : Lifetime) : Bool := decide (a.From ≤ b.To) && decide (b.From ≤ a.To)

def covers (p : Int) (y : Lifetime) : Bool := decide (y.From ≤ p) && decide (p ≤ y.To)
def cnt (l : List Lifetime) (p : Int) : Int := ((l.filter (covers p)).length : Int)
def mostP (l m : List Lifetime) : Int := m.foldl (fun acc x => if x.To < x.From then acc else max acc (cnt l x.From)) 0
def mostR (l m : List Lifetime) : Int := m.foldl (fun acc x => max acc (cnt l x.From)) 0

theorem cnt_nil (p : Int) : cnt [] p = 0 := rfl
theorem cnt_le (l : List Lifetime) (p : Int) : 0 ≤ cnt l p ∧ cnt l p ≤ l.length := by
  unfold cnt
  have := List.length_filter_le (covers p) l
  omega
theorem cnt_yes {l : List Lifetime} {k : Nat} {y : Lifetime} {p : Int} (h : l[k]? = some y) (c : covers p y = true) : cnt (l.take (k + 1)) p = cnt (l.take k) p + 1 := by
  unfold cnt
  rw [take_next h, List.filter_append]
  simp [c]
theorem cnt_no {l : List Lifetime} {k : Nat} {y : Lifetime} {p : Int} (h : l[k]? = some y) (c : covers p y = false) : cnt (l.take (k + 1)) p = cnt (l.take k) p := by
  unfold cnt
  rw [take_next h, List.filter_append]
  simp [c]
theorem mostP_no {l m : List Lifetime} {k : Nat} {x : Lifetime} (h : m[k]? = some x) (c : x.To < x.From) : mostP l (m.take (k + 1)) = mostP l (m.take k) := by
  unfold mostP
  rw [take_next h, List.foldl_append]
  simp [c]
theorem mostP_yes {l m : List Lifetime} {k : Nat} {x : Lifetime} (h : m[k]? = some x) (c : x.From ≤ x.To) : mostP l (m.take (k + 1)) = max (mostP l (m.take k)) (cnt l x.From) := by
  unfold mostP
  rw [take_next h, List.foldl_append]
  have : ¬ x.To < x.From := by omega
  simp [this]
theorem mostR_next {l m : List Lifetime} {k : Nat} {x : Lifetime} (h : m[k]? = some x) : mostR l (m.take (k + 1)) = max (mostR l (m.take k)) (cnt l x.From) := by
  unfold mostR
  rw [take_next h, List.foldl_append]
  rfl

def check1 (prev : List Lifetime) (x : Lifetime) : Int :=
  if isNameB x.Name = false then 7
  else if (prev.any fun y => decide (y.Name = x.Name)) = true then 8
  else if x.From < 0 ∨ x.To < x.From ∨ x.Size < 1 ∨ 4096 < x.Size then 1 else 0

def validFrom (prev : List Lifetime) : List Lifetime → Int
  | [] => 0
  | x :: r => if check1 prev x = 0 then validFrom (prev ++ [x]) r else check1 prev x

def validateL (l : List Lifetime) : Int := validFrom [] l

theorem valid_step {l : List Lifetime} {k : Nat} {x : Lifetime} (h : l[k]? = some x) : validFrom (l.take k) (l.drop k) = if check1 (l.take k) x = 0 then validFrom (l.take (k + 1)) (l.drop (k + 1)) else check1 (l.take k) x := by
  have hlt := (List.getElem?_eq_some_iff.1 h).1
  rw [List.drop_eq_getElem_cons hlt, (List.getElem?_eq_some_iff.1 h).2, take_next h]
  rfl

theorem valid_err {l : List Lifetime} {k : Nat} {x : Lifetime} {e : Int} (hv : validateL l = validFrom (l.take k) (l.drop k)) (h : l[k]? = some x) (hc : check1 (l.take k) x = e) (he : e ≠ 0) : validateL l = e := by
  rw [hv, valid_step h, hc, if_neg he]
theorem valid_ok {l : List Lifetime} {k : Nat} {x : Lifetime} (hv : validateL l = validFrom (l.take k) (l.drop k)) (h : l[k]? = some x) (hc : check1 (l.take k) x = 0) : validateL l = validFrom (l.take (k + 1)) (l.drop (k + 1)) := by
  rw [hv, valid_step h, hc, if_pos rfl]
theorem valid_end {l : List Lifetime} {k : Nat} (hv : validateL l = validFrom (l.take k) (l.drop k)) (h : ¬ k < l.length) : validateL l = 0 := by
  rw [hv, List.drop_of_length_le (by omega)]
  rfl

theorem check_name {prev : List Lifetime} {x : Lifetime} (h : isNameB x.Name = false) : check1 prev x = 7 := by unfold check1; rw [if_pos h]
theorem check_dup {prev : List Lifetime} {x : Lifetime} (h : isNameB x.Name = true) (h2 : (prev.any fun y => decide (y.Name = x.Name)) = true) : check1 prev x = 8 := by
  unfold check1; rw [if_neg (by simp [h]), if_pos h2]
theorem check_arg {prev : List Lifetime} {x : Lifetime} (h : isNameB x.Name = true) (h2 : (prev.any fun y => decide (y.Name = x.Name)) = false) (h3 : x.From < 0 ∨ x.To < x.From ∨ x.Size < 1 ∨ 4096 < x.Size) : check1 prev x = 1 := by
  unfold check1; rw [if_neg (by simp [h]), if_neg (by simp [h2]), if_pos h3]
theorem check_ok {prev : List Lifetime} {x : Lifetime} (h : isNameB x.Name = true) (h2 : (prev.any fun y => decide (y.Name = x.Name)) = false) (h3 : ¬ (x.From < 0 ∨ x.To < x.From ∨ x.Size < 1 ∨ 4096 < x.Size)) : check1 prev x = 0 := by
  unfold check1; rw [if_neg (by simp [h]), if_neg (by simp [h2]), if_neg h3]

def seenM (l : List Lifetime) : List (ByteArray × Bool) := l.foldl (fun m x => mput m x.Name true) []

theorem mget_mput {α : Type} (m : List (ByteArray × α)) (k k' : ByteArray) (a : α) : mget (mput m k a) k' = if k = k' then some a else mget m k' := by
  induction m with
  | nil => simp [mput, mget]
  | cons p m ih =>
    obtain ⟨q, b⟩ := p
    simp only [mput]
    by_cases h : q = k
    · subst h
      rw [if_pos rfl]
      simp only [mget]
      by_cases h2 : q = k' <;> simp [h2]
    · rw [if_neg h]
      simp only [mget, ih]
      by_cases h2 : q = k'
      · subst h2
        rw [if_pos rfl, if_neg (fun e => h e.symm)]
        simp
      · rw [if_neg h2, if_neg h2]

theorem seen_get (l : List Lifetime) (k : ByteArray) : (mget (seenM l) k).getD false = l.any fun y => decide (y.Name = k) := by
  unfold seenM
  suffices ∀ (m : List (ByteArray × Bool)) (b : Bool), (mget m k).getD false = b → (mget (l.foldl (fun m x => mput m x.Name true) m) k).getD false = (b || l.any fun y => decide (y.Name = k)) by
    simpa using this [] false rfl
  induction l with
  | nil => intro m b h; simpa using h
  | cons x l ih =>
    intro m b h
    rw [List.foldl_cons, ih (mput m x.Name true) (b || decide (x.Name = k)) (by
      rw [mget_mput]
      by_cases hx : x.Name = k
      · simp [hx]
      · simpa [hx] using h)]
    simp [Bool.or_assoc]

theorem seen_next {l : List Lifetime} {k : Nat} {x : Lifetime} (h : l[k]? = some x) : seenM (l.take (k + 1)) = mput (seenM (l.take k)) x.Name true := by
  unfold seenM
  rw [take_next h, List.foldl_append]
  rfl

theorem any_next_no {l : List Lifetime} {k : Nat} {y : Lifetime} {s : ByteArray} (h : l[k]? = some y) (hp : ((l.take k).any fun y => decide (y.Name = s)) = false) (hn : ¬ y.Name = s) : ((l.take (k + 1)).any fun y => decide (y.Name = s)) = false := by
  rw [take_next h, List.any_append, hp]
  simp [hn]
theorem any_of_get {l : List Lifetime} {k j : Nat} {y : Lifetime} {s : ByteArray} (h : l[j]? = some y) (hj : j < k) (he : y.Name = s) : ((l.take k).any fun y => decide (y.Name = s)) = true := by
  rw [List.any_eq_true]
  have hlt := (List.getElem?_eq_some_iff.1 h).1
  exact ⟨y, List.mem_take_iff_getElem.2 ⟨j, by omega, (List.getElem?_eq_some_iff.1 h).2⟩, by simpa using he⟩

/-! ## Counts: at the latest beginning every interval around a point is still there -/

theorem le_foldP (l : List Lifetime) : ∀ (m : List Lifetime) (a : Int), a ≤ m.foldl (fun acc x => if x.To < x.From then acc else max acc (cnt l x.From)) a
  | [], a => Int.le_refl a
  | x :: m, a => by
    rw [List.foldl_cons]
    refine Int.le_trans ?_ (le_foldP l m _)
    split
    · exact Int.le_refl a
    · omega

theorem foldP_ge (l : List Lifetime) : ∀ (m : List Lifetime) (a : Int) (y : Lifetime), y ∈ m → y.From ≤ y.To → cnt l y.From ≤ m.foldl (fun acc x => if x.To < x.From then acc else max acc (cnt l x.From)) a
  | x :: m, a, y, hy, hne => by
    rw [List.foldl_cons]
    rcases List.mem_cons.1 hy with rfl | h
    · refine Int.le_trans ?_ (le_foldP l m _)
      rw [if_neg (by omega)]
      omega
    · exact foldP_ge l m _ y h hne

theorem foldP_le_R (l : List Lifetime) : ∀ (m : List Lifetime) (a b : Int), a ≤ b → m.foldl (fun acc x => if x.To < x.From then acc else max acc (cnt l x.From)) a ≤ m.foldl (fun acc x => max acc (cnt l x.From)) b
  | [], _, _, h => h
  | x :: m, a, b, h => by
    rw [List.foldl_cons, List.foldl_cons]
    refine foldP_le_R l m _ _ ?_
    split <;> omega

theorem foldR_le (l : List Lifetime) (M : Int) : ∀ (m : List Lifetime) (a : Int), a ≤ M → (∀ x, x ∈ m → cnt l x.From ≤ M) → m.foldl (fun acc x => max acc (cnt l x.From)) a ≤ M
  | [], _, h, _ => h
  | x :: m, a, h, hx => by
    rw [List.foldl_cons]
    exact foldR_le l M m _ (by have := hx x (by simp); omega) fun y hy => hx y (by simp [hy])

/-- Of the intervals around p, one that begins last. -/
theorem latest (l : List Lifetime) (p : Int) : cnt l p = 0 ∨ ∃ y, y ∈ l ∧ covers p y = true ∧ ∀ x, x ∈ l → covers p x = true → x.From ≤ y.From := by
  induction l with
  | nil => exact .inl rfl
  | cons z l ih =>
    by_cases hz : covers p z = true
    · right
      rcases ih with h0 | ⟨y, hy, hyc, hmax⟩
      · refine ⟨z, by simp, hz, fun x hx hxc => ?_⟩
        rcases List.mem_cons.1 hx with rfl | hx
        · exact Int.le_refl _
        · exfalso
          unfold cnt at h0
          have : l.filter (covers p) = [] := List.eq_nil_of_length_eq_zero (by omega)
          have hm : x ∈ l.filter (covers p) := List.mem_filter.2 ⟨hx, hxc⟩
          rw [this] at hm
          simp at hm
      · by_cases hle : z.From ≤ y.From
        · refine ⟨y, by simp [hy], hyc, fun x hx hxc => ?_⟩
          rcases List.mem_cons.1 hx with rfl | hx
          · exact hle
          · exact hmax x hx hxc
        · refine ⟨z, by simp, hz, fun x hx hxc => ?_⟩
          rcases List.mem_cons.1 hx with rfl | hx
          · exact Int.le_refl _
          · have := hmax x hx hxc; omega
    · rcases ih with h0 | ⟨y, hy, hyc, hmax⟩
      · left
        unfold cnt at *
        simp [hz]
        simpa using h0
      · right
        refine ⟨y, by simp [hy], hyc, fun x hx hxc => ?_⟩
        rcases List.mem_cons.1 hx with rfl | hx
        · exact absurd hxc hz
        · exact hmax x hx hxc

theorem cnt_mono {l : List Lifetime} {p q : Int} (h : ∀ x, x ∈ l → covers p x = true → covers q x = true) : cnt l p ≤ cnt l q := by
  unfold cnt
  have : (l.filter (covers p)).length ≤ (l.filter (covers q)).length := by
    induction l with
    | nil => simp
    | cons z l ih =>
      have ih' := ih fun x hx => h x (by simp [hx])
      by_cases hz : covers p z = true
      · have := h z (by simp) hz
        simp [hz, this]; exact ih'
      · by_cases hq : covers q z = true
        · simp [hz, hq]; omega
        · simp [hz, hq]; exact ih'
  omega

theorem mostPR (l : List Lifetime) : mostP l l = mostR l l := by
  unfold mostP mostR
  apply Int.le_antisymm
  · exact foldP_le_R l l 0 0 (Int.le_refl _)
  · refine foldR_le l _ l 0 (le_foldP l l 0) fun x hx => ?_
    rcases latest l x.From with h0 | ⟨y, hy, hyc, hmax⟩
    · rw [h0]; exact le_foldP l l 0
    · unfold covers at hyc
      simp only [Bool.and_eq_true, decide_eq_true_eq] at hyc
      refine Int.le_trans (cnt_mono (q := y.From) fun z hz hzc => ?_) (foldP_ge l l 0 y hy (by omega))
      have h1 := hmax z hz hzc
      unfold covers at hzc ⊢
      simp only [Bool.and_eq_true, decide_eq_true_eq] at hzc ⊢
      omega

theorem overlaps_true (a b : Lifetime) : ((Overlap a b == Overlap a b) && (Overlap b a == Overlap a b) && true) = true := by
  have : Overlap b a = Overlap a b := by unfold Overlap; rw [Bool.and_comm]
  rw [this]; simp

theorem counts_true (l : List Lifetime) : (decide (mostP l l = mostR l l) && true) = true := by rw [mostPR]; simp

/-! ## Extremes -/

def noneIn (l : List Lifetime) (x : Lifetime) (j : Nat) : Bool := (l.take j).all fun y => !Overlap x y
def allIn (l : List Lifetime) (x : Lifetime) (j : Nat) : Bool := (l.take j).all fun y => Overlap x y
def noneTo (l : List Lifetime) (k : Nat) : Bool := (List.range k).all fun i => noneIn l (l.getD i ⟨ByteArray.empty, 0, 0, 0⟩) i
def allTo (l : List Lifetime) (k : Nat) : Bool := (List.range k).all fun i => allIn l (l.getD i ⟨ByteArray.empty, 0, 0, 0⟩) i

theorem noneIn_zero (l : List Lifetime) (x : Lifetime) : noneIn l x 0 = true := by simp [noneIn]
theorem allIn_zero (l : List Lifetime) (x : Lifetime) : allIn l x 0 = true := by simp [allIn]
theorem noneIn_next {l : List Lifetime} {x y : Lifetime} {j : Nat} (h : l[j]? = some y) : noneIn l x (j + 1) = (noneIn l x j && !Overlap x y) := by
  unfold noneIn; rw [take_next h, List.all_append]; simp
theorem allIn_next {l : List Lifetime} {x y : Lifetime} {j : Nat} (h : l[j]? = some y) : allIn l x (j + 1) = (allIn l x j && Overlap x y) := by
  unfold allIn; rw [take_next h, List.all_append]; simp
theorem noneTo_next {l : List Lifetime} {x : Lifetime} {k : Nat} (h : l[k]? = some x) : noneTo l (k + 1) = (noneTo l k && noneIn l x k) := by
  unfold noneTo; rw [List.range_succ, List.all_append]; simp [List.getD, h]
theorem allTo_next {l : List Lifetime} {x : Lifetime} {k : Nat} (h : l[k]? = some x) : allTo l (k + 1) = (allTo l k && allIn l x k) := by
  unfold allTo; rw [List.range_succ, List.all_append]; simp [List.getD, h]

/-- Valid lifetimes are not empty. -/
theorem valid_nonempty : ∀ (r prev : List Lifetime), validFrom prev r = 0 → ∀ x, x ∈ r → x.From ≤ x.To
  | [], _, _, x, hx => by simp at hx
  | y :: r, prev, h, x, hx => by
    simp only [validFrom] at h
    by_cases hc : check1 prev y = 0
    · rw [if_pos hc] at h
      rcases List.mem_cons.1 hx with rfl | hx
      · unfold check1 at hc
        split at hc
        · cases hc
        · split at hc
          · cases hc
          · split at hc
            · cases hc
            · omega
      · exact valid_nonempty r _ h x hx
    · rw [if_neg hc] at h; exact absurd h hc

theorem mostP_bound (l : List Lifetime) (M : Int) (h0 : 0 ≤ M) (h : ∀ x, x ∈ l → cnt l x.From ≤ M) : mostP l l ≤ M := by
  rw [mostPR]; exact foldR_le l M l 0 h0 h

theorem pair_no {l : List Lifetime} (h : noneTo l l.length = true) {i j : Nat} {x y : Lifetime} (hi : l[i]? = some x) (hj : l[j]? = some y) (hij : j < i) : Overlap x y = false := by
  have hlt := (List.getElem?_eq_some_iff.1 hi).1
  unfold noneTo at h
  rw [List.all_eq_true] at h
  have h1 := h i (List.mem_range.2 hlt)
  have e : l.getD i ⟨ByteArray.empty, 0, 0, 0⟩ = x := by simp [List.getD, hi]
  rw [e] at h1
  unfold noneIn at h1
  rw [List.all_eq_true] at h1
  have hjl := (List.getElem?_eq_some_iff.1 hj).1
  have := h1 y (List.mem_take_iff_getElem.2 ⟨j, by omega, (List.getElem?_eq_some_iff.1 hj).2⟩)
  simpa using this
theorem pair_all {l : List Lifetime} (h : allTo l l.length = true) {i j : Nat} {x y : Lifetime} (hi : l[i]? = some x) (hj : l[j]? = some y) (hij : j < i) : Overlap x y = true := by
  have hlt := (List.getElem?_eq_some_iff.1 hi).1
  unfold allTo at h
  rw [List.all_eq_true] at h
  have h1 := h i (List.mem_range.2 hlt)
  have e : l.getD i ⟨ByteArray.empty, 0, 0, 0⟩ = x := by simp [List.getD, hi]
  rw [e] at h1
  unfold allIn at h1
  rw [List.all_eq_true] at h1
  have hjl := (List.getElem?_eq_some_iff.1 hj).1
  exact h1 y (List.mem_take_iff_getElem.2 ⟨j, by omega, (List.getElem?_eq_some_iff.1 hj).2⟩)

/-- Two that cover a point overlap. -/
theorem cover_overlap {x y : Lifetime} {p : Int} (hx : covers p x = true) (hy : covers p y = true) : Overlap x y = true := by
  unfold covers at hx hy
  unfold Overlap
  simp only [Bool.and_eq_true, decide_eq_true_eq] at *
  omega

theorem filter_le_one {l : List Lifetime} {q : Lifetime → Bool} (h : ∀ (i j : Nat) (x y : Lifetime), l[i]? = some x → l[j]? = some y → j < i → q x = true → q y = true → False) : (l.filter q).length ≤ 1 := by
  induction l with
  | nil => simp
  | cons z l ih =>
    have ih' := ih fun i j x y hi hj hij hx hy => h (i + 1) (j + 1) x y (by simpa using hi) (by simpa using hj) (by omega) hx hy
    by_cases hz : q z = true
    · have : l.filter q = [] := by
        rw [List.filter_eq_nil_iff]
        intro x hx hq
        obtain ⟨i, hi⟩ := List.getElem?_of_mem hx
        exact h (i + 1) 0 x z (by simpa using hi) rfl (by omega) hq hz
      simp [hz, this]
    · simp only [List.filter_cons, hz]
      simpa using ih'

theorem extremes_true (l : List Lifetime) (hv : validateL l = 0) (hl : l.length ≤ 30) :
    ((decide (mostP l l ≤ (l.length : Int)) && (!noneTo l l.length || decide (mostP l l ≤ 1)) && (!allTo l l.length || decide (mostP l l = (l.length : Int)))) && true) = true := by
  have hne : ∀ x, x ∈ l → x.From ≤ x.To := valid_nonempty l [] hv
  have h1 : mostP l l ≤ (l.length : Int) := mostP_bound l _ (by omega) fun x _ => (cnt_le l x.From).2
  have h2 : noneTo l l.length = true → mostP l l ≤ 1 := by
    intro hn
    refine mostP_bound l 1 (by omega) fun x hx => ?_
    unfold cnt
    have := filter_le_one (l := l) (q := covers x.From) fun i j a b ha hb hij qa qb => by
      have := pair_no hn ha hb hij
      rw [cover_overlap qa qb] at this
      cases this
    omega
  have h3 : allTo l l.length = true → mostP l l = (l.length : Int) := by
    intro ha
    apply Int.le_antisymm h1
    cases l with
    | nil => exact le_foldP [] [] 0
    | cons z r =>
      -- the latest beginning lies in every interval
      have hex : ∀ (m : List Lifetime), m ≠ [] → ∃ y, y ∈ m ∧ ∀ x, x ∈ m → x.From ≤ y.From := by
        intro m
        induction m with
        | nil => intro h; exact absurd rfl h
        | cons a m ih =>
          intro _
          by_cases hm : m = []
          · subst hm; exact ⟨a, by simp, fun x hx => by simp at hx; subst hx; exact Int.le_refl _⟩
          · obtain ⟨y, hy, hmax⟩ := ih hm
            by_cases hle : a.From ≤ y.From
            · exact ⟨y, by simp [hy], fun x hx => by rcases List.mem_cons.1 hx with rfl | hx; exact hle; exact hmax x hx⟩
            · exact ⟨a, by simp, fun x hx => by rcases List.mem_cons.1 hx with rfl | hx; exact Int.le_refl _; have := hmax x hx; omega⟩
      obtain ⟨y, hy, hmax⟩ := hex (z :: r) (by simp)
      refine Int.le_trans ?_ (foldP_ge (z :: r) (z :: r) 0 y hy (hne y hy))
      have hall : (z :: r).filter (covers y.From) = z :: r := by
        rw [List.filter_eq_self]
        intro x hx
        obtain ⟨i, hi⟩ := List.getElem?_of_mem hx
        obtain ⟨j, hj⟩ := List.getElem?_of_mem hy
        have hov : y.From ≤ x.To := by
          rcases Nat.lt_trichotomy i j with h | h | h
          · have := pair_all ha hj hi h
            unfold Overlap at this
            simp only [Bool.and_eq_true, decide_eq_true_eq] at this
            exact this.1
          · subst h
            rw [hi] at hj
            cases hj
            exact hne _ hx
          · have := pair_all ha hi hj h
            unfold Overlap at this
            simp only [Bool.and_eq_true, decide_eq_true_eq] at this
            exact this.2
        unfold covers
        simp only [Bool.and_eq_true, decide_eq_true_eq]
        exact ⟨hmax x hx, hov⟩
      unfold cnt
      rw [hall]
      omega
  have d1 : decide (mostP l l ≤ (l.length : Int)) = true := by simpa using h1
  rw [d1]
  cases hn : noneTo l l.length <;> cases ha : allTo l l.length <;> simp <;> first | exact h2 hn | exact h3 ha | exact ⟨h2 hn, h3 ha⟩

end Go.L41
