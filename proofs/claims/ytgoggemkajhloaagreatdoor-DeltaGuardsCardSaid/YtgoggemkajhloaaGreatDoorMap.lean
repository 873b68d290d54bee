/-
  Copies with all forms mapped; weights; in plain Lean.
  Conditions: none.
-/
import Derived.Test.YtgoggemkajhloaaGreatDoorSpec
set_option linter.unusedSimpArgs false
set_option linter.unusedVariables false
namespace Go.Br
open Go Go.Eng Go.L41

/-! ## Equality, part by part -/
theorem ix_eq (a b : Ix) : ((decide (a.From = b.From) && decide (a.Lin = b.Lin)) && decide (a.At = b.At)) = decide (a = b) := by
  rw [Bool.eq_iff_iff]; simp only [Bool.and_eq_true, decide_eq_true_eq]
  cases a; cases b; simp only [Ix.mk.injEq]
  constructor
  · rintro ⟨⟨h1, h2⟩, h3⟩; exact ⟨h2, h1, h3⟩
  · rintro ⟨h1, h2, h3⟩; exact ⟨⟨h2, h1⟩, h3⟩
theorem litsEq_val (a b : Vl) : litsEq [cI a.N, cI a.D] [cI b.N, cI b.D] = decide (a = b) := by
  rw [Bool.eq_iff_iff]; cases a; cases b; simp [litsEq, cEq]
theorem litsEq_ty (a b : Ty) : litsEq [cI a.Kind, cI a.Bits, cI a.Frac, cI a.Round, cI a.Over] [cI b.Kind, cI b.Bits, cI b.Frac, cI b.Round, cI b.Over] = decide (a = b) := by
  rw [Bool.eq_iff_iff]; cases a; cases b; simp [litsEq, cEq]
theorem ex_eq (a b : Ex) : ((((((decide (a.Op = b.Op) && decide (a.Name = b.Name)) && litsEq [cI a.Val.N, cI a.Val.D] [cI b.Val.N, cI b.Val.D]) && litsEq [cI a.Ty.Kind, cI a.Ty.Bits, cI a.Ty.Frac, cI a.Ty.Round, cI a.Ty.Over] [cI b.Ty.Kind, cI b.Ty.Bits, cI b.Ty.Frac, cI b.Ty.Round, cI b.Ty.Over]) && decide (a.Lin = b.Lin)) && decide (a.Idx = b.Idx)) && decide (a.Args = b.Args)) = decide (a = b) := by
  rw [litsEq_val, litsEq_ty, Bool.eq_iff_iff]
  simp only [Bool.and_eq_true, decide_eq_true_eq, Ex.eq_iff]
  constructor
  · rintro ⟨⟨⟨⟨⟨⟨h1, h2⟩, h3⟩, h4⟩, h5⟩, h6⟩, h7⟩; exact ⟨h1, h2, h3, h4, h5, h6, h7⟩
  · rintro ⟨h1, h2, h3, h4, h5, h6, h7⟩; exact ⟨⟨⟨⟨⟨⟨h1, h2⟩, h3⟩, h4⟩, h5⟩, h6⟩, h7⟩

/-! ## Weights -/
def weighAt (m n : Nat) : List Lf → Nat
  | [] => n
  | l :: r => if n ≤ m then weighAt m (n + l.L.length) r else n
def weighIdx (m n : Nat) : List Ix → Nat
  | [] => n
  | x :: r => if n ≤ m then weighIdx m (weighAt m (n + x.Lin.L.length + x.At.length) x.At) r else n
mutual
def weighE : Ex → Nat → Nat
  | .mk _ _ _ _ l i as, m => weighL as m (weighIdx m (1 + l.L.length + i.length) i)
def weighL : List Ex → Nat → Nat → Nat
  | [], _, n => n
  | a :: r, m, n => if n ≤ m then weighL r m (n + weighE a (m - n)) else n
end
theorem weighE_eq (e : Ex) (m : Nat) : weighE e m = weighL e.Args m (weighIdx m (1 + e.Lin.L.length + e.Idx.length) e.Idx) := by cases e; rw [weighE]; rfl

/-- All lists in it are of a length that memory bears. -/
def Ix.fit (x : Ix) : Prop := x.Lin.L.length ≤ 140737488355328 ∧ x.At.length ≤ 140737488355328 ∧ ∀ l, l ∈ x.At → l.L.length ≤ 140737488355328
mutual
def Ex.fit : Ex → Prop
  | .mk _ _ _ _ l i as => l.L.length ≤ 140737488355328 ∧ i.length ≤ 140737488355328 ∧ as.length ≤ 140737488355328 ∧ (∀ x, x ∈ i → x.fit) ∧ fitL as
def fitL : List Ex → Prop
  | [] => True
  | a :: r => a.fit ∧ fitL r
end
theorem fitL_mem {l : List Ex} (h : fitL l) : ∀ a, a ∈ l → a.fit := by
  induction l with
  | nil => intro a ha; cases ha
  | cons x r ih =>
    intro a ha
    rcases List.mem_cons.1 ha with rfl | ha
    · exact h.1
    · exact ih h.2 a ha
theorem Ex.fit_eq {e : Ex} (h : e.fit) : e.Lin.L.length ≤ 140737488355328 ∧ e.Idx.length ≤ 140737488355328 ∧ e.Args.length ≤ 140737488355328 ∧ (∀ x, x ∈ e.Idx → x.fit) ∧ ∀ a, a ∈ e.Args → a.fit := by
  cases e with
  | mk o n v t l i as => rw [Ex.fit] at h; exact ⟨h.1, h.2.1, h.2.2.1, h.2.2.2.1, fitL_mem h.2.2.2.2⟩

theorem weighAt_ge (m : Nat) : ∀ (l : List Lf) (n : Nat), n ≤ weighAt m n l
  | [], n => Nat.le_refl _
  | x :: r, n => by
    rw [weighAt]; split
    · have := weighAt_ge m r (n + x.L.length); omega
    · omega
theorem weighIdx_ge (m : Nat) : ∀ (l : List Ix) (n : Nat), n ≤ weighIdx m n l
  | [], n => Nat.le_refl _
  | x :: r, n => by
    rw [weighIdx]; split
    · have h1 := weighAt_ge m x.At (n + x.Lin.L.length + x.At.length)
      have := weighIdx_ge m r (weighAt m (n + x.Lin.L.length + x.At.length) x.At); omega
    · omega
theorem weighAt_sum (m : Nat) : ∀ (l : List Lf) (n : Nat), weighAt m n l ≤ m → n + linsWt l ≤ weighAt m n l
  | [], n, _ => by simp [weighAt, linsWt]
  | y :: r, n, h => by
    have hn : n ≤ m := Nat.le_trans (weighAt_ge m (y :: r) n) h
    rw [weighAt, if_pos hn] at h ⊢
    have := weighAt_sum m r _ h
    rw [linsWt]; omega
theorem weighIdx_sum (m : Nat) : ∀ (l : List Ix) (n : Nat), weighIdx m n l ≤ m → n + idxWt l ≤ weighIdx m n l
  | [], n, _ => by simp [weighIdx, idxWt]
  | x :: r, n, h => by
    have hn : n ≤ m := Nat.le_trans (weighIdx_ge m (x :: r) n) h
    rw [weighIdx, if_pos hn] at h ⊢
    have h1 := weighIdx_sum m r _ h
    have h2 := weighAt_sum m x.At (n + x.Lin.L.length + x.At.length) (by omega)
    rw [idxWt, Ix.wt]; omega
mutual
theorem weighE_wt : ∀ (e : Ex) (m : Nat), weighE e m ≤ m → e.wt ≤ weighE e m
  | .mk o n v t l i as, m, h => by
    rw [weighE] at h ⊢
    have h1 := weighL_wt as m _ h
    have h2 := weighIdx_sum m i (1 + l.L.length + i.length) (by omega)
    rw [Ex.wt]; omega
theorem weighL_wt : ∀ (l : List Ex) (m n : Nat), weighL l m n ≤ m → n + argsWt l ≤ weighL l m n
  | [], m, n, h => by simp [weighL, argsWt]
  | a :: r, m, n, h => by
    by_cases hn : n ≤ m
    · rw [weighL, if_pos hn] at h ⊢
      have h1 := weighL_wt r m _ h
      have h2 := weighE_wt a (m - n) (by omega)
      rw [argsWt]; omega
    · rw [weighL, if_neg hn] at h; omega
end

theorem weighAt_le {m : Nat} : ∀ (l : List Lf) (n B : Nat), (∀ x, x ∈ l → x.L.length ≤ 140737488355328) → n ≤ B → m + 140737488355328 ≤ B → weighAt m n l ≤ B
  | [], n, B, _, h, _ => by simpa [weighAt] using h
  | x :: r, n, B, hx, h, hb => by
    rw [weighAt]; split
    · have := hx x (by simp)
      exact weighAt_le r _ B (fun y hy => hx y (by simp [hy])) (by omega) hb
    · exact h
theorem weighIdx_le {m : Nat} : ∀ (l : List Ix) (n B : Nat), (∀ x, x ∈ l → x.fit) → n ≤ B → m + 3 * 140737488355328 ≤ B → weighIdx m n l ≤ B
  | [], n, B, _, h, _ => by simpa [weighIdx] using h
  | x :: r, n, B, hx, h, hb => by
    rw [weighIdx]; split
    · obtain ⟨h1, h2, h3⟩ := hx x (by simp)
      exact weighIdx_le r _ B (fun y hy => hx y (by simp [hy])) (weighAt_le x.At _ B h3 (by omega) (by omega)) hb
    · exact h
mutual
theorem weighE_le : ∀ (e : Ex) (m : Nat), e.fit → weighE e m ≤ m + 4 * 140737488355328
  | .mk o n v t l i as, m, h => by
    rw [Ex.fit] at h
    obtain ⟨h1, h2, h3, h4, h5⟩ := h
    rw [weighE]
    exact weighL_le as m _ h5 (weighIdx_le i _ _ h4 (by omega) (by omega))
theorem weighL_le : ∀ (l : List Ex) (m n : Nat), fitL l → n ≤ m + 4 * 140737488355328 → weighL l m n ≤ m + 4 * 140737488355328
  | [], m, n, _, h => by simpa [weighL] using h
  | a :: r, m, n, hf, h => by
    rw [weighL]; split
    · have := weighE_le a (m - n) hf.1
      exact weighL_le r m _ hf.2 (by omega)
    · exact h
end

theorem weighIdx_end {m n k : Nat} {l : List Ix} {x : Int} (hx : x = m) (h : l.length ≤ k ∨ x < n) : n = weighIdx m n (l.drop k) := by
  by_cases hk : k < l.length
  · obtain ⟨a, ha⟩ := ex_get l k hk
    rw [drop_cons ha, weighIdx, if_neg (by omega)]
  · rw [drop_end hk, weighIdx]
theorem weighAt_end {m n k : Nat} {l : List Lf} {x : Int} (hx : x = m) (h : l.length ≤ k ∨ x < n) : n = weighAt m n (l.drop k) := by
  by_cases hk : k < l.length
  · obtain ⟨a, ha⟩ := ex_get l k hk
    rw [drop_cons ha, weighAt, if_neg (by omega)]
  · rw [drop_end hk, weighAt]
theorem weighL_end {m n k : Nat} {l : List Ex} {x : Int} (hx : x = m) (h : l.length ≤ k ∨ x < n) : n = weighL (l.drop k) m n := by
  by_cases hk : k < l.length
  · obtain ⟨a, ha⟩ := ex_get l k hk
    rw [drop_cons ha, weighL, if_neg (by omega)]
  · rw [drop_end hk, weighL]

/-! ## Forms mapped -/
def fE (f : Lf → Lf × Int) (l : Lf) : Except Int Lf := if (f l).2 = 0 then .ok (f l).1 else .error (f l).2
def mLins (f : Lf → Lf × Int) : List Lf → Except Int (List Lf)
  | [] => .ok []
  | l :: r => match fE f l with
    | .error x => .error x
    | .ok l' => match mLins f r with
      | .error x => .error x
      | .ok r' => .ok (l' :: r')
def mIx (f : Lf → Lf × Int) (x : Ix) : Except Int Ix := match fE f x.Lin with
  | .error y => .error y
  | .ok l => match mLins f x.At with
    | .error y => .error y
    | .ok a => .ok ⟨l, x.From, a⟩
def mIxs (f : Lf → Lf × Int) : List Ix → Except Int (List Ix)
  | [] => .ok []
  | x :: r => match mIx f x with
    | .error y => .error y
    | .ok x' => match mIxs f r with
      | .error y => .error y
      | .ok r' => .ok (x' :: r')
mutual
def mEx (f : Lf → Lf × Int) : Ex → Except Int Ex
  | .mk o n v t l i as => match fE f l with
    | .error y => .error y
    | .ok l' => match mIxs f i with
      | .error y => .error y
      | .ok i' => match mExs f as with
        | .error y => .error y
        | .ok as' => .ok (.mk o n v t l' i' as')
def mExs (f : Lf → Lf × Int) : List Ex → Except Int (List Ex)
  | [] => .ok []
  | a :: r => match mEx f a with
    | .error y => .error y
    | .ok a' => match mExs f r with
      | .error y => .error y
      | .ok r' => .ok (a' :: r')
end
def zEx : Ex := .mk 0 (bs []) ⟨0, 0⟩ ⟨0, 0, 0, 0, 0⟩ ⟨0, []⟩ [] []
def outE : Except Int Ex → Ex
  | .ok e => e
  | .error _ => zEx
def errE {α : Type} : Except Int α → Int
  | .ok _ => 0
  | .error x => x
def andThenE {α β : Type} (a : Except Int α) (g : α → β) : Except Int β := match a with
  | .error y => .error y
  | .ok x => .ok (g x)
theorem mEx_eq (f : Lf → Lf × Int) (e : Ex) : mEx f e = match fE f e.Lin with
    | .error y => .error y
    | .ok l' => match mIxs f e.Idx with
      | .error y => .error y
      | .ok i' => match mExs f e.Args with
        | .error y => .error y
        | .ok as' => .ok (.mk e.Op e.Name e.Val e.Ty l' i' as') := by cases e; rw [mEx]; rfl

theorem fE_ok {f : Lf → Lf × Int} {l : Lf} (h : (f l).2 = 0) : fE f l = .ok (f l).1 := if_pos h
theorem fE_err {f : Lf → Lf × Int} {l : Lf} (h : ¬ (f l).2 = 0) : fE f l = .error (f l).2 := if_neg h

/-- What is left to do, and what is done. -/
def mapRest {α : Type} (done : List α) (x : Except Int (List α)) : Except Int (List α) := andThenE x (done ++ ·)
theorem mapRest_nil {α : Type} (x : Except Int (List α)) : mapRest [] x = x := by cases x <;> rfl

theorem mLins_next {f : Lf → Lf × Int} {l : List Lf} {k : Nat} {x : Lf} {done : List Lf} (h : l[k]? = some x) (hp : mLins f l = mapRest done (mLins f (l.drop k))) (hx : (f x).2 = 0) : mLins f l = mapRest (done ++ [(f x).1]) (mLins f (l.drop (k + 1))) := by
  rw [hp, drop_cons h, mLins, fE_ok hx]
  cases mLins f (l.drop (k + 1)) <;> simp [mapRest, andThenE]
theorem mLins_no {f : Lf → Lf × Int} {l : List Lf} {k : Nat} {x : Lf} {done : List Lf} (h : l[k]? = some x) (hp : mLins f l = mapRest done (mLins f (l.drop k))) (hx : ¬ (f x).2 = 0) : mLins f l = .error (f x).2 := by
  rw [hp, drop_cons h, mLins, fE_err hx]; rfl
theorem mLins_end {f : Lf → Lf × Int} {l : List Lf} {k : Nat} {done : List Lf} (hp : mLins f l = mapRest done (mLins f (l.drop k))) (h : ¬ k < l.length) : mLins f l = .ok done := by
  rw [hp, drop_end h]; simp [mLins, mapRest, andThenE]
theorem mIxs_next {f : Lf → Lf × Int} {l : List Ix} {k : Nat} {x y : Ix} {done : List Ix} (h : l[k]? = some x) (hp : mIxs f l = mapRest done (mIxs f (l.drop k))) (hx : mIx f x = .ok y) : mIxs f l = mapRest (done ++ [y]) (mIxs f (l.drop (k + 1))) := by
  rw [hp, drop_cons h, mIxs, hx]
  cases mIxs f (l.drop (k + 1)) <;> simp [mapRest, andThenE]
theorem mIxs_no {f : Lf → Lf × Int} {l : List Ix} {k : Nat} {x : Ix} {done : List Ix} {c : Int} (h : l[k]? = some x) (hp : mIxs f l = mapRest done (mIxs f (l.drop k))) (hx : mIx f x = .error c) : mIxs f l = .error c := by
  rw [hp, drop_cons h, mIxs, hx]; rfl
theorem mIxs_end {f : Lf → Lf × Int} {l : List Ix} {k : Nat} {done : List Ix} (hp : mIxs f l = mapRest done (mIxs f (l.drop k))) (h : ¬ k < l.length) : mIxs f l = .ok done := by
  rw [hp, drop_end h]; simp [mIxs, mapRest, andThenE]
theorem errE_ok {α : Type} {x : Except Int α} (h : errE x = 0) (h2 : x ≠ .error 0) : ∃ a, x = .ok a := by
  cases x with
  | ok a => exact ⟨a, rfl⟩
  | error y => exact absurd (by rw [show y = 0 from h]) h2
theorem fE_ne {f : Lf → Lf × Int} {l : Lf} : fE f l ≠ .error 0 := by
  unfold fE; split
  · simp
  · rename_i h; intro hh; exact h (Except.error.inj hh)
theorem mLins_ne {f : Lf → Lf × Int} : ∀ {l : List Lf}, mLins f l ≠ .error 0
  | [] => by simp [mLins]
  | x :: r => by
    rw [mLins]
    cases h1 : fE f x with
    | error y => intro h; cases h; exact fE_ne h1
    | ok a =>
      cases h2 : mLins f r with
      | error y => intro h; cases h; exact mLins_ne h2
      | ok a => simp
theorem mIx_ne {f : Lf → Lf × Int} {x : Ix} : mIx f x ≠ .error 0 := by
  rw [mIx]
  cases h1 : fE f x.Lin with
  | error y => intro h; cases h; exact fE_ne h1
  | ok a =>
    cases h2 : mLins f x.At with
    | error y => intro h; cases h; exact mLins_ne h2
    | ok a => simp
theorem mIxs_ne {f : Lf → Lf × Int} : ∀ {l : List Ix}, mIxs f l ≠ .error 0
  | [] => by simp [mIxs]
  | x :: r => by
    rw [mIxs]
    cases h1 : mIx f x with
    | error y => intro h; cases h; exact mIx_ne h1
    | ok a =>
      cases h2 : mIxs f r with
      | error y => intro h; cases h; exact mIxs_ne h2
      | ok a => simp
mutual
theorem mEx_ne {f : Lf → Lf × Int} : ∀ e : Ex, mEx f e ≠ .error 0
  | .mk o n v t l i as => by
    rw [mEx]
    cases h1 : fE f l with
    | error y => intro h; cases h; exact fE_ne h1
    | ok a =>
      cases h2 : mIxs f i with
      | error y => intro h; cases h; exact mIxs_ne h2
      | ok a =>
        cases h3 : mExs f as with
        | error y => intro h; cases h; exact mExs_ne as h3
        | ok a => simp
theorem mExs_ne {f : Lf → Lf × Int} : ∀ l : List Ex, mExs f l ≠ .error 0
  | [] => by simp [mExs]
  | x :: r => by
    rw [mExs]
    cases h1 : mEx f x with
    | error y => intro h; cases h; exact mEx_ne x h1
    | ok a =>
      cases h2 : mExs f r with
      | error y => intro h; cases h; exact mExs_ne r h2
      | ok a => simp
end
theorem mExs_next {f : Lf → Lf × Int} {l : List Ex} {k : Nat} {x : Ex} {done : List Ex} (h : l[k]? = some x) (hp : mExs f l = mapRest done (mExs f (l.drop k))) (hx : errE (mEx f x) = 0) : mExs f l = mapRest (done ++ [outE (mEx f x)]) (mExs f (l.drop (k + 1))) := by
  rw [hp, drop_cons h, mExs]
  obtain ⟨y, hy⟩ := errE_ok hx (mEx_ne x)
  rw [hy]
  cases mExs f (l.drop (k + 1)) <;> simp [mapRest, andThenE, outE]
theorem mExs_no {f : Lf → Lf × Int} {l : List Ex} {k : Nat} {x : Ex} {done : List Ex} (h : l[k]? = some x) (hp : mExs f l = mapRest done (mExs f (l.drop k))) (hx : ¬ errE (mEx f x) = 0) : mExs f l = .error (errE (mEx f x)) := by
  rw [hp, drop_cons h, mExs]
  cases hm : mEx f x with
  | error y => rfl
  | ok y => rw [hm] at hx; exact absurd rfl hx
theorem mExs_end {f : Lf → Lf × Int} {l : List Ex} {k : Nat} {done : List Ex} (hp : mExs f l = mapRest done (mExs f (l.drop k))) (h : ¬ k < l.length) : mExs f l = .ok done := by
  rw [hp, drop_end h]; simp [mExs, mapRest, andThenE]

/-- Copying. -/
def idF (l : Lf) : Lf × Int := (l, 0)
theorem mLins_id : ∀ l : List Lf, mLins idF l = .ok l
  | [] => rfl
  | x :: r => by rw [mLins, fE_ok rfl, mLins_id r]; rfl
theorem mIx_id (x : Ix) : mIx idF x = .ok x := by rw [mIx, fE_ok rfl, mLins_id]; rfl
theorem mIxs_id : ∀ l : List Ix, mIxs idF l = .ok l
  | [] => rfl
  | x :: r => by rw [mIxs, mIx_id, mIxs_id r]
mutual
theorem mEx_id : ∀ e : Ex, mEx idF e = .ok e
  | .mk o n v t l i as => by rw [mEx, fE_ok rfl, mIxs_id, mExs_id as]; rfl
theorem mExs_id : ∀ l : List Ex, mExs idF l = .ok l
  | [] => by rw [mExs]
  | x :: r => by rw [mExs, mEx_id x, mExs_id r]
end

/-! ## A row in the middle -/
theorem mid_get {α : Type} {f : α → List C} {A : List (List C)} {l : List α} {k : Nat} {x : α} (hA : A.length = k) (h : l[k]? = some x) : (A ++ (l.drop k).map f)[k]? = some (f x) := by
  rw [drop_cons h, List.map_cons, List.getElem?_append_right (by omega), hA]; simp
theorem mid_len {α : Type} {f : α → List C} {A : List (List C)} {l : List α} {k : Nat} (hA : A.length = k) (h : k < l.length) : ((k : Int)).toNat < (A ++ (l.drop k).map f).length := by
  simp; omega
theorem mid_set {α : Type} {f : α → List C} {A : List (List C)} {l : List α} {k : Nat} {x : α} {r : List C} (hA : A.length = k) (h : l[k]? = some x) : (A ++ (l.drop k).map f).set k r = (A ++ [r]) ++ (l.drop (k + 1)).map f := by
  rw [drop_cons h, List.map_cons, List.set_append_right _ _ (by omega), hA]; simp
theorem mid_set' {α : Type} {f : α → List C} {A B : List (List C)} {l : List α} {k : Nat} {r r' : List C} (hA : A.length = k) : ((A ++ [r]) ++ B).set k r' = (A ++ [r']) ++ B := by
  rw [List.append_assoc, List.set_append_right _ _ (by omega), hA]; simp
theorem mid_get' {A B : List (List C)} {k : Nat} {r : List C} (hA : A.length = k) : ((A ++ [r]) ++ B)[k]? = some r := by
  rw [List.append_assoc, List.getElem?_append_right (by omega), hA]; simp
theorem set_get {A : List (List C)} {k : Nat} {r : List C} (h : k < A.length) : (A.set k r)[k]? = some r := by
  rw [List.getElem?_set_self h]

theorem mid_getE {A : List (List C)} {l : List Ex} {k : Nat} {x : Ex} (hA : A.length = k) (h : l[k]? = some x) : (A ++ (l.drop k).map Ex.cells)[k]? = some x.cs := by
  rw [mid_get hA h, Ex.cells_eq]
theorem mEx_e1 {f : Lf → Lf × Int} {e : Ex} (h : ¬ (f e.Lin).2 = 0) : mEx f e = .error (f e.Lin).2 := by rw [mEx_eq, fE_err h]
theorem mEx_e2 {f : Lf → Lf × Int} {e : Ex} {c : Int} (h : (f e.Lin).2 = 0) (h2 : mIxs f e.Idx = .error c) : mEx f e = .error c := by rw [mEx_eq, fE_ok h, h2]
theorem mEx_e3 {f : Lf → Lf × Int} {e : Ex} {c : Int} {i : List Ix} (h : (f e.Lin).2 = 0) (h2 : mIxs f e.Idx = .ok i) (h3 : mExs f e.Args = .error c) : mEx f e = .error c := by rw [mEx_eq, fE_ok h, h2, h3]
theorem mEx_ok {f : Lf → Lf × Int} {e : Ex} {i : List Ix} {a : List Ex} (h : (f e.Lin).2 = 0) (h2 : mIxs f e.Idx = .ok i) (h3 : mExs f e.Args = .ok a) : mEx f e = .ok (.mk e.Op e.Name e.Val e.Ty (f e.Lin).1 i a) := by rw [mEx_eq, fE_ok h, h2, h3]
theorem mIx_e1 {f : Lf → Lf × Int} {x : Ix} (h : ¬ (f x.Lin).2 = 0) : mIx f x = .error (f x.Lin).2 := by rw [mIx, fE_err h]
theorem mIx_e2 {f : Lf → Lf × Int} {x : Ix} {c : Int} (h : (f x.Lin).2 = 0) (h2 : mLins f x.At = .error c) : mIx f x = .error c := by rw [mIx, fE_ok h, h2]
theorem mIx_ok {f : Lf → Lf × Int} {x : Ix} {a : List Lf} (h : (f x.Lin).2 = 0) (h2 : mLins f x.At = .ok a) : mIx f x = .ok ⟨(f x.Lin).1, x.From, a⟩ := by rw [mIx, fE_ok h, h2]

end Go.Br
