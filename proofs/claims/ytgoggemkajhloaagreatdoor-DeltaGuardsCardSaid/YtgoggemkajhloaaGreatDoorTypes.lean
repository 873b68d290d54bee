/-
  The program's data, in plain Lean: linear forms, indices, expressions; and the cells that hold them.
  Conditions: none.
-/
import Derived.Test.YtgoggemkajhloaaGreatDoorEngP
import Derived.Test.YtgoggemkajhloaaGreatDoorNames
namespace Go.Br
open Go Go.Eng Go.L41

structure Mono where
  Name : ByteArray
  By : Int
  deriving DecidableEq

structure Lf where
  K : Int
  L : List Mono
  deriving DecidableEq

structure Vl where
  N : Int
  D : Int
  deriving DecidableEq

structure Ty where
  Kind : Int
  Bits : Int
  Frac : Int
  Round : Int
  Over : Int
  deriving DecidableEq

structure Ix where
  Lin : Lf
  From : ByteArray
  At : List Lf
  deriving DecidableEq

inductive Ex where
  | mk (op : Int) (name : ByteArray) (val : Vl) (ty : Ty) (lin : Lf) (idx : List Ix) (args : List Ex)

namespace Ex
def Op : Ex → Int | mk o _ _ _ _ _ _ => o
def Name : Ex → ByteArray | mk _ x _ _ _ _ _ => x
def Val : Ex → Vl | mk _ _ x _ _ _ _ => x
def Ty : Ex → Br.Ty | mk _ _ _ x _ _ _ => x
def Lin : Ex → Lf | mk _ _ _ _ x _ _ => x
def Idx : Ex → List Ix | mk _ _ _ _ _ x _ => x
def Args : Ex → List Ex | mk _ _ _ _ _ _ x => x

theorem eta (e : Ex) : e = mk e.Op e.Name e.Val e.Ty e.Lin e.Idx e.Args := by cases e; rfl

theorem ind {P : Ex → Prop} (h : ∀ e : Ex, (∀ a, a ∈ e.Args → P a) → P e) (e : Ex) : P e :=
  Ex.rec (motive_1 := P) (motive_2 := fun l => ∀ a, a ∈ l → P a) (fun o n v t l i as ih => h (mk o n v t l i as) ih) (fun a h => by cases h)
    (fun x l hx hl a ha => by rcases List.mem_cons.1 ha with rfl | ha; exact hx; exact hl a ha) e
end Ex

mutual
def Ex.eqB : Ex → Ex → Bool
  | .mk o n v t l i as, .mk o' n' v' t' l' i' bs => decide (o = o') && decide (n = n') && decide (v = v') && decide (t = t') && decide (l = l') && decide (i = i') && eqBs as bs
def eqBs : List Ex → List Ex → Bool
  | [], [] => true
  | a :: as, b :: bs => Ex.eqB a b && eqBs as bs
  | _, _ => false
end

mutual
theorem Ex.eqB_iff : ∀ a b : Ex, Ex.eqB a b = true ↔ a = b
  | .mk o n v t l i as, .mk o' n' v' t' l' i' bs => by
    simp only [Ex.eqB, Bool.and_eq_true, decide_eq_true_eq, eqBs_iff as bs, Ex.mk.injEq]
    constructor
    · rintro ⟨⟨⟨⟨⟨⟨h1, h2⟩, h3⟩, h4⟩, h5⟩, h6⟩, h7⟩; exact ⟨h1, h2, h3, h4, h5, h6, h7⟩
    · rintro ⟨h1, h2, h3, h4, h5, h6, h7⟩; exact ⟨⟨⟨⟨⟨⟨h1, h2⟩, h3⟩, h4⟩, h5⟩, h6⟩, h7⟩
theorem eqBs_iff : ∀ a b : List Ex, eqBs a b = true ↔ a = b
  | [], [] => by simp [eqBs]
  | a :: as, b :: bs => by simp only [eqBs, Bool.and_eq_true, Ex.eqB_iff a b, eqBs_iff as bs, List.cons.injEq]
  | [], _ :: _ => by simp [eqBs]
  | _ :: _, [] => by simp [eqBs]
end

instance : DecidableEq Ex := fun a b => decidable_of_iff _ (Ex.eqB_iff a b)

theorem Ex.eq_iff (a b : Ex) : a = b ↔ a.Op = b.Op ∧ a.Name = b.Name ∧ a.Val = b.Val ∧ a.Ty = b.Ty ∧ a.Lin = b.Lin ∧ a.Idx = b.Idx ∧ a.Args = b.Args := by
  cases a; cases b; simp only [Ex.mk.injEq]; rfl

def Mono.cells (x : Mono) : List C := [cS x.Name, cI x.By]
def Lf.cells (x : Lf) : List C := [cI x.K, .sl 2 (x.L.map Mono.cells)]
def Ix.cells (x : Ix) : List C := [cI x.Lin.K, .sl 2 (x.Lin.L.map Mono.cells), cS x.From, .sl 2 (x.At.map Lf.cells)]
def Vl.cells (v : Vl) : List C := [cI v.N, cI v.D]

mutual
def Ex.cells : Ex → List C
  | .mk o n v t l i as => [cI o, cS n, cI v.N, cI v.D, cI t.Kind, cI t.Bits, cI t.Frac, cI t.Round, cI t.Over, cI l.K, .sl 2 (l.L.map Mono.cells), .sl 4 (i.map Ix.cells), .sl 13 (cellsL as)]
def cellsL : List Ex → List (List C)
  | [] => []
  | e :: r => e.cells :: cellsL r
end

theorem cellsL_eq (l : List Ex) : cellsL l = l.map Ex.cells := by
  induction l with
  | nil => rfl
  | cons e r ih => rw [cellsL, ih]; rfl

/-- The cells of an expression, spelled out. -/
def Ex.cs (e : Ex) : List C := [cI e.Op, cS e.Name, cI e.Val.N, cI e.Val.D, cI e.Ty.Kind, cI e.Ty.Bits, cI e.Ty.Frac, cI e.Ty.Round, cI e.Ty.Over, cI e.Lin.K, .sl 2 (e.Lin.L.map Mono.cells), .sl 4 (e.Idx.map Ix.cells), .sl 13 (e.Args.map Ex.cells)]

theorem Ex.cells_eq (e : Ex) : e.cells = e.cs := by
  cases e; rw [Ex.cells, cellsL_eq]; rfl

abbrev vMono (x : Mono) : V := .agg x.cells
abbrev vMonos (l : List Mono) : V := .c (.sl 2 (l.map Mono.cells))
abbrev vLin (x : Lf) : V := .agg x.cells
abbrev vLins (l : List Lf) : V := .c (.sl 2 (l.map Lf.cells))
abbrev vIndex (x : Ix) : V := .agg x.cells
abbrev vIndices (l : List Ix) : V := .c (.sl 4 (l.map Ix.cells))
abbrev vE (x : Ex) : V := .agg x.cs
abbrev vEs (l : List Ex) : V := .c (.sl 13 (l.map Ex.cells))
abbrev vTy (t : Ty) : V := .agg [cI t.Kind, cI t.Bits, cI t.Frac, cI t.Round, cI t.Over]
abbrev vVal (v : Vl) : V := .agg [cI v.N, cI v.D]
abbrev vU64 (n : Int) : V := .c (.lit (.int .u64 n))
abbrev vUint (n : Int) : V := .c (.lit (.int .u64 n))

/-- An expression read out of a list. -/
theorem getmE {l : List Ex} {k : Nat} {x : Ex} (h : l[k]? = some x) : (l.map Ex.cells)[k]? = some x.cs := by
  rw [getm h, Ex.cells_eq]

theorem map_cs (l : List Ex) : l.map Ex.cs = l.map Ex.cells := by simp [Ex.cells_eq]

/-! ## Sizes -/
def linsWt : List Lf → Nat
  | [] => 0
  | l :: r => l.L.length + linsWt r
def Ix.wt (x : Ix) : Nat := x.Lin.L.length + x.At.length + linsWt x.At
def idxWt : List Ix → Nat
  | [] => 0
  | x :: r => x.wt + idxWt r
mutual
def Ex.wt : Ex → Nat
  | .mk _ _ _ _ l i as => 1 + l.L.length + i.length + idxWt i + argsWt as
def argsWt : List Ex → Nat
  | [] => 0
  | e :: r => e.wt + argsWt r
end

theorem Ex.wt_eq (e : Ex) : e.wt = 1 + e.Lin.L.length + e.Idx.length + idxWt e.Idx + argsWt e.Args := by cases e; rw [Ex.wt]; rfl

theorem Ex.wt_pos (e : Ex) : 1 ≤ e.wt := by rw [Ex.wt_eq]; omega

theorem argsWt_mem {l : List Ex} {a : Ex} (h : a ∈ l) : a.wt + (l.length - 1) ≤ argsWt l := by
  induction l with
  | nil => cases h
  | cons x r ih =>
    rw [argsWt]
    rcases List.mem_cons.1 h with rfl | h
    · have : r.length ≤ argsWt r := by
        clear ih h
        induction r with
        | nil => simp [argsWt]
        | cons y r ih => rw [argsWt, List.length_cons]; have := y.wt_pos; omega
      simp; omega
    · have := ih h
      have := x.wt_pos
      have : 0 < r.length := List.length_pos_of_mem h
      simp; omega

theorem argsWt_len (l : List Ex) : l.length ≤ argsWt l := by
  induction l with
  | nil => simp [argsWt]
  | cons y r ih => rw [argsWt, List.length_cons]; have := y.wt_pos; omega

theorem linsWt_mem {l : List Lf} {a : Lf} (h : a ∈ l) : a.L.length ≤ linsWt l := by
  induction l with
  | nil => cases h
  | cons x r ih =>
    rw [linsWt]
    rcases List.mem_cons.1 h with rfl | h
    · omega
    · have := ih h; omega

theorem idxWt_mem {l : List Ix} {a : Ix} (h : a ∈ l) : a.wt ≤ idxWt l := by
  induction l with
  | nil => cases h
  | cons x r ih =>
    rw [idxWt]
    rcases List.mem_cons.1 h with rfl | h
    · omega
    · have := ih h; omega

/-- The parts of a small expression are small. -/
theorem Ex.parts {e : Ex} {B : Nat} (h : e.wt ≤ B) : e.Lin.L.length ≤ B ∧ e.Idx.length ≤ B ∧ e.Args.length ≤ B := by
  rw [Ex.wt_eq] at h
  have := argsWt_len e.Args
  omega

theorem Ex.arg_wt {e a : Ex} (h : a ∈ e.Args) : a.wt < e.wt := by
  rw [Ex.wt_eq e]
  have := argsWt_mem h
  omega

theorem Ex.idx_wt {e : Ex} {x : Ix} (h : x ∈ e.Idx) : x.Lin.L.length ≤ e.wt ∧ x.At.length ≤ e.wt ∧ linsWt x.At ≤ e.wt := by
  rw [Ex.wt_eq e]
  have := idxWt_mem h
  unfold Ix.wt at this
  omega

/-- The bound of all contracts. -/
abbrev BB : Nat := 4294967296

/-! ## Lists, element by element -/
theorem drop_cons {α : Type} {l : List α} {k : Nat} {x : α} (h : l[k]? = some x) : l.drop k = x :: l.drop (k + 1) := by
  have hk : k < l.length := (List.getElem?_eq_some_iff.1 h).1
  rw [List.drop_eq_getElem_cons hk]
  rw [List.getElem?_eq_getElem hk] at h
  simp at h
  rw [h]

theorem drop_end {α : Type} {l : List α} {k : Nat} (h : ¬ k < l.length) : l.drop k = [] := List.drop_of_length_le (by omega)

theorem take_eq_next {α : Type} {a b : List α} {k : Nat} {x y : α} (hx : a[k]? = some x) (hy : b[k]? = some y) (h : a.take k = b.take k) (e : x = y) : a.take (k + 1) = b.take (k + 1) := by
  rw [take_next hx, take_next hy, h, e]

theorem eq_of_take {α : Type} {a b : List α} {k : Nat} (h : a.take k = b.take k) (h1 : ¬ k < a.length) (h2 : a.length = b.length) : a = b := by
  rw [take_all h1, take_all (by omega)] at h
  exact h

theorem ne_of_get {α : Type} {a b : List α} {k : Nat} {x y : α} (hx : a[k]? = some x) (hy : b[k]? = some y) (h : ¬ x = y) : ¬ a = b := by
  rintro rfl
  rw [hx] at hy
  exact h (Option.some.inj hy)

theorem dec_false {p : Prop} [Decidable p] (h : ¬ p) : decide p = false := decide_eq_false h
theorem dec_true {p : Prop} [Decidable p] (h : p) : decide p = true := decide_eq_true h

theorem mem_of_get {α : Type} {l : List α} {k : Nat} {x : α} (h : l[k]? = some x) : x ∈ l := List.mem_of_getElem? h

end Go.Br
