/-
  The program's data, in plain Lean: linear forms, indices, expressions; and the cells that hold them.
  Conditions: none.
-/
import Derived.Test.YtmmiedgoamlhpaaDoorEngY
import Derived.Test.YtmmiedgoamlhpaaDoorNames
namespace Go.Br
open Go Go.Eng Go.L41

structure Mono where
  Name : ByteArray
  By : Int
  deriving DecidableEq

structure Lf where
  K : Int
  L : List Mono
  deriving DecidableEq

structure Vl where
  N : Int
  D : Int
  deriving DecidableEq

structure Ty where
  Kind : Int
  Bits : Int
  Frac : Int
  Round : Int
  Over : Int
  deriving DecidableEq

structure Ix where
  Lin : Lf
  From : ByteArray
  At : List Lf
  deriving DecidableEq

inductive Ex where
  | mk (op : Int) (name : ByteArray) (val : Vl) (ty : Ty) (lin : Lf) (idx : List Ix) (args : List Ex)

namespace Ex
def Op : Ex → Int | mk o _ _ _ _ _ _ => o
def Name : Ex → ByteArray | mk _ x _ _ _ _ _ => x
def Val : Ex → Vl | mk _ _ x _ _ _ _ => x
def Ty : Ex → Br.Ty | mk _ _ _ x _ _ _ => x
def Lin : Ex → Lf | mk _ _ _ _ x _ _ => x
def Idx : Ex → List Ix | mk _ _ _ _ _ x _ => x
def Args : Ex → List Ex | mk _ _ _ _ _ _ x => x

end Ex

mutual
def Ex.eqB : Ex → Ex → Bool
  | .mk o n v t l i arg_, .mk o' n' v' t' l' i' bs => decide (o = o') && decide (n = n') && decide (v = v') && decide (t = t') && decide (l = l') && decide (i = i') && eqBs arg_ bs
def eqBs : List Ex → List Ex → Bool
  | [], [] => true
  | a :: arg_, b :: bs => Ex.eqB a b && eqBs arg_ bs
  | _, _ => false
end

mutual
theorem Ex.eqB_iff : ∀ a b : Ex, Ex.eqB a b = true ↔ a = b
  | .mk o n v t l i arg_, .mk o' n' v' t' l' i' bs => by
    simp only [Ex.eqB, Bool.and_eq_true, decide_eq_true_eq, eqBs_iff arg_ bs, Ex.mk.injEq]
    constructor
    · rintro ⟨⟨⟨⟨⟨⟨h1, h2⟩, h3⟩, h4⟩, h5⟩, h6⟩, h7⟩; exact ⟨h1, h2, h3, h4, h5, h6, h7⟩
    · rintro ⟨h1, h2, h3, h4, h5, h6, h7⟩; exact ⟨⟨⟨⟨⟨⟨h1, h2⟩, h3⟩, h4⟩, h5⟩, h6⟩, h7⟩
theorem eqBs_iff : ∀ a b : List Ex, eqBs a b = true ↔ a = b
  | [], [] => by simp [eqBs]
  | a :: arg_, b :: bs => by simp only [eqBs, Bool.and_eq_true, Ex.eqB_iff a b, eqBs_iff arg_ bs, List.cons.injEq]
  | [], _ :: _ => by simp [eqBs]
  | _ :: _, [] => by simp [eqBs]
end

instance : DecidableEq Ex := fun a b => decidable_of_iff _ (Ex.eqB_iff a b)

def Mono.cells (x : Mono) : List C := [cS x.Name, cI x.By]
def Lf.cells (x : Lf) : List C := [cI x.K, .sl 2 (x.L.map Mono.cells)]
def Ix.cells (x : Ix) : List C := [cI x.Lin.K, .sl 2 (x.Lin.L.map Mono.cells), cS x.From, .sl 2 (x.At.map Lf.cells)]
def Vl.cells (v : Vl) : List C := [cI v.N, cI v.D]

mutual
def Ex.cells : Ex → List C
  | .mk o n v t l i arg_ => [cI o, cS n, cI v.N, cI v.D, cI t.Kind, cI t.Bits, cI t.Frac, cI t.Round, cI t.Over, cI l.K, .sl 2 (l.L.map Mono.cells), .sl 4 (i.map Ix.cells), .sl 13 (cellsL arg_)]
def cellsL : List Ex → List (List C)
  | [] => []
  | e :: r => e.cells :: cellsL r
end

/-- The cells of an expression, spelled out. -/
def Ex.cs (e : Ex) : List C := [cI e.Op, cS e.Name, cI e.Val.N, cI e.Val.D, cI e.Ty.Kind, cI e.Ty.Bits, cI e.Ty.Frac, cI e.Ty.Round, cI e.Ty.Over, cI e.Lin.K, .sl 2 (e.Lin.L.map Mono.cells), .sl 4 (e.Idx.map Ix.cells), .sl 13 (e.Args.map Ex.cells)]

abbrev vTy (t : Ty) : V := .agg [cI t.Kind, cI t.Bits, cI t.Frac, cI t.Round, cI t.Over]
abbrev vVal (v : Vl) : V := .agg [cI v.N, cI v.D]
abbrev vU64 (n : Int) : V := .c (.lit (.int .u64 n))
def linsWt : List Lf → Nat
  | [] => 0
  | l :: r => l.L.length + linsWt r
def Ix.wt (x : Ix) : Nat := x.Lin.L.length + x.At.length + linsWt x.At
def idxWt : List Ix → Nat
  | [] => 0
  | x :: r => x.wt + idxWt r
mutual
def Ex.wt : Ex → Nat
  | .mk _ _ _ _ l i arg_ => 1 + l.L.length + i.length + idxWt i + argsWt arg_
def argsWt : List Ex → Nat
  | [] => 0
  | e :: r => e.wt + argsWt r
end

theorem Ex.wt_eq (e : Ex) : e.wt = 1 + e.Lin.L.length + e.Idx.length + idxWt e.Idx + argsWt e.Args := by cases e; rw [Ex.wt]; rfl

theorem Ex.wt_pos (e : Ex) : 1 ≤ e.wt := by rw [Ex.wt_eq]; omega

theorem argsWt_len (l : List Ex) : l.length ≤ argsWt l := by
  induction l with
  | nil => simp [argsWt]
  | cons y r ih => rw [argsWt, List.length_cons]; have := y.wt_pos; omega

/-- The parts of a small expression are small. -/
theorem Ex.parts {e : Ex} {B : Nat} (h : e.wt ≤ B) : e.Lin.L.length ≤ B ∧ e.Idx.length ≤ B ∧ e.Args.length ≤ B := by
  rw [Ex.wt_eq] at h
  have := argsWt_len e.Args
  omega

theorem drop_cons {α : Type} {l : List α} {k : Nat} {x : α} (h : l[k]? = some x) : l.drop k = x :: l.drop (k + 1) := by
  have hk : k < l.length := (List.getElem?_eq_some_iff.1 h).1
  rw [List.drop_eq_getElem_cons hk]
  rw [List.getElem?_eq_getElem hk] at h
  simp at h
  rw [h]

theorem dec_false {p : Prop} [Decidable p] (h : ¬ p) : decide p = false := decide_eq_false h
theorem mem_of_get {α : Type} {l : List α} {k : Nat} {x : α} (h : l[k]? = some x) : x ∈ l := List.mem_of_getElem? h

end Go.Br
