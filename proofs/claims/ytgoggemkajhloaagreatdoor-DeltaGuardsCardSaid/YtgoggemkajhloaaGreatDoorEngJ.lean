/-
  The engine, part J: short words, arithmetic that does not wrap, lists.
  Conditions: none; plain definitions and theorems over any program.
-/
import Derived.Test.YtgoggemkajhloaaGreatDoorEngI
import Derived.IntWalk
namespace Go.Eng
open Go Go.RowKit

abbrev vI (n : Int) : V := .c (.lit (.int .i64 n))
abbrev vB (b : Bool) : V := .c (.lit (.bool b))
abbrev vS (s : ByteArray) : V := .c (.lit (.string s))
abbrev cI (n : Int) : C := .lit (.int .i64 n)
abbrev cB (b : Bool) : C := .lit (.bool b)
abbrev cS (s : ByteArray) : C := .lit (.string s)

theorem VLe.un (x : V) : VLe x .un := fun _ _ _ _ => trivial

def In64 (n : Int) : Prop := -9223372036854775808 ≤ n ∧ n ≤ 9223372036854775807

theorem wrap_in {n : Int} (h : In64 n) : IntKind.i64.wrap n = n := by
  unfold In64 at h
  exact IntWalk.i64_in n h

section nw
variable {X : Cfg} {o : Oper} {e : Operand → V} {μ : List E} {t ty : TypeId} {x y : Operand} {a b : Int}
theorem det_add_nw (ho : o.op = .binOp .add t x y ty) (hx : e x = .c (.lit (.int .i64 a))) (hy : e y = .c (.lit (.int .i64 b))) (h : In64 (a + b)) : Det X o e μ (.c (.lit (.int .i64 (a + b)))) μ := by
  have := det_add (X := X) (μ := μ) ho hx hy
  rwa [wrap_in h] at this
theorem det_sub_nw (ho : o.op = .binOp .sub t x y ty) (hx : e x = .c (.lit (.int .i64 a))) (hy : e y = .c (.lit (.int .i64 b))) (h : In64 (a - b)) : Det X o e μ (.c (.lit (.int .i64 (a - b)))) μ := by
  have := det_sub (X := X) (μ := μ) ho hx hy
  rwa [wrap_in h] at this
theorem det_mul_nw (ho : o.op = .binOp .mul t x y ty) (hx : e x = .c (.lit (.int .i64 a))) (hy : e y = .c (.lit (.int .i64 b))) (h : In64 (a * b)) : Det X o e μ (.c (.lit (.int .i64 (a * b)))) μ := by
  have := det_mul (X := X) (μ := μ) ho hx hy
  rwa [wrap_in h] at this
end nw

theorem getm {α β : Type} {f : α → β} {l : List α} {k : Nat} {x : α} (h : l[k]? = some x) : (l.map f)[k]? = some (f x) := by
  rw [List.getElem?_map, h]; rfl

theorem ex_get {α : Type} (l : List α) (k : Nat) (h : k < l.length) : ∃ x, l[k]? = some x := ⟨l[k], List.getElem?_eq_getElem h⟩

theorem take_next {α : Type} {l : List α} {k : Nat} {x : α} (h : l[k]? = some x) : l.take (k + 1) = l.take k ++ [x] := by
  have hlt := (List.getElem?_eq_some_iff.1 h).1
  rw [List.take_succ_eq_append_getElem hlt, (List.getElem?_eq_some_iff.1 h).2]

theorem take_all {α : Type} {l : List α} {k : Nat} (h : ¬ k < l.length) : l.take k = l := List.take_of_length_le (by omega)

end Go.Eng
