/-
  The program's configuration: the table of opcodes holds what its initialiser lays.
  Conditions: none.
-/
import Derived.Test.YtmmiedgoamlhpaaDoorNames
import Derived.Test.YtmmiedgoamlhpaaDoorProg
import Derived.Lib.LaidTab
import Derived.KernelRfl
namespace Go.L41
open Go Go.Eng Go.RowKit Go.Proofs

theorem gOps : Tryd.prog.globalNamed "brocade/isa.opcodes" = some 0 := by kernel_rfl
def opRow (s : List UInt8) (l : List Int) : List Value := .string (bs s) :: l.map fun n => .int .i64 n
def opCells : List Value := [opRow [104, 97, 108, 116] [0, 0, 0, 0, 0], opRow [105, 110, 116] [1, 8, 0, 0, 0], opRow [109, 111, 118, 101] [1, 2, 0, 0, 0], opRow [97, 100, 100] [1, 2, 3, 0, 0], opRow [109, 117, 108] [1, 2, 9, 0, 0], opRow [109, 105, 110] [1, 2, 3, 0, 0], opRow [109, 97, 120] [1, 2, 3, 0, 0], opRow [106, 117, 109, 112] [7, 0, 0, 0, 0], opRow [106, 108, 116] [7, 2, 3, 0, 0], opRow [99, 111, 110, 115, 116] [4, 14, 0, 0, 0], opRow [108, 111, 97, 100] [4, 2, 10, 11, 0], opRow [115, 116, 111, 114, 101] [4, 2, 10, 11, 0], opRow [111, 112] [15, 4, 5, 6, 17], opRow [99, 97, 115, 116] [4, 5, 12, 17, 0], opRow [116, 101, 115, 116] [16, 7, 5, 6, 17], opRow [116, 111, 105, 110, 116] [1, 5, 13, 0, 0], opRow [102, 114, 111, 109, 105, 110, 116] [4, 2, 0, 0, 0]].flatten
def OpsIs (w : World) : Prop := w.var? Tryd.prog "brocade/isa.opcodes" = some opCells.toArray
theorem ops_kept (w w' : World) (h : ∀ b, b < 0 + 1 → w'.heap[b]? = w.heap[b]?) (k : OpsIs w) : OpsIs w' := by
  unfold OpsIs World.var? at *
  rw [gOps] at *
  simp only [Option.bind_some] at *
  rw [h _ (by omega)]
  exact k
noncomputable def cfg : Cfg := ⟨Tryd.prog, 0 + 1, OpsIs, ops_kept⟩
theorem ops_cell {w : World} (h : OpsIs w) {i : Nat} {u : Value} (hu : opCells[i]? = some u) : w.cell? ⟨0, i, none⟩ = some u := by
  have := World.var?_cell gOps h i
  rw [this]
  simpa using hu
/-- What stands in the table for an opcode. -/
def kTab : List (List Int) := [[0, 0, 0, 0, 0], [1, 8, 0, 0, 0], [1, 2, 0, 0, 0], [1, 2, 3, 0, 0], [1, 2, 9, 0, 0], [1, 2, 3, 0, 0], [1, 2, 3, 0, 0], [7, 0, 0, 0, 0], [7, 2, 3, 0, 0], [4, 14, 0, 0, 0], [4, 2, 10, 11, 0], [4, 2, 10, 11, 0], [15, 4, 5, 6, 17], [4, 5, 12, 17, 0], [16, 7, 5, 6, 17], [1, 5, 13, 0, 0], [4, 2, 0, 0, 0]]
theorem tab_at (i : Nat) (hi : i < 17) (j : Nat) (hj : j < 5) : opCells[0 + i * 6 + 1 + j]? = (((kTab.getD i []).map fun n => Value.int .i64 n)[j]?) := by
  have h1 : i = 0 ∨ i = 1 ∨ i = 2 ∨ i = 3 ∨ i = 4 ∨ i = 5 ∨ i = 6 ∨ i = 7 ∨ i = 8 ∨ i = 9 ∨ i = 10 ∨ i = 11 ∨ i = 12 ∨ i = 13 ∨ i = 14 ∨ i = 15 ∨ i = 16 := by omega
  have h2 : j = 0 ∨ j = 1 ∨ j = 2 ∨ j = 3 ∨ j = 4 := by omega
  rcases h1 with rfl | rfl | rfl | rfl | rfl | rfl | rfl | rfl | rfl | rfl | rfl | rfl | rfl | rfl | rfl | rfl | rfl <;> rcases h2 with rfl | rfl | rfl | rfl | rfl <;> rfl
theorem tab_len : ∀ i, i < 17 → (kTab.getD i []).length = 5 := by decide +kernel
theorem ops_row {op : Int} (h0 : 0 ≤ op) (h : op < 17) (w : World) (hw : cfg.G w) (j : Nat) (u : Value) (hu : ((kTab.getD op.toNat []).map fun n => Value.int .i64 n)[j]? = some u) : w.cell? ⟨0, 0 + op.toNat * 6 + 1 + j, none⟩ = some u := by
  have hj : j < 5 := by
    have := (List.getElem?_eq_some_iff.1 hu).1
    rw [List.length_map, tab_len op.toNat (by omega)] at this
    exact this
  exact ops_cell hw (by rw [tab_at op.toNat (by omega) j hj]; exact hu)
theorem ops_len {op : Int} (h0 : 0 ≤ op) (h : op < 17) : ((kTab.getD op.toNat []).map fun n => Value.int .i64 n).length = 5 := by
  rw [List.length_map]; exact tab_len _ (by omega)
theorem ops_one {l : List Int} : (l.map fun n => Value.int .i64 n).all Value.oneCell' = true := by
  rw [List.all_map, List.all_eq_true]; intro x _; rfl
end Go.L41
