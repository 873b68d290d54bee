/-
  What the rows of this seat need whose lists hold the table of powers of ten.
  Conditions: none.
-/
import Derived.Test.YtlfjpejkoccibaaGreatDoorBase
import Derived.Test.YtlfjpejkoccibaaGreatDoorCfgI
import Derived.JoinedCond
import Derived.DeepKeys2
namespace Go.Br
open Go Go.Eng Go.RowKit Go.ChangeShapes Go.WideShapes Go.ChangeAt Go.Proofs Go.Proofs.YtlfjpejkoccibaaGreatDoor Go.L41

abbrev theLaidI : List (String × DataW Unit) := [("math/bits.deBruijn32tab", Rows.laid_math_bits_deBruijn32tab), ("math/bits.deBruijn64tab", Rows.laid_math_bits_deBruijn64tab), ("internal/strconv.uint64pow10", Rows.laid_internal_strconv_uint64pow10), ("unicode.White_Space", Rows.laid_unicode_White_Space), ("strings.asciiSpace", Rows.laid_strings_asciiSpace)]
theorem gPowType : (Tryz.prog.globals[1]?).map (·.type) = some 242 := by kernel_rfl
theorem cellsPow : Tryz.prog.cellsOf 242 = 20 := by kernel_rfl
theorem cellsU64 : Tryz.prog.cellsOf 180 = 1 := by kernel_rfl
theorem pow_same : (Rows.laid_internal_strconv_uint64pow10 : DataW Unit) = Lib.tabData .u64 Lib.pow10Tab := by kernel_rfl
theorem tableI {W : World} (h : laidMetH Tryz.prog theLaidI W) : Lib.TabIs Tryz.prog W "strings.asciiSpace" .u8 Lib.asciiSpaceTab := by
  have h' : laidMet Tryz.prog theLaidI W := h
  have h2 := laid_tail (laid_tail (laid_tail (laid_tail h')))
  rw [laid_same] at h2
  exact Lib.tabIs_of_head (rest := []) gTab gTabType Tryz.underlying221 Tryz.underlying5 cellsU8 cellsTab h2
theorem tablePow {W : World} (h : laidMetH Tryz.prog theLaidI W) : Lib.TabIs Tryz.prog W "internal/strconv.uint64pow10" .u64 Lib.pow10Tab := by
  have h' : laidMet Tryz.prog theLaidI W := h
  have h2 := laid_tail (laid_tail h')
  rw [pow_same] at h2
  exact Lib.tabIs_of_head (rest := [("unicode.White_Space", Rows.laid_unicode_White_Space), ("strings.asciiSpace", Rows.laid_strings_asciiSpace)]) gPow gPowType Tryz.underlying242 Tryz.underlying180 cellsU64 cellsPow h2
theorem pow_len : 0 < Lib.pow10Tab.length := by decide +kernel
theorem heap0I {W : World} (h : laidMetH Tryz.prog theLaidI W) : Heap cfgI W (fun b => b < W.heap.size) [] := by
  refine ⟨?_, ⟨tableI h, tablePow h⟩, by simp [blocksOf], fun b hb => by simp [blocksOf] at hb, fun b hb => hb, fun e he => by simp at he, fun e he => by simp at he⟩
  have h1 := World.block_lt_of_cell? W _ ((tableI h).cell gTab 0 tab_len)
  have h2 := World.block_lt_of_cell? W _ ((tablePow h).cell gPow 0 pow_len)
  exact Nat.max_le.2 ⟨h1, h2⟩
def datumV : DataW Unit → Array Value
  | .agg l => (l.map fun | .lit v => Lit.toCell v | _ => .nilFunc).toArray
  | _ => #[]
noncomputable def laidWorldI (os : Os) : World :=
  let w0 := laidWorld os
  let put (h : Array Obj) (g : Nat) (cs : Array Value) : Array Obj := h.modify g fun
    | .cells _ t frozen => .cells cs t frozen
    | o => o
  let h1 := put w0.heap 3 (datumV Rows.laid_math_bits_deBruijn32tab)
  let h2 := put h1 4 (datumV Rows.laid_math_bits_deBruijn64tab)
  let h3 := put h2 1 (datumV Rows.laid_internal_strconv_uint64pow10)
  { w0 with heap := h3 }
theorem laid_metI (os : Os) (args : Array Value) : laidMet Tryz.prog theLaidI ((laidWorldI os).forCall (fun _ _ => 0) ⟨#[], args, []⟩).memory :=
  laidMet_of_run' 8 (by kernel_rfl) (by kernel_rfl)
end Go.Br
