/-
  DERIVED: THE SHELF's CONTRACTS AT THIS DUMP, IN PLAIN WORDS (tools/lay-plain.mjs out of 'TryzShelfA.lean', which tools/lay-shelf.mjs wrote): THE SAME DECLARATIONS UNDER THE SAME NAMES: 'import', 'namespace', 'open', 'def', 'theorem' AND NOTHING ELSE: no command of the shelf's: FOR A HAND-IN. Each laying: the table of numbers ('.._ren') and one theorem, a field a fact of the dump's own or the kernel's comparison; each contract: ONE APPLICATION.
-/
import Derived.Shelf.Small.Bits
import Derived.Shelf.Small.Strs
import Derived.Shelf.Strconv.Itoa0
import Derived.Shelf.Sort.Plain
import Derived.Shelf.Strings.Fields
import Derived.Shelf.LaysM
import Derived.Shelf.Strings.SplitShaped
import Derived.Ground.Names2Prog
import Derived.Shelf.Slices.Clone
import Derived.Shelf.Slices.CompactS
import Derived.Shelf.Slices.SearchI
import Derived.Shelf.Slices.Cells
import Derived.Shelf.Slices.In.SortNone
import Derived.Ground.SlgnProg
import Derived.Shelf.SlicesE.Clone
import Derived.Test.YtkijgodlhljgdaaGreatDoorProg
namespace Go.Proofs
open Go.Shelf
def Tryz.lays106_ren : Go.Shelf.Ren := ⟨fun | 106 => 250 | 213 => 284 | 265 => 298 | n => n, fun | 9 => 9 | 3 => 3 | n => n, fun | n => n⟩
theorem Tryz.lays106 : Go.Proofs.Lays.n106 Tryz.prog Tryz.lays106_ren := {
  mixed := by kernel_rfl
  f106 := Tryz.func250.trans (congrArg some (by kernel_rfl))
  f213 := Tryz.func284.trans (congrArg some (by kernel_rfl))
  f265 := Tryz.func298.trans (congrArg some (by kernel_rfl))
  t3 := Tryz.underlying3
  a3 := Tryz.isAgg3
  z3 := Tryz.sizeOf3
  v3 := Tryz.zeroValue3
  t9 := Tryz.underlying9
  a9 := Tryz.isAgg9
  z9 := Tryz.sizeOf9
  v9 := Tryz.zeroValue9 }
open Go.RowKit in
theorem Tryz.strings_Compare (a b : ByteArray) (w : World) :
    Calls Tryz.prog 250 #[.string a, .string b] w fun e w' => e = .returned (.int .i64 (Lib.compareBytes a.data.toList b.data.toList)) ∧ w' = w := Any.strings_Compare Tryz.lays106 a b w
def Tryz.lays157_ren : Go.Shelf.Ren := ⟨fun | 157 => 293 | 229 => 300 | 199 => 301 | 261 => 303 | 311 => 304 | 312 => 305 | n => n, fun | 9 => 9 | 31 => 22 | 3 => 3 | 5 => 5 | 4 => 4 | 119 => 272 | 0 => 0 | 40 => 207 | 152 => 276 | 21 => 21 | 154 => 278 | 51 => 228 | 141 => 280 | 196 => 284 | 193 => 281 | 198 => 287 | 49 => 285 | 194 => 282 | 201 => 290 | 226 => 292 | 46 => 198 | 227 => 293 | n => n, fun | 0 => 1 | 6 => 2 | n => n⟩
theorem Tryz.lays157 : Go.Proofs.Lays.n157 Tryz.prog Tryz.lays157_ren := {
  mixed := by kernel_rfl
  f157 := Tryz.func293.trans (congrArg some (by kernel_rfl))
  f199 := Tryz.func301.trans (congrArg some (by kernel_rfl))
  f229 := Tryz.func300.trans (congrArg some (by kernel_rfl))
  f261 := Tryz.func303.trans (congrArg some (by kernel_rfl))
  f311 := Tryz.func304.trans (congrArg some (by kernel_rfl))
  f312 := Tryz.func305.trans (congrArg some (by kernel_rfl))
  t0 := Tryz.underlying0
  a0 := Tryz.isAgg0
  z0 := Tryz.sizeOf0
  v0 := Tryz.zeroValue0
  t3 := Tryz.underlying3
  a3 := Tryz.isAgg3
  z3 := Tryz.sizeOf3
  v3 := Tryz.zeroValue3
  t4 := Tryz.underlying4
  a4 := Tryz.isAgg4
  z4 := Tryz.sizeOf4
  v4 := Tryz.zeroValue4
  t5 := Tryz.underlying5
  a5 := Tryz.isAgg5
  z5 := Tryz.sizeOf5
  v5 := Tryz.zeroValue5
  t9 := Tryz.underlying9
  a9 := Tryz.isAgg9
  z9 := Tryz.sizeOf9
  v9 := Tryz.zeroValue9
  t21 := Tryz.underlying21
  a21 := Tryz.isAgg21
  z21 := Tryz.sizeOf21
  v21 := Tryz.zeroValue21
  t31 := Tryz.underlying22
  a31 := Tryz.isAgg22
  z31 := Tryz.sizeOf22
  v31 := Tryz.zeroValue22
  t40 := Tryz.underlying207
  a40 := Tryz.isAgg207
  z40 := Tryz.sizeOf207
  v40 := Tryz.zeroValue207
  t46 := Tryz.underlying198
  a46 := Tryz.isAgg198
  z46 := Tryz.sizeOf198
  v46 := Tryz.zeroValue198
  t49 := Tryz.underlying285
  a49 := Tryz.isAgg285
  z49 := Tryz.sizeOf285
  v49 := Tryz.zeroValue285
  t51 := Tryz.underlying228
  a51 := Tryz.isAgg228
  z51 := Tryz.sizeOf228
  v51 := Tryz.zeroValue228
  t119 := Tryz.underlying272
  a119 := Tryz.isAgg272
  z119 := Tryz.sizeOf272
  t141 := Tryz.underlying280
  a141 := Tryz.isAgg280
  z141 := Tryz.sizeOf280
  v141 := Tryz.zeroValue280
  t152 := Tryz.underlying276
  a152 := Tryz.isAgg276
  z152 := Tryz.sizeOf276
  v152 := Tryz.zeroValue276
  t154 := Tryz.underlying278
  a154 := Tryz.isAgg278
  z154 := Tryz.sizeOf278
  v154 := Tryz.zeroValue278
  t193 := Tryz.underlying281
  a193 := Tryz.isAgg281
  z193 := Tryz.sizeOf281
  v193 := Tryz.zeroValue281
  t194 := Tryz.underlying282
  a194 := Tryz.isAgg282
  z194 := Tryz.sizeOf282
  v194 := Tryz.zeroValue282
  t196 := Tryz.underlying284
  a196 := Tryz.isAgg284
  z196 := Tryz.sizeOf284
  v196 := Tryz.zeroValue284
  t198 := Tryz.underlying287
  a198 := Tryz.isAgg287
  z198 := Tryz.sizeOf287
  v198 := Tryz.zeroValue287
  t201 := Tryz.underlying290
  a201 := Tryz.isAgg290
  z201 := Tryz.sizeOf290
  v201 := Tryz.zeroValue290
  t226 := Tryz.underlying292
  a226 := Tryz.isAgg292
  z226 := Tryz.sizeOf292
  v226 := Tryz.zeroValue292
  t227 := Tryz.underlying293
  a227 := Tryz.isAgg293
  z227 := Tryz.sizeOf293
  v227 := Tryz.zeroValue293
  g0 := by kernel_rfl
  g6 := by kernel_rfl }
open Go.RowKit Go.Lib in
theorem Tryz.strings_Fields (s : ByteArray) (w : World) (hs : s.size < 4294967281) (hascii : ∀ (j : Nat) b, s.data.toList[j]? = some b → b.toNat < 128) (htab : Lib.TabIs Tryz.prog w "strings.asciiSpace" .u8 Lib.asciiSpaceTab) :
    Calls Tryz.prog 293 #[.string s] w fun e w' =>
      e = .returned (.slice (some ⟨w.heap.size, 0, none⟩) (Lib.fields s.data.toList).length (Lib.fields s.data.toList).length) ∧ w' = w.alloc (.cells ((Lib.fields s.data.toList).map fun l => Value.string ⟨l.toArray⟩).toArray 9) := Any.strings_Fields Tryz.lays157 (by kernel_rfl) (by kernel_rfl) s w hs hascii htab
end Go.Proofs
