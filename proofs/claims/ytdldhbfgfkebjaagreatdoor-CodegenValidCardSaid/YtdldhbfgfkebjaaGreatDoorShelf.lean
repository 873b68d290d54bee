/-
  DERIVED: THE SHELF's CONTRACTS AT THIS DUMP, IN PLAIN WORDS (tools/lay-plain.mjs out of 'TryzShelfA.lean', which tools/lay-shelf.mjs wrote): THE SAME DECLARATIONS UNDER THE SAME NAMES: 'import', 'namespace', 'open', 'def', 'theorem' AND NOTHING ELSE: no command of the shelf's: FOR A HAND-IN. Each laying: the table of numbers ('.._ren') and one theorem, a field a fact of the dump's own or the kernel's comparison; each contract: ONE APPLICATION.
-/
import Derived.Shelf.Small.Strs
import Derived.Shelf.Sort.Plain
import Derived.Shelf.Strings.Fields
import Derived.Shelf.Slices.CompactS
import Derived.Shelf.Slices.In.SortNone
import Derived.Test.YtdldhbfgfkebjaaGreatDoorProg
namespace Go.Proofs
open Go.Shelf
def Tryz.lays106_ren : Go.Shelf.Ren := ⟨fun | 106 => 265 | 213 => 288 | 265 => 300 | n => n, fun | 9 => 9 | 3 => 3 | n => n, fun | n => n⟩
theorem Tryz.lays106 : Go.Proofs.Lays.n106 Tryz.prog Tryz.lays106_ren := {
  mixed := by kernel_rfl
  f106 := Tryz.func265.trans (congrArg some (by kernel_rfl))
  f213 := Tryz.func288.trans (congrArg some (by kernel_rfl))
  f265 := Tryz.func300.trans (congrArg some (by kernel_rfl))
  t3 := Tryz.underlying3
  a3 := Tryz.isAgg3
  z3 := Tryz.sizeOf3
  v3 := Tryz.zeroValue3
  t9 := Tryz.underlying9
  a9 := Tryz.isAgg9
  z9 := Tryz.sizeOf9
  v9 := Tryz.zeroValue9 }
open Go.RowKit in
theorem Tryz.strings_Compare (a b : ByteArray) (w : World) :
    Calls Tryz.prog 265 #[.string a, .string b] w fun e w' => e = .returned (.int .i64 (Lib.compareBytes a.data.toList b.data.toList)) ∧ w' = w := Any.strings_Compare Tryz.lays106 a b w
def Tryz.lays157_ren : Go.Shelf.Ren := ⟨fun | 157 => 191 | 229 => 208 | 199 => 209 | 261 => 238 | 311 => 261 | 312 => 262 | n => n, fun | 9 => 9 | 31 => 78 | 3 => 3 | 5 => 5 | 4 => 4 | 119 => 245 | 0 => 0 | 40 => 191 | 152 => 261 | 21 => 21 | 154 => 263 | 51 => 256 | 141 => 265 | 196 => 283 | 193 => 280 | 198 => 286 | 49 => 284 | 194 => 281 | 201 => 289 | 226 => 304 | 46 => 237 | 227 => 305 | n => n, fun | 0 => 1 | 6 => 2 | n => n⟩
theorem Tryz.lays157 : Go.Proofs.Lays.n157 Tryz.prog Tryz.lays157_ren := {
  mixed := by kernel_rfl
  f157 := Tryz.func191.trans (congrArg some (by kernel_rfl))
  f199 := Tryz.func209.trans (congrArg some (by kernel_rfl))
  f229 := Tryz.func208.trans (congrArg some (by kernel_rfl))
  f261 := Tryz.func238.trans (congrArg some (by kernel_rfl))
  f311 := Tryz.func261.trans (congrArg some (by kernel_rfl))
  f312 := Tryz.func262.trans (congrArg some (by kernel_rfl))
  t0 := Tryz.underlying0
  a0 := Tryz.isAgg0
  z0 := Tryz.sizeOf0
  v0 := Tryz.zeroValue0
  t3 := Tryz.underlying3
  a3 := Tryz.isAgg3
  z3 := Tryz.sizeOf3
  v3 := Tryz.zeroValue3
  t4 := Tryz.underlying4
  a4 := Tryz.isAgg4
  z4 := Tryz.sizeOf4
  v4 := Tryz.zeroValue4
  t5 := Tryz.underlying5
  a5 := Tryz.isAgg5
  z5 := Tryz.sizeOf5
  v5 := Tryz.zeroValue5
  t9 := Tryz.underlying9
  a9 := Tryz.isAgg9
  z9 := Tryz.sizeOf9
  v9 := Tryz.zeroValue9
  t21 := Tryz.underlying21
  a21 := Tryz.isAgg21
  z21 := Tryz.sizeOf21
  v21 := Tryz.zeroValue21
  t31 := Tryz.underlying78
  a31 := Tryz.isAgg78
  z31 := Tryz.sizeOf78
  v31 := Tryz.zeroValue78
  t40 := Tryz.underlying191
  a40 := Tryz.isAgg191
  z40 := Tryz.sizeOf191
  v40 := Tryz.zeroValue191
  t46 := Tryz.underlying237
  a46 := Tryz.isAgg237
  z46 := Tryz.sizeOf237
  v46 := Tryz.zeroValue237
  t49 := Tryz.underlying284
  a49 := Tryz.isAgg284
  z49 := Tryz.sizeOf284
  v49 := Tryz.zeroValue284
  t51 := Tryz.underlying256
  a51 := Tryz.isAgg256
  z51 := Tryz.sizeOf256
  v51 := Tryz.zeroValue256
  t119 := Tryz.underlying245
  a119 := Tryz.isAgg245
  z119 := Tryz.sizeOf245
  t141 := Tryz.underlying265
  a141 := Tryz.isAgg265
  z141 := Tryz.sizeOf265
  v141 := Tryz.zeroValue265
  t152 := Tryz.underlying261
  a152 := Tryz.isAgg261
  z152 := Tryz.sizeOf261
  v152 := Tryz.zeroValue261
  t154 := Tryz.underlying263
  a154 := Tryz.isAgg263
  z154 := Tryz.sizeOf263
  v154 := Tryz.zeroValue263
  t193 := Tryz.underlying280
  a193 := Tryz.isAgg280
  z193 := Tryz.sizeOf280
  v193 := Tryz.zeroValue280
  t194 := Tryz.underlying281
  a194 := Tryz.isAgg281
  z194 := Tryz.sizeOf281
  v194 := Tryz.zeroValue281
  t196 := Tryz.underlying283
  a196 := Tryz.isAgg283
  z196 := Tryz.sizeOf283
  v196 := Tryz.zeroValue283
  t198 := Tryz.underlying286
  a198 := Tryz.isAgg286
  z198 := Tryz.sizeOf286
  v198 := Tryz.zeroValue286
  t201 := Tryz.underlying289
  a201 := Tryz.isAgg289
  z201 := Tryz.sizeOf289
  v201 := Tryz.zeroValue289
  t226 := Tryz.underlying304
  a226 := Tryz.isAgg304
  z226 := Tryz.sizeOf304
  v226 := Tryz.zeroValue304
  t227 := Tryz.underlying305
  a227 := Tryz.isAgg305
  z227 := Tryz.sizeOf305
  v227 := Tryz.zeroValue305
  g0 := by kernel_rfl
  g6 := by kernel_rfl }
open Go.RowKit Go.Lib in
theorem Tryz.strings_Fields (s : ByteArray) (w : World) (hs : s.size < 4294967281) (hascii : ∀ (j : Nat) b, s.data.toList[j]? = some b → b.toNat < 128) (htab : Lib.TabIs Tryz.prog w "strings.asciiSpace" .u8 Lib.asciiSpaceTab) :
    Calls Tryz.prog 191 #[.string s] w fun e w' =>
      e = .returned (.slice (some ⟨w.heap.size, 0, none⟩) (Lib.fields s.data.toList).length (Lib.fields s.data.toList).length) ∧ w' = w.alloc (.cells ((Lib.fields s.data.toList).map fun l => Value.string ⟨l.toArray⟩).toArray 9) := Any.strings_Fields Tryz.lays157 (by kernel_rfl) (by kernel_rfl) s w hs hascii htab
end Go.Proofs
