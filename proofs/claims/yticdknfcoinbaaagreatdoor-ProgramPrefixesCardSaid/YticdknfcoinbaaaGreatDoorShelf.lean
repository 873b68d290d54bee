/-
  DERIVED: THE SHELF's CONTRACTS AT THIS DUMP, IN PLAIN WORDS (tools/lay-plain.mjs out of 'TryzShelfA.lean', which tools/lay-shelf.mjs wrote): THE SAME DECLARATIONS UNDER THE SAME NAMES: 'import', 'namespace', 'open', 'def', 'theorem' AND NOTHING ELSE: no command of the shelf's: FOR A HAND-IN. Each laying: the table of numbers ('.._ren') and one theorem, a field a fact of the dump's own or the kernel's comparison; each contract: ONE APPLICATION.
-/
import Derived.Shelf.Small.Strs
import Derived.Shelf.Sort.Plain
import Derived.Shelf.Strings.Fields
import Derived.Shelf.Slices.CompactS
import Derived.Test.YticdknfcoinbaaaGreatDoorProg
namespace Go.Proofs
open Go.Shelf
def Tryz.lays106_ren : Go.Shelf.Ren := ⟨fun | 106 => 222 | 213 => 257 | 265 => 277 | n => n, fun | 9 => 9 | 3 => 3 | n => n, fun | n => n⟩
theorem Tryz.lays106 : Go.Proofs.Lays.n106 Tryz.prog Tryz.lays106_ren := {
  mixed := by kernel_rfl
  f106 := Tryz.func222.trans (congrArg some (by kernel_rfl))
  f213 := Tryz.func257.trans (congrArg some (by kernel_rfl))
  f265 := Tryz.func277.trans (congrArg some (by kernel_rfl))
  t3 := Tryz.underlying3
  a3 := Tryz.isAgg3
  z3 := Tryz.sizeOf3
  v3 := Tryz.zeroValue3
  t9 := Tryz.underlying9
  a9 := Tryz.isAgg9
  z9 := Tryz.sizeOf9
  v9 := Tryz.zeroValue9 }
open Go.RowKit in
/-- strings.Compare: "Compare returns an integer comparing two strings lexicographically. The result will be 0 if a == b, -1 if a < b, and +1 if a > b.": IT RETURNS 'Lib.compareBytes a b'; the world is as it was. (LAID: no walk: one application.) -/
theorem Tryz.strings_Compare (a b : ByteArray) (w : World) :
    Calls Tryz.prog 222 #[.string a, .string b] w fun e w' => e = .returned (.int .i64 (Lib.compareBytes a.data.toList b.data.toList)) ∧ w' = w := Any.strings_Compare Tryz.lays106 a b w
def Tryz.lays157_ren : Go.Shelf.Ren := ⟨fun | 157 => 248 | 229 => 274 | 199 => 275 | 261 => 281 | 311 => 282 | 312 => 283 | n => n, fun | 9 => 9 | 31 => 22 | 3 => 3 | 5 => 5 | 4 => 4 | 119 => 259 | 0 => 0 | 40 => 177 | 152 => 266 | 21 => 21 | 154 => 268 | 51 => 230 | 141 => 270 | 196 => 274 | 193 => 271 | 198 => 276 | 49 => 34 | 194 => 272 | 201 => 279 | 226 => 281 | 46 => 194 | 227 => 282 | n => n, fun | 0 => 0 | 6 => 2 | n => n⟩
theorem Tryz.lays157 : Go.Proofs.Lays.n157 Tryz.prog Tryz.lays157_ren := {
  mixed := by kernel_rfl
  f157 := Tryz.func248.trans (congrArg some (by kernel_rfl))
  f199 := Tryz.func275.trans (congrArg some (by kernel_rfl))
  f229 := Tryz.func274.trans (congrArg some (by kernel_rfl))
  f261 := Tryz.func281.trans (congrArg some (by kernel_rfl))
  f311 := Tryz.func282.trans (congrArg some (by kernel_rfl))
  f312 := Tryz.func283.trans (congrArg some (by kernel_rfl))
  t0 := Tryz.underlying0
  a0 := Tryz.isAgg0
  z0 := Tryz.sizeOf0
  v0 := Tryz.zeroValue0
  t3 := Tryz.underlying3
  a3 := Tryz.isAgg3
  z3 := Tryz.sizeOf3
  v3 := Tryz.zeroValue3
  t4 := Tryz.underlying4
  a4 := Tryz.isAgg4
  z4 := Tryz.sizeOf4
  v4 := Tryz.zeroValue4
  t5 := Tryz.underlying5
  a5 := Tryz.isAgg5
  z5 := Tryz.sizeOf5
  v5 := Tryz.zeroValue5
  t9 := Tryz.underlying9
  a9 := Tryz.isAgg9
  z9 := Tryz.sizeOf9
  v9 := Tryz.zeroValue9
  t21 := Tryz.underlying21
  a21 := Tryz.isAgg21
  z21 := Tryz.sizeOf21
  v21 := Tryz.zeroValue21
  t31 := Tryz.underlying22
  a31 := Tryz.isAgg22
  z31 := Tryz.sizeOf22
  v31 := Tryz.zeroValue22
  t40 := Tryz.underlying177
  a40 := Tryz.isAgg177
  z40 := Tryz.sizeOf177
  v40 := Tryz.zeroValue177
  t46 := Tryz.underlying194
  a46 := Tryz.isAgg194
  z46 := Tryz.sizeOf194
  v46 := Tryz.zeroValue194
  t49 := Tryz.underlying34
  a49 := Tryz.isAgg34
  z49 := Tryz.sizeOf34
  v49 := Tryz.zeroValue34
  t51 := Tryz.underlying230
  a51 := Tryz.isAgg230
  z51 := Tryz.sizeOf230
  v51 := Tryz.zeroValue230
  t119 := Tryz.underlying259
  a119 := Tryz.isAgg259
  z119 := Tryz.sizeOf259
  t141 := Tryz.underlying270
  a141 := Tryz.isAgg270
  z141 := Tryz.sizeOf270
  v141 := Tryz.zeroValue270
  t152 := Tryz.underlying266
  a152 := Tryz.isAgg266
  z152 := Tryz.sizeOf266
  v152 := Tryz.zeroValue266
  t154 := Tryz.underlying268
  a154 := Tryz.isAgg268
  z154 := Tryz.sizeOf268
  v154 := Tryz.zeroValue268
  t193 := Tryz.underlying271
  a193 := Tryz.isAgg271
  z193 := Tryz.sizeOf271
  v193 := Tryz.zeroValue271
  t194 := Tryz.underlying272
  a194 := Tryz.isAgg272
  z194 := Tryz.sizeOf272
  v194 := Tryz.zeroValue272
  t196 := Tryz.underlying274
  a196 := Tryz.isAgg274
  z196 := Tryz.sizeOf274
  v196 := Tryz.zeroValue274
  t198 := Tryz.underlying276
  a198 := Tryz.isAgg276
  z198 := Tryz.sizeOf276
  v198 := Tryz.zeroValue276
  t201 := Tryz.underlying279
  a201 := Tryz.isAgg279
  z201 := Tryz.sizeOf279
  v201 := Tryz.zeroValue279
  t226 := Tryz.underlying281
  a226 := Tryz.isAgg281
  z226 := Tryz.sizeOf281
  v226 := Tryz.zeroValue281
  t227 := Tryz.underlying282
  a227 := Tryz.isAgg282
  z227 := Tryz.sizeOf282
  v227 := Tryz.zeroValue282
  g0 := by kernel_rfl
  g6 := by kernel_rfl }
open Go.RowKit Go.Lib in
/-- strings.Fields, the table by 'Lib.TabIs' (as strings.TrimSpace's contract). 'hg': the table's number, by its name: at a dump 'by kernel_rfl'. (LAID: no walk: one application.) -/
theorem Tryz.strings_Fields (s : ByteArray) (w : World) (hs : s.size < 4294967281) (hascii : ∀ (j : Nat) b, s.data.toList[j]? = some b → b.toNat < 128) (htab : Lib.TabIs Tryz.prog w "strings.asciiSpace" .u8 Lib.asciiSpaceTab) :
    Calls Tryz.prog 248 #[.string s] w fun e w' =>
      e = .returned (.slice (some ⟨w.heap.size, 0, none⟩) (Lib.fields s.data.toList).length (Lib.fields s.data.toList).length) ∧ w' = w.alloc (.cells ((Lib.fields s.data.toList).map fun l => Value.string ⟨l.toArray⟩).toArray 9) := Any.strings_Fields Tryz.lays157 (by kernel_rfl) (by kernel_rfl) s w hs hascii htab
end Go.Proofs
