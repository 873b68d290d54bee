/-
  DERIVED: THE SHELF's CONTRACTS AT THIS DUMP, IN PLAIN WORDS (tools/lay-plain.mjs out of 'TryzShelfA.lean', which tools/lay-shelf.mjs wrote): THE SAME DECLARATIONS UNDER THE SAME NAMES: 'import', 'namespace', 'open', 'def', 'theorem' AND NOTHING ELSE: no command of the shelf's: FOR A HAND-IN. Each laying: the table of numbers ('.._ren') and one theorem, a field a fact of the dump's own or the kernel's comparison; each contract: ONE APPLICATION.
-/
import Derived.Shelf.Small.Strs
import Derived.Shelf.Strings.Fields
import Derived.Shelf.Bits.Mul64
import Derived.Test.YtnjccggimbnmbaaGreatDoorProg
namespace Go.Proofs
open Go.Shelf
def Tryz.lays106_ren : Go.Shelf.Ren := ⟨fun | 106 => 267 | 213 => 292 | 265 => 302 | n => n, fun | 9 => 9 | 3 => 3 | n => n, fun | n => n⟩
theorem Tryz.lays106 : Go.Proofs.Lays.n106 Tryz.prog Tryz.lays106_ren := {
  mixed := by kernel_rfl
  f106 := Tryz.func267.trans (congrArg some (by kernel_rfl))
  f213 := Tryz.func292.trans (congrArg some (by kernel_rfl))
  f265 := Tryz.func302.trans (congrArg some (by kernel_rfl))
  t3 := Tryz.underlying3
  a3 := Tryz.isAgg3
  z3 := Tryz.sizeOf3
  v3 := Tryz.zeroValue3
  t9 := Tryz.underlying9
  a9 := Tryz.isAgg9
  z9 := Tryz.sizeOf9
  v9 := Tryz.zeroValue9 }
open Go.RowKit in
theorem Tryz.strings_Compare (a b : ByteArray) (w : World) :
    Calls Tryz.prog 267 #[.string a, .string b] w fun e w' => e = .returned (.int .i64 (Lib.compareBytes a.data.toList b.data.toList)) ∧ w' = w := Any.strings_Compare Tryz.lays106 a b w
def Tryz.lays157_ren : Go.Shelf.Ren := ⟨fun | 157 => 219 | 229 => 242 | 199 => 243 | 261 => 264 | 311 => 289 | 312 => 290 | n => n, fun | 9 => 9 | 31 => 137 | 3 => 3 | 5 => 5 | 4 => 4 | 119 => 264 | 0 => 0 | 40 => 208 | 152 => 278 | 21 => 21 | 154 => 280 | 51 => 170 | 141 => 282 | 196 => 299 | 193 => 296 | 198 => 302 | 49 => 300 | 194 => 297 | 201 => 305 | 226 => 311 | 46 => 129 | 227 => 312 | n => n, fun | 0 => 1 | 6 => 2 | n => n⟩
theorem Tryz.lays157 : Go.Proofs.Lays.n157 Tryz.prog Tryz.lays157_ren := {
  mixed := by kernel_rfl
  f157 := Tryz.func219.trans (congrArg some (by kernel_rfl))
  f199 := Tryz.func243.trans (congrArg some (by kernel_rfl))
  f229 := Tryz.func242.trans (congrArg some (by kernel_rfl))
  f261 := Tryz.func264.trans (congrArg some (by kernel_rfl))
  f311 := Tryz.func289.trans (congrArg some (by kernel_rfl))
  f312 := Tryz.func290.trans (congrArg some (by kernel_rfl))
  t0 := Tryz.underlying0
  a0 := Tryz.isAgg0
  z0 := Tryz.sizeOf0
  v0 := Tryz.zeroValue0
  t3 := Tryz.underlying3
  a3 := Tryz.isAgg3
  z3 := Tryz.sizeOf3
  v3 := Tryz.zeroValue3
  t4 := Tryz.underlying4
  a4 := Tryz.isAgg4
  z4 := Tryz.sizeOf4
  v4 := Tryz.zeroValue4
  t5 := Tryz.underlying5
  a5 := Tryz.isAgg5
  z5 := Tryz.sizeOf5
  v5 := Tryz.zeroValue5
  t9 := Tryz.underlying9
  a9 := Tryz.isAgg9
  z9 := Tryz.sizeOf9
  v9 := Tryz.zeroValue9
  t21 := Tryz.underlying21
  a21 := Tryz.isAgg21
  z21 := Tryz.sizeOf21
  v21 := Tryz.zeroValue21
  t31 := Tryz.underlying137
  a31 := Tryz.isAgg137
  z31 := Tryz.sizeOf137
  v31 := Tryz.zeroValue137
  t40 := Tryz.underlying208
  a40 := Tryz.isAgg208
  z40 := Tryz.sizeOf208
  v40 := Tryz.zeroValue208
  t46 := Tryz.underlying129
  a46 := Tryz.isAgg129
  z46 := Tryz.sizeOf129
  v46 := Tryz.zeroValue129
  t49 := Tryz.underlying300
  a49 := Tryz.isAgg300
  z49 := Tryz.sizeOf300
  v49 := Tryz.zeroValue300
  t51 := Tryz.underlying170
  a51 := Tryz.isAgg170
  z51 := Tryz.sizeOf170
  v51 := Tryz.zeroValue170
  t119 := Tryz.underlying264
  a119 := Tryz.isAgg264
  z119 := Tryz.sizeOf264
  t141 := Tryz.underlying282
  a141 := Tryz.isAgg282
  z141 := Tryz.sizeOf282
  v141 := Tryz.zeroValue282
  t152 := Tryz.underlying278
  a152 := Tryz.isAgg278
  z152 := Tryz.sizeOf278
  v152 := Tryz.zeroValue278
  t154 := Tryz.underlying280
  a154 := Tryz.isAgg280
  z154 := Tryz.sizeOf280
  v154 := Tryz.zeroValue280
  t193 := Tryz.underlying296
  a193 := Tryz.isAgg296
  z193 := Tryz.sizeOf296
  v193 := Tryz.zeroValue296
  t194 := Tryz.underlying297
  a194 := Tryz.isAgg297
  z194 := Tryz.sizeOf297
  v194 := Tryz.zeroValue297
  t196 := Tryz.underlying299
  a196 := Tryz.isAgg299
  z196 := Tryz.sizeOf299
  v196 := Tryz.zeroValue299
  t198 := Tryz.underlying302
  a198 := Tryz.isAgg302
  z198 := Tryz.sizeOf302
  v198 := Tryz.zeroValue302
  t201 := Tryz.underlying305
  a201 := Tryz.isAgg305
  z201 := Tryz.sizeOf305
  v201 := Tryz.zeroValue305
  t226 := Tryz.underlying311
  a226 := Tryz.isAgg311
  z226 := Tryz.sizeOf311
  v226 := Tryz.zeroValue311
  t227 := Tryz.underlying312
  a227 := Tryz.isAgg312
  z227 := Tryz.sizeOf312
  v227 := Tryz.zeroValue312
  g0 := by kernel_rfl
  g6 := by kernel_rfl }
open Go.RowKit Go.Lib in
theorem Tryz.strings_Fields (s : ByteArray) (w : World) (hs : s.size < 4294967281) (hascii : ∀ (j : Nat) b, s.data.toList[j]? = some b → b.toNat < 128) (htab : Lib.TabIs Tryz.prog w "strings.asciiSpace" .u8 Lib.asciiSpaceTab) :
    Calls Tryz.prog 219 #[.string s] w fun e w' =>
      e = .returned (.slice (some ⟨w.heap.size, 0, none⟩) (Lib.fields s.data.toList).length (Lib.fields s.data.toList).length) ∧ w' = w.alloc (.cells ((Lib.fields s.data.toList).map fun l => Value.string ⟨l.toArray⟩).toArray 9) := Any.strings_Fields Tryz.lays157 (by kernel_rfl) (by kernel_rfl) s w hs hascii htab
end Go.Proofs
