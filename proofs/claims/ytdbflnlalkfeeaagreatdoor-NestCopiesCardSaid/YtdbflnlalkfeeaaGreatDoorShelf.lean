/-
  DERIVED: THE SHELF's CONTRACTS AT THIS DUMP, IN PLAIN WORDS (tools/lay-plain.mjs out of 'TryzShelfA.lean', which tools/lay-shelf.mjs wrote): THE SAME DECLARATIONS UNDER THE SAME NAMES: 'import', 'namespace', 'open', 'def', 'theorem' AND NOTHING ELSE: no command of the shelf's: FOR A HAND-IN. Each laying: the table of numbers ('.._ren') and one theorem, a field a fact of the dump's own or the kernel's comparison; each contract: ONE APPLICATION.
-/
import Derived.Shelf.Small.Strs
import Derived.Shelf.Strings.Fields
import Derived.Test.YtdbflnlalkfeeaaGreatDoorProg
namespace Go.Proofs
open Go.Shelf
def Tryz.lays106_ren : Go.Shelf.Ren := ⟨fun | 106 => 206 | 213 => 243 | 265 => 276 | n => n, fun | 9 => 9 | 3 => 3 | n => n, fun | n => n⟩
theorem Tryz.lays106 : Go.Proofs.Lays.n106 Tryz.prog Tryz.lays106_ren := {
  mixed := by kernel_rfl
  f106 := Tryz.func206.trans (congrArg some (by kernel_rfl))
  f213 := Tryz.func243.trans (congrArg some (by kernel_rfl))
  f265 := Tryz.func276.trans (congrArg some (by kernel_rfl))
  t3 := Tryz.underlying3
  a3 := Tryz.isAgg3
  z3 := Tryz.sizeOf3
  v3 := Tryz.zeroValue3
  t9 := Tryz.underlying9
  a9 := Tryz.isAgg9
  z9 := Tryz.sizeOf9
  v9 := Tryz.zeroValue9 }
open Go.RowKit in
theorem Tryz.strings_Compare (a b : ByteArray) (w : World) :
    Calls Tryz.prog 206 #[.string a, .string b] w fun e w' => e = .returned (.int .i64 (Lib.compareBytes a.data.toList b.data.toList)) ∧ w' = w := Any.strings_Compare Tryz.lays106 a b w
def Tryz.lays157_ren : Go.Shelf.Ren := ⟨fun | 157 => 190 | 229 => 218 | 199 => 219 | 261 => 258 | 311 => 281 | 312 => 282 | n => n, fun | 9 => 9 | 31 => 72 | 3 => 3 | 5 => 5 | 4 => 4 | 119 => 237 | 0 => 0 | 40 => 152 | 152 => 262 | 21 => 21 | 154 => 264 | 51 => 250 | 141 => 266 | 196 => 281 | 193 => 278 | 198 => 283 | 49 => 57 | 194 => 279 | 201 => 286 | 226 => 298 | 46 => 213 | 227 => 299 | n => n, fun | 0 => 0 | 6 => 2 | n => n⟩
theorem Tryz.lays157 : Go.Proofs.Lays.n157 Tryz.prog Tryz.lays157_ren := {
  mixed := by kernel_rfl
  f157 := Tryz.func190.trans (congrArg some (by kernel_rfl))
  f199 := Tryz.func219.trans (congrArg some (by kernel_rfl))
  f229 := Tryz.func218.trans (congrArg some (by kernel_rfl))
  f261 := Tryz.func258.trans (congrArg some (by kernel_rfl))
  f311 := Tryz.func281.trans (congrArg some (by kernel_rfl))
  f312 := Tryz.func282.trans (congrArg some (by kernel_rfl))
  t0 := Tryz.underlying0
  a0 := Tryz.isAgg0
  z0 := Tryz.sizeOf0
  v0 := Tryz.zeroValue0
  t3 := Tryz.underlying3
  a3 := Tryz.isAgg3
  z3 := Tryz.sizeOf3
  v3 := Tryz.zeroValue3
  t4 := Tryz.underlying4
  a4 := Tryz.isAgg4
  z4 := Tryz.sizeOf4
  v4 := Tryz.zeroValue4
  t5 := Tryz.underlying5
  a5 := Tryz.isAgg5
  z5 := Tryz.sizeOf5
  v5 := Tryz.zeroValue5
  t9 := Tryz.underlying9
  a9 := Tryz.isAgg9
  z9 := Tryz.sizeOf9
  v9 := Tryz.zeroValue9
  t21 := Tryz.underlying21
  a21 := Tryz.isAgg21
  z21 := Tryz.sizeOf21
  v21 := Tryz.zeroValue21
  t31 := Tryz.underlying72
  a31 := Tryz.isAgg72
  z31 := Tryz.sizeOf72
  v31 := Tryz.zeroValue72
  t40 := Tryz.underlying152
  a40 := Tryz.isAgg152
  z40 := Tryz.sizeOf152
  v40 := Tryz.zeroValue152
  t46 := Tryz.underlying213
  a46 := Tryz.isAgg213
  z46 := Tryz.sizeOf213
  v46 := Tryz.zeroValue213
  t49 := Tryz.underlying57
  a49 := Tryz.isAgg57
  z49 := Tryz.sizeOf57
  v49 := Tryz.zeroValue57
  t51 := Tryz.underlying250
  a51 := Tryz.isAgg250
  z51 := Tryz.sizeOf250
  v51 := Tryz.zeroValue250
  t119 := Tryz.underlying237
  a119 := Tryz.isAgg237
  z119 := Tryz.sizeOf237
  t141 := Tryz.underlying266
  a141 := Tryz.isAgg266
  z141 := Tryz.sizeOf266
  v141 := Tryz.zeroValue266
  t152 := Tryz.underlying262
  a152 := Tryz.isAgg262
  z152 := Tryz.sizeOf262
  v152 := Tryz.zeroValue262
  t154 := Tryz.underlying264
  a154 := Tryz.isAgg264
  z154 := Tryz.sizeOf264
  v154 := Tryz.zeroValue264
  t193 := Tryz.underlying278
  a193 := Tryz.isAgg278
  z193 := Tryz.sizeOf278
  v193 := Tryz.zeroValue278
  t194 := Tryz.underlying279
  a194 := Tryz.isAgg279
  z194 := Tryz.sizeOf279
  v194 := Tryz.zeroValue279
  t196 := Tryz.underlying281
  a196 := Tryz.isAgg281
  z196 := Tryz.sizeOf281
  v196 := Tryz.zeroValue281
  t198 := Tryz.underlying283
  a198 := Tryz.isAgg283
  z198 := Tryz.sizeOf283
  v198 := Tryz.zeroValue283
  t201 := Tryz.underlying286
  a201 := Tryz.isAgg286
  z201 := Tryz.sizeOf286
  v201 := Tryz.zeroValue286
  t226 := Tryz.underlying298
  a226 := Tryz.isAgg298
  z226 := Tryz.sizeOf298
  v226 := Tryz.zeroValue298
  t227 := Tryz.underlying299
  a227 := Tryz.isAgg299
  z227 := Tryz.sizeOf299
  v227 := Tryz.zeroValue299
  g0 := by kernel_rfl
  g6 := by kernel_rfl }
open Go.RowKit Go.Lib in
theorem Tryz.strings_Fields (s : ByteArray) (w : World) (hs : s.size < 4294967281) (hascii : ∀ (j : Nat) b, s.data.toList[j]? = some b → b.toNat < 128) (htab : Lib.TabIs Tryz.prog w "strings.asciiSpace" .u8 Lib.asciiSpaceTab) :
    Calls Tryz.prog 190 #[.string s] w fun e w' =>
      e = .returned (.slice (some ⟨w.heap.size, 0, none⟩) (Lib.fields s.data.toList).length (Lib.fields s.data.toList).length) ∧ w' = w.alloc (.cells ((Lib.fields s.data.toList).map fun l => Value.string ⟨l.toArray⟩).toArray 9) := Any.strings_Fields Tryz.lays157 (by kernel_rfl) (by kernel_rfl) s w hs hascii htab
end Go.Proofs
