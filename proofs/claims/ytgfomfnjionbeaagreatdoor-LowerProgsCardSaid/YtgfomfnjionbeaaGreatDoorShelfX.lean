/-
  DERIVED: THE SHELF's CONTRACTS AT THIS DUMP, IN PLAIN WORDS (tools/lay-plain.mjs out of 'TryzShelfA.lean', which tools/lay-shelf.mjs wrote): THE SAME DECLARATIONS UNDER THE SAME NAMES: 'import', 'namespace', 'open', 'def', 'theorem' AND NOTHING ELSE: no command of the shelf's: FOR A HAND-IN. Each laying: the table of numbers ('.._ren') and one theorem, a field a fact of the dump's own or the kernel's comparison; each contract: ONE APPLICATION.
  DERIVED: THE SHELF's CONTRACTS AT THIS DUMP, IN PLAIN WORDS (tools/lay-plain.mjs out of 'TryzShelfM.lean', which tools/lay-shelf.mjs wrote): THE SAME DECLARATIONS UNDER THE SAME NAMES: 'import', 'namespace', 'open', 'def', 'theorem' AND NOTHING ELSE: no command of the shelf's: FOR A HAND-IN. Each laying: the table of numbers ('.._ren') and one theorem, a field a fact of the dump's own or the kernel's comparison; each contract: ONE APPLICATION.
  Conditions: none.
-/
import Derived.Shelf.Small.Strs
import Derived.Shelf.Strings.Fields
import Derived.Test.YtgfomfnjionbeaaGreatDoorProg
import Derived.Shelf.SlSortCmp.NoneTotal
section
namespace Go.Proofs
open Go.Shelf
def Tryz.lays106_ren : Go.Shelf.Ren := ⟨fun | 106 => 135 | 213 => 190 | 265 => 237 | n => n, fun | 9 => 9 | 3 => 3 | n => n, fun | n => n⟩
theorem Tryz.lays106 : Go.Proofs.Lays.n106 prog Tryz.lays106_ren := {
  mixed := by kernel_rfl
  f106 := func135.trans (congrArg some (by kernel_rfl))
  f213 := func190.trans (congrArg some (by kernel_rfl))
  f265 := func237.trans (congrArg some (by kernel_rfl))
  t3 := Tryz.underlying3
  a3 := Tryz.isAgg3
  z3 := Tryz.sizeOf3
  v3 := Tryz.zeroValue3
  t9 := Tryz.underlying9
  a9 := Tryz.isAgg9
  z9 := Tryz.sizeOf9
  v9 := Tryz.zeroValue9 }
open Go.RowKit in
theorem Tryz.strings_Compare (a b : ByteArray) (w : World) :
    Calls prog 135 #[.string a, .string b] w fun e w' => e = .returned (.int .i64 (Lib.compareBytes a.data.toList b.data.toList)) ∧ w' = w := Any.strings_Compare Tryz.lays106 a b w
def Tryz.lays157_ren : Go.Shelf.Ren := ⟨fun | 157 => 175 | 229 => 215 | 199 => 216 | 261 => 252 | 311 => 282 | 312 => 283 | n => n, fun | 9 => 9 | 31 => 25 | 3 => 3 | 5 => 5 | 4 => 4 | 119 => 258 | 0 => 0 | 40 => 113 | 152 => 286 | 21 => 21 | 154 => 288 | 51 => 279 | 141 => 290 | 196 => 309 | 193 => 306 | 198 => 312 | 49 => 310 | 194 => 307 | 201 => 315 | 226 => 331 | 46 => 240 | 227 => 332 | n => n, fun | 0 => 0 | 6 => 2 | n => n⟩
theorem Tryz.lays157 : Go.Proofs.Lays.n157 prog Tryz.lays157_ren := {
  mixed := by kernel_rfl
  f157 := func175.trans (congrArg some (by kernel_rfl))
  f199 := func216.trans (congrArg some (by kernel_rfl))
  f229 := func215.trans (congrArg some (by kernel_rfl))
  f261 := func252.trans (congrArg some (by kernel_rfl))
  f311 := func282.trans (congrArg some (by kernel_rfl))
  f312 := func283.trans (congrArg some (by kernel_rfl))
  t0 := Tryz.underlying0
  a0 := Tryz.isAgg0
  z0 := Tryz.sizeOf0
  v0 := Tryz.zeroValue0
  t3 := Tryz.underlying3
  a3 := Tryz.isAgg3
  z3 := Tryz.sizeOf3
  v3 := Tryz.zeroValue3
  t4 := Tryz.underlying4
  a4 := Tryz.isAgg4
  z4 := Tryz.sizeOf4
  v4 := Tryz.zeroValue4
  t5 := Tryz.underlying5
  a5 := Tryz.isAgg5
  z5 := Tryz.sizeOf5
  v5 := Tryz.zeroValue5
  t9 := Tryz.underlying9
  a9 := Tryz.isAgg9
  z9 := Tryz.sizeOf9
  v9 := Tryz.zeroValue9
  t21 := Tryz.underlying21
  a21 := Tryz.isAgg21
  z21 := Tryz.sizeOf21
  v21 := Tryz.zeroValue21
  t31 := Tryz.underlying25
  a31 := Tryz.isAgg25
  z31 := Tryz.sizeOf25
  v31 := Tryz.zeroValue25
  t40 := Tryz.underlying113
  a40 := Tryz.isAgg113
  z40 := Tryz.sizeOf113
  v40 := Tryz.zeroValue113
  t46 := Tryz.underlying240
  a46 := Tryz.isAgg240
  z46 := Tryz.sizeOf240
  v46 := Tryz.zeroValue240
  t49 := Tryz.underlying310
  a49 := Tryz.isAgg310
  z49 := Tryz.sizeOf310
  v49 := Tryz.zeroValue310
  t51 := Tryz.underlying279
  a51 := Tryz.isAgg279
  z51 := Tryz.sizeOf279
  v51 := Tryz.zeroValue279
  t119 := Tryz.underlying258
  a119 := Tryz.isAgg258
  z119 := Tryz.sizeOf258
  t141 := Tryz.underlying290
  a141 := Tryz.isAgg290
  z141 := Tryz.sizeOf290
  v141 := Tryz.zeroValue290
  t152 := Tryz.underlying286
  a152 := Tryz.isAgg286
  z152 := Tryz.sizeOf286
  v152 := Tryz.zeroValue286
  t154 := Tryz.underlying288
  a154 := Tryz.isAgg288
  z154 := Tryz.sizeOf288
  v154 := Tryz.zeroValue288
  t193 := Tryz.underlying306
  a193 := Tryz.isAgg306
  z193 := Tryz.sizeOf306
  v193 := Tryz.zeroValue306
  t194 := Tryz.underlying307
  a194 := Tryz.isAgg307
  z194 := Tryz.sizeOf307
  v194 := Tryz.zeroValue307
  t196 := Tryz.underlying309
  a196 := Tryz.isAgg309
  z196 := Tryz.sizeOf309
  v196 := Tryz.zeroValue309
  t198 := Tryz.underlying312
  a198 := Tryz.isAgg312
  z198 := Tryz.sizeOf312
  v198 := Tryz.zeroValue312
  t201 := Tryz.underlying315
  a201 := Tryz.isAgg315
  z201 := Tryz.sizeOf315
  v201 := Tryz.zeroValue315
  t226 := Tryz.underlying331
  a226 := Tryz.isAgg331
  z226 := Tryz.sizeOf331
  v226 := Tryz.zeroValue331
  t227 := Tryz.underlying332
  a227 := Tryz.isAgg332
  z227 := Tryz.sizeOf332
  v227 := Tryz.zeroValue332
  g0 := by kernel_rfl
  g6 := by kernel_rfl }
open Go.RowKit Go.Lib in
theorem Tryz.strings_Fields (s : ByteArray) (w : World) (hs : s.size < 4294967281) (hascii : ∀ (j : Nat) b, s.data.toList[j]? = some b → b.toNat < 128) (htab : Lib.TabIs prog w "strings.asciiSpace" .u8 Lib.asciiSpaceTab) :
    Calls prog 175 #[.string s] w fun e w' =>
      e = .returned (.slice (some ⟨w.heap.size, 0, none⟩) (Lib.fields s.data.toList).length (Lib.fields s.data.toList).length) ∧ w' = w.alloc (.cells ((Lib.fields s.data.toList).map fun l => Value.string ⟨l.toArray⟩).toArray 9) := Any.strings_Fields Tryz.lays157 (by kernel_rfl) (by kernel_rfl) s w hs hascii htab
def Tryz.laysSortM_ren : Go.Shelf.Ren := ⟨fun | 6 => 133 | 15 => 189 | 14 => 188 | 28 => 235 | 29 => 236 | 20 => 227 | 21 => 228 | 22 => 229 | 23 => 230 | 24 => 231 | 25 => 232 | 26 => 233 | 27 => 234 | 46 => 263 | 47 => 264 | 48 => 265 | 49 => 266 | 50 => 267 | 57 => 295 | n => n, fun | 22 => 57 | 24 => 139 | 25 => 196 | 3 => 3 | 39 => 240 | 0 => 0 | 53 => 279 | 55 => 154 | 4 => 4 | 46 => 272 | 45 => 271 | 50 => 276 | 5 => 5 | 9 => 9 | 66 => 296 | 70 => 300 | 76 => 323 | 77 => 324 | n => n, fun | n => n⟩
theorem Tryz.laysSortM : Go.Proofs.SlLaysF0.n6 prog Tryz.laysSortM_ren := {
  mixed := by kernel_rfl
  f6 := ⟨Tryz.f133.name, by decide, func133.trans (congrArg some (by kernel_rfl))⟩
  f14 := ⟨Tryz.f188.name, by decide, func188.trans (congrArg some (by kernel_rfl))⟩
  f15 := func189.trans (congrArg some (by kernel_rfl))
  f20 := ⟨Tryz.f227.name, by decide, func227.trans (congrArg some (by kernel_rfl))⟩
  f21 := ⟨Tryz.f228.name, by decide, func228.trans (congrArg some (by kernel_rfl))⟩
  f22 := ⟨Tryz.f229.name, by decide, func229.trans (congrArg some (by kernel_rfl))⟩
  f23 := ⟨Tryz.f230.name, by decide, func230.trans (congrArg some (by kernel_rfl))⟩
  f24 := ⟨Tryz.f231.name, by decide, func231.trans (congrArg some (by kernel_rfl))⟩
  f25 := ⟨Tryz.f232.name, by decide, func232.trans (congrArg some (by kernel_rfl))⟩
  f26 := ⟨Tryz.f233.name, by decide, func233.trans (congrArg some (by kernel_rfl))⟩
  f27 := ⟨Tryz.f234.name, by decide, func234.trans (congrArg some (by kernel_rfl))⟩
  f28 := func235.trans (congrArg some (by kernel_rfl))
  f29 := func236.trans (congrArg some (by kernel_rfl))
  f46 := ⟨Tryz.f263.name, by decide, func263.trans (congrArg some (by kernel_rfl))⟩
  f47 := func264.trans (congrArg some (by kernel_rfl))
  f48 := func265.trans (congrArg some (by kernel_rfl))
  f49 := ⟨Tryz.f266.name, by decide, func266.trans (congrArg some (by kernel_rfl))⟩
  f50 := ⟨Tryz.f267.name, by decide, func267.trans (congrArg some (by kernel_rfl))⟩
  f57 := ⟨Tryz.f295.name, by decide, func295.trans (congrArg some (by kernel_rfl))⟩
  t0 := Tryz.underlying0
  a0 := Tryz.isAgg0
  z0 := Tryz.sizeOf0
  v0 := Tryz.zeroValue0
  t3 := Tryz.underlying3
  a3 := Tryz.isAgg3
  z3 := Tryz.sizeOf3
  v3 := Tryz.zeroValue3
  t4 := Tryz.underlying4
  a4 := Tryz.isAgg4
  z4 := Tryz.sizeOf4
  v4 := Tryz.zeroValue4
  t5 := Tryz.underlying5
  a5 := Tryz.isAgg5
  z5 := Tryz.sizeOf5
  v5 := Tryz.zeroValue5
  t9 := Tryz.underlying9
  a9 := Tryz.isAgg9
  z9 := Tryz.sizeOf9
  v9 := Tryz.zeroValue9
  t22 := Tryz.underlying57
  a22 := Tryz.isAgg57
  z22 := Tryz.sizeOf57
  v22 := Tryz.zeroValue57
  t25 := Tryz.underlying196
  a25 := Tryz.isAgg196
  z25 := Tryz.sizeOf196
  v25 := Tryz.zeroValue196
  t39 := Tryz.underlying240
  a39 := Tryz.isAgg240
  z39 := Tryz.sizeOf240
  v39 := Tryz.zeroValue240
  t45 := Tryz.underlying271
  a45 := Tryz.isAgg271
  z45 := Tryz.sizeOf271
  v45 := Tryz.zeroValue271
  t46 := Tryz.underlying272
  a46 := Tryz.isAgg272
  z46 := Tryz.sizeOf272
  v46 := Tryz.zeroValue272
  t50 := Tryz.underlying276
  a50 := Tryz.isAgg276
  z50 := Tryz.sizeOf276
  v50 := Tryz.zeroValue276
  t53 := Tryz.underlying279
  a53 := Tryz.isAgg279
  z53 := Tryz.sizeOf279
  v53 := Tryz.zeroValue279
  t55 := Tryz.underlying154
  a55 := Tryz.isAgg154
  z55 := Tryz.sizeOf154
  v55 := Tryz.zeroValue154
  t66 := Tryz.underlying296
  a66 := Tryz.isAgg296
  z66 := Tryz.sizeOf296
  v66 := Tryz.zeroValue296
  t70 := Tryz.underlying300
  a70 := Tryz.isAgg300
  z70 := Tryz.sizeOf300
  v70 := Tryz.zeroValue300
  t76 := Tryz.underlying323
  a76 := Tryz.isAgg323
  z76 := Tryz.sizeOf323
  v76 := Tryz.zeroValue323
  t77 := Tryz.underlying324
  a77 := Tryz.isAgg324
  z77 := Tryz.sizeOf324
  v77 := Tryz.zeroValue324 }
end Go.Proofs
end
