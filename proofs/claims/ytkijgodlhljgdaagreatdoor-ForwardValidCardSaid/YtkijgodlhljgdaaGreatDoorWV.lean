/-
  Walks: what functions of the program compute. Printed by wip/gen/mk2.py.
  Conditions: none.
-/
import Derived.Test.YtkijgodlhljgdaaGreatDoorWU
import Derived.Test.YtkijgodlhljgdaaGreatDoorPlain2
import Derived.Test.YtkijgodlhljgdaaGreatDoorEngZ
set_option linter.unusedSimpArgs false
set_option linter.unusedVariables false
set_option maxRecDepth 10000
namespace Go.W
open Go Go.Eng Go.Proofs Go.L41 Go.Br
attribute [local irreducible] AWP RWP TD finQ
theorem ok153:callOk Tryz.prog 153=true:=by kernel_rfl
theorem ok154:callOk Tryz.prog 154=true:=by kernel_rfl
theorem expr_sorted (sv:Value) (l:List ByteArray) (hl:l.length<=4294967296):
    Con cfg 69 [.c (.lit sv)] [.vec sv 9 1 (strRows l)] fun r μ'=>∃sv',r=.c (.lit sv')/\μ'=[.vec sv' 9 1 (strRows (thinB (sortB l)))]:=by
 refine zT Tryz.func69 O Tryz.ntmps69 Tryz.results69 O ?_
 intro z hz
 refine B O<|zX O (yU 1 O O)<|U<|B O<|G O<|zX O (yR [0] O ok153 (sort_con sv l hl) ⟨Y,O,T⟩ O)<|U<|B O<|G O<|zZ O O (zKp 0 O O ok154 (thin_con sv (sortB l) (by rw [sortB_len];exact hl)) ⟨Y,O,T⟩) ?_
 rintro _ _ ⟨sv1,rfl,rfl⟩
 refine G O<|U<|zH<|zQ O ?_
 exact ⟨_,O,O⟩
end Go.W
