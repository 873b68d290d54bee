/-
  Walks: what functions of the program compute. Printed by wip/gen/mk2.py.
  Conditions: none.
-/
import Derived.Test.YtlfjpejkoccibaaGreatDoorNK
import Derived.Test.YtlfjpejkoccibaaGreatDoorPlain2
import Derived.Test.YtlfjpejkoccibaaGreatDoorEngZ
set_option linter.unusedSimpArgs false
set_option linter.unusedVariables false
set_option maxRecDepth 10000
namespace Go.W
open Go Go.Eng Go.Proofs Go.L41 Go.Br
attribute [local irreducible] AWP RWP TD finQ
theorem ok108:callOk Tryz.prog 108=true:=by kernel_rfl
theorem ok109:callOk Tryz.prog 109=true:=by kernel_rfl
theorem substitute_1 (n:ByteArray) (u:Lf) (hu:u.L.length<=4294967296) (hru:u.rng) (l:Lf) (hl:l.L.length<=1073741824) (hr:l.rng):
    Pur cfg 108 [vLin l,.c (.iptr [cS n]),.c (.iptr u.cells)] (.tup [vLin (sbF n u l).1,vI (sbF n u l).2]):=by
 refine zR Tryz.func108 O Tryz.ntmps108 Tryz.results108 O ?_
 intro z hz
 refine G O<|zU O O (qM O O) ?_
 rintro _ _ ⟨b1,rfl,rfl⟩
 refine zU O O (qE [none,some 2] O zr41 O) ?_
 rintro _ _ ⟨b2,rfl,rfl⟩
 refine F O<|I<|G O<|zO yY (Y 1 O) O<|zK one9 qA O<|zO yY qA O<|qJ O ok109 (lin_SubstR l n u (by omega) hu hr hru) ⟨H,O,H,O,H,O,T⟩<|yO O<|qT O<|D 0 sz41 O<|F O<|I<|o<|w (zV yY O (Y 0 O) O) (p O) ?_
 exact O
theorem zAr (l:List St) (n:ByteArray) (u:Lf) (hu:u.L.length<=4294967296) (hru:u.rng) (hl:stsWt l<=1000000000) (hr:allSs Lf.rng l):
    Pur cfg 54 [vSts l,vS n,vLin u] (.tup [vSts (outS (sbT n u l)),vI (errE (sbT n u l))]):=by
 refine zR Tryz.func54 O Tryz.ntmps54 Tryz.results54 O ?_
 intro z hz
 refine G O<|zU O O (qM O O) ?_
 rintro _ _ ⟨b1,rfl,rfl⟩
 refine yN _ (yM 0 O 4 _ PLe.ptr)<|zU O O (qM O O) ?_
 rintro _ _ ⟨b2,rfl,rfl⟩
 refine yN _ (yM 0 O 5 _ PLe.ptr)<|yA 20 O<|F O<|I<|G O<|F O<|zX O (zDj O O O O O)<|qJ O ok91 (zDa (sbF n u) _ (fun l=>l.rng/\l.L.length<=1073741824) (fun l hl=>FnPur.of_pur (first:=[]) (cap:=[.iptr [cS n],.iptr u.cells]) ok108 (substitute_1 n u hu hru l hl.2 hl.1)) (fun x=>x) _ (fun s=>FnPur.of_pur (first:=[]) (cap:=[]) ok94 (zGo s)) l (zTq l hr (zLa (by omega))) (by omega)) ⟨H,O,H,O,H,O,T⟩<|qT O<|qT O<|F O<|F O<|I<|o<|w (p O) (p O) ?_
 exact O
end Go.W
