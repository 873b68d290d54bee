/-
  Walks: what functions of the program compute. Printed by wip/gen/mk2.py.
  Conditions: none.
-/
import Derived.Test.YtlfjpejkoccibaaGreatDoorNK
import Derived.Test.YtlfjpejkoccibaaGreatDoorPlain2
import Derived.Test.YtlfjpejkoccibaaGreatDoorEngZ
set_option linter.unusedSimpArgs false
set_option linter.unusedVariables false
set_option maxRecDepth 10000
namespace Go.W
open Go Go.Eng Go.Proofs Go.L41 Go.Br
attribute [local irreducible] AWP RWP TD finQ
theorem ok108:callOk Tryz.prog 108=true:=by kernel_rfl
theorem ok109:callOk Tryz.prog 109=true:=by kernel_rfl
theorem substitute_1 (n:ByteArray) (u:Lf) (hu:u.L.length<=4294967296) (hru:u.rng) (l:Lf) (hl:l.L.length<=1073741824) (hr:l.rng):
    Pur cfg 108 [vLin l,.c (.iptr [cS n]),.c (.iptr u.cells)] (.tup [vLin (sbF n u l).1,vI (sbF n u l).2]):=by
 refine zQ Tryz.func108 O Tryz.ntmps108 Tryz.results108 O ?_
 intro z hz
 refine F O<|zU O O (qL O O) ?_
 rintro _ _ ⟨b1,rfl,rfl⟩
 refine zU O O (qC [none,some 2] O zr41 O) ?_
 rintro _ _ ⟨b2,rfl,rfl⟩
 refine A O<|H<|F O<|zO kE (R 1 O) O<|zK one9 qA O<|zO kE qA O<|qG O ok109 (lin_SubstR l n u (by omega) hu hr hru) ⟨G,O,G,O,G,O,T⟩<|zR O (qT O O O)<|qU O<|D 0 sz41 O<|A O<|H<|o<|p (y kE O (R 0 O) O) (N O) ?_
 exact O
theorem zAe (l:List St) (n:ByteArray) (u:Lf) (hu:u.L.length<=4294967296) (hru:u.rng) (hl:stsWt l<=1000000000) (hr:allSs Lf.rng l):
    Pur cfg 54 [vSts l,vS n,vLin u] (.tup [vSts (outS (sbT n u l)),vI (errE (sbT n u l))]):=by
 refine zQ Tryz.func54 O Tryz.ntmps54 Tryz.results54 O ?_
 intro z hz
 refine F O<|zU O O (qL O O) ?_
 rintro _ _ ⟨b1,rfl,rfl⟩
 refine yJ _ (yA 0 O 4 _ PLe.ptr)<|zU O O (qL O O) ?_
 rintro _ _ ⟨b2,rfl,rfl⟩
 refine yJ _ (yA 0 O 5 _ PLe.ptr)<|qX 20 O<|A O<|H<|F O<|A O<|zR O (zCx O O O O O)<|qG O ok91 (zCo (sbF n u) _ (fun l=>l.rng/\l.L.length<=1073741824) (fun l hl=>FnPur.of_pur (first:=[]) (cap:=[.iptr [cS n],.iptr u.cells]) ok108 (substitute_1 n u hu hru l hl.2 hl.1)) (fun x=>x) _ (fun s=>FnPur.of_pur (first:=[]) (cap:=[]) ok94 (zFs s)) l (zFd l hr (zJr (by omega))) (by omega)) ⟨G,O,G,O,G,O,T⟩<|qU O<|qU O<|A O<|A O<|H<|o<|p (N O) (N O) ?_
 exact O
end Go.W
