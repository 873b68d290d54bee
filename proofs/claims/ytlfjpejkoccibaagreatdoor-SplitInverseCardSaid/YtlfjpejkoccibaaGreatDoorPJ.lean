/-
  Walks: what functions of the program compute. Printed by wip/gen/mk2.py.
  Conditions: none.
-/
import Derived.Test.YtlfjpejkoccibaaGreatDoorWalkS
set_option linter.unusedSimpArgs false
set_option linter.unusedVariables false
set_option maxRecDepth 10000
namespace Go.W
open Go Go.Eng Go.Proofs Go.L41 Go.Br
attribute [local irreducible] AWP RWP TD finQ
def smS (n:Ns) (m:Nat):Bool:=decide (n.Bufs.length<=60)&&decide (weighB n.Body m<=m)
theorem smS_yes {n:Ns} {m:Nat} (h:smS n m=true):n.Bufs.length<=60/\weighB n.Body m<=m:=by
  unfold smS at h
  simpa using h
theorem zNs_ok:zNs.Ok:=⟨by show 0<=_;omega,fun b hb=>(by cases hb),by show stsWt []<=_;rw [stsWt];omega⟩
theorem finT_ok {n:Ns} {way:List Int} {q:List St} (hn:n.Ok) (h:stsWt n.Body+stsWt q<=1000000):(finT n way q).1.Ok:=by
  unfold finT
  split
  · exact repR_ok hn (by omega)
  · exact zNs_ok
theorem splitT_ok {n:Ns} {loop:ByteArray} {by_:Int} {outer inner:ByteArray} (hn:n.Ok) (h:stsWt n.Body<=1000):(splitT n loop by_ outer inner).1.Ok:=by
  unfold splitT
  split
  · split
    · refine finT_ok hn ?_
      have h1:=splS_wt (locT n loop).2.1 by_ outer inner (formT by_ outer inner) (outS (sbT loop (formT by_ outer inner) (locT n loop).2.1.Body))
      have h2:=(zQj by_ outer inner).2
      have h3:=sbT_wt (s:=loop) (u:=formT by_ outer inner) (l:=(locT n loop).2.1.Body) (by omega)
      have h4:=zPw n loop
      omega
    · exact zNs_ok
  · exact zNs_ok
theorem ok18:callOk Tryz.prog 18=true:=by kernel_rfl
theorem ok19:callOk Tryz.prog 19=true:=by kernel_rfl
theorem law36_Small (n:Ns) (m:Nat) (x:Int) (hf:n.Fit) (hm:m<=5000) (hx:x=m):
    Pur cfg 18 [vNs n,vI x] (vB (smS n m)):=by
 refine zQ Tryz.func18 O Tryz.ntmps18 Tryz.results18 O ?_
 intro z hz
 refine F O<|zU O O (qL O O) ?_
 rintro _ _ ⟨b1,rfl,rfl⟩
 refine A O<|H<|F O<|zJ O zBh<|zK zFo (R 0 O) O<|qB O el22<|zR O (wV O O O)<|A O<|M O (fun g1_4=>zE O wO O) O<|B 10 O (fun g1_4=>Q O kM O (R 0 O) O) O<|M O (fun g1_4=>w O O) O<|rLz [(11,_),(12,_)] O gv1 ⟨O,O,O,O,T⟩ (fun g1_4=>qI O ok30 (zRi n.Body m x hf.body hf.len hm hx) ⟨G,O,G,O,T⟩) O<|M O (fun g1_4=>w O O) O<|rLz [(13,_),(14,_)] O gv1 ⟨O,O,O,O,T⟩ (fun g1_4=>wV O O O) O<|kD O (fun h=>h)<|A O<|H<|o<|X O ?_
 subst hx
 exact congrArg vB (by unfold smS;congr 1<;>exact decide_eq_decide.2 (by omega))
end Go.W
