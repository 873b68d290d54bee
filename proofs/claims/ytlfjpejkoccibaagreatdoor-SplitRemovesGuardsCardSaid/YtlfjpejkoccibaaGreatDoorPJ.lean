/-
  Walks: what functions of the program compute. Printed by wip/gen/mk2.py.
  Conditions: none.
-/
import Derived.Test.YtlfjpejkoccibaaGreatDoorWalkS
set_option linter.unusedSimpArgs false
set_option linter.unusedVariables false
set_option maxRecDepth 10000
namespace Go.W
open Go Go.Eng Go.Proofs Go.L41 Go.Br
attribute [local irreducible] AWP RWP TD finQ
def smS (n:Ns) (m:Nat):Bool:=decide (n.Bufs.length<=60)&&decide (weighB n.Body m<=m)
theorem smS_yes {n:Ns} {m:Nat} (h:smS n m=true):n.Bufs.length<=60/\weighB n.Body m<=m:=by
  unfold smS at h
  simpa using h
theorem zNs_ok:zNs.Ok:=⟨by show 0<=_;omega,fun b hb=>(by cases hb),by show stsWt []<=_;rw [stsWt];omega⟩
theorem ok18:callOk Tryz.prog 18=true:=by kernel_rfl
theorem ok19:callOk Tryz.prog 19=true:=by kernel_rfl
theorem law36_Small (n:Ns) (m:Nat) (x:Int) (hf:n.Fit) (hm:m<=5000) (hx:x=m):
    Pur cfg 18 [vNs n,vI x] (vB (smS n m)):=by
 refine zR Tryz.func18 O Tryz.ntmps18 Tryz.results18 O ?_
 intro z hz
 refine G O<|zU O O (qM O O) ?_
 rintro _ _ ⟨b1,rfl,rfl⟩
 refine F O<|I<|G O<|zH O zAg<|zK zDm (Y 0 O) O<|qB O el22<|zX O (wQ O O O)<|F O<|rL0 O (fun g1_4=>zD O zAc O) O<|B 10 O (fun g1_4=>Q O kT O (Y 0 O) O) O<|rL0 O (fun g1_4=>zN O O) O<|rLz [(11,_),(12,_)] O gv1 ⟨O,O,O,O,T⟩ (fun g1_4=>qL O ok30 (zTn n.Body m x hf.body hf.len hm hx) ⟨H,O,H,O,T⟩) O<|rL0 O (fun g1_4=>zN O O) O<|rLz [(13,_),(14,_)] O gv1 ⟨O,O,O,O,T⟩ (fun g1_4=>wQ O O O) O<|yQ O (fun h=>h)<|F O<|I<|o<|X O ?_
 subst hx
 exact congrArg vB (by unfold smS;congr 1<;>exact decide_eq_decide.2 (by omega))
end Go.W
