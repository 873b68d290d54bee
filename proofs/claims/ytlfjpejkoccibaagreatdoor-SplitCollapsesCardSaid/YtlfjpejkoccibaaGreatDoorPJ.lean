/-
  What functions compute.
  Conditions: none.
-/
import Derived.Test.YtlfjpejkoccibaaGreatDoorWalkS
set_option linter.unusedSimpArgs false
set_option linter.unusedVariables false
set_option maxRecDepth 10000
namespace Go.W
open Go Go.Eng Go.Proofs Go.L41 Go.Br
attribute [local irreducible] AWP RWP TD fH
def smS (n:Ns) (m:Nat):Bool:=decide (n.Bufs.length<=60)&&decide (jK n.Body m<=m)
theorem smS_yes {n:Ns} {m:Nat} (h:smS n m=true):n.Bufs.length<=60/\jK n.Body m<=m:=by
  unfold smS at h
  simpa using h
theorem zNs_ok:zNs.Ok:=⟨by show 0<=_;omega,fun b hb=>(by cases hb),by show bC []<=_;rw [bC];omega⟩
theorem finT_ok {n:Ns} {way:List Int} {q:List St} (hn:n.Ok) (h:bC n.Body+bC q<=1000000):(pE n way q).1.Ok:=by
  unfold pE
  split
  · exact repR_ok hn (by omega)
  · exact zNs_ok
theorem ok18:bA Tryz.prog 18=true:=by kernel_rfl
theorem ok19:bA Tryz.prog 19=true:=by kernel_rfl
theorem law36_Small (n:Ns) (m:Nat) (x:Int) (hf:n.Fit) (hm:m<=5000) (hx:x=m):
    Pur cfg 18 [vNs n,vI x] (vB (smS n m)):=by
 refine zT Tryz.func18 O Tryz.ntmps18 Tryz.results18 O ?_
 intro z hz
 refine F O<|zV O O (qN O O) ?_
 rintro _ _ ⟨b1,rfl,rfl⟩
 refine A O<|H<|F O<|zG O zAt<|zJ zEk (R 0 O) O<|qC O el22<|zU O (wY O O O)<|A O<|rL0 O (fun g1_4=>zE O zAd O) O<|B 10 O (fun g1_4=>zF O kP O (R 0 O) O) O<|rL0 O (fun g1_4=>zN O O) O<|rLz [(11,_),(12,_)] O gv1 ⟨O,O,O,O,T⟩ (fun g1_4=>qM O ok30 (zWz n.Body m x hf.body hf.len hm hx) ⟨G,O,G,O,T⟩) O<|rL0 O (fun g1_4=>zN O O) O<|rLz [(13,_),(14,_)] O gv1 ⟨O,O,O,O,T⟩ (fun g1_4=>wY O O O) O<|yQ O (fun h=>h)<|A O<|H<|o<|X O ?_
 subst hx
 exact congrArg vB (by unfold smS;congr 1<;>exact decide_eq_decide.2 (by omega))
end Go.W
