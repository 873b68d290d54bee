/-
  Walks: what functions of the program compute. Printed by wip/gen/mk2.py.
  Conditions: none.
-/
import Derived.Test.YtlfjpejkoccibaaGreatDoorRemG
set_option linter.unusedSimpArgs false
set_option linter.unusedVariables false
set_option maxRecDepth 10000
namespace Go.W
open Go Go.Eng Go.Proofs Go.L41 Go.Br
attribute [local irreducible] AWP RWP TD finQ
theorem remT_ok {n:Ns} (hn:n.Ok):(remT n).1.Ok:=by
  unfold remT
  split
  · exact ⟨hn.bufs,hn.dims,by have h1:=(zMt [] n.Body).2;have h2:=hn.body;show stsWt (ungL [] n.Body).1.1<=_;omega⟩
  · exact zNs_ok
theorem ok25:callOk Tryz.prog 25=true:=by kernel_rfl
theorem law_SplitRemovesGuards (n:Ns) (hf:n.Fit) (hr:allSs Lf.rng n.Body):
    Pur cfg 6 [vNs n] (vB true):=by
 refine zR Tryz.func6 O Tryz.ntmps6 Tryz.results6 O ?_
 intro z hz
 refine G O<|zU O O (qM O O) ?_
 rintro _ _ ⟨b1,rfl,rfl⟩
 refine F O<|I<|zJ<|G O<|zO kG (Y 0 O) O<|qJ O ok18 (law36_Small n 600 600 hf (by omega) O) ⟨H,O,H,O,T⟩<|kO O<|I<|zF O (fun c1=>?_) (fun c1=>?_)
 ·try simp only [R] at c1
  refine G O<|qJ O ok19 zJx T<|F O<|I<|o<|X O ?_
  rfl
 ·try simp only [R] at c1
  have c1:smS n 600=true:=by simpa using c1
  obtain ⟨k1,k3⟩:=smS_yes c1
  have hok:=hf.ok (m:=600) (by omega) (by omega) k3
  have hw:=weighB_wt k3
  refine zI<|G O<|zO kG (Y 0 O) O<|qJ O ok24 (zCm n hok (by omega) hr gd_valid) ⟨H,O,T⟩<|qP O<|yO O<|qT O<|zU O O (qE [some 8,some 20] O d O) ?_
  rintro _ _ ⟨b2,rfl,rfl⟩
  refine D 0 i O<|F O<|I<|G O<|zO kG (Y 1 O) O<|qJ O ok25 (show Pur cfg 25 [vNs n] (.tup [vNs (remT n).1,vI (remT n).2]) by rw [rem_is];exact zLi n hok (by omega) hr gd_valid) ⟨H,O,T⟩<|qP O<|yO O<|qT O<|zU O O (qE [some 8,some 20] O d O) ?_
  rintro _ _ ⟨b3,rfl,rfl⟩
  refine D 0 i O<|F O<|I<|G O<|zO kG (Y 1 O) O<|zO kG (Y 0 O) O<|qJ O ok14 (base_Nest (remT n).1 (remT n).1 (remT_ok hok)) ⟨H,O,H,O,T⟩<|F O<|rL0 O (fun g5_3=>zN O O) O<|rL0 O (fun g5_3=>zN O O) O<|rLz [(25,_),(26,_)] O gv1 ⟨O,O,O,O,T⟩ (fun g5_3=>yG O O O) O<|yQ O (fun h=>h)<|F O<|rL0 O (fun g5_8=>qL O ok19 zJx T) O<|yQ O (fun h=>h)<|F O<|I<|o<|X O ?_
  exact congrArg vB (by simp)
end Go.W
