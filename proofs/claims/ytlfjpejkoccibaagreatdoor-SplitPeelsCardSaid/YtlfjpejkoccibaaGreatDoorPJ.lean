/-
  Walks: what functions of the program compute. Printed by wip/gen/mk2.py.
  Conditions: none.
-/
import Derived.Test.YtlfjpejkoccibaaGreatDoorWalkS
set_option linter.unusedSimpArgs false
set_option linter.unusedVariables false
set_option maxRecDepth 10000
namespace Go.W
open Go Go.Eng Go.Proofs Go.L41 Go.Br
attribute [local irreducible] AWP RWP TD finQ
def smS (n:Ns) (m:Nat):Bool:=decide (n.Bufs.length<=60)&&decide (weighB n.Body m<=m)
theorem smS_yes {n:Ns} {m:Nat} (h:smS n m=true):n.Bufs.length<=60/\weighB n.Body m<=m:=by
  unfold smS at h
  simpa using h
theorem zNs_ok:zNs.Ok:=⟨by show 0<=_;omega,fun b hb=>(by cases hb),by show stsWt []<=_;rw [stsWt];omega⟩
theorem finT_ok {n:Ns} {way:List Int} {q:List St} (hn:n.Ok) (h:stsWt n.Body+stsWt q<=1000000):(finT n way q).1.Ok:=by
  unfold finT
  split
  · exact repR_ok hn (by omega)
  · exact zNs_ok
theorem peelT_ok {n:Ns} {loop:ByteArray} {many:Int} {rest:ByteArray} (hn:n.Ok) (h:stsWt n.Body<=1000):(peelT n loop many rest).1.Ok:=by
  unfold peelT
  split
  · split
    · refine finT_ok hn ?_
      have h1:=peelS_wt (locT n loop).2.1 many (w64 ((locT n loop).2.1.Many-many)) rest (outS (sbT loop (peelF many rest) (locT n loop).2.1.Body))
      have h2:=(zTk many rest).2
      have h3:=sbT_wt (s:=loop) (u:=peelF many rest) (l:=(locT n loop).2.1.Body) (by omega)
      have h4:=locT_wt n loop
      have h5:=locS_wt n loop
      omega
    · exact zNs_ok
  · exact zNs_ok
theorem ok18:callOk Tryz.prog 18=true:=by kernel_rfl
theorem ok19:callOk Tryz.prog 19=true:=by kernel_rfl
theorem ok23:callOk Tryz.prog 23=true:=by kernel_rfl
theorem law36_Small (n:Ns) (m:Nat) (x:Int) (hf:n.Fit) (hm:m<=5000) (hx:x=m):
    Pur cfg 18 [vNs n,vI x] (vB (smS n m)):=by
 refine zT Tryz.func18 O Tryz.ntmps18 Tryz.results18 O ?_
 intro z hz
 refine F O<|zX O O (qN O O) ?_
 rintro _ _ ⟨b1,rfl,rfl⟩
 refine A O<|G<|F O<|zH O zAr<|zM zEi (R 0 O) O<|qC O el22<|zU O (wX O O O)<|A O<|rL0 O (fun g1_4=>zE O zAd O) O<|B 10 O (fun g1_4=>zF O kQ O (R 0 O) O) O<|rL0 O (fun g1_4=>w O O) O<|rLz [(11,_),(12,_)] O gv1 ⟨O,O,O,O,T⟩ (fun g1_4=>qM O ok30 (zVk n.Body m x hf.body hf.len hm hx) ⟨H,O,H,O,T⟩) O<|rL0 O (fun g1_4=>w O O) O<|rLz [(13,_),(14,_)] O gv1 ⟨O,O,O,O,T⟩ (fun g1_4=>wX O O O) O<|yS O (fun h=>h)<|A O<|G<|o<|X O ?_
 subst hx
 exact congrArg vB (by unfold smS;congr 1<;>exact decide_eq_decide.2 (by omega))
theorem law_SplitPeels (n:Ns) (loop:ByteArray) (many:Int) (rest:ByteArray) (hf:n.Fit) (hr:allSs Lf.rng n.Body) (hb:r64 many):
    Pur cfg 5 [vNs n,vS loop,vI many,vS rest] (vB true):=by
 refine zT Tryz.func5 O Tryz.ntmps5 Tryz.results5 O ?_
 intro z hz
 refine F O<|zX O O (qN O O) ?_
 rintro _ _ ⟨b1,rfl,rfl⟩
 refine A O<|G<|zJ<|F O<|zP yY (R 0 O) O<|qI O ok18 (law36_Small n 600 600 hf (by omega) O) ⟨H,O,H,O,T⟩<|kO O<|G<|zD O (fun c1=>?_) (fun c1=>?_)
 ·try simp only [I] at c1
  refine F O<|qI O ok19 zLf T<|A O<|G<|o<|X O ?_
  rfl
 ·try simp only [I] at c1
  have c1:smS n 600=true:=by simpa using c1
  obtain ⟨k1,k3⟩:=smS_yes c1
  have hok:=hf.ok (m:=600) (by omega) (by omega) k3
  have hw:=weighB_wt k3
  refine zK<|F O<|zP yY (R 0 O) O<|A O<|A O<|A O<|qI O ok22 (split_Peel n loop many rest hok (by omega) hr hb) ⟨H,O,H,O,H,O,H,O,T⟩<|qO O<|yJ O<|qU O<|zX O O (qE [some 8,some 20] O i O) ?_
  rintro _ _ ⟨b2,rfl,rfl⟩
  refine Y 0 y O<|A O<|G<|F O<|zP yY (R 1 O) O<|A O<|A O<|A O<|qI O ok23 (ref36_Peel n loop many rest hok (by omega) hr hb) ⟨H,O,H,O,H,O,H,O,T⟩<|qO O<|yJ O<|qU O<|zX O O (qE [some 8,some 20] O i O) ?_
  rintro _ _ ⟨b3,rfl,rfl⟩
  refine Y 0 y O<|A O<|G<|F O<|zP yY (R 1 O) O<|zP yY (R 0 O) O<|qI O ok14 (base_Nest (peelT n loop many rest).1 (peelT n loop many rest).1 (peelT_ok hok (by omega))) ⟨H,O,H,O,T⟩<|A O<|rL0 O (fun g5_3=>w O O) O<|rL0 O (fun g5_3=>w O O) O<|rLz [(37,_),(38,_)] O gv1 ⟨O,O,O,O,T⟩ (fun g5_3=>yL O O O) O<|yS O (fun h=>h)<|A O<|rL0 O (fun g5_8=>qM O ok19 zLf T) O<|yS O (fun h=>h)<|A O<|G<|o<|X O ?_
  exact congrArg vB (by simp)
end Go.W
