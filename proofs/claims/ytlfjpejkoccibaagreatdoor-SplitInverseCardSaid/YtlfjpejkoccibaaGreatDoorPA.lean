/-
  Walks: what functions of the program compute. Printed by wip/gen/mk2.py.
  Conditions: none.
-/
import Derived.Test.YtlfjpejkoccibaaGreatDoorWalkR
import Derived.Test.YtlfjpejkoccibaaGreatDoorPlain2
set_option linter.unusedSimpArgs false
set_option linter.unusedVariables false
set_option maxRecDepth 10000
namespace Go.W
open Go Go.Eng Go.Proofs Go.L41 Go.Br
attribute [local irreducible] AWP RWP TD finQ
theorem repR_wt {n:Ns} {way:List Int} {q:List St}:stsWt (repR n way q).Body<=stsWt n.Body+stsWt q:=by
  unfold repR
  split
  · next h=>exact replL_wt (way_of h).2
  · show stsWt []<=_;rw [stsWt];omega
theorem repR_ok {n:Ns} {way:List Int} {q:List St} (hn:n.Ok) (h:stsWt n.Body+stsWt q<=2000000):(repR n way q).Ok:=by
  have hw:=repR_wt (n:=n) (way:=way) (q:=q)
  have h2:∀b,b∈(repR n way q).Bufs->b∈n.Bufs:=by
    unfold repR;intro b hb
    split at hb
    · exact hb
    · cases hb
  refine ⟨?_,fun b hb=>hn.dims b (h2 b hb),by have:=hn.body;omega⟩
  unfold repR
  split
  · exact hn.bufs
  · show (0:Nat)<=_;omega
theorem ok12:callOk Tryz.prog 12=true:=by kernel_rfl
theorem ok14:callOk Tryz.prog 14=true:=by kernel_rfl
theorem ok15:callOk Tryz.prog 15=true:=by kernel_rfl
theorem ok39:callOk Tryz.prog 39=true:=by kernel_rfl
theorem ok40:callOk Tryz.prog 40=true:=by kernel_rfl
theorem zNi (n:Ns) (way:List Int) (q:List St) (hn:n.Ok) (hl:stsWt n.Body<=2000000) (hq:stsWt q<=2000000) (hw:way.length<=1073741824):
    Pur cfg 12 [vNs n,vIs way,vSts q] (.tup [vNs (repR n way q),vB (atT n.Body way).2]):=by
 refine zQ Tryz.func12 O Tryz.ntmps12 Tryz.results12 O ?_
 intro z hz
 have hql:=kP q
 refine F O<|zU O O (qL O O) ?_
 rintro _ _ ⟨b1,rfl,rfl⟩
 refine zU O O (qC [some 8,some 20] O U O) ?_
 rintro _ _ ⟨b2,rfl,rfl⟩
 refine A O<|H<|zI<|F O<|zJ O wO<|zK kM (R 1 O) O<|A O<|qG O ok38 (zIq n.Body way (by omega)) ⟨G,O,G,O,T⟩<|qB O K<|yZ O<|H<|zD O (fun c1=>?_) (fun c1=>?_)
 ·try simp only [I] at c1
  have he:trailT n.Body way=[]:=List.eq_nil_of_length_eq_zero (by omega)
  have ha:=at_none he
  refine F O<|qV [some 8,some 20] O U pl25<|D 0 W O<|A O<|H<|o<|p (y kF O (R 0 O) O) (N O) ?_
  rw [show repR n way q=⟨[],[]⟩ from if_neg (by rw [ha];simp),ha];rfl
 ·try simp only [I] at c1
  have hne:trailT n.Body way≠[]:=fun h=>c1 (by rw [h];rfl)
  have hok:=at_some hne
  obtain ⟨hwn,hwo⟩:=way_of hok
  refine zH<|F O<|zO kF (R 1 O) O<|zU O O (zKd O ok39 (loopnest_CopyC way hwn n hn hwo) ⟨G,O,T⟩) ?_
  rintro _ _ ⟨ch,rfl,rfl⟩
  refine zU O O (qC [some 8,some 20] O U O) ?_
  rintro _ _ ⟨b3,rfl,rfl⟩
  refine D 0 W O<|H<|zI<|qY 5 mixed (by kernel_rfl) O O<|Y O O (zE O wO O)<|Y O O (Q O kM O (R 0 O) O)<|Y O O (w O O)<|Y O O (w O O)<|Y O O (qI O ok41 (zCc q (by omega)) ⟨G,O,T⟩)<|kH<|zU O O (zDc [1] O ok40 (replaceC way hwn ch n.Body q hwo (by omega) (by omega)) ⟨G,O,G,O,G,O,T⟩ O) ?_
  rintro _ _ ⟨_,⟨sv9,rfl,rfl⟩,rfl⟩
  refine zJ O wO<|D 0 sz23 O<|H<|zI<|zV _ (yY 1 O (regs':=[(23,_)]) (μ':=[_,_,_]) ⟨FLe.sl,T⟩ ⟨EFle.row (ds:=[_,_]) ⟨.inl O,.inr ⟨O,O⟩,T⟩,EFle.refl _,EFle.refl _,T⟩)<|zT O<|zO kF (R 0 O) O<|D 1 W O<|A O<|H<|o<|p (y kF O (R 1 O) O) (N O) ?_
  rw [show repR n way q=replN n way q from if_pos hok,hok];rfl
end Go.W
