/-
  Walks: what functions of the program compute. Printed by wip/gen/mk2.py.
  Conditions: none.
-/
import Derived.Test.YtlfjpejkoccibaaGreatDoorWalkR
import Derived.Test.YtlfjpejkoccibaaGreatDoorPlain2
set_option linter.unusedSimpArgs false
set_option linter.unusedVariables false
set_option maxRecDepth 10000
namespace Go.W
open Go Go.Eng Go.Proofs Go.L41 Go.Br
attribute [local irreducible] AWP RWP TD finQ
theorem repR_wt {n:Ns} {way:List Int} {q:List St}:stsWt (repR n way q).Body<=stsWt n.Body+stsWt q:=by
  unfold repR
  split
  · next h=>exact replL_wt (way_of h).2
  · show stsWt []<=_;rw [stsWt];omega
theorem repR_ok {n:Ns} {way:List Int} {q:List St} (hn:n.Ok) (h:stsWt n.Body+stsWt q<=2000000):(repR n way q).Ok:=by
  have hw:=repR_wt (n:=n) (way:=way) (q:=q)
  have h2:∀b,b∈(repR n way q).Bufs->b∈n.Bufs:=by
    unfold repR;intro b hb
    split at hb
    · exact hb
    · cases hb
  refine ⟨?_,fun b hb=>hn.dims b (h2 b hb),by have:=hn.body;omega⟩
  unfold repR
  split
  · exact hn.bufs
  · show (0:Nat)<=_;omega
theorem ok12:callOk Tryz.prog 12=true:=by kernel_rfl
theorem ok13:callOk Tryz.prog 13=true:=by kernel_rfl
theorem ok14:callOk Tryz.prog 14=true:=by kernel_rfl
theorem ok15:callOk Tryz.prog 15=true:=by kernel_rfl
theorem ok39:callOk Tryz.prog 39=true:=by kernel_rfl
theorem ok40:callOk Tryz.prog 40=true:=by kernel_rfl
theorem zQk (n:Ns) (way:List Int) (q:List St) (hn:n.Ok) (hl:stsWt n.Body<=2000000) (hq:stsWt q<=2000000) (hw:way.length<=1073741824):
    Pur cfg 12 [vNs n,vIs way,vSts q] (.tup [vNs (repR n way q),vB (atT n.Body way).2]):=by
 refine zT Tryz.func12 O Tryz.ntmps12 Tryz.results12 O ?_
 intro z hz
 have hql:=kP q
 refine F O<|zX O O (qN O O) ?_
 rintro _ _ ⟨b1,rfl,rfl⟩
 refine zX O O (qE [some 8,some 20] O i O) ?_
 rintro _ _ ⟨b2,rfl,rfl⟩
 refine A O<|G<|zJ<|F O<|zH O zAd<|zM kQ (R 1 O) O<|A O<|qI O ok38 (zLe n.Body way (by omega)) ⟨H,O,H,O,T⟩<|qC O D<|yF O<|G<|zD O (fun c1=>?_) (fun c1=>?_)
 ·try simp only [I] at c1
  have he:trailT n.Body way=[]:=List.eq_nil_of_length_eq_zero (by omega)
  have ha:=at_none he
  refine F O<|qT [some 8,some 20] O i pl25<|Y 0 y O<|A O<|G<|o<|p (zV yY O (R 0 O) O) (J O) ?_
  rw [show repR n way q=⟨[],[]⟩ from if_neg (by rw [ha];simp),ha];rfl
 ·try simp only [I] at c1
  have hne:trailT n.Body way≠[]:=fun h=>c1 (by rw [h];rfl)
  have hok:=at_some hne
  obtain ⟨hwn,hwo⟩:=way_of hok
  refine zK<|F O<|zP yY (R 1 O) O<|zX O O (zMv O ok39 (loopnest_CopyC way hwn n hn hwo) ⟨H,O,T⟩) ?_
  rintro _ _ ⟨ch,rfl,rfl⟩
  refine zX O O (qE [some 8,some 20] O i O) ?_
  rintro _ _ ⟨b3,rfl,rfl⟩
  refine Y 0 y O<|G<|zJ<|qY 5 mixed (by kernel_rfl) O O<|M O O (zE O zAd O)<|M O O (zF O kQ O (R 0 O) O)<|M O O (w O O)<|M O O (w O O)<|M O O (qM O ok41 (zDh q (by omega)) ⟨H,O,T⟩)<|kD<|zX O O (zEg [1] O ok40 (replaceC way hwn ch n.Body q hwo (by omega) (by omega)) ⟨H,O,H,O,H,O,T⟩ O) ?_
  rintro _ _ ⟨_,⟨sv9,rfl,rfl⟩,rfl⟩
  refine zH O zAd<|Y 0 sz23 O<|G<|zJ<|zY _ (yH 1 O (regs':=[(23,_)]) (μ':=[_,_,_]) ⟨FLe.sl,T⟩ ⟨EFle.row (ds:=[_,_]) ⟨.inl O,.inr ⟨O,O⟩,T⟩,EFle.refl _,EFle.refl _,T⟩)<|zQ O<|zP yY (R 0 O) O<|Y 1 y O<|A O<|G<|o<|p (zV yY O (R 1 O) O) (J O) ?_
  rw [show repR n way q=replN n way q from if_pos hok,hok];rfl
end Go.W
