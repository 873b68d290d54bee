/-
  What functions compute.
  Conditions: none.
-/
import Derived.Test.YtlfjpejkoccibaaGreatDoorWalkR
import Derived.Test.YtlfjpejkoccibaaGreatDoorPlain2
set_option linter.unusedSimpArgs false
set_option linter.unusedVariables false
set_option maxRecDepth 10000
namespace Go.W
open Go Go.Eng Go.Proofs Go.L41 Go.Br
attribute [local irreducible] AWP RWP TD fH
theorem repR_wt {n:Ns} {way:List Int} {q:List St}:bC (lU n way q).Body<=bC n.Body+bC q:=by
  unfold lU
  split
  · next h=>exact replL_wt (way_of h).2
  · show bC []<=_;rw [bC];omega
theorem repR_ok {n:Ns} {way:List Int} {q:List St} (hn:n.Ok) (h:bC n.Body+bC q<=2000000):(lU n way q).Ok:=by
  have hw:=repR_wt (n:=n) (way:=way) (q:=q)
  have h2:∀b,b∈(lU n way q).Bufs->b∈n.Bufs:=by
    unfold lU;intro b hb
    split at hb
    · exact hb
    · cases hb
  refine ⟨?_,fun b hb=>hn.dims b (h2 b hb),by have:=hn.body;omega⟩
  unfold lU
  split
  · exact hn.bufs
  · show (0:Nat)<=_;omega
theorem ok12:bA Tryz.prog 12=true:=by kernel_rfl
theorem ok13:bA Tryz.prog 13=true:=by kernel_rfl
theorem ok14:bA Tryz.prog 14=true:=by kernel_rfl
theorem ok15:bA Tryz.prog 15=true:=by kernel_rfl
theorem ok39:bA Tryz.prog 39=true:=by kernel_rfl
theorem ok40:bA Tryz.prog 40=true:=by kernel_rfl
theorem zRp (n:Ns) (way:List Int) (q:List St) (hn:n.Ok) (hl:bC n.Body<=2000000) (hq:bC q<=2000000) (hw:way.length<=1073741824):
    Pur cfg 12 [vNs n,vIs way,bM q] (.tup [vNs (lU n way q),vB (atT n.Body way).2]):=by
 refine zT Tryz.func12 O Tryz.ntmps12 Tryz.results12 O ?_
 intro z hz
 have hql:=kO q
 refine F O<|zV O O (qN O O) ?_
 rintro _ _ ⟨b1,rfl,rfl⟩
 refine zV O O (qE [some 8,some 20] O W O) ?_
 rintro _ _ ⟨b2,rfl,rfl⟩
 refine A O<|H<|zK<|F O<|zG O zAd<|zJ kP (R 1 O) O<|A O<|qI O ok38 (zMe n.Body way (by omega)) ⟨G,O,G,O,T⟩<|qC O D<|yF O<|H<|zD O (fun c1=>?_) (fun c1=>?_)
 ·try simp only [I] at c1
  have he:fI n.Body way=[]:=List.eq_nil_of_length_eq_zero (by omega)
  have ha:=at_none he
  refine F O<|qT [some 8,some 20] O W pl25<|Y 0 i O<|A O<|H<|o<|w (y yY O (R 0 O) O) (J O) ?_
  rw [show lU n way q=⟨[],[]⟩ from if_neg (by rw [ha];simp),ha];rfl
 ·try simp only [I] at c1
  have hne:fI n.Body way≠[]:=fun h=>c1 (by rw [h];rfl)
  have hok:=at_some hne
  obtain ⟨hwn,hwo⟩:=way_of hok
  refine zM<|F O<|zP yY (R 1 O) O<|zV O O (zOb O ok39 (loopnest_CopyC way hwn n hn hwo) ⟨G,O,T⟩) ?_
  rintro _ _ ⟨ch,rfl,rfl⟩
  refine zV O O (qE [some 8,some 20] O W O) ?_
  rintro _ _ ⟨b3,rfl,rfl⟩
  refine Y 0 i O<|H<|zK<|qZ 5 mixed (by kernel_rfl) O O<|M O O (zE O zAd O)<|M O O (zF O kP O (R 0 O) O)<|M O O (zN O O)<|M O O (zN O O)<|M O O (qM O ok41 (zDl q (by omega)) ⟨G,O,T⟩)<|kE<|zV O O (zEj [1] O ok40 (replaceC way hwn ch n.Body q hwo (by omega) (by omega)) ⟨G,O,G,O,G,O,T⟩ O) ?_
  rintro _ _ ⟨_,⟨sv9,rfl,rfl⟩,rfl⟩
  refine zG O zAd<|Y 0 sz23 O<|H<|zK<|zY _ (yK 1 O (regs':=[(23,_)]) (μ':=[_,_,_]) ⟨FLe.sl,T⟩ ⟨EFle.row (ds:=[_,_]) ⟨.inl O,.inr ⟨O,O⟩,T⟩,EFle.refl _,EFle.refl _,T⟩)<|zQ O<|zP yY (R 0 O) O<|Y 1 i O<|A O<|H<|o<|w (y yY O (R 1 O) O) (J O) ?_
  rw [show lU n way q=vM n way q from if_pos hok,hok];rfl
end Go.W
