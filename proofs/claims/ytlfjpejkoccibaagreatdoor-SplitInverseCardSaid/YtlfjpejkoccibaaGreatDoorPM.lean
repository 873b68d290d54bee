/-
  Walks: what functions of the program compute. Printed by wip/gen/mk2.py.
  Conditions: none.
-/
import Derived.Test.YtlfjpejkoccibaaGreatDoorPJ
import Derived.Test.YtlfjpejkoccibaaGreatDoorPlain3
set_option linter.unusedSimpArgs false
set_option linter.unusedVariables false
set_option maxRecDepth 10000
namespace Go.W
open Go Go.Eng Go.Proofs Go.L41 Go.Br
attribute [local irreducible] AWP RWP TD finQ
theorem splitT_err {n:Ns} {loop:ByteArray} {by_:Int} {outer inner:ByteArray} (h:¬(splitT n loop by_ outer inner).2=0):(splitT n loop by_ outer inner).1=zNs:=by
  unfold splitT at h⊢
  split
  · next c=>
    rw [if_pos c] at h
    split
    · next d=>
      rw [if_pos d] at h
      unfold finT at h⊢
      split
      · next e=>rw [if_pos e] at h;exact absurd rfl h
      · rfl
    · rfl
  · rfl
theorem splitT_wt {n:Ns} {loop:ByteArray} {by_:Int} {outer inner:ByteArray} (h:stsWt n.Body<=600):stsWt (splitT n loop by_ outer inner).1.Body<=30000:=by
  unfold splitT
  split
  · split
    · have h1:=splS_wt (locT n loop).2.1 by_ outer inner (formT by_ outer inner) (outS (sbT loop (formT by_ outer inner) (locT n loop).2.1.Body))
      have h2:=(zQj by_ outer inner).2
      have h3:=sbT_wt (s:=loop) (u:=formT by_ outer inner) (l:=(locT n loop).2.1.Body) (by omega)
      have h4:=zPw n loop
      unfold finT
      split
      · have h5:=repR_wt (n:=n) (way:=wayF n loop) (q:=[splS (locT n loop).2.1 by_ outer inner (formT by_ outer inner) (outS (sbT loop (formT by_ outer inner) (locT n loop).2.1.Body))])
        show stsWt (repR _ _ _).Body<=_
        omega
      · show stsWt []<=_;rw [stsWt];omega
    · show stsWt []<=_;rw [stsWt];omega
  · show stsWt []<=_;rw [stsWt];omega
theorem law_SplitInverse (n:Ns) (loop:ByteArray) (by_:Int) (outer inner:ByteArray) (hf:n.Fit) (hr:allSs Lf.rng n.Body) (hb:r64 by_):
    Pur cfg 8 [vNs n,vS loop,vI by_,vS outer,vS inner] (vB true):=by
 refine zQ Tryz.func8 O Tryz.ntmps8 Tryz.results8 O ?_
 intro z hz
 obtain ⟨m,hm0⟩:∃m,splitT n loop by_ outer inner=m:=⟨_,rfl⟩
 obtain ⟨s,hs0⟩:∃s,(atT n.Body (wayF n loop)).1=s:=⟨_,rfl⟩
 have hwl:=zJl n loop
 have hwN:=zDq n.Body
 refine F O<|zU O O (qL O O) ?_
 rintro _ _ ⟨b1,rfl,rfl⟩
 refine A O<|H<|zI<|F O<|zO kF (R 0 O) O<|qG O ok18 (law36_Small n 600 600 hf (by omega) O) ⟨G,O,G,O,T⟩<|kY O<|H<|zD O (fun c1=>?_) (fun c1=>?_)
 ·try simp only [I] at c1
  refine F O<|qG O ok19 zCu T<|A O<|H<|o<|X O ?_
  rfl
 ·try simp only [I] at c1
  have c1:smS n 600=true:=by simpa using c1
  obtain ⟨k1,k3⟩:=smS_yes c1
  have hok:=hf.ok (m:=600) (by omega) (by omega) k3
  have hw:=weighB_wt k3
  refine zH<|F O<|zO kF (R 0 O) O<|A O<|A O<|A O<|A O<|qG O ok20 (show Pur cfg 20 [vNs n,vS loop,vI by_,vS outer,vS inner] (.tup [vNs m.1,vI m.2]) by rw [←hm0];exact zIw n loop by_ outer inner hok (by omega) hr hb) ⟨G,O,G,O,G,O,G,O,G,O,T⟩<|qN O<|zR O (qT O O O)<|qU O<|zU O O (qC [some 8,some 20] O U O) ?_
  rintro _ _ ⟨b2,rfl,rfl⟩
  refine D 0 W O<|A O<|H<|zI<|F O<|A O<|yP O<|H<|zD O (fun c2=>?_) (fun c2=>?_)
  ·try simp only [I] at c2
   have hz:m.1=zNs:=by rw [←hm0];exact splitT_err (by rw [hm0];exact c2)
   refine F O<|zJ O zBh<|zK zFo (R 0 O) O<|qB O el22<|yZ O<|A O<|M O (fun g5_4=>zE O wO O) O<|B 39 O (fun g5_4=>Q O kM O (R 0 O) O) O<|B 40 O (fun g5_4=>yE O K O) O<|B 41 O (fun g5_4=>yX O O O) O<|kD O (fun h=>h)<|A O<|M O (fun g5_10=>qI O ok19 zCu T) O<|kD O (fun h=>h)<|A O<|H<|o<|X O ?_
   exact congrArg vB (by rw [hz];rfl)
  ·try simp only [I] at c2
   have h2:m.2=0:=by omega
   have hi:=inv_law (n:=n) (loop:=loop) (by_:=by_) (outer:=outer) (inner:=inner) hr (by rw [hm0];exact h2)
   rw [hm0,hs0] at hi
   obtain ⟨i0,i1,i2,i3,i4,i7,i5⟩:=hi
   refine zH<|F O<|zO kF (R 1 O) O<|A O<|qG O ok28 (show Pur cfg 28 [vNs n,vS loop] (.tup [vIs (wayF n loop),vB (findN n.Body loop).isSome]) from ref30_Find n loop (by omega)) ⟨G,O,G,O,T⟩<|qN O<|qU O<|qU O<|A O<|A O<|H<|F O<|zO kF (R 1 O) O<|A O<|qG O ok29 (show Pur cfg 29 [vNs n,vIs (wayF n loop)] (.tup [vSt s,vB (atT n.Body (wayF n loop)).2]) by rw [←hs0];exact ref30_At n (wayF n loop) (by omega)) ⟨G,O,G,O,T⟩<|qN O<|zR O (qT O O O)<|qU O<|zU O O (qC [none,none,none,none,none,some 4,none,none,none,none,none,none,none,none,none,none,some 2,some 4,some 13,some 20] O d O) ?_
   rintro _ _ ⟨b3,rfl,rfl⟩
   refine D 0 sz46 O<|A O<|H<|zI<|F O<|A O<|kY O<|A O<|M O (fun g8_2=>w O O) O<|B 62 O (fun g8_2=>zHk O O O) O<|j O (fun h=>(lzf h))<|H<|zD O (fun c3=>?_) (fun c3=>?_)
   ·try simp only [I] at c3
    exact absurd c3 (by intro h;simp [i4] at h;omega)
   ·try simp only [I] at c3
    refine zH<|zI<|F O<|zJ O zAi<|zK J (R 0 O) O<|A O<|zR O (det_rem O O O (by omega))<|yP O<|H<|zD O (fun c4=>?_) (fun c4=>?_)
    ·try simp only [I] at c4
     refine F O<|qG O ok19 zCu T<|A O<|H<|o<|X O ?_
     rfl
    ·try simp only [I] at c4
     obtain ⟨hmr,i6⟩:=i5 (by omega)
     have hmok:m.1.Ok:=by rw [←hm0];exact splitT_ok hok (by omega)
     have hmw:stsWt m.1.Body<=30000:=by rw [←hm0];exact splitT_wt (by omega)
     refine zH<|F O<|zO kF (R 1 O) O<|A O<|A O<|qG O ok26 (show Pur cfg 26 [vNs m.1,vS outer,vS loop] (.tup [vNs n,vI 0]) by have h9:=zIn m.1 outer loop hmok (by omega) hmr many_ok;rw [i6] at h9;exact h9) ⟨G,O,G,O,G,O,T⟩<|qN O<|zR O (qT O O O)<|qU O<|zU O O (qC [some 8,some 20] O U O) ?_
     rintro _ _ ⟨b4,rfl,rfl⟩
     refine D 0 W O<|A O<|H<|F O<|A O<|yZ O<|A O<|M O (fun g13_2=>zX O kF O (R 0 O) O) O<|M O (fun g13_2=>zX O kF O (R 3 O) O) O<|rLz [(81,_),(82,_)] O gv1 ⟨O,O,O,O,T⟩ (fun g13_2=>qI O ok14 (base_Nest n n hok) ⟨G,O,G,O,T⟩) O<|kD O (fun h=>h)<|A O<|M O (fun g13_7=>qI O ok19 zCu T) O<|kD O (fun h=>h)<|A O<|H<|o<|X O ?_
     exact congrArg vB (by simp)
end Go.W
