/-
  What functions compute.
  What functions compute.
  What functions compute.
  What functions compute.
  What functions compute.
  What functions compute.
  What functions compute.
  What functions compute.
  Conditions: none.
-/
import Derived.Test.YtlfjpejkoccibaaGreatDoorPA
import Derived.Test.YtlfjpejkoccibaaGreatDoorPlain2
import Derived.Test.YtlfjpejkoccibaaGreatDoorNL
set_option linter.unusedSimpArgs false
set_option linter.unusedVariables false
section
set_option maxRecDepth 10000
namespace Go.W
open Go Go.Eng Go.Proofs Go.L41 Go.Br
attribute [local irreducible] AWP RWP TD fH
theorem locT_no {n:Ns} {s:ByteArray} (h:¬gO n s=0):fM n s=([],zSt,gO n s):=if_neg h
theorem zOk {n:Ns} {s:ByteArray} (h:gO n s=0):fM n s=(fV n s,(atT n.Body (fV n s)).1,0):=if_pos h
theorem locE_1 {n:Ns} {s:ByteArray} (h:¬(dO n).2=0):gO n s=(dO n).2:=if_neg h
theorem locE_2 {n:Ns} {s:ByteArray} (h:(dO n).2=0) (h2:(dX n.Body s).isSome=false):gO n s=19:=by unfold gO;rw [if_pos h,if_neg (by rw [h2];simp)]
theorem locE_3 {n:Ns} {s:ByteArray} (h:(dO n).2=0) (h2:(dX n.Body s).isSome=true):gO n s=0:=by unfold gO;rw [if_pos h,if_pos h2]
theorem locT_e (n:Ns) (s:ByteArray):(fM n s).2.2=gO n s:=by
  by_cases h:gO n s=0
  · rw [zOk h,h]
  · rw [locT_no h]
theorem locT_w {n:Ns} {s:ByteArray} (h:gO n s=0):(fM n s).1=fV n s:=by rw [zOk h]
theorem zLd (n:Ns) (s:ByteArray):(fV n s).length<=bN n.Body:=by unfold fV;rw [zOr];exact fndL_getD _ _ _
theorem locT_wt (n:Ns) (s:ByteArray):bC (fM n s).2.1.Body<=bC n.Body+2:=by
  unfold fM
  split
  · have h1:=atT_wt (l:=n.Body) (way:=fV n s)
    have h2:=St.body_wt (atT n.Body (fV n s)).1
    show bC (atT n.Body (fV n s)).1.Body<=_
    omega
  · show bC zSt.Body<=_
    rw [show zSt.Body=[] from rfl,bC];omega
theorem zEx_rng:zEx.allF Lf.rng:=fun x hx l hl=>by
  have hx':x∈[zEx]:=hx
  obtain rfl:=List.mem_singleton.1 hx'
  have hl':l∈[(⟨0,[]⟩:Lf)]:=hl
  obtain rfl:=List.mem_singleton.1 hl'
  exact zIo
theorem zJb:zSt.allF Lf.rng:=by
  unfold zSt
  rw [St.allF,bH]
  exact ⟨fun x hx=>(by cases hx),zEx_rng,T⟩
theorem atF_all:∀{way:List Int} {l:List St} {s:St},bH Lf.rng l->s.allF Lf.rng->(atF way l s).1.allF Lf.rng
  |[],_,_,_,h=>by rw [atF];exact h
  |i::r,l,s,hl,hs=>by
    rw [atF]
    split
    · next h=>
      have h1:=kY hl _ (zMm h)
      exact atF_all (St.allF_eq h1).2.2 h1
    · exact zJb
theorem locT_rng {n:Ns} {s:ByteArray} (h:bH Lf.rng n.Body):bH Lf.rng (fM n s).2.1.Body:=by
  have h1:(fM n s).2.1.allF Lf.rng:=by
    unfold fM
    split
    · show (atT n.Body (fV n s)).1.allF Lf.rng
      unfold atT
      split
      · exact zJb
      · exact atF_all h zJb
    · exact zJb
  exact (St.allF_eq h1).2.2
theorem add_rng (a b:Lf):(jI a b).1.rng/\(jI a b).1.L.length<=a.L.length+b.L.length:=by
  unfold jI
  split
  · unfold lT
    split
    · next h=>exact ⟨⟨h.1,fun m hm=>sum_rng hm⟩,Nat.le_trans (zRy _) (zCf _ _)⟩
    · exact ⟨zIo,Nat.zero_le _⟩
  · exact ⟨zIo,Nat.zero_le _⟩
theorem zEz (s:ByteArray):(fL s).rng/\(fL s).L.length<=1:=by
  unfold fL
  cases bD s
  · exact ⟨zIo,Nat.zero_le _⟩
  · exact ⟨vrL_rng s,Nat.le_refl _⟩
theorem formT_rng (by_:Int) (a b:ByteArray):(jO by_ a b).rng/\(jO by_ a b).L.length<=2:=by
  have h1:=add_rng (dF (fL a) by_).1 (fL b)
  have h2:=zNq (fL a) by_
  have h3:=zEz a
  have h4:=zEz b
  exact ⟨h1.1,by show (jI _ _).1.L.length<=2;omega⟩
theorem peelF_rng (many:Int) (a:ByteArray):(mW many a).rng/\(mW many a).L.length<=1:=by
  have h1:=add_rng (fL a) ⟨many,[]⟩
  have h3:=zEz a
  have h5:(⟨many,[]⟩:Lf).L.length=0:=rfl
  exact ⟨h1.1,by show (jI _ _).1.L.length<=1;omega⟩
theorem zHs (n:Ns) (s:ByteArray) (hn:n.Ok):
    Pur cfg 50 [vNs n,vS s] (vB (lG n s)):=by
 refine zT Tryz.func50 O Tryz.ntmps50 Tryz.results50 O ?_
 intro z hz
 have hnb:=hn.body
 refine F O<|zV O O (qN O O) ?_
 rintro _ _ ⟨b1,rfl,rfl⟩
 refine A O<|H<|zK<|F O<|zP yY (R 0 O) O<|A O<|qI O ok101 (zAm n s hn) ⟨G,O,G,O,T⟩<|qP O<|yJ O<|qU O<|zV O O (qE [none,none,none,none,none,none,some 1,none] O zr65 O) ?_
 rintro _ _ ⟨b2,rfl,rfl⟩
 refine Y 0 sz65 O<|A O<|H<|F O<|A O<|H<|zD O (fun c1=>?_) (fun c1=>?_)
 ·try simp only [I] at c1
  refine F O<|A O<|H<|o<|X O ?_
  exact congrArg vB (by unfold lG;simp [c1])
 ·try simp only [I] at c1
  refine zM<|F O<|zP yY (R 1 O) O<|A O<|qI O ok32 (zOi n s (by omega)) ⟨G,O,G,O,T⟩<|qP O<|qU O<|qU O<|A O<|A O<|H<|F O<|A O<|A O<|H<|o<|X O ?_
  exact congrArg vB (by unfold lG;simp [c1])
theorem zJm (n:Ns) (s:ByteArray) (hn:n.Ok):
    Pur cfg 48 [vNs n,vS s] (.tup [vIs (fM n s).1,vSt (fM n s).2.1,vI (fM n s).2.2]):=by
 refine zT Tryz.func48 O Tryz.ntmps48 Tryz.results48 O ?_
 intro z hz
 have hnb:=hn.body
 have hwl:=zLd n s
 have hwN:=zCr n.Body
 refine F O<|zV O O (qN O O) ?_
 rintro _ _ ⟨b1,rfl,rfl⟩
 refine qX 1 O<|zV O O (qE [none,none,none,none,none,some 4,none,none,none,none,none,none,none,none,none,none,some 2,some 4,some 13,some 20] O j O) ?_
 rintro _ _ ⟨b2,rfl,rfl⟩
 refine A O<|H<|zK<|F O<|zP yY (R 1 O) O<|qI O ok34 (zDy n hn) ⟨G,O,T⟩<|qP O<|qU O<|qU O<|A O<|A O<|H<|F O<|A O<|yM O<|H<|zD O (fun c1=>?_) (fun c1=>?_)
 ·try simp only [I] at c1
  refine F O<|qT [none,none,none,none,none,some 4,none,none,none,none,none,none,none,none,none,none,some 2,some 4,some 13,some 20] O j pl46<|A O<|qX 1 O<|Y 0 sz46 O<|A O<|H<|o<|fin3 (J O) (y zAv O (R 0 O) O) (J O) ?_
  rw [locT_no (by rw [locE_1 c1];exact c1),locE_1 c1];rfl
 ·try simp only [I] at c1
  refine zM<|F O<|zP yY (R 1 O) O<|A O<|qI O ok32 (show Pur cfg 32 [vNs n,vS s] (.tup [vIs (fV n s),vB (dX n.Body s).isSome]) from zOi n s (by omega)) ⟨G,O,G,O,T⟩<|qP O<|qU O<|qU O<|A O<|A O<|H<|zK<|F O<|A O<|kQ O<|H<|zD O (fun c2=>?_) (fun c2=>?_)
  ·try simp only [I] at c2
   have c2:(dX n.Body s).isSome=false:=by simpa using c2
   refine F O<|qT [none,none,none,none,none,some 4,none,none,none,none,none,none,none,none,none,none,some 2,some 4,some 13,some 20] O j pl46<|qX 1 O<|Y 0 sz46 O<|A O<|H<|o<|fin3 (J O) (y zAv O (R 0 O) O) (J O) ?_
   rw [locT_no (by rw [locE_2 c1 c2];decide),locE_2 c1 c2];rfl
  ·try simp only [I] at c2
   have c2:(dX n.Body s).isSome=true:=by simpa using c2
   refine zM<|F O<|zP yY (R 1 O) O<|A O<|qI O ok15 (loopnest_At n (fV n s) (by omega) (by omega)) ⟨G,O,G,O,T⟩<|qP O<|yJ O<|qU O<|zV O O (qE [none,none,none,none,none,some 4,none,none,none,none,none,none,none,none,none,none,some 2,some 4,some 13,some 20] O j O) ?_
   rintro _ _ ⟨b3,rfl,rfl⟩
   refine Y 0 sz46 O<|A O<|H<|zK<|qZ 3 mixed (by kernel_rfl) O O<|M O O (zN O O)<|M O O (qB O zAv O (R 0 O) O)<|M O O (yA O O)<|kE<|Y 1 sz46 O<|A O<|H<|o<|fin3 (J O) (y zAv O (R 1 O) O) (J O) ?_
   rw [zOk (locE_3 c1 c2)];rfl
theorem zFy (n:Ns) (way:List Int) (q:List St) (hn:n.Ok) (hl:bC n.Body+bC q<=2000000) (hw:way.length<=1073741824):
    Pur cfg 57 [vNs n,vIs way,bM q] (.tup [vNs (pE n way q).1,vI (pE n way q).2]):=by
 refine zT Tryz.func57 O Tryz.ntmps57 Tryz.results57 O ?_
 intro z hz
 have hrok:=repR_ok (way:=way) hn hl
 refine F O<|zV O O (qN O O) ?_
 rintro _ _ ⟨b1,rfl,rfl⟩
 refine zV O O (qE [some 8,some 20] O W O) ?_
 rintro _ _ ⟨b2,rfl,rfl⟩
 refine A O<|H<|F O<|zP yY (R 1 O) O<|A O<|A O<|qI O ok12 (zRp n way q hn (by omega) (by omega) hw) ⟨G,O,G,O,G,O,T⟩<|qP O<|yJ O<|qU O<|zV O O (qE [some 8,some 20] O W O) ?_
 rintro _ _ ⟨b3,rfl,rfl⟩
 refine Y 0 i O<|A O<|H<|zK<|F O<|zP yY (R 0 O) O<|qI O ok34 (zDy (lU n way q) hrok) ⟨G,O,T⟩<|qP O<|qU O<|qU O<|A O<|A O<|H<|F O<|A O<|yM O<|H<|zD O (fun c1=>?_) (fun c1=>?_)
 ·try simp only [I] at c1
  refine F O<|qT [some 8,some 20] O W pl25<|A O<|Y 1 i O<|A O<|H<|o<|w (y yY O (R 1 O) O) (J O) ?_
  rw [show pE n way q=(zNs,(dO (lU n way q)).2) from if_neg c1];rfl
 ·try simp only [I] at c1
  refine zM<|F O<|zP yY (R 0 O) O<|qI O ok39 (zOj (lU n way q) hrok) ⟨G,O,T⟩<|Y 1 i O<|A O<|H<|o<|w (y yY O (R 1 O) O) (J O) ?_
  rw [show pE n way q=(lU n way q,0) from if_pos c1];rfl
theorem zUa (l:Lf):
    Pur cfg 55 [bZ l] (vE (pT l)):=by
 refine zT Tryz.func55 O Tryz.ntmps55 Tryz.results55 O ?_
 intro z hz
 refine F O<|zV O O (qN O O) ?_
 rintro _ _ ⟨b1,rfl,rfl⟩
 refine zV O O (qE [none,none,none,none,none,none,none,none,none,none,some 2,some 4,some 13] O zr44 O) ?_
 rintro _ _ ⟨b2,rfl,rfl⟩
 refine H<|F O<|zP yX (R 1 O) O<|qT [none,none,none,none,none,none,none,none,none,none,none,some 4,some 13] O zr44 pl44<|Y 0 sz44 O<|H<|o<|fin1 (y kA O (R 0 O) O) ?_
 rfl
end Go.W
end
section
set_option maxRecDepth 10000
namespace Go.W
open Go Go.Eng Go.Proofs Go.L41 Go.Br
attribute [local irreducible] AWP RWP TD fH
theorem splE_1 {n:Ns} {s:St} {loop:ByteArray} {by_:Int} {outer inner:ByteArray} (h:by_<1∨s.Many<by_):rE n s loop by_ outer inner=1:=if_pos h
theorem splE_2 {n:Ns} {s:St} {loop:ByteArray} {by_:Int} {outer inner:ByteArray} (h:¬(by_<1∨s.Many<by_)) (h2:(!bD outer|| !bD inner)=true):rE n s loop by_ outer inner=7:=by unfold rE;rw [if_neg h,if_pos h2]
theorem splE_3 {n:Ns} {s:St} {loop:ByteArray} {by_:Int} {outer inner:ByteArray} (h:¬(by_<1∨s.Many<by_)) (h2:(!bD outer|| !bD inner)=false) (h3:vU n loop outer inner=true):rE n s loop by_ outer inner=8:=by unfold rE;rw [if_neg h,if_neg (by rw [h2];simp),if_pos h3]
theorem splE_4 {n:Ns} {s:St} {loop:ByteArray} {by_:Int} {outer inner:ByteArray} (h:¬(by_<1∨s.Many<by_)) (h2:(!bD outer|| !bD inner)=false) (h3:vU n loop outer inner=false):rE n s loop by_ outer inner=dZ (sbT loop (jO by_ outer inner) s.Body):=by unfold rE;rw [if_neg h,if_neg (by rw [h2];simp),if_neg (by rw [h3];simp)]
theorem splitT_0 {n:Ns} {loop:ByteArray} {by_:Int} {outer inner:ByteArray} (h:¬gO n loop=0):mM n loop by_ outer inner=(zNs,gO n loop):=if_neg h
theorem zSa {n:Ns} {s:St} {loop:ByteArray} {by_:Int} {outer inner:ByteArray} {e:Int} (hs:(fM n loop).2.1=s) (h:gO n loop=0) (he:rE n s loop by_ outer inner=e) (h0:¬e=0):mM n loop by_ outer inner=(zNs,e):=by unfold mM;rw [if_pos h,hs,he,if_neg h0]
theorem splitT_2 {n:Ns} {s:St} {loop:ByteArray} {by_:Int} {outer inner:ByteArray} (hs:(fM n loop).2.1=s) (h:gO n loop=0) (he:rE n s loop by_ outer inner=0):mM n loop by_ outer inner=pE n (fV n loop) [rT s by_ outer inner (jO by_ outer inner) (gQ (sbT loop (jO by_ outer inner) s.Body))]:=by unfold mM;rw [if_pos h,hs,if_pos he]
theorem peelE_1 {n:Ns} {s:St} {loop:ByteArray} {many:Int} {rest:ByteArray} (h:¬bE s.Body=[]):mH n s loop many rest=19:=if_neg h
theorem peelE_2 {n:Ns} {s:St} {loop:ByteArray} {many:Int} {rest:ByteArray} (h:bE s.Body=[]) (h2:many<1∨s.Many<=many):mH n s loop many rest=1:=by unfold mH;rw [if_pos h,if_pos h2]
theorem peelE_3 {n:Ns} {s:St} {loop:ByteArray} {many:Int} {rest:ByteArray} (h:bE s.Body=[]) (h2:¬(many<1∨s.Many<=many)) (h3:bD rest=false):mH n s loop many rest=7:=by unfold mH;rw [if_pos h,if_neg h2,if_pos h3]
theorem peelE_4 {n:Ns} {s:St} {loop:ByteArray} {many:Int} {rest:ByteArray} (h:bE s.Body=[]) (h2:¬(many<1∨s.Many<=many)) (h3:bD rest=true) (h4:lG n rest=true):mH n s loop many rest=8:=by unfold mH;rw [if_pos h,if_neg h2,if_neg (by rw [h3];simp),if_pos h4]
theorem peelE_5 {n:Ns} {s:St} {loop:ByteArray} {many:Int} {rest:ByteArray} (h:bE s.Body=[]) (h2:¬(many<1∨s.Many<=many)) (h3:bD rest=true) (h4:lG n rest=false):mH n s loop many rest=dZ (sbT loop (mW many rest) s.Body):=by unfold mH;rw [if_pos h,if_neg h2,if_neg (by rw [h3];simp),if_neg (by rw [h4];simp)]
theorem peelT_0 {n:Ns} {loop:ByteArray} {many:Int} {rest:ByteArray} (h:¬gO n loop=0):pO n loop many rest=(zNs,gO n loop):=if_neg h
theorem zUu {n:Ns} {s:St} {loop:ByteArray} {many:Int} {rest:ByteArray} {e:Int} (hs:(fM n loop).2.1=s) (h:gO n loop=0) (he:mH n s loop many rest=e) (h0:¬e=0):pO n loop many rest=(zNs,e):=by unfold pO;rw [if_pos h,hs,he,if_neg h0]
theorem peelT_2 {n:Ns} {s:St} {loop:ByteArray} {many:Int} {rest:ByteArray} (hs:(fM n loop).2.1=s) (h:gO n loop=0) (he:mH n s loop many rest=0):pO n loop many rest=pE n (fV n loop) [tE s many,gU rest (w64 (s.Many-many)) s.Mark (gQ (sbT loop (mW many rest) s.Body))]:=by unfold pO;rw [if_pos h,hs,if_pos he]
theorem zPu (nm:ByteArray) (many lJ:Int) (b:List St):(gU nm many lJ b).cells=[cI 1,cS nm,cI many,cI lJ,cI 0,.sl 4 [],cI 0,cS (bs []),cI 0,cI 0,cI 0,cI 0,cI 0,cI 0,cI 0,cI 0,.sl 2 [],.sl 4 [],.sl 13 [],.sl 20 (b.map St.cells)]:=by rw [St.cells_eq];rfl
theorem sIf_cs (f:Lf) (m:Int) (b:List St):(sIf (ltE f m) b).cells=[cI 4,cS (bs []),cI 0,cI 0,cI 0,.sl 4 [],cI 13,cS (bs []),cI 0,cI 0,cI 0,cI 0,cI 0,cI 0,cI 0,cI 0,.sl 2 [],.sl 4 [],.sl 13 [(pT f).cs,(pT ⟨m,[]⟩).cs],.sl 20 (b.map St.cells)]:=by
  have h:[pT f,pT ⟨m,[]⟩].map Ex.cells=[(pT f).cs,(pT ⟨m,[]⟩).cs]:=by simp only [List.map_cons,List.map_nil,Ex.cells_eq]
  rw [St.cells_eq,←h];rfl
theorem splS_y {s:St} {by_:Int} (o i:ByteArray) (f:Lf) (b:List St) (h:Int.tmod s.Many by_=0):bM [rT s by_ o i f b]=.c (.sl 20 [[cI 1,cS o,cI (w64 (Int.tdiv (w64 (w64 (s.Many+by_)-1)) by_)),cI s.Mark,cI 0,.sl 4 [],cI 0,cS (bs []),cI 0,cI 0,cI 0,cI 0,cI 0,cI 0,cI 0,cI 0,.sl 2 [],.sl 4 [],.sl 13 [],.sl 20 [[cI 1,cS i,cI by_,cI 0,cI 0,.sl 4 [],cI 0,cS (bs []),cI 0,cI 0,cI 0,cI 0,cI 0,cI 0,cI 0,cI 0,.sl 2 [],.sl 4 [],.sl 13 [],.sl 20 (b.map St.cells)]]]]):=by
  unfold rT vG
  rw [if_pos h]
  show V.c (C.sl 20 [(gU _ _ _ _).cells])=_
  rw [zPu]
  show V.c (C.sl 20 [[cI 1,_,_,_,_,_,_,_,_,_,_,_,_,_,_,_,_,_,_,.sl 20 [(gU _ _ _ _).cells]]])=_
  rw [zPu]
theorem splS_n {s:St} {by_:Int} (o i:ByteArray) (f:Lf) (b:List St) (h:¬Int.tmod s.Many by_=0):bM [rT s by_ o i f b]=.c (.sl 20 [[cI 1,cS o,cI (w64 (Int.tdiv (w64 (w64 (s.Many+by_)-1)) by_)),cI s.Mark,cI 0,.sl 4 [],cI 0,cS (bs []),cI 0,cI 0,cI 0,cI 0,cI 0,cI 0,cI 0,cI 0,.sl 2 [],.sl 4 [],.sl 13 [],.sl 20 [[cI 1,cS i,cI by_,cI 0,cI 0,.sl 4 [],cI 0,cS (bs []),cI 0,cI 0,cI 0,cI 0,cI 0,cI 0,cI 0,cI 0,.sl 2 [],.sl 4 [],.sl 13 [],.sl 20 [[cI 4,cS (bs []),cI 0,cI 0,cI 0,.sl 4 [],cI 13,cS (bs []),cI 0,cI 0,cI 0,cI 0,cI 0,cI 0,cI 0,cI 0,.sl 2 [],.sl 4 [],.sl 13 [(pT f).cs,(pT ⟨s.Many,[]⟩).cs],.sl 20 (b.map St.cells)]]]]]]):=by
  unfold rT vG
  rw [if_neg h]
  show V.c (C.sl 20 [(gU _ _ _ _).cells])=_
  rw [zPu]
  show V.c (C.sl 20 [[cI 1,_,_,_,_,_,_,_,_,_,_,_,_,_,_,_,_,_,_,.sl 20 [(gU _ _ _ _).cells]]])=_
  rw [zPu]
  show V.c (C.sl 20 [[cI 1,_,_,_,_,_,_,_,_,_,_,_,_,_,_,_,_,_,_,.sl 20 [[cI 1,_,_,_,_,_,_,_,_,_,_,_,_,_,_,_,_,_,_,.sl 20 [(sIf _ _).cells]]]]])=_
  rw [sIf_cs]
theorem peelS_x (s:St) (many m2:Int) (rest:ByteArray) (b:List St):bM [tE s many,gU rest m2 s.Mark b]=.c (.sl 20 [[cI s.Op,cS s.Name,cI many,cI s.Mark,cI s.Fold,.sl 4 (s.Idx.map Ix.cells),cI s.E.Op,cS s.E.Name,cI s.E.Val.N,cI s.E.Val.D,cI s.E.Ty.Kind,cI s.E.Ty.Bits,cI s.E.Ty.Frac,cI s.E.Ty.Round,cI s.E.Ty.Over,cI s.E.Lin.K,.sl 2 (s.E.Lin.L.map Mono.cells),.sl 4 (s.E.Idx.map Ix.cells),.sl 13 (s.E.Args.map Ex.cells),.sl 20 (s.Body.map St.cells)],[cI 1,cS rest,cI m2,cI s.Mark,cI 0,.sl 4 [],cI 0,cS (bs []),cI 0,cI 0,cI 0,cI 0,cI 0,cI 0,cI 0,cI 0,.sl 2 [],.sl 4 [],.sl 13 [],.sl 20 (b.map St.cells)]]):=by
  show V.c (C.sl 20 [(tE s many).cells,(gU _ _ _ _).cells])=_
  rw [zPu,St.cells_eq];rfl
theorem zEx_wt:zEx.wt=1:=by simp [zEx,Ex.wt,dH,dR]
theorem sFor_wt (nm:ByteArray) (many lJ:Int) (b:List St):(gU nm many lJ b).wt=2+bC b:=by
  have h:=St.wt_eq (gU nm many lJ b)
  simp only [gU,St.E,St.Idx,St.Body,dH,List.length_nil,zEx_wt] at h⊢
  omega
theorem splS_wt (s:St) (by_:Int) (o i:ByteArray) (f:Lf) (b:List St):bC [rT s by_ o i f b]<=bC b+f.L.length+12:=by
  have h1:bC (vG s by_ f b)<=bC b+f.L.length+6:=by
    unfold vG
    split
    · omega
    · have h:=St.wt_eq (sIf (ltE f s.Many) b)
      have h2:(ltE f s.Many).wt=3+f.L.length:=by simp [ltE,pT,Ex.wt,dH,dR];omega
      simp only [sIf,St.E,St.Idx,St.Body,dH,List.length_nil,h2] at h
      simp only [bC,sIf];omega
  unfold rT
  simp only [bC,sFor_wt];omega
theorem peelS_wt (s:St) (many m2:Int) (rest:ByteArray) (b:List St):bC [tE s many,gU rest m2 s.Mark b]<=s.wt+bC b+4:=by
  have h:(tE s many).wt=s.wt:=by cases s;simp only [tE,St.wt,St.Op,St.Name,St.Many,St.Mark,St.Fold,St.Idx,St.E,St.Body]
  simp only [bC,sFor_wt,h];omega
theorem locS_wt (n:Ns) (s:ByteArray):(fM n s).2.1.wt<=bC n.Body+2:=by
  unfold fM
  split
  · exact atT_wt
  · show zSt.wt<=_
    have h:=St.wt_eq zSt
    simp only [zSt,St.E,St.Idx,St.Body,dH,bC,List.length_nil,zEx_wt] at h⊢
    omega
theorem zDb:∀a b:List St,bE (a++b)=bE a++bE b
  |[],b=>rfl
  |x::r,b=>by rw [List.cons_append,bE,bE,zDb r b,List.append_assoc]
theorem loops_next {l:List St} {k:Nat} {x:St} (h:l[k]? =some x) (h1:bE (l.take k)=[]) (h2:¬x.Op=1) (h3:bE x.Body=[]):bE (l.take (k+1))=[]:=by
  rw [zMu h,h1,gI,if_neg h2,h3];rfl
theorem loops_at {l:List St} {k:Nat} {x:St} (h:l[k]? =some x) (h2:x.Op=1∨¬bE x.Body=[]):¬bE l=[]:=by
  intro h0
  have e:l=l.take k++x::l.drop (k+1):=by rw [←qR h,List.take_append_drop]
  rw [e,zDb,bE,zEm] at h0
  simp only [List.append_eq_nil_iff] at h0
  rcases h2 with h2|h2
  · have h3:=h0.2.1.1
    rw [gI,if_pos h2] at h3;cases h3
  · exact h2 h0.2.1.2
theorem ok48:bA Tryz.prog 48=true:=by kernel_rfl
theorem ok50:bA Tryz.prog 50=true:=by kernel_rfl
theorem ok52:bA Tryz.prog 52=true:=by kernel_rfl
theorem ok54:bA Tryz.prog 54=true:=by kernel_rfl
theorem ok55:bA Tryz.prog 55=true:=by kernel_rfl
theorem ok56:bA Tryz.prog 56=true:=by kernel_rfl
theorem ok57:bA Tryz.prog 57=true:=by kernel_rfl
theorem ok65:bA Tryz.prog 65=true:=by kernel_rfl
theorem zGt (l:List St) (ih:∀s,s∈l->Pur cfg 65 [bM s.Body] (vB (!decide (bE s.Body=[])))) (hl:bC l<=1000000000):
    Pur cfg 65 [bM l] (vB (!decide (bE l=[]))):=by
 refine zT Tryz.func65 O Tryz.ntmps65 Tryz.results65 O ?_
 intro z hz
 have hll:=kO l
 refine F O<|A O<|H<|zK<|F O<|A O<|qC O D<|A O<|H<|zR<|zY ⟨[(7,.c _),(5,.c _),(6,.c _)],[]⟩ (Weak.mk [] ⟨G,G,G,T⟩ O)<|qK 1 0 O O (Nat) (fun k=>[(7,vI k)]) (fun k=>[]) (fun k=>k<=l.length/\(bE (l.take k)=[])) (fun k=>l.length-k) ⟨0,⟨by omega,O⟩,Weak.mk [] ⟨G,G,G,T⟩ O⟩ ?_
 rintro k ⟨hk,hp⟩
 refine F O<|yD O<|H<|zK<|zD O (fun c1=>?_) (fun c1=>?_)
 ·try simp only [I] at c1
  obtain ⟨x,hx⟩:=qY l k (by omega)
  refine zM<|zK<|zR<|F O<|qD O D (by omega) (wD hx)<|zP zAv qA O<|zV O O (qE [none,none,none,none,none,some 4,none,none,none,none,none,none,none,none,none,none,some 2,some 4,some 13,some 20] O j O) ?_
  rintro _ _ ⟨b1,rfl,rfl⟩
  refine Y 0 sz46 O<|H<|F O<|zG O zAp<|zJ one3 (R 0 O) O<|yF O<|A O<|rL0 O (fun g4_3=>zE O kK O) O<|B 15 O (fun g4_3=>zF O kP O (R 0 O) O) O<|B 16 O (fun g4_3=>qM O ok65 (ih x (zZ hx)) ⟨G,O,T⟩) O<|r_or O (fun h=>(lzf h))<|H<|zD O (fun c2=>?_) (fun c2=>?_)
  ·have c2:x.Op=1∨¬bE x.Body=[]:=by simpa using c2
   refine F O<|A O<|H<|o<|X O ?_
   rw [yO (loops_at hx c2)];rfl
  ·have c2:¬x.Op=1/\bE x.Body=[]:=by simpa using c2
   refine zM<|zQ O<|qJ O ⟨by omega,by omega⟩<|A O<|H ?_
   refine ⟨k+1,⟨by omega,loops_next hx hp c2.1 c2.2⟩,(by omega),Weak.mk [false] ⟨G,G,G,T⟩ O⟩
 ·try simp only [I] at c1
  refine qQ<|F O<|A O<|H<|o<|X O ?_
  rw [yU (by omega)] at hp;rw [wR hp];rfl
theorem zPs (s:St) (hl:bC s.Body<=1000000000):Pur cfg 65 [bM s.Body] (vB (!decide (bE s.Body=[]))):=by
  induction s using St.ind with
  |_ s ih=>exact zGt s.Body (fun a ha=>ih a ha (by have:=yC ha;have:=St.body_wt a;omega)) hl
theorem split_looped (l:List St) (hl:bC l<=1000000000):Pur cfg 65 [bM l] (vB (!decide (bE l=[]))):=
  zGt l (fun s hs=>zPs s (by have:=yC hs;have:=St.body_wt s;omega)) hl
theorem zUb (n:Ns) (loop:ByteArray) (by_:Int) (outer inner:ByteArray) (hn:n.Ok) (hl:bC n.Body<=1000) (hr:bH Lf.rng n.Body) (hb:r64 by_):
    Pur cfg 20 [vNs n,vS loop,vI by_,vS outer,vS inner] (.tup [vNs (mM n loop by_ outer inner).1,vI (mM n loop by_ outer inner).2]):=by
 refine zT Tryz.func20 O Tryz.ntmps20 Tryz.results20 O ?_
 intro z hz
 obtain ⟨s,hs0⟩:∃s,(fM n loop).2.1=s:=⟨_,rfl⟩
 have hlw:=locT_wt n loop
 have hlr:=locT_rng (s:=loop) hr
 rw [hs0] at hlw hlr
 have hwl:=zLd n loop
 have hwN:=zCr n.Body
 obtain ⟨hfr,hfl⟩:=formT_rng by_ outer inner
 obtain ⟨hvo,hvol⟩:=zEz outer
 obtain ⟨hvi,hvil⟩:=zEz inner
 obtain ⟨hsc,hscl⟩:=zNq (fL outer) by_
 have hbw:=sbT_wt (s:=loop) (u:=jO by_ outer inner) (l:=s.Body) (by omega)
 refine F O<|zV O O (qN O O) ?_
 rintro _ _ ⟨b1,rfl,rfl⟩
 refine zV O O (qE [some 8,some 20] O W O) ?_
 rintro _ _ ⟨b2,rfl,rfl⟩
 refine A O<|H<|F O<|zP yY (R 1 O) O<|A O<|qI O ok48 (show Pur cfg 48 [vNs n,vS loop] (.tup [vIs (fM n loop).1,vSt s,vI (gO n loop)]) by have h:=zJm n loop hn;rw [locT_e,hs0] at h;exact h) ⟨G,O,G,O,T⟩<|qP O<|qU O<|yJ O<|qU O<|zV O O (qE [none,none,none,none,none,some 4,none,none,none,none,none,none,none,none,none,none,some 2,some 4,some 13,some 20] O j O) ?_
 rintro _ _ ⟨b3,rfl,rfl⟩
 refine A O<|Y 0 sz46 O<|A O<|H<|zK<|zR<|F O<|A O<|yM O<|A O<|H<|zD O (fun c1=>?_) (fun c1=>?_)
 ·try simp only [I] at c1
  refine F O<|qT [some 8,some 20] O W pl25<|A O<|Y 1 i O<|A O<|H<|o<|w (y yY O (R 1 O) O) (J O) ?_
  rw [splitT_0 c1];rfl
 ·try simp only [I] at c1
  refine F O<|A O<|yD O<|A O<|rL0 O (fun g4_2=>zN O O) O<|rL0 O (fun g4_2=>zE O zAc O) O<|B 39 O (fun g4_2=>zF O one3 O (R 0 O) O) O<|rLz [(38,_),(40,_)] O gv1 ⟨O,O,O,O,T⟩ (fun g4_2=>yG O O O) O<|r_or O (fun h=>(lzf h))<|A O<|H<|zD O (fun c2=>?_) (fun c2=>?_)
  ·try simp only [I] at c2
   refine F O<|qT [some 8,some 20] O W pl25<|Y 1 i O<|A O<|H<|o<|w (y yY O (R 1 O) O) (J O) ?_
   rw [zSa hs0 c1 (splE_1 c2) (by decide)];rfl
  ·try simp only [I] at c2
   have c2:¬(by_<1∨s.Many<by_):=by omega
   refine F O<|A O<|qI O ok49 (zBc _) ⟨G,O,T⟩<|kQ O<|A O<|rL0 O (fun g6_3=>zN O O) O<|B 49 O (fun g6_3=>qM O ok49 (zBc _) ⟨G,O,T⟩) O<|B 50 O (fun g6_3=>kW O O) O<|r_or O (fun h=>(lzf h))<|A O<|H<|zD O (fun c3=>?_) (fun c3=>?_)
   ·have c3:(!bD outer|| !bD inner)=true:=c3
    refine F O<|qT [some 8,some 20] O W pl25<|Y 1 i O<|A O<|H<|o<|w (y yY O (R 1 O) O) (J O) ?_
    rw [zSa hs0 c1 (splE_2 c2 c3) (by decide)];rfl
   ·have c3:(!bD outer|| !bD inner)=false:=c3
    refine F O<|A O<|A O<|zU O (yR O O O)<|A O<|rL0 O (fun g8_3=>zN O O) O<|rL0 O (fun g8_3=>zN O O) O<|rLz [(59,_),(60,_)] O gv1 ⟨O,O,O,O,T⟩ (fun g8_3=>zBu O O O) O<|B 61 O (fun g8_3=>zN O O) O<|rLz [] O N T (fun g8_7=>qB O yY O (R 2 O) O) O<|rLz [] O N T (fun g8_7=>zN O O) O<|rLz [(63,_),(64,_)] O N ⟨O,O,O,O,T⟩ (fun g8_7=>qM O ok50 (zHs _ _ (by omega)) ⟨G,O,G,O,T⟩) O<|B 62 O (fun g8_3=>kZ O O O (fun h=>kD (by assumption) h) O) O<|r_or O (fun h=>(lzf h))<|A O<|rL0 O (fun g8_13=>zN O O) O<|rL0 O (fun g8_13=>zN O O) O<|rLz [(69,_),(70,_)] O gv1 ⟨O,O,O,O,T⟩ (fun g8_13=>zBu O O O) O<|B 71 O (fun g8_13=>zN O O) O<|rLz [] O N T (fun g8_17=>qB O yY O (R 2 O) O) O<|rLz [] O N T (fun g8_17=>zN O O) O<|rLz [(73,_),(74,_)] O N ⟨O,O,O,O,T⟩ (fun g8_17=>qM O ok50 (zHs _ _ (by omega)) ⟨G,O,G,O,T⟩) O<|B 72 O (fun g8_13=>kZ O O O (fun h=>kD (by assumption) h) O) O<|r_or O (fun h=>(lzf h))<|A O<|H<|zD O (fun c4=>?_) (fun c4=>?_)
    ·have c4:vU n loop outer inner=true:=c4
     refine F O<|qT [some 8,some 20] O W pl25<|Y 1 i O<|A O<|H<|o<|w (y yY O (R 1 O) O) (J O) ?_
     rw [zSa hs0 c1 (splE_3 c2 c3 c4) (by decide)];rfl
    ·have c4:vU n loop outer inner=false:=c4
     refine zM<|F O<|A O<|qI O ok52 (lin_Var _) ⟨G,O,T⟩<|A O<|qI O ok51 (zVn (fL outer) by_ (by omega) hvo hb) ⟨G,O,G,O,T⟩<|qP O<|yJ O<|qU O<|zV O O (qE [none,some 2] O v O) ?_
     rintro _ _ ⟨b4,rfl,rfl⟩
     refine Y 0 sz41 O<|A O<|H<|zK<|kL 9 1 [⟨0,.q [1]⟩,⟨1,.q []⟩,⟨2,.q []⟩,⟨3,.q []⟩,⟨4,.q []⟩,⟨5,.q []⟩,⟨6,.q []⟩,⟨7,.e 0 []⟩,⟨8,.e 0 []⟩] mixed (by kernel_rfl) (by kernel_rfl) O O O<|p O<|p O<|p O<|p O<|p O<|p O<|p O<|p O<|p O<|zBo<|t O (by decide) O O (qB O yX O (R 0 O) O)<|t O (by decide) O O (zN O O)<|t O (by decide) O O (qM O ok52 (lin_Var _) ⟨G,O,T⟩)<|t O (by decide) O O (qM O ok53 (show Pur cfg 53 [bZ (dF (fL outer) by_).1,bZ (fL inner)] (.tup [bZ (jO by_ outer inner),vI (jI (dF (fL outer) by_).1 (fL inner)).2]) from lin_Add (dF (fL outer) by_).1 (fL inner) (by omega) (by omega) hsc hvi) ⟨G,O,G,O,T⟩)<|t O (by decide) O O (kI O O)<|t O (by decide) O O (wH O O O)<|t O (by decide) O O (wG O O O)<|zHr O O (by decide) O O (qE [none,some 2] O v O) ?_
     rintro _ _ ⟨b5,rfl,rfl⟩
     refine ⟨_,O,?_⟩
     refine zFm O O (by decide) O O (kB O sz41 O O O (zFl 0 O O)) ?_
     rintro _ _ ⟨rfl,rfl⟩
     refine ⟨_,O,?_⟩
     refine zBl O<|A O<|H<|F O<|zG O kK<|zJ kP (R 2 O) O<|A O<|zP yX (R 0 O) O<|qI O ok54 (zBh s.Body loop (jO by_ outer inner) (by omega) hfr (by omega) hlr) ⟨G,O,G,O,G,O,T⟩<|qP O<|qU O<|qU O<|A O<|A O<|H<|zK<|F O<|A O<|yM O<|H<|zD O (fun c5=>?_) (fun c5=>?_)
     ·try simp only [I] at c5
      refine F O<|qT [some 8,some 20] O W pl25<|A O<|Y 3 i O<|A O<|H<|o<|w (y yY O (R 3 O) O) (J O) ?_
      rw [zSa hs0 c1 (splE_4 c2 c3 c4) c5];rfl
     ·try simp only [I] at c5
      refine zM<|zK<|F O<|zG O zAc<|zJ one3 (R 2 O) O<|A O<|zU O (det_rem O O O (by omega))<|yM O<|H<|zD O (fun c6=>?_) (fun c6=>?_)
      ·try simp only [I] at c6
       refine zK<|kL 9 1 [⟨0,.q [1]⟩,⟨1,.q []⟩,⟨2,.q []⟩,⟨3,.q [3]⟩,⟨4,.q []⟩,⟨5,.q []⟩,⟨6,.q []⟩,⟨7,.q []⟩,⟨8,.f 0⟩] mixed (by kernel_rfl) (by kernel_rfl) O O O<|p O<|p O<|p O<|p O<|p O<|p O<|p O<|p O<|zOq O O (zEo (qE [none,none,none,none,none,none,none,none,none,none,some 2,some 4,some 13] O zr44 O)) ⟨_,_,0,O,O⟩<|zBo<|t O (by decide) O O (qB O yX O (R 0 O) O)<|t O (by decide) O O (qM O ok55 (zUa _) ⟨G,O,T⟩)<|t O (by decide) O O (zE O zAc O)<|t O (by decide) O O (zF O one3 O (R 0 O) O)<|t O (by decide) O O (qM O ok56 (zVo _) ⟨G,O,T⟩)<|t O (by decide) O O (qM O ok55 (zUa _) ⟨G,O,T⟩)<|t O (by decide) O O (wQ O g zr44 O O O O)<|t O (by decide) O O (zFh [none,none,none,none,none,none,none,none,none,none,some 2,some 4,none] O zr44 pl44 O O)<|zNn O O ?_
       rintro _ _ ⟨b6,rfl,rfl⟩
       refine zBl O<|Y 0 sz44 O<|H<|zQ O<|zP kA (R 0 O) O<|A O<|qT [none,none,none,none,none,some 4,none,none,none,none,none,none,none,none,none,none,none,none,none,none] O j pl46<|yV O D j<|A O<|H<|F O<|A O<|A O<|A O<|qT [none,none,none,none,none,some 4,none,none,none,none,none,none,none,none,none,none,some 2,some 4,some 13,none] O j pl46<|zV O O (qE [none,none,none,none,none,some 4,none,none,none,none,none,none,none,none,none,none,some 2,some 4,some 13,some 20] O j O) ?_
       rintro _ _ ⟨b7,rfl,rfl⟩
       refine Y 0 sz46 O<|H<|zK<|qZ 19 mixed (by kernel_rfl) O O<|M O O (qB O yY O (R 6 O) O)<|M O O (zN O O)<|M O O (zN O O)<|M O O (zE O zAc O)<|M O O (zF O one3 O (R 4 O) O)<|M O O (zN O O)<|M O O (zIk O O O)<|M O O (zQo O O O)<|M O O (zN O O)<|M O O (zKr O O O (by omega))<|M O O (zE O zHg O)<|M O O (zF O one3 O (R 4 O) O)<|M O O (qB O zAv O (R 0 O) O)<|M O O (wQ O D j O O O O)<|M O O (zFh [none,none,none,none,none,some 4,none,none,none,none,none,none,none,none,none,none,some 2,some 4,some 13,none] O j pl46 O O)<|M O O (wQ O D j O O O O) ?_
       refine M O O (qM O ok57 (zFy n (fV n loop) [rT s by_ outer inner (jO by_ outer inner) (gQ (sbT loop (jO by_ outer inner) s.Body))] hn (by have:=splS_wt s by_ outer inner (jO by_ outer inner) (gQ (sbT loop (jO by_ outer inner) s.Body));omega) (by omega)) ⟨G,O,VLe.of_eq (congrArg vIs (locT_w c1)),O,VLe.of_eq (by first|exact (splS_y outer inner _ _ (by simpa using c6)).symm|exact (splS_n outer inner _ _ (by simpa using c6)).symm),O,T⟩)<|M O O (wH O O O)<|M O O (wG O O O)<|kE<|Y 5 i O<|A O<|H<|o<|w (y yY O (R 5 O) O) (J O) ?_
       rw [splitT_2 hs0 c1 ((splE_4 c2 c3 c4).trans c5)];rfl
      ·try simp only [I] at c6
       refine zM<|F O<|A O<|A O<|A O<|qT [none,none,none,none,none,some 4,none,none,none,none,none,none,none,none,none,none,some 2,some 4,some 13,none] O j pl46<|zV O O (qE [none,none,none,none,none,some 4,none,none,none,none,none,none,none,none,none,none,some 2,some 4,some 13,some 20] O j O) ?_
       rintro _ _ ⟨b8,rfl,rfl⟩
       refine Y 0 sz46 O<|H<|zK<|qZ 19 mixed (by kernel_rfl) O O<|M O O (qB O yY O (R 5 O) O)<|M O O (zN O O)<|M O O (zN O O)<|M O O (zE O zAc O)<|M O O (zF O one3 O (R 3 O) O)<|M O O (zN O O)<|M O O (zIk O O O)<|M O O (zQo O O O)<|M O O (zN O O)<|M O O (zKr O O O (by omega))<|M O O (zE O zHg O)<|M O O (zF O one3 O (R 3 O) O)<|M O O (qB O zAv O (R 0 O) O)<|M O O (wQ O D j O O O O)<|M O O (zFh [none,none,none,none,none,some 4,none,none,none,none,none,none,none,none,none,none,some 2,some 4,some 13,none] O j pl46 O O)<|M O O (wQ O D j O O O O) ?_
       refine M O O (qM O ok57 (zFy n (fV n loop) [rT s by_ outer inner (jO by_ outer inner) (gQ (sbT loop (jO by_ outer inner) s.Body))] hn (by have:=splS_wt s by_ outer inner (jO by_ outer inner) (gQ (sbT loop (jO by_ outer inner) s.Body));omega) (by omega)) ⟨G,O,VLe.of_eq (congrArg vIs (locT_w c1)),O,VLe.of_eq (by first|exact (splS_y outer inner _ _ (by simpa using c6)).symm|exact (splS_n outer inner _ _ (by simpa using c6)).symm),O,T⟩)<|M O O (wH O O O)<|M O O (wG O O O)<|kE<|Y 4 i O<|A O<|H<|o<|w (y yY O (R 4 O) O) (J O) ?_
       rw [splitT_2 hs0 c1 ((splE_4 c2 c3 c4).trans c5)];rfl
theorem split_Peel (n:Ns) (loop:ByteArray) (many:Int) (rest:ByteArray) (hn:n.Ok) (hl:bC n.Body<=1000) (hr:bH Lf.rng n.Body) (hb:r64 many):
    Pur cfg 22 [vNs n,vS loop,vI many,vS rest] (.tup [vNs (pO n loop many rest).1,vI (pO n loop many rest).2]):=by
 refine zT Tryz.func22 O Tryz.ntmps22 Tryz.results22 O ?_
 intro z hz
 obtain ⟨s,hs0⟩:∃s,(fM n loop).2.1=s:=⟨_,rfl⟩
 have hlw:=locT_wt n loop
 have hlr:=locT_rng (s:=loop) hr
 rw [hs0] at hlw hlr
 have hwl:=zLd n loop
 have hwN:=zCr n.Body
 obtain ⟨hfr,hfl⟩:=peelF_rng many rest
 have hsw:=locS_wt n loop
 rw [hs0] at hsw
 obtain ⟨hvo,hvol⟩:=zEz rest
 have hbw:=sbT_wt (s:=loop) (u:=mW many rest) (l:=s.Body) (by omega)
 refine F O<|zV O O (qN O O) ?_
 rintro _ _ ⟨b1,rfl,rfl⟩
 refine zV O O (qE [some 8,some 20] O W O) ?_
 rintro _ _ ⟨b2,rfl,rfl⟩
 refine A O<|H<|F O<|zP yY (R 1 O) O<|A O<|qI O ok48 (show Pur cfg 48 [vNs n,vS loop] (.tup [vIs (fM n loop).1,vSt s,vI (gO n loop)]) by have h:=zJm n loop hn;rw [locT_e,hs0] at h;exact h) ⟨G,O,G,O,T⟩<|qP O<|qU O<|yJ O<|qU O<|zV O O (qE [none,none,none,none,none,some 4,none,none,none,none,none,none,none,none,none,none,some 2,some 4,some 13,some 20] O j O) ?_
 rintro _ _ ⟨b3,rfl,rfl⟩
 refine A O<|Y 0 sz46 O<|A O<|H<|zK<|zR<|F O<|A O<|yM O<|A O<|H<|zD O (fun c1=>?_) (fun c1=>?_)
 ·try simp only [I] at c1
  refine F O<|qT [some 8,some 20] O W pl25<|A O<|Y 1 i O<|A O<|H<|o<|w (y yY O (R 1 O) O) (J O) ?_
  rw [peelT_0 c1];rfl
 ·try simp only [I] at c1
  refine F O<|zG O kK<|zJ kP (R 0 O) O<|qI O ok65 (split_looped s.Body (by omega)) ⟨G,O,T⟩<|A O<|H<|zD O (fun c2=>?_) (fun c2=>?_)
  ·try simp only [I] at c2
   have c2:¬bE s.Body=[]:=by simpa using c2
   refine F O<|qT [some 8,some 20] O W pl25<|Y 1 i O<|A O<|H<|o<|w (y yY O (R 1 O) O) (J O) ?_
   rw [zUu hs0 c1 (peelE_1 c2) (by decide)];rfl
  ·try simp only [I] at c2
   have c2:bE s.Body=[]:=by simpa using c2
   refine F O<|A O<|yD O<|A O<|rL0 O (fun g6_2=>zN O O) O<|rL0 O (fun g6_2=>zE O zAc O) O<|B 39 O (fun g6_2=>zF O one3 O (R 0 O) O) O<|rLz [(38,_),(40,_)] O gv1 ⟨O,O,O,O,T⟩ (fun g6_2=>wI O O O) O<|r_or O (fun h=>(lzf h))<|A O<|H<|zD O (fun c3=>?_) (fun c3=>?_)
   ·try simp only [I] at c3
    refine F O<|qT [some 8,some 20] O W pl25<|Y 1 i O<|A O<|H<|o<|w (y yY O (R 1 O) O) (J O) ?_
    rw [zUu hs0 c1 (peelE_2 c2 c3) (by decide)];rfl
   ·try simp only [I] at c3
    have c3:¬(many<1∨s.Many<=many):=by omega
    refine F O<|A O<|qI O ok49 (zBc _) ⟨G,O,T⟩<|kQ O<|A O<|H<|zD O (fun c4=>?_) (fun c4=>?_)
    ·try simp only [I] at c4
     have c4:bD rest=false:=by simpa using c4
     refine F O<|qT [some 8,some 20] O W pl25<|Y 1 i O<|A O<|H<|o<|w (y yY O (R 1 O) O) (J O) ?_
     rw [zUu hs0 c1 (peelE_3 c2 c3 c4) (by decide)];rfl
    ·try simp only [I] at c4
     have c4:bD rest=true:=by simpa using c4
     refine F O<|zP yY (R 2 O) O<|A O<|qI O ok50 (zHs _ _ (by omega)) ⟨G,O,G,O,T⟩<|A O<|H<|zD O (fun c5=>?_) (fun c5=>?_)
     ·try simp only [I] at c5
      refine F O<|qT [some 8,some 20] O W pl25<|Y 1 i O<|A O<|H<|o<|w (y yY O (R 1 O) O) (J O) ?_
      rw [zUu hs0 c1 (peelE_4 c2 c3 c4 c5) (by decide)];rfl
     ·try simp only [I] at c5
      refine zM<|F O<|A O<|qI O ok52 (lin_Var _) ⟨G,O,T⟩<|A O<|qI O ok56 (zVo _) ⟨G,O,T⟩<|qI O ok53 (show Pur cfg 53 [bZ (fL rest),bZ ⟨many,[]⟩] (.tup [bZ (mW many rest),vI (jI (fL rest) ⟨many,[]⟩).2]) from lin_Add (fL rest) ⟨many,[]⟩ (by omega) (by show 0<=_;omega) hvo ⟨hb,fun m hm=>by cases hm⟩) ⟨G,O,G,O,T⟩<|qP O<|yJ O<|qU O<|zV O O (qE [none,some 2] O v O) ?_
      rintro _ _ ⟨b4,rfl,rfl⟩
      refine Y 0 sz41 O<|A O<|H<|F O<|zG O kK<|zJ kP (R 1 O) O<|A O<|zP yX (R 0 O) O<|qI O ok54 (zBh s.Body loop (mW many rest) (by omega) hfr (by omega) hlr) ⟨G,O,G,O,G,O,T⟩<|qP O<|qU O<|qU O<|A O<|A O<|H<|zK<|F O<|A O<|yM O<|H<|zD O (fun c6=>?_) (fun c6=>?_)
      ·try simp only [I] at c6
       refine F O<|qT [some 8,some 20] O W pl25<|A O<|Y 2 i O<|A O<|H<|o<|w (y yY O (R 2 O) O) (J O) ?_
       rw [zUu hs0 c1 (peelE_5 c2 c3 c4 c5) c6];rfl
      ·try simp only [I] at c6
       refine zM<|F O<|A O<|zG O zAc<|zJ one3 (R 1 O) O<|A O<|zU O (zQo O O O)<|zG O zHg<|zJ one3 (R 1 O) O<|A O<|qT [none,none,none,none,none,some 4,none,none,none,none,none,none,none,none,none,none,some 2,some 4,some 13,none] O j pl46<|zV O O (qE [none,none,none,none,none,some 4,none,none,none,none,none,none,none,none,none,none,some 2,some 4,some 13,some 20] O j O) ?_
       rintro _ _ ⟨b5,rfl,rfl⟩
       refine Y 0 sz46 O<|H<|F O<|A O<|zG O zAc<|Y 2 sz3 O<|H<|F O<|zP yY (R 4 O) O<|A O<|zP zAv (R 2 O) O<|zP zAv (R 0 O) O<|yV O D j ?_
       refine qI O ok57 (zFy n (fV n loop) [tE s many,gU rest (w64 (s.Many-many)) s.Mark (gQ (sbT loop (mW many rest) s.Body))] hn (by have:=peelS_wt s many (w64 (s.Many-many)) rest (gQ (sbT loop (mW many rest) s.Body));omega) (by omega)) ⟨G,O,VLe.of_eq (congrArg vIs (locT_w c1)),O,VLe.of_eq ((peelS_x s many _ rest _).symm),O,T⟩<|yJ O<|qU O<|Y 3 i O<|A O<|H<|o<|w (y yY O (R 3 O) O) (J O) ?_
       rw [peelT_2 hs0 c1 ((peelE_5 c2 c3 c4 c5).trans c6)];rfl
end Go.W
end
section
set_option maxRecDepth 10000
namespace Go.W
open Go Go.Eng Go.Proofs Go.L41 Go.Br
attribute [local irreducible] AWP RWP TD fH
theorem node_P {P:Lf->Prop} {e x:Ex} (h:e.allF P) (hx:x∈dG e):P x.Lin/\gN P x.Idx:=
  ⟨h x hx _ (by unfold bQ;simp),fun y hy=>⟨h x hx _ (by unfold bQ;exact List.mem_cons_of_mem _ (List.mem_flatMap.2 ⟨y,hy,by simp⟩)),fun l hl=>h x hx _ (by unfold bQ;exact List.mem_cons_of_mem _ (List.mem_flatMap.2 ⟨y,hy,by simp [hl]⟩))⟩⟩
theorem ev_ix1 {f:Lf->Bool} {i:List Ix} {k:Nat} {x:Ix} (h:i[k]? =some x) (c:(f x.Lin&&x.At.all f)=false):jX f i=false:=zKy h (p:=fun x:Ix=>f x.Lin&&x.At.all f) c
theorem ev_next {f:Lf->Bool} {i:List Ix} {k:Nat} {x:Ix} (h:i[k]? =some x) (hp:jX f (i.take k)=true) (c:f x.Lin=true) (c2:x.At.all f=true):jX f (i.take (k+1))=true:=by
  unfold jX at hp⊢
  rw [yL h,List.all_append,hp];simp [c,c2]
theorem evL_app (f:Lf->Bool):∀a b:List St,evL f (a++b)=(evL f a&&evL f b)
  |[],b=>by rw [evL];rfl
  |x::r,b=>by rw [List.cons_append,evL,evL,evL_app f r b,Bool.and_assoc]
theorem evS_eq (f:Lf->Bool) (s:St):evS f s=(jX f s.Idx&&evL f s.Body&&rX f s.E):=by cases s;rw [evS];rfl
theorem evL_next {f:Lf->Bool} {l:List St} {k:Nat} {s:St} (h:l[k]? =some s) (hp:evL f (l.take k)=true) (c:(!jX f s.Idx|| !evL f s.Body)=false) (d:rX f s.E=true):evL f (l.take (k+1))=true:=by
  rw [←Bool.not_and] at c
  have c':(jX f s.Idx&&evL f s.Body)=true:=by simpa using c
  rw [yL h,evL_app,hp,evL,evS_eq,c',d,evL];rfl
theorem evL_no {f:Lf->Bool} {l:List St} {k:Nat} {s:St} (h:l[k]? =some s) (c:evS f s=false):evL f l=false:=by
  have e:l=l.take k++s::l.drop (k+1):=by rw [←qR h,List.take_append_drop]
  rw [e,evL_app,evL,c];simp
theorem evS_1 {f:Lf->Bool} {s:St} (c:(!jX f s.Idx|| !evL f s.Body)=true):evS f s=false:=by
  rw [←Bool.not_and] at c
  rw [evS_eq]
  have c':(jX f s.Idx&&evL f s.Body)=false:=by rw [Bool.not_eq_true'] at c;exact c
  rw [c'];rfl
theorem ev_ret {f:Lf->Bool} {pre:List Ex} {x:Ex} (hi:(pre.all fun a=>f a.Lin&&jX f a.Idx)=true) (c:(!f x.Lin|| !jX f x.Idx)=true):((pre++[x]).all fun a=>f a.Lin&&jX f a.Idx)=false:=by
  rw [←Bool.not_and,Bool.not_eq_true'] at c
  rw [List.all_append,hi,List.all_cons,c];rfl
theorem evS_2 {f:Lf->Bool} {s:St} (c:rX f s.E=false):evS f s=false:=by rw [evS_eq,c,Bool.and_false]
theorem linsWt_0 {g:Lf->Lf} (hg:∀l,(g l).L.length<=l.L.length):∀l:List Lf,fB (l.map g)<=fB l
  |[]=>by simp [fB]
  |x::r=>by rw [List.map_cons,fB,fB];have:=linsWt_0 hg r;have:=hg x;omega
theorem idxWt_0 {g:Lf->Lf} (hg:∀l,(g l).L.length<=l.L.length):∀l:List Ix,dH (l.map (gIx g))<=dH l
  |[]=>by simp [dH]
  |x::r=>by
    rw [List.map_cons,dH,dH]
    have h1:=idxWt_0 hg r
    have h2:(gIx g x).wt<=x.wt:=by
      unfold gIx Ix.wt
      have h3:=linsWt_0 hg x.At
      have h4:=hg x.Lin
      simp only [List.length_map];omega
    omega
mutual
theorem gSt_0 {g:Lf->Lf} {r:ByteArray->ByteArray} (hg:∀l,(g l).L.length<=l.L.length):∀s:St,(gSt g r s).wt<=s.wt
  |.mk o nm mn mk fo i e b=>by
    rw [gSt,St.wt,St.wt,List.length_map]
    have h1:=idxWt_0 hg i
    have h2:=wt_g (c:=0) (fun l=>by have:=hg l;omega) e
    have h3:=gSts_0 (r:=r) hg b
    omega
theorem gSts_0 {g:Lf->Lf} {r:ByteArray->ByteArray} (hg:∀l,(g l).L.length<=l.L.length):∀l:List St,bC (fD g r l)<=bC l
  |[]=>by rw [fD];simp [bC]
  |s::t=>by rw [fD,bC,bC];have:=gSt_0 (r:=r) hg s;have:=gSts_0 (r:=r) hg t;omega
end
theorem sbT0_wt {s:ByteArray} {l:List St}:bC (gQ (sbT s ⟨0,[]⟩ l))<=bC l:=by
  cases h:sbT s ⟨0,[]⟩ l with
  |error y=>show bC []<=_;simp [bC]
  |ok a=>
    show bC a<=_
    rw [mSts_g h]
    exact gSts_0 (fun l=>by have:=substR_len l ⟨0,[]⟩ s;exact this) l
mutual
theorem sbS_rng {g:Lf->Lf} {r:ByteArray->ByteArray} (hg:∀l,l.rng->(g l).rng):∀s:St,s.allF Lf.rng->(gSt g r s).allF Lf.rng
  |.mk o nm mn mk fo i e b,h=>by
    rw [St.allF] at h
    rw [gSt,St.allF]
    refine ⟨fun x hx=>?_,allF_g fun x hx l hl=>hg _ (h.2.1 x hx l hl),sbL_rng hg b h.2.2⟩
    obtain ⟨y,hy,rfl⟩:=List.mem_map.1 hx
    refine ⟨hg _ (h.1 y hy).1,fun l hl=>?_⟩
    obtain ⟨k,hk,rfl⟩:=List.mem_map.1 hl
    exact hg _ ((h.1 y hy).2 k hk)
theorem sbL_rng {g:Lf->Lf} {r:ByteArray->ByteArray} (hg:∀l,l.rng->(g l).rng):∀l:List St,bH Lf.rng l->bH Lf.rng (fD g r l)
  |[],_=>by rw [fD,bH];trivial
  |s::t,h=>by
    rw [bH] at h
    rw [fD,bH]
    exact ⟨sbS_rng hg s h.1,sbL_rng hg t h.2⟩
end
theorem sbT_rng (s:ByteArray) (u:Lf) {l:List St} (h:bH Lf.rng l):bH Lf.rng (gQ (sbT s u l)):=by
  cases c:sbT s u l with
  |error y=>show bH Lf.rng [];rw [bH];trivial
  |ok a=>
    show bH Lf.rng a
    rw [mSts_g c]
    exact sbL_rng (fun l hl=>substR_rng s hl) l h
theorem colE_1 {n:Ns} {s inn:St} {outer nm:ByteArray} (hi:s.Body.getD 0 zSt=inn) (h:¬(s.Body.length=1/\inn.Op=1)):nF n s outer nm=19:=by unfold nF;rw [hi,if_neg h]
theorem colE_2 {n:Ns} {s inn:St} {outer nm:ByteArray} (hi:s.Body.getD 0 zSt=inn) (h:s.Body.length=1/\inn.Op=1) (h2:bD nm=false):nF n s outer nm=7:=by unfold nF;rw [hi,if_pos h,if_pos h2]
theorem colE_3 {n:Ns} {s inn:St} {outer nm:ByteArray} (hi:s.Body.getD 0 zSt=inn) (h:s.Body.length=1/\inn.Op=1) (h2:bD nm=true) (h3:((!decide (nm=outer)&& !decide (nm=inn.Name))&&lG n nm)=true):nF n s outer nm=8:=by unfold nF;rw [hi,if_pos h,if_neg (by rw [h2];simp),if_pos h3]
theorem colE_4 {n:Ns} {s inn:St} {outer nm:ByteArray} (hi:s.Body.getD 0 zSt=inn) (h:s.Body.length=1/\inn.Op=1) (h2:bD nm=true) (h3:((!decide (nm=outer)&& !decide (nm=inn.Name))&&lG n nm)=false) (h4:w64 (Int.tdiv 65536 inn.Many)<s.Many):nF n s outer nm=2:=by unfold nF;rw [hi,if_pos h,if_neg (by rw [h2];simp),if_neg (by rw [h3];simp),if_pos h4]
theorem colE_5 {n:Ns} {s inn:St} {outer nm:ByteArray} (hi:s.Body.getD 0 zSt=inn) (h:s.Body.length=1/\inn.Op=1) (h2:bD nm=true) (h3:((!decide (nm=outer)&& !decide (nm=inn.Name))&&lG n nm)=false) (h4:¬w64 (Int.tdiv 65536 inn.Many)<s.Many) (h5:evL (pS outer inn.Name inn.Many) inn.Body=false):nF n s outer nm=19:=by unfold nF;rw [hi,if_pos h,if_neg (by rw [h2];simp),if_neg (by rw [h3];simp),if_neg h4,if_pos h5]
theorem colE_6 {n:Ns} {s inn:St} {outer nm:ByteArray} (hi:s.Body.getD 0 zSt=inn) (h:s.Body.length=1/\inn.Op=1) (h2:bD nm=true) (h3:((!decide (nm=outer)&& !decide (nm=inn.Name))&&lG n nm)=false) (h4:¬w64 (Int.tdiv 65536 inn.Many)<s.Many) (h5:evL (pS outer inn.Name inn.Many) inn.Body=true):
    nF n s outer nm=if dZ (sbT outer ⟨0,[]⟩ inn.Body)=0 then dZ (sbT inn.Name (fL nm) (gQ (sbT outer ⟨0,[]⟩ inn.Body))) else dZ (sbT outer ⟨0,[]⟩ inn.Body):=by unfold nF;rw [hi,if_pos h,if_neg (by rw [h2];simp),if_neg (by rw [h3];simp),if_neg h4,if_neg (by rw [h5];simp)]
theorem colT_0 {n:Ns} {outer nm:ByteArray} (h:¬gO n outer=0):nR n outer nm=(zNs,gO n outer):=if_neg h
theorem zIv {n:Ns} {s:St} {outer nm:ByteArray} {e:Int} (hs:(fM n outer).2.1=s) (h:gO n outer=0) (he:nF n s outer nm=e) (h0:¬e=0):nR n outer nm=(zNs,e):=by unfold nR;rw [if_pos h,hs,he,if_neg h0]
theorem colT_2 {n:Ns} {s:St} {outer nm:ByteArray} (hs:(fM n outer).2.1=s) (h:gO n outer=0) (he:nF n s outer nm=0):nR n outer nm=pE n (fV n outer) [pV s outer nm]:=by unfold nR;rw [if_pos h,hs,if_pos he]
theorem colS_x {s inn:St} (hi:s.Body.getD 0 zSt=inn) (outer nm:ByteArray):bM [pV s outer nm]=.c (.sl 20 [[cI 1,cS nm,cI (w64 (s.Many*inn.Many)),cI s.Mark,cI 0,.sl 4 [],cI 0,cS (bs []),cI 0,cI 0,cI 0,cI 0,cI 0,cI 0,cI 0,cI 0,.sl 2 [],.sl 4 [],.sl 13 [],.sl 20 ((gQ (sbT inn.Name (fL nm) (gQ (sbT outer ⟨0,[]⟩ inn.Body)))).map St.cells)]]):=by
  unfold pV
  rw [hi]
  show V.c (C.sl 20 [(gU _ _ _ _).cells])=_
  rw [zPu]
theorem colS_wt {s inn:St} (hi:s.Body.getD 0 zSt=inn) (outer nm:ByteArray):bC [pV s outer nm]=bC (gQ (sbT inn.Name (fL nm) (gQ (sbT outer ⟨0,[]⟩ inn.Body))))+2:=by
  unfold pV
  rw [hi]
  simp only [bC,sFor_wt];omega
theorem get_0 {l:List St} (h:0<l.length):l[0]? =some (l.getD 0 zSt):=by
  rw [List.getD_eq_getElem?_getD,List.getElem?_eq_getElem h];rfl
theorem ok69:bA Tryz.prog 69=true:=by kernel_rfl
theorem ok70:bA Tryz.prog 70=true:=by kernel_rfl
theorem ok71:bA Tryz.prog 71=true:=by kernel_rfl
theorem ok122:bA Tryz.prog 122=true:=by kernel_rfl
theorem one114:lV Tryz.prog 114=true:=by kernel_rfl
theorem one157:lV Tryz.prog 157=true:=by kernel_rfl
theorem sz157:(Tryz.prog.info? 157).map (·.size)=some 1:=by kernel_rfl
theorem zr2:fS Tryz.prog 2=some [(Value.int IntKind.i64 0)]:=by kernel_rfl
theorem zr157:fS Tryz.prog 157=some [Value.nilFunc]:=by kernel_rfl
theorem lin_Coeff (l:Lf) (s:ByteArray) (hl:l.L.length<=6000000000000):
    Pur cfg 71 [bZ l,vS s] (vI (bF l.L s)):=by
 refine zT Tryz.func71 O Tryz.ntmps71 Tryz.results71 O ?_
 intro z hz
 refine F O<|zV O O (qN O O) ?_
 rintro _ _ ⟨b1,rfl,rfl⟩
 refine A O<|H<|zK<|F O<|zG O kC<|zJ wN (R 0 O) O<|qC O P<|A O<|H<|zR<|zY ⟨[(10,.c _),(1,.c _),(8,.c _),(9,.c _)],[]⟩ (Weak.mk [false] ⟨G,G,G,G,T⟩ O)<|qK 1 0 O O (Nat) (fun k=>[(10,vI k)]) (fun k=>[]) (fun k=>k<=l.L.length/\(bF l.L s=bF (l.L.drop k) s)) (fun k=>l.L.length-k) ⟨0,⟨by omega,O⟩,Weak.mk [] ⟨G,G,G,G,T⟩ O⟩ ?_
 rintro k ⟨hk,hp⟩
 refine F O<|yD O<|H<|zK<|zD O (fun c1=>?_) (fun c1=>?_)
 ·try simp only [I] at c1
  obtain ⟨x,hx⟩:=qY l.L k (by omega)
  refine zM<|zK<|zR<|F O<|qD O P (by omega) (Q (by assumption))<|zP zPk qA O<|zV O O (yT O zr69) ?_
  rintro _ _ ⟨b2,rfl,rfl⟩
  refine Y 0 sz69 O<|H<|F O<|zG O zAn<|zJ one9 (R 0 O) O<|A O<|zU O (yR O O O)<|H<|zD O (fun c2=>?_) (fun c2=>?_)
  ·try simp only [I] at c2
   refine F O<|zG O zDn<|zJ U (R 0 O) O<|A O<|H<|o<|X O ?_
   rw [hp,qR hx,bF,if_pos c2]
  ·try simp only [I] at c2
   refine zM<|zQ O<|qJ O ⟨by omega,by omega⟩<|A O<|H ?_
   refine ⟨k+1,⟨by omega,by rw [hp,qR hx,bF,if_neg c2]⟩,(by omega),Weak.mk [false] ⟨G,G,G,G,T⟩ O⟩
 ·try simp only [I] at c1
  refine qQ<|F O<|A O<|H<|o<|X O ?_
  rw [hp,yW (by omega)];rfl
theorem collapse_1 (outer:ByteArray) (many:Int) (inn:St) (l:Lf) (hm:1<=many) (hl:l.L.length<=6000000000000):
    Pur cfg 70 [bZ l,.c (.iptr [cS outer]),.c (.iptr [cI many]),.c (.iptr inn.cs)] (vB (pS outer inn.Name many l)):=by
 refine zT Tryz.func70 O Tryz.ntmps70 Tryz.results70 O ?_
 intro z hz
 refine F O<|zV O O (qN O O) ?_
 rintro _ _ ⟨b1,rfl,rfl⟩
 refine A O<|H<|F O<|zP yX (R 0 O) O<|zJ one9 qA O<|qI O ok71 (lin_Coeff _ _ (by omega)) ⟨G,O,G,O,T⟩<|A O<|H<|zK<|qZ 15 mixed (by kernel_rfl) O O<|M O O (zN O O)<|M O O (zF O U O qA O)<|M O O (det_rem O O O (by omega))<|M O O (yH O O O)<|M O O (zN O O)<|f [] O O O O gv1 T (fun g2_4=>zN O O) O<|f [] O O O O gv1 T (fun g2_4=>zF O U O qA O) O<|f [(15,_),(16,_)] O O O O gv1 ⟨O,O,O,O,T⟩ (fun g2_4=>zKr O O O (by omega)) O<|f [] O O O O gv1 T (fun g2_4=>qB O yX O (R 0 O) O) O<|f [] O O O O gv1 T (fun g2_4=>qL O zAj O) O<|f [(19,_)] O O O O gv1 ⟨O,O,T⟩ (fun g2_4=>zF O one9 O qA O) O<|f [(18,_),(20,_)] O O O O gv1 ⟨O,O,O,O,T⟩ (fun g2_4=>qM O ok71 (lin_Coeff _ _ (by omega)) ⟨G,O,G,O,T⟩) O<|f [(17,_),(21,_)] O O O O gv1 ⟨O,O,O,O,T⟩ (fun g2_4=>yH O O O) O<|M O O (kZ O O O (fun h=>h) O)<|M O O (yA O O)<|kE<|H<|o<|X O ?_
 rfl
theorem every_1 (f:Lf->Bool) (c:C) (P:Lf->Prop) (hc:∀l,P l->FnPur cfg c [bZ l] (vB (f l))) (i:List Ix) (hi:i.length<=4294967296) (hA:∀x,x∈i->x.At.length<=4294967296) (hP:gN P i):
    Pur cfg 122 [gM i,.c (.iptr [c])] (vB (jX f i)):=by
 refine zT Tryz.func122 O Tryz.ntmps122 Tryz.results122 O ?_
 intro z hz
 refine F O<|A O<|H<|zK<|F O<|A O<|qC O d<|A O<|H<|zR<|zY ⟨[(10,.c _),(1,.c _),(8,.c _),(9,.c _)],[]⟩ (Weak.mk [] ⟨G,G,G,G,T⟩ O)<|qK 1 0 O O (Nat) (fun k=>[(10,vI k)]) (fun k=>[]) (fun k=>k<=i.length/\(jX f (i.take k)=true)) (fun k=>i.length-k) ⟨0,⟨by omega,O⟩,Weak.mk [] ⟨G,G,G,G,T⟩ O⟩ ?_
 rintro k ⟨hk,hp⟩
 refine F O<|yD O<|H<|zK<|zD O (fun c1=>?_) (fun c1=>?_)
 ·try simp only [I] at c1
  obtain ⟨x,hx⟩:=qY i k (by omega)
  have hAx:=hA x (zZ hx)
  refine zM<|zK<|zR<|F O<|qD O d (by omega) (Q (by assumption))<|zP zIn qA O<|zV O O (qE [none,some 2,none,some 2] O zr72 O) ?_
  rintro _ _ ⟨b1,rfl,rfl⟩
  refine Y 0 sz72 O<|H<|zK<|F O<|zJ one114 qA O<|zG O zEp<|zP yX (R 0 O) O<|zU O (kV O O (hc x.Lin (hP x (zZ hx)).1) ⟨G,O,T⟩)<|kQ O<|H<|zD O (fun c2=>?_) (fun c2=>?_)
  ·refine F O<|A O<|H<|o<|X O ?_
   rw [ev_ix1 hx (by simp at c2;rw [c2];rfl)]
  ·refine zM<|F O<|zG O zAr<|zJ zDw (R 0 O) O<|qC O el70<|A O<|H<|zR<|zY ⟨[(22,.c _),(1,.c _),(8,.c _),(9,.c _),(10,.c _),(20,.c _),(21,.c _)],[]⟩ (Weak.mk [false] ⟨G,G,G,G,G,G,G,T⟩ O)<|qK 1 0 O O (Nat) (fun j=>[(22,vI j)]) (fun j=>[]) (fun j=>j<=x.At.length/\((x.At.take j).all f=true)) (fun j=>x.At.length-j) ⟨0,⟨by omega,O⟩,Weak.mk [] ⟨G,G,G,G,G,G,G,T⟩ O⟩ ?_
   rintro j ⟨hk,hq⟩
   refine F O<|yD O<|H<|zK<|zD O (fun c3=>?_) (fun c3=>?_)
   ·try simp only [I] at c3
    obtain ⟨l,hl⟩:=qY x.At j (by omega)
    refine zM<|zK<|zR<|F O<|qD O el70 (by omega) (Q (by assumption))<|zP yX qA O<|zV O O (qE [none,some 2] O v O) ?_
    rintro _ _ ⟨b2,rfl,rfl⟩
    refine Y 0 sz41 O<|H<|F O<|zJ one114 qA O<|zP yX (R 0 O) O<|zU O (kV O O (hc l ((hP x (zZ hx)).2 l (zZ hl))) ⟨G,O,T⟩)<|kQ O<|H<|zD O (fun c4=>?_) (fun c4=>?_)
    ·refine F O<|A O<|H<|o<|X O ?_
     rw [ev_ix1 hx (by simp at c4;rw [zKy hl c4,Bool.and_false])]
    ·refine zM<|zQ O<|qJ O ⟨by omega,by omega⟩<|A O<|H ?_
     refine ⟨j+1,⟨by omega,by rw [yL hl,List.all_append,hq];simpa using c4⟩,(by omega),Weak.mk [false] ⟨G,G,G,G,G,G,G,T⟩ O⟩
   ·try simp only [I] at c3
    refine qQ<|zQ O<|qJ O ⟨by omega,by omega⟩<|A O<|H ?_
    refine ⟨k+1,⟨by omega,ev_next hx hp (by simpa using c2) (by rw [yU (by omega)] at hq;exact hq)⟩,(by omega),Weak.mk [] ⟨G,G,G,G,T⟩ O⟩
 ·try simp only [I] at c1
  refine qQ<|F O<|A O<|H<|o<|X O ?_
  rw [yU (by omega)] at hp;rw [hp]
theorem every_step (f:Lf->Bool) (c:C) (P:Lf->Prop) (hc:∀l,P l->FnPur cfg c [bZ l] (vB (f l))) (l:List St) (ih:∀s,s∈l->Pur cfg 69 [bM s.Body,.c c] (vB (evL f s.Body))) (hP:bH P l) (hl:bC l<=1073741824):
    Pur cfg 69 [bM l,.c c] (vB (evL f l)):=by
 refine zT Tryz.func69 O Tryz.ntmps69 Tryz.results69 O ?_
 intro z hz
 have hll:=kO l
 refine F O<|zV O O (qN O O) ?_
 rintro _ _ ⟨b1,rfl,rfl⟩
 refine yI _ (yS 0 O 3 _ PLe.ptr)<|zV O O (yT O zr4) ?_
 rintro _ _ ⟨b2,rfl,rfl⟩
 refine H<|F O<|zU O (zEe O O O O O)<|zV O O (yT O zr157) ?_
 rintro _ _ ⟨b3,rfl,rfl⟩
 refine Y 0 sz157 O<|yI _ (yS 0 O 5 _ PLe.ptr)<|H<|zK<|F O<|A O<|qC O D<|A O<|H<|zR<|zY ⟨[(12,.c _),(3,.c _),(4,.c _),(5,.c _),(10,.c _),(11,.c _)],[_]⟩ (Weak.mk [true] ⟨G,G,G,G,G,G,T⟩ O)<|qK 1 0 O O (Nat) (fun k=>[(12,vI k)]) (fun k=>[]) (fun k=>k<=l.length/\(evL f (l.take k)=true)) (fun k=>l.length-k) ⟨0,⟨by omega,by rw [List.take_zero,evL]⟩,Weak.mk [true] ⟨G,G,G,G,G,G,T⟩ O⟩ ?_
 rintro k ⟨hk,hp⟩
 refine F O<|yD O<|H<|zK<|zD O (fun c1=>?_) (fun c1=>?_)
 ·try simp only [I] at c1
  obtain ⟨s,hs⟩:=qY l k (by omega)
  have hsw:=yC (zZ hs)
  have hse:=St.wt_eq s
  have hPs:=St.allF_eq (kY hP s (zZ hs))
  refine zM<|zK<|zR<|F O<|qD O D (by omega) (wD hs)<|zP zAv qA O<|zV O O (qE [none,none,none,none,none,some 4,none,none,none,none,none,none,none,none,none,none,some 2,some 4,some 13,some 20] O j O) ?_
  rintro _ _ ⟨b4,rfl,rfl⟩
  refine Y 0 sz46 O<|H<|zK<|F O<|zJ one157 qA O<|zG O zDo<|zJ wO (R 0 O) O<|zU O (kV O O (show FnPur cfg (.fn (.func 122) [] [.iptr [c]]) [gM s.Idx] (vB (jX f s.Idx)) from FnPur.of_pur (first:=[]) (cap:=[.iptr [c]]) ok122 (every_1 f c P hc s.Idx (by omega) (fun x hx=>by have:=zAq hx;rw [Ix.wt] at this;omega) hPs.1)) ⟨G,O,T⟩)<|kQ O<|A O<|rL0 O (fun g5_5=>zE O kK O) O<|B 22 O (fun g5_5=>zF O kP O (R 0 O) O) O<|rL0 O (fun g5_5=>zF O one114 O qA O) O<|rLz [(23,_),(24,_)] O gv1 ⟨O,O,O,O,T⟩ (fun g5_5=>qM O ok69 (ih s (zZ hs)) ⟨G,O,G,O,T⟩) O<|B 25 O (fun g5_5=>kW O O) O<|r_or O (fun h=>(lzf h))<|H<|zD O (fun c2=>?_) (fun c2=>?_)
  ·refine F O<|Y 1 sz4 O<|H<|o<|fin1 (wC one4 O (R 1 O) O) ?_
   rw [evL_no hs (evS_1 c2)]
  ·refine zM<|F O<|zG O zAz<|zP kA (R 0 O) O<|qI O ok123 (zOs _) ⟨G,O,T⟩<|H<|zR<|zY _ (Weak.mem [false,true] O)<|zFw (ps:=[31]) hz 1 O O ok158 (zNd s.E (by omega)) (fun _ _=>O) O (fun pre=>pre.all (fun a=>f a.Lin&&jX f a.Idx)=true) (fun pre=>[E.row b2 4 [.lit (.bool false)]]) (fun c pre=>(c=.ret/\pre.all (fun a=>f a.Lin&&jX f a.Idx)=false)) (fun c pre=>[E.row b2 4 [.lit (.bool false)]]) ⟨O,O⟩ ?_ ?_ ?_ ?_
   ·intro pre x suf hxs hi z hz
    have hxw:x.wt<=s.E.wt:=zFp s.E x (by rw [hxs];simp)
    have hxe:=Ex.wt_eq x
    refine zQ O<|zV O O (qE [none,none,none,none,none,none,none,none,none,none,some 2,some 4,some 13] O zr44 O) ?_
    rintro _ _ ⟨b5,rfl,rfl⟩
    refine Y 0 sz44 O<|H ?_
    intro z hz
    refine zR<|F O<|zJ one114 qA O<|zG O zDe<|zP yX (R 0 O) O<|zU O (kV O O (hc x.Lin (node_P hPs.2.1 (by rw [hxs];simp)).1) ⟨G,O,T⟩)<|kQ O<|A O<|rL0 O (fun g9_5=>zF O one157 O qA O) O<|rL0 O (fun g9_5=>zE O kX O) O<|B 39 O (fun g9_5=>zF O wO O (R 0 O) O) O<|rLz [(38,_),(40,_)] O gv1 ⟨O,O,O,O,T⟩ (fun g9_5=>kV O O (show FnPur cfg (.fn (.func 122) [] [.iptr [c]]) [gM x.Idx] (vB (jX f x.Idx)) from FnPur.of_pur (first:=[]) (cap:=[.iptr [c]]) ok122 (every_1 f c P hc x.Idx (by omega) (fun y hy=>by have:=zAq hy;rw [Ix.wt] at this;omega) (node_P hPs.2.1 (by rw [hxs];simp)).2)) ⟨G,O,T⟩) O<|B 41 O (fun g9_5=>kW O O) O<|r_or O (fun h=>(lzf h))<|H<|zD O (fun c3=>?_) (fun c3=>?_)
    ·refine F O<|Y 1 sz4 O<|H<|o ?_
     exact zCm (τ:=⟨[],_⟩) (Weak.mk [false,true] T O) ⟨⟨O,ev_ret hi c3⟩,O⟩
    ·refine zM ?_
     exact zCm (τ:=⟨[],_⟩) (Weak.mk [false,true] T O) ⟨(by simp at c3;simp only [List.all_append,hi,List.all_cons,List.all_nil,c3.1,c3.2,Bool.and_self]),O⟩
   ·intro hd
    refine zQ O<|qJ O ⟨by omega,by omega⟩<|A O<|H ?_
    refine ⟨k+1,⟨by omega,evL_next hs hp c2 hd⟩,(by omega),Weak.mk [true] ⟨G,G,G,G,G,G,T⟩ O⟩
   ·rintro pre x suf hxs hx
    rcases hx with ⟨hc,hx⟩
    clear hc
    repeat (first|refine zNj ?_|refine zLt ?_)
    refine fin1 (wC one4 O (R 0 O) O) ?_
    rw [evL_no hs (evS_2 (by unfold rX;rw [hxs];exact all_app_no hx))]
   ·rintro i pre x suf hxs hx
    rcases hx with ⟨hc,hx⟩
    cases hc
 ·try simp only [I] at c1
  refine qQ<|F O<|Y 0 sz4 O<|H<|o<|fin1 (wC one4 O (R 0 O) O) ?_
  rw [yU (by omega)] at hp;rw [hp]
theorem every_body (f:Lf->Bool) (c:C) (P:Lf->Prop) (hc:∀l,P l->FnPur cfg c [bZ l] (vB (f l))) (s:St) (hP:bH P s.Body) (hl:bC s.Body<=1073741824):Pur cfg 69 [bM s.Body,.c c] (vB (evL f s.Body)):=by
  induction s using St.ind with
  |_ s ih=>exact every_step f c P hc s.Body (fun a ha=>ih a ha (St.allF_eq (kY hP a ha)).2.2 (by have:=yC ha;have:=St.body_wt a;omega)) hP hl
theorem split_every (f:Lf->Bool) (c:C) (P:Lf->Prop) (hc:∀l,P l->FnPur cfg c [bZ l] (vB (f l))) (l:List St) (hP:bH P l) (hl:bC l<=1073741824):Pur cfg 69 [bM l,.c c] (vB (evL f l)):=
  every_step f c P hc l (fun s hs=>every_body f c P hc s (St.allF_eq (kY hP s hs)).2.2 (by have:=yC hs;have:=St.body_wt s;omega)) hP hl
theorem zMa (n:Ns) (outer nm:ByteArray) (hn:n.Ok) (hl:bC n.Body<=30000) (hr:bH Lf.rng n.Body) (hM:gO n outer=0->((fM n outer).2.1.Body.length=1/\((fM n outer).2.1.Body.getD 0 zSt).Op=1)->1<=((fM n outer).2.1.Body.getD 0 zSt).Many):
    Pur cfg 26 [vNs n,vS outer,vS nm] (.tup [vNs (nR n outer nm).1,vI (nR n outer nm).2]):=by
 refine zT Tryz.func26 O Tryz.ntmps26 Tryz.results26 O ?_
 intro z hz
 obtain ⟨s,hs0⟩:∃s,(fM n outer).2.1=s:=⟨_,rfl⟩
 have hlw:=locT_wt n outer
 have hlr:=locT_rng (s:=outer) hr
 rw [hs0] at hlw hlr
 have hwl:=zLd n outer
 have hwN:=zCr n.Body
 rw [hs0] at hM
 obtain ⟨inn,hi0⟩:∃x,s.Body.getD 0 zSt=x:=⟨_,rfl⟩
 rw [hi0] at hM
 obtain ⟨hvr,hvl⟩:=zEz nm
 refine F O<|zV O O (qN O O) ?_
 rintro _ _ ⟨b1,rfl,rfl⟩
 refine zV O O (qN O O) ?_
 rintro _ _ ⟨b2,rfl,rfl⟩
 refine yI _ (yS 0 O 4 _ PLe.ptr)<|zV O O (qE [some 8,some 20] O W O) ?_
 rintro _ _ ⟨b3,rfl,rfl⟩
 refine A O<|H<|F O<|zP yY (R 1 O) O<|zJ one9 qA O<|qI O ok48 (show Pur cfg 48 [vNs n,vS outer] (.tup [vIs (fM n outer).1,vSt s,vI (gO n outer)]) by have h:=zJm n outer hn;rw [locT_e,hs0] at h;exact h) ⟨G,O,G,O,T⟩<|qP O<|qU O<|yJ O<|qU O<|zV O O (qE [none,none,none,none,none,some 4,none,none,none,none,none,none,none,none,none,none,some 2,some 4,some 13,some 20] O j O) ?_
 rintro _ _ ⟨b4,rfl,rfl⟩
 refine A O<|Y 0 sz46 O<|A O<|H<|zK<|F O<|A O<|yM O<|H<|zD O (fun c1=>?_) (fun c1=>?_)
 ·try simp only [I] at c1
  refine F O<|qT [some 8,some 20] O W pl25<|A O<|Y 1 i O<|A O<|H<|o<|w (y yY O (R 1 O) O) (J O) ?_
  rw [colT_0 c1];rfl
 ·try simp only [I] at c1
  refine zM<|zK<|F O<|zG O kK<|zJ kP (R 0 O) O<|qC O D<|yM O<|A O<|rL0 O (fun g4_4=>zE O kK O) O<|B 31 O (fun g4_4=>zF O kP O (R 0 O) O) O<|B 32 O (fun g4_4=>qF O D O O (by simp only [Lz,cond_true,cond_false,Bool.and_eq_true,Bool.or_eq_true,Bool.not_eq_true',Bool.not_eq_false',Bool.or_eq_false_iff,Bool.and_eq_false_iff,decide_eq_true_eq,decide_eq_false_iff_not,Bool.not_eq_true,Bool.not_eq_false] at g4_4;omega) (wD (get_0 (by simp only [Lz,cond_true,cond_false,Bool.and_eq_true,Bool.or_eq_true,Bool.not_eq_true',Bool.not_eq_false',Bool.or_eq_false_iff,Bool.and_eq_false_iff,decide_eq_true_eq,decide_eq_false_iff_not,Bool.not_eq_true,Bool.not_eq_false] at g4_4;omega)))) O<|B 33 O (fun g4_4=>qL O zAp O) O<|B 34 O (fun g4_4=>zF O one3 O qA O) O<|B 35 O (fun g4_4=>kN O O O) O<|r_or O (fun h=>(lzf h))<|H<|zD O (fun c2=>?_) (fun c2=>?_)
  ·have c2:¬(s.Body.length=1/\inn.Op=1):=by rintro ⟨h1,h2⟩;rw [←hi0] at h2;simp only [Bool.or_eq_true,Bool.not_eq_true',decide_eq_false_iff_not] at c2;omega
   refine F O<|qT [some 8,some 20] O W pl25<|Y 1 i O<|A O<|H<|o<|w (y yY O (R 1 O) O) (J O) ?_
   rw [zIv hs0 c1 (colE_1 hi0 c2) (by decide)];rfl
  ·have c2:s.Body.length=1/\inn.Op=1:=by rw [←hi0];simp at c2⊢;exact ⟨by omega,c2.2⟩
   have hM1:=hM c1 c2
   have hin:s.Body[0]? =some inn:=by rw [←hi0];exact get_0 (by omega)
   have hiw:=yC (zZ hin)
   have hib:=St.body_wt inn
   have hir:=(St.allF_eq (kY hlr inn (zZ hin))).2.2
   have hb1:=sbT0_wt (s:=outer) (l:=inn.Body)
   have hb2:=sbT_wt (s:=inn.Name) (u:=fL nm) (l:=gQ (sbT outer ⟨0,[]⟩ inn.Body)) (by omega)
   refine zM<|F O<|zG O kK<|zJ kP (R 0 O) O<|qD O D (by omega) (wD hin)<|zP zAv qA O<|zV O O (qE [none,none,none,none,none,some 4,none,none,none,none,none,none,none,none,none,none,some 2,some 4,some 13,some 20] O j O) ?_
   rintro _ _ ⟨b5,rfl,rfl⟩
   refine Y 0 sz46 O<|yI _ (yS 0 O 11 _ PLe.ptr)<|H<|zK<|zR<|F O<|A O<|qI O ok49 (zBc _) ⟨G,O,T⟩<|kQ O<|A O<|H<|zD O (fun c3=>?_) (fun c3=>?_)
   ·try simp only [I] at c3
    have c3:bD nm=false:=by simpa using c3
    refine F O<|qT [some 8,some 20] O W pl25<|Y 1 i O<|A O<|H<|o<|w (y yY O (R 1 O) O) (J O) ?_
    rw [zIv hs0 c1 (colE_2 hi0 c2 c3) (by decide)];rfl
   ·try simp only [I] at c3
    have c3:bD nm=true:=by simpa using c3
    refine F O<|A O<|zJ one9 qA O<|zU O (zBu O O O)<|A O<|rL0 O (fun g9_3=>zN O O) O<|rL0 O (fun g9_3=>qL O zAj O) O<|B 54 O (fun g9_3=>zF O one9 O qA O) O<|rLz [(53,_),(55,_)] O gv1 ⟨O,O,O,O,T⟩ (fun g9_3=>zBu O O O) O<|yQ O (fun h=>h)<|A O<|rL0 O (fun g9_9=>qB O yY O (R 2 O) O) O<|rL0 O (fun g9_9=>zN O O) O<|rLz [(59,_),(60,_)] O gv1 ⟨O,O,O,O,T⟩ (fun g9_9=>qM O ok50 (zHs _ _ (by omega)) ⟨G,O,G,O,T⟩) O<|yQ O (fun h=>h)<|A O<|H<|zD O (fun c4=>?_) (fun c4=>?_)
    ·have c4:((!decide (nm=outer)&& !decide (nm=inn.Name))&&lG n nm)=true:=c4
     refine F O<|qT [some 8,some 20] O W pl25<|Y 1 i O<|A O<|H<|o<|w (y yY O (R 1 O) O) (J O) ?_
     rw [zIv hs0 c1 (colE_3 hi0 c2 c3 c4) (by decide)];rfl
    ·have c4:((!decide (nm=outer)&& !decide (nm=inn.Name))&&lG n nm)=false:=c4
     refine zK<|qZ 7 mixed (by kernel_rfl) O O<|M O O (zE O zAc O)<|M O O (zF O one3 O (R 0 O) O)<|M O O (qL O zAc O)<|M O O (zF O one3 O qA O)<|M O O (zKr O O O (by omega))<|M O O (yG O O O)<|M O O (yA O O)<|kE<|H<|zD O (fun c5=>?_) (fun c5=>?_)
     ·try simp only [I] at c5
      refine F O<|qT [some 8,some 20] O W pl25<|Y 1 i O<|A O<|H<|o<|w (y yY O (R 1 O) O) (J O) ?_
      rw [zIv hs0 c1 (colE_4 hi0 c2 c3 c4 c5) (by decide)];rfl
     ·try simp only [I] at c5
      have c5:¬w64 (Int.tdiv 65536 inn.Many)<s.Many:=by show ¬(IntKind.i64.wrap (Int.tdiv 65536 inn.Many)<s.Many);omega
      refine zM<|F O<|qO O zAc<|zJ one3 qA O<|zV O O (yT O zr2) ?_
      rintro _ _ ⟨b6,rfl,rfl⟩
      refine Y 0 sz2 O<|yI _ (yS 0 O 12 _ PLe.ptr)<|H<|F O<|qO O kK<|zJ kP qA O<|zU O (zEe O O O O O)<|qI O ok69 (split_every (pS outer inn.Name inn.Many) _ (fun l=>l.L.length<=1073741824) (fun l hl=>FnPur.of_pur (first:=[]) (cap:=[.iptr [cS outer],.iptr [cI inn.Many],.iptr inn.cs]) ok70 (collapse_1 outer inn.Many inn l hM1 (by omega))) inn.Body (zJi (by omega)) (by omega)) ⟨G,O,G,O,T⟩<|A O<|H<|zK<|F O<|A O<|kQ O<|H<|zD O (fun c6=>?_) (fun c6=>?_)
      ·try simp only [I] at c6
       have c6:evL (pS outer inn.Name inn.Many) inn.Body=false:=by simpa using c6
       refine F O<|qT [some 8,some 20] O W pl25<|Y 1 i O<|A O<|H<|o<|w (y yY O (R 1 O) O) (J O) ?_
       rw [zIv hs0 c1 (colE_5 hi0 c2 c3 c4 c5 c6) (by decide)];rfl
      ·try simp only [I] at c6
       have c6:evL (pS outer inn.Name inn.Many) inn.Body=true:=by simpa using c6
       refine zM<|zK<|qZ 10 mixed (by kernel_rfl) O O<|M O O (qL O kK O)<|M O O (zF O kP O qA O)<|M O O (zF O one9 O qA O)<|M O O (qM O ok56 (zVo _) ⟨G,O,T⟩)<|M O O (qM O ok54 (zBh inn.Body outer ⟨0,[]⟩ (by show 0<=_;omega) zIo (by omega) hir) ⟨G,O,G,O,G,O,T⟩)<|M O O (kI O O)<|M O O (wG O O O)<|M O O (wG O O O)<|M O O (yA O O)<|M O O (yA O O)<|kE<|H<|zK<|F O<|A O<|yM O<|H<|zD O (fun c7=>?_) (fun c7=>?_)
       ·try simp only [I] at c7
        refine F O<|qT [some 8,some 20] O W pl25<|A O<|Y 1 i O<|A O<|H<|o<|w (y yY O (R 1 O) O) (J O) ?_
        rw [zIv hs0 c1 ((colE_6 hi0 c2 c3 c4 c5 c6).trans (if_neg c7)) c7];rfl
       ·try simp only [I] at c7
        refine zM<|zK<|qZ 11 mixed (by kernel_rfl) O O<|M O O (zN O O)<|M O O (qL O zAj O)<|M O O (zF O one9 O qA O)<|M O O (zN O O)<|M O O (qM O ok52 (lin_Var _) ⟨G,O,T⟩)<|M O O (qM O ok54 (zBh (gQ (sbT outer ⟨0,[]⟩ inn.Body)) inn.Name (fL nm) (by omega) hvr (by omega) (sbT_rng outer ⟨0,[]⟩ hir)) ⟨G,O,G,O,G,O,T⟩)<|M O O (kI O O)<|M O O (wG O O O)<|M O O (wG O O O)<|M O O (yA O O)<|M O O (yA O O)<|kE<|H<|zK<|F O<|A O<|yM O<|H<|zD O (fun c8=>?_) (fun c8=>?_)
        ·try simp only [I] at c8
         refine F O<|qT [some 8,some 20] O W pl25<|A O<|Y 1 i O<|A O<|H<|o<|w (y yY O (R 1 O) O) (J O) ?_
         rw [zIv hs0 c1 ((colE_6 hi0 c2 c3 c4 c5 c6).trans (if_pos c7)) c8];rfl
        ·try simp only [I] at c8
         refine zM<|F O<|zP yY (R 2 O) O<|A O<|A O<|zG O zAc<|zJ one3 (R 0 O) O<|qO O zAc<|zJ one3 qA O<|zU O (zMw O O O)<|zG O zHg<|zJ one3 (R 0 O) O<|A O<|qT [none,none,none,none,none,some 4,none,none,none,none,none,none,none,none,none,none,some 2,some 4,some 13,none] O j pl46<|yV O D j ?_
         refine qI O ok57 (zFy n (fV n outer) [pV s outer nm] hn (by rw [colS_wt hi0];omega) (by omega)) ⟨G,O,VLe.of_eq (congrArg vIs (locT_w c1)),O,VLe.of_eq ((colS_x hi0 outer nm).symm),O,T⟩<|yJ O<|qU O<|Y 1 i O<|A O<|H<|o<|w (y yY O (R 1 O) O) (J O) ?_
         rw [colT_2 hs0 c1 ((colE_6 hi0 c2 c3 c4 c5 c6).trans ((if_pos c7).trans c8))];rfl
end Go.W
end
section
set_option maxRecDepth 10000
namespace Go.W
open Go Go.Eng Go.Proofs Go.L41 Go.Br
attribute [local irreducible] AWP RWP TD fH
/-! Redundant guards. -/
abbrev MM:=List (ByteArray×Int)
def mG (a b c:Int):Int×Bool:=if c=0 then (a,true) else if w64 (Int.tdiv (w64 (b*c)) c)=b then (w64 (a+w64 (b*c)),decide (w64 (a+w64 (b*c))<a)) else (0,false)
def nE (m:MM):List Mono->Int->Bool->Int×Bool
  |[],lo,ok=>(lo,ok)
  |x::r,lo,ok=>if x.By<0/\ok=true then nE m r (mG lo x.By (w64 ((lD m x.Name).getD 0-1))).1 (mG lo x.By (w64 ((lD m x.Name).getD 0-1))).2 else nE m r lo ok
def pA (m:MM) (o:Int) (a b:Ex):Bool:=
  if (((!decide (o=13)&& !decide (o=14))|| !decide (a.Op=2))|| !decide (b.Op=2))=true then false
  else if (dF a.Lin (-1)).2=0 then
    (if (jI b.Lin (dF a.Lin (-1)).1).2=0 then
      (nE m (jI b.Lin (dF a.Lin (-1)).1).1.L (jI b.Lin (dF a.Lin (-1)).1).1.K true).2&&(decide (1<=(nE m (jI b.Lin (dF a.Lin (-1)).1).1.L (jI b.Lin (dF a.Lin (-1)).1).1.K true).1)||(decide ((nE m (jI b.Lin (dF a.Lin (-1)).1).1.L (jI b.Lin (dF a.Lin (-1)).1).1.K true).1=0)&&decide (o=14)))
    else false)
  else false
mutual
def nX (m:MM):Ex->Bool
  |.mk o _ _ _ _ _ A=>if o=16 then (tX m A).getD 0 false&&(tX m A).getD 1 false else pA m o (A.getD 0 zEx) (A.getD 1 zEx)
def tX (m:MM):List Ex->List Bool
  |[]=>[]
  |a::r=>nX m a::tX m r
end
theorem redL_map (m:MM):∀l:List Ex,tX m l=l.map (nX m)
  |[]=>by rw [tX];rfl
  |a::r=>by rw [tX,redL_map m r];rfl
theorem zOa {m:MM} {e a b:Ex} (h:e.Op=16) (ha:e.Args[0]? =some a) (hb:e.Args[1]? =some b):nX m e=(nX m a&&nX m b):=by
  cases e
  simp only [Ex.Op,Ex.Args] at h ha hb
  rw [nX,if_pos h,redL_map]
  simp [List.getD_eq_getElem?_getD,ha,hb]
theorem zAx {m:MM} {e a b:Ex} (h:¬e.Op=16) (ha:e.Args.getD 0 zEx=a) (hb:e.Args.getD 1 zEx=b):nX m e=pA m e.Op a b:=by
  cases e
  simp only [Ex.Op,Ex.Args] at h ha hb⊢
  rw [nX,if_neg h,ha,hb]
theorem exG {l:List Ex} {k:Nat} {x:Ex} (h:k<l.length) (h0:l.getD k zEx=x):l[k]? =some x:=by
  rw [←h0,List.getD_eq_getElem?_getD,List.getElem?_eq_getElem h];rfl
theorem zVt {m:MM} {o:Int} {a b:Ex} (h:(((!decide (o=13)&& !decide (o=14))|| !decide (a.Op=2))|| !decide (b.Op=2))=true):pA m o a b=false:=if_pos h
theorem zVs {m:MM} {o:Int} {a b:Ex} {sc:Lf×Int} (h:(((!decide (o=13)&& !decide (o=14))|| !decide (a.Op=2))|| !decide (b.Op=2))=false) (hs:dF a.Lin (-1)=sc) (c:¬sc.2=0):pA m o a b=false:=by
  unfold pA;rw [if_neg (by rw [h];simp),hs,if_neg c]
theorem zVr {m:MM} {o:Int} {a b:Ex} {sc d:Lf×Int} (h:(((!decide (o=13)&& !decide (o=14))|| !decide (a.Op=2))|| !decide (b.Op=2))=false) (hs:dF a.Lin (-1)=sc) (c:sc.2=0) (hd:jI b.Lin sc.1=d) (c2:¬d.2=0):pA m o a b=false:=by
  unfold pA;rw [if_neg (by rw [h];simp),hs,if_pos c,hd,if_neg c2]
theorem zVq {m:MM} {o:Int} {a b:Ex} {sc d:Lf×Int} {lo:Int} {ok:Bool} (h:(((!decide (o=13)&& !decide (o=14))|| !decide (a.Op=2))|| !decide (b.Op=2))=false) (hs:dF a.Lin (-1)=sc) (c:sc.2=0) (hd:jI b.Lin sc.1=d) (c2:d.2=0) (hR:nE m d.1.L d.1.K true=(lo,ok)):pA m o a b=(ok&&(decide (1<=lo)||(decide (lo=0)&&decide (o=14)))):=by
  unfold pA;rw [if_neg (by rw [h];simp),hs,if_pos c,hd,if_pos c2,hR]
def arE (e:Ex):Bool:=(dG e).all fun x=> !(decide (x.Op=13)||decide (x.Op=14)||decide (x.Op=16))||decide (2<=x.Args.length)
theorem zQu {e:Ex} (h:arE e=true) (ho:e.Op=13∨e.Op=14∨e.Op=16):2<=e.Args.length:=by
  have h1:=List.all_eq_true.1 h e (by rw [wE];simp)
  simp only [Bool.or_eq_true,Bool.not_eq_true',Bool.or_eq_false_iff,decide_eq_false_iff_not,decide_eq_true_eq] at h1
  omega
theorem arE_arg {e a:Ex} (h:arE e=true) (ha:a∈e.Args):arE a=true:=
  List.all_eq_true.2 fun x hx=>List.all_eq_true.1 h x (by rw [wE];exact List.mem_cons_of_mem _ (zVb ha hx))
theorem lowF_next {m:MM} {R:Int×Bool} {l:List Mono} {k:Nat} {x:Mono} {lo:Int} {ok:Bool} (h:l[k]? =some x) (hp:R=nE m (l.drop k) lo ok) (c:x.By<0/\ok=true):R=nE m (l.drop (k+1)) (mG lo x.By (w64 ((lD m x.Name).getD 0-1))).1 (mG lo x.By (w64 ((lD m x.Name).getD 0-1))).2:=by
  rw [hp,qR h,nE,if_pos c]
theorem lowF_skip {m:MM} {R:Int×Bool} {l:List Mono} {k:Nat} {x:Mono} {lo:Int} {ok:Bool} (h:l[k]? =some x) (hp:R=nE m (l.drop k) lo ok) (c:¬(x.By<0/\ok=true)):R=nE m (l.drop (k+1)) lo ok:=by
  rw [hp,qR h,nE,if_neg c]
theorem lowF_end {m:MM} {R:Int×Bool} {l:List Mono} {k:Nat} {lo:Int} {ok:Bool} (hp:R=nE m (l.drop k) lo ok) (c:¬k<l.length):R=(lo,ok):=by
  rw [hp,yW c,nE]
mutual
def mC:MM->St->(List St×Nat)×MM
  |m,.mk o nm mn mk fo i e b=>
    if o=4/\nX (bX (if o=1 then lC m nm mn else m) b).2 e=true then (((bX (if o=1 then lC m nm mn else m) b).1.1,(bX (if o=1 then lC m nm mn else m) b).1.2+1),(bX (if o=1 then lC m nm mn else m) b).2)
    else (([.mk o nm mn mk fo i e (bX (if o=1 then lC m nm mn else m) b).1.1],(bX (if o=1 then lC m nm mn else m) b).1.2),(bX (if o=1 then lC m nm mn else m) b).2)
def bX:MM->List St->(List St×Nat)×MM
  |m,[]=>(([],0),m)
  |m,s::r=>(((mC m s).1.1++(bX (mC m s).2 r).1.1,(mC m s).1.2+(bX (mC m s).2 r).1.2),(bX (mC m s).2 r).2)
end
theorem con_pre {X:Cfg} {f:FuncId} {args:List V} {μ μ':List E} {Q:V->List E->Prop} (e:μ=μ') (h:Con X f args μ' Q):Con X f args μ Q:=by rw [e];exact h
def mIn (m:MM) (s:St):MM:=if s.Op=1 then lC m s.Name s.Many else m
theorem ungS_yes {m:MM} {s:St} (h:s.Op=4/\nX (bX (mIn m s) s.Body).2 s.E=true):mC m s=(((bX (mIn m s) s.Body).1.1,(bX (mIn m s) s.Body).1.2+1),(bX (mIn m s) s.Body).2):=by
  cases s;rw [mC];exact if_pos h
theorem ungS_no {m:MM} {s:St} (h:¬(s.Op=4/\nX (bX (mIn m s) s.Body).2 s.E=true)):mC m s=(([mN s (bX (mIn m s) s.Body).1.1],(bX (mIn m s) s.Body).1.2),(bX (mIn m s) s.Body).2):=by
  cases s;rw [mC];exact if_neg h
theorem ungL_app:∀(m:MM) (a b:List St),bX m (a++b)=(((bX m a).1.1++(bX (bX m a).2 b).1.1,(bX m a).1.2+(bX (bX m a).2 b).1.2),(bX (bX m a).2 b).2)
  |m,[],b=>by rw [List.nil_append,bX];simp
  |m,s::r,b=>by
    rw [List.cons_append,bX,ungL_app (mC m s).2 r b,bX]
    simp only [List.append_assoc,Nat.add_assoc]
theorem zEf {m:MM} {l:List St} {k:Nat} {s:St} (h:l[k]? =some s):bX m (l.take (k+1))=(((bX m (l.take k)).1.1++(mC (bX m (l.take k)).2 s).1.1,(bX m (l.take k)).1.2+(mC (bX m (l.take k)).2 s).1.2),(mC (bX m (l.take k)).2 s).2):=by
  rw [yL h,ungL_app,bX,bX];simp
mutual
theorem ungS_bd:∀(m:MM) (s:St),(mC m s).1.2<=stN s/\bC (mC m s).1.1<=s.wt
  |m,.mk o nm mn mk fo i e b=>by
    rw [mC,stN]
    obtain ⟨h1,h2⟩:=zTt (if o=1 then lC m nm mn else m) b
    generalize (if o=1 then lC m nm mn else m)=m1 at *
    split
    · exact ⟨by show _+1<=_;omega,by show bC (bX m1 b).1.1<=_;rw [St.wt];omega⟩
    · refine ⟨by show (bX m1 b).1.2<=_;omega,?_⟩
      show bC [St.mk o nm mn mk fo i e (bX m1 b).1.1]<=_
      simp only [bC,St.wt];omega
theorem zTt:∀(m:MM) (l:List St),(bX m l).1.2<=bN l/\bC (bX m l).1.1<=bC l
  |m,[]=>by rw [bX];simp [bN,bC]
  |m,s::r=>by
    rw [bX,bN,bC]
    obtain ⟨h1,h2⟩:=ungS_bd m s
    obtain ⟨h3,h4⟩:=zTt (mC m s).2 r
    exact ⟨by show (mC m s).1.2+(bX (mC m s).2 r).1.2<=_;omega,by show bC ((mC m s).1.1++(bX (mC m s).2 r).1.1)<=_;rw [zNa];omega⟩
end
mutual
def gdS:St->Bool
  |.mk o _ _ _ _ _ e b=>(!decide (o=4)||arE e)&&gdL b
def gdL:List St->Bool
  |[]=>true
  |s::r=>gdS s&&gdL r
end
theorem gdL_mem:∀{l:List St} {s:St},gdL l=true->s∈l->gdS s=true
  |x::r,s,h,hs=>by
    rw [gdL,Bool.and_eq_true] at h
    rcases List.mem_cons.1 hs with rfl|hs
    · exact h.1
    · exact gdL_mem h.2 hs
theorem gdS_body {s:St} (h:gdS s=true):gdL s.Body=true:=by cases s;rw [gdS,Bool.and_eq_true] at h;exact h.2
theorem gdS_if:∀{s:St},gdS s=true->s.Op=4->arE s.E=true
  |.mk o nm mn mk fo i e b,h,ho=>by
    rw [gdS,Bool.and_eq_true] at h
    have h1:=h.1
    rw [show o=4 from ho] at h1
    have h2:arE e=true:=by simpa using h1
    exact h2
theorem takeWt (l:List St) (k:Nat):bC (l.take k)<=bC l:=by
  have h:=zNa (l.take k) (l.drop k)
  rw [List.take_append_drop] at h;omega
def sW (n:Ns):Ns×Int:=if (dO n).2=0 then (⟨n.Bufs,(bX [] n.Body).1.1⟩,((bX [] n.Body).1.2:Nat)) else (zNs,0)
theorem remT_1 {n:Ns} (h:¬(dO n).2=0):sW n=(zNs,0):=by unfold sW;rw [if_neg h]
theorem remT_2 {n:Ns} (h:(dO n).2=0):sW n=((⟨n.Bufs,(bX [] n.Body).1.1⟩:Ns),(((bX [] n.Body).1.2:Nat):Int)):=by unfold sW;rw [if_pos h]
theorem ok67:bA Tryz.prog 67=true:=by kernel_rfl
theorem ok120:bA Tryz.prog 120=true:=by kernel_rfl
theorem ok157:bA Tryz.prog 157=true:=by kernel_rfl
theorem sm110:sC Tryz.prog 110=some (Value.int IntKind.i64 0):=by kernel_rfl
theorem split_plus (a b c:Int):
    Pur cfg 157 [vI a,vI b,vI c] (.tup [vI (mG a b c).1,vB (mG a b c).2]):=by
 refine zT Tryz.func157 O Tryz.ntmps157 Tryz.results157 O ?_
 intro z hz
 refine F O<|A O<|A O<|H<|zK<|F O<|A O<|yF O<|H<|zD O (fun c1=>?_) (fun c1=>?_)
 ·try simp only [I] at c1
  refine F O<|A O<|A O<|A O<|H<|o<|w (J O) (J O) ?_
  rw [show mG a b c=(a,true) from if_pos c1]
 ·try simp only [I] at c1
  refine zM<|F O<|A O<|A O<|zU O (zMw O O O)<|A O<|H<|zK<|F O<|A O<|A O<|zU O (zKr O O O c1)<|A O<|yM O<|H<|zD O (fun c2=>?_) (fun c2=>?_)
  ·try simp only [I] at c2
   refine F O<|A O<|A O<|H<|o<|w (J O) (J O) ?_
   rw [show mG a b c=(0,false) by unfold mG;rw [if_neg c1];exact if_neg c2]
  ·try simp only [I] at c2
   refine zM<|F O<|A O<|A O<|zU O (zIk O O O)<|A O<|A O<|zU O (zIk O O O)<|A O<|yD O<|A O<|A O<|H<|o<|w (J O) (J O) ?_
   rw [show mG a b c=(w64 (a+w64 (b*c)),decide (w64 (a+w64 (b*c))<a)) by unfold mG;rw [if_neg c1];exact if_pos c2];rfl
theorem redundant_step (mb:Nat) (m:MM) (e:Ex) (ih:∀a,a∈e.Args->arE a=true->a.allF Lf.rng->a.wt<=1000000000->Con cfg 120 [vE a,.c (.lit (.map (some mb)))] [E.blk mb (MapR vI (m))] fun r μ'=>r=vB (nX m a)/\μ'=[E.blk mb (MapR vI (m))]) (har:arE e=true) (hr:e.allF Lf.rng) (he:e.wt<=1000000000):
    Con cfg 120 [vE e,.c (.lit (.map (some mb)))] [E.blk mb (MapR vI (m))] fun r μ'=>r=vB (nX m e)/\μ'=[E.blk mb (MapR vI (m))]:=by
 refine Con.drop<|zT Tryz.func120 O Tryz.ntmps120 Tryz.results120 O ?_
 intro z hz
 have hew:=Ex.wt_eq e
 obtain ⟨a,ha0⟩:∃x,e.Args.getD 0 zEx=x:=⟨_,rfl⟩
 obtain ⟨b,hb0⟩:∃x,e.Args.getD 1 zEx=x:=⟨_,rfl⟩
 obtain ⟨sc,hs0⟩:∃x,dF a.Lin (-1)=x:=⟨_,rfl⟩
 obtain ⟨d,hd0⟩:∃x,jI b.Lin sc.1=x:=⟨_,rfl⟩
 obtain ⟨hsr,hsl⟩:=zNq a.Lin (-1)
 rw [hs0] at hsr hsl
 have hdl:=(add_rng b.Lin sc.1).2
 rw [hd0] at hdl
 refine F O<|zV O O (qN O O) ?_
 rintro _ _ ⟨b1,rfl,rfl⟩
 refine A O<|H<|zK<|F O<|zG O wF<|zJ one3 (R 0 O) O<|yF O<|H<|zD O (fun c1=>?_) (fun c1=>?_)
 ·try simp only [I] at c1
  have h2:=zQu har (.inr (.inr c1))
  have ha:=exG (k:=0) (by omega) ha0
  have hb:=exG (k:=1) (by omega) hb0
  have haw:=Ex.arg_wt (zZ ha)
  have hbw:=Ex.arg_wt (zZ hb)
  refine F O<|zG O wL<|zJ zBa (R 0 O) O<|qD O g (by omega) (zEn ha)<|zP kA qA O<|A O<|zU O (kH [1] O ok120 (ih a (zZ ha) (arE_arg har (zZ ha)) (Ex.allF_arg hr (zZ ha)) (by omega)) ⟨G,O,G,O,T⟩ O)<|A O<|rL0 O (fun g2_6=>zE O wL O) O<|B 22 O (fun g2_6=>zF O zBa O (R 0 O) O) O<|B 23 O (fun g2_6=>qF O g O O (by omega) (zEn hb)) O<|B 24 O (fun g2_6=>qB O kA O qA O) O<|rL0 O (fun g2_6=>zN O O) O<|rLz [(25,_),(26,_)] O gv1 ⟨O,O,O,O,T⟩ (fun g2_6=>kH [1] O ok120 (ih b (zZ hb) (arE_arg har (zZ hb)) (Ex.allF_arg hr (zZ hb)) (by omega)) ⟨G,O,G,O,T⟩ O) O<|yQ O (fun h=>h)<|A O<|H<|zY _ (Weak.mem [false,true] O)<|o<|X O ?_
  first|exact ⟨congrArg vB (zOa c1 ha hb).symm,[],rfl⟩|exact ⟨congrArg vB (zOa c1 ha hb).symm,[_],rfl⟩|exact ⟨congrArg vB (zOa c1 ha hb).symm,[_,_],rfl⟩|exact ⟨congrArg vB (zOa c1 ha hb).symm,[_,_,_],rfl⟩|exact ⟨congrArg vB (zOa c1 ha hb).symm,[_,_,_,_],rfl⟩
 ·try simp only [I] at c1
  refine zM<|zK<|F O<|zG O wF<|zJ one3 (R 0 O) O<|yM O<|A O<|rL0 O (fun g3_3=>zE O wF O) O<|B 33 O (fun g3_3=>zF O one3 O (R 0 O) O) O<|B 34 O (fun g3_3=>kN O O O) O<|yQ O (fun h=>h)<|A O<|rL0 O (fun g3_8=>zE O wL O) O<|B 38 O (fun g3_8=>zF O zBa O (R 0 O) O) O<|B 39 O (fun g3_8=>qF O g O O (by have hq:=zQu har (by simp only [Lz,cond_true,cond_false,Bool.and_eq_true,Bool.or_eq_true,Bool.not_eq_true',Bool.not_eq_false',Bool.or_eq_false_iff,Bool.and_eq_false_iff,decide_eq_true_eq,decide_eq_false_iff_not,Bool.not_eq_true,Bool.not_eq_false] at g3_8;omega);omega) (zEn (exG (by have hq:=zQu har (by simp only [Lz,cond_true,cond_false,Bool.and_eq_true,Bool.or_eq_true,Bool.not_eq_true',Bool.not_eq_false',Bool.or_eq_false_iff,Bool.and_eq_false_iff,decide_eq_true_eq,decide_eq_false_iff_not,Bool.not_eq_true,Bool.not_eq_false] at g3_8;omega);omega) ha0))) O<|B 40 O (fun g3_8=>qL O wF O) O<|B 41 O (fun g3_8=>zF O one3 O qA O) O<|B 42 O (fun g3_8=>kN O O O) O<|r_or O (fun h=>(lzf h))<|A O<|rL0 O (fun g3_16=>zE O wL O) O<|B 46 O (fun g3_16=>zF O zBa O (R 0 O) O) O<|B 47 O (fun g3_16=>qF O g O O (by have hq:=zQu har (by simp only [Lz,cond_true,cond_false,Bool.and_eq_true,Bool.or_eq_true,Bool.not_eq_true',Bool.not_eq_false',Bool.or_eq_false_iff,Bool.and_eq_false_iff,decide_eq_true_eq,decide_eq_false_iff_not,Bool.not_eq_true,Bool.not_eq_false] at g3_16;omega);omega) (zEn (exG (by have hq:=zQu har (by simp only [Lz,cond_true,cond_false,Bool.and_eq_true,Bool.or_eq_true,Bool.not_eq_true',Bool.not_eq_false',Bool.or_eq_false_iff,Bool.and_eq_false_iff,decide_eq_true_eq,decide_eq_false_iff_not,Bool.not_eq_true,Bool.not_eq_false] at g3_16;omega);omega) hb0))) O<|B 48 O (fun g3_16=>qL O wF O) O<|B 49 O (fun g3_16=>zF O one3 O qA O) O<|B 50 O (fun g3_16=>kN O O O) O<|r_or O (fun h=>(lzf h))<|H<|zD O (fun c2=>?_) (fun c2=>?_)
  ·refine F O<|A O<|H<|zY _ (Weak.mem [false,true] O)<|o<|X O ?_
   first|exact ⟨congrArg vB ((zAx c1 ha0 hb0).trans (zVt c2)).symm,[],rfl⟩|exact ⟨congrArg vB ((zAx c1 ha0 hb0).trans (zVt c2)).symm,[_],rfl⟩|exact ⟨congrArg vB ((zAx c1 ha0 hb0).trans (zVt c2)).symm,[_,_],rfl⟩|exact ⟨congrArg vB ((zAx c1 ha0 hb0).trans (zVt c2)).symm,[_,_,_],rfl⟩|exact ⟨congrArg vB ((zAx c1 ha0 hb0).trans (zVt c2)).symm,[_,_,_,_],rfl⟩
  ·have h2:=zQu har (by simp only [Lz,cond_true,cond_false,Bool.and_eq_true,Bool.or_eq_true,Bool.not_eq_true',Bool.not_eq_false',Bool.or_eq_false_iff,Bool.and_eq_false_iff,decide_eq_true_eq,decide_eq_false_iff_not,Bool.not_eq_true,Bool.not_eq_false] at c2;omega)
   have ha:=exG (k:=0) (by omega) ha0
   have hb:=exG (k:=1) (by omega) hb0
   have haw:=Ex.arg_wt (zZ ha)
   have hbw:=Ex.arg_wt (zZ hb)
   have hae:=Ex.wt_eq a
   have hbe:=Ex.wt_eq b
   refine zM<|F O<|zG O wL<|zJ zBa (R 0 O) O<|qD O g (by omega) (zEn ha)<|qO O zDe<|zP yX qA O<|qI O ok51 (show Pur cfg 51 [bZ a.Lin,vI (-1)] (.tup [bZ sc.1,vI sc.2]) by rw [←hs0];exact zVn a.Lin (-1) (by omega) (Ex.allF_lin (Ex.allF_arg hr (zZ ha))) (by unfold r64;omega)) ⟨G,O,G,O,T⟩<|qP O<|yJ O<|qU O<|zV O O (qE [none,some 2] O v O) ?_
   rintro _ _ ⟨b2,rfl,rfl⟩
   refine Y 0 sz41 O<|A O<|H<|zK<|F O<|A O<|yM O<|H<|zD O (fun c3=>?_) (fun c3=>?_)
   ·try simp only [I] at c3
    refine F O<|A O<|H<|zY _ (Weak.mem [false,false,true] O)<|o<|X O ?_
    first|exact ⟨congrArg vB ((zAx c1 ha0 hb0).trans (zVs c2 hs0 c3)).symm,[],rfl⟩|exact ⟨congrArg vB ((zAx c1 ha0 hb0).trans (zVs c2 hs0 c3)).symm,[_],rfl⟩|exact ⟨congrArg vB ((zAx c1 ha0 hb0).trans (zVs c2 hs0 c3)).symm,[_,_],rfl⟩|exact ⟨congrArg vB ((zAx c1 ha0 hb0).trans (zVs c2 hs0 c3)).symm,[_,_,_],rfl⟩|exact ⟨congrArg vB ((zAx c1 ha0 hb0).trans (zVs c2 hs0 c3)).symm,[_,_,_,_],rfl⟩
   ·try simp only [I] at c3
    refine zM<|zK<|kL 12 1 [⟨0,.q []⟩,⟨1,.q [2]⟩,⟨2,.q []⟩,⟨3,.q []⟩,⟨4,.q []⟩,⟨5,.q [1]⟩,⟨6,.q []⟩,⟨7,.q []⟩,⟨8,.q []⟩,⟨9,.q []⟩,⟨10,.e 0 []⟩,⟨11,.e 0 []⟩] mixed (by kernel_rfl) (by kernel_rfl) O O O<|p O<|p O<|p O<|p O<|p O<|p O<|p O<|p O<|p O<|p O<|p O<|p O<|zBo<|t O (by decide) O O (zE O wL O)<|t O (by decide) O O (zF O zBa O (R 0 O) O)<|t O (by decide) O O (qF O g O O (by omega) (zEn hb))<|t O (by decide) O O (qL O zDe O)<|t O (by decide) O O (qB O yX O qA O)<|t O (by decide) O O (qB O yX O (R 0 O) O)<|t O (by decide) O O (qM O ok53 (show Pur cfg 53 [bZ b.Lin,bZ sc.1] (.tup [bZ d.1,vI d.2]) by rw [←hd0];exact lin_Add b.Lin sc.1 (by omega) (by omega) (Ex.allF_lin (Ex.allF_arg hr (zZ hb))) hsr) ⟨G,O,G,O,T⟩)<|t O (by decide) O O (kI O O)<|t O (by decide) O O (wH O O O)<|t O (by decide) O O (wG O O O)<|zHr O O (by decide) O O (qE [none,some 2] O v O) ?_
    rintro _ _ ⟨b3,rfl,rfl⟩
    refine ⟨_,O,?_⟩
    refine zFm O O (by decide) O O (kB O sz41 O O O (zFl 0 O O)) ?_
    rintro _ _ ⟨rfl,rfl⟩
    refine ⟨_,O,?_⟩
    refine zBl O<|A O<|H<|zK<|F O<|A O<|yM O<|H<|zD O (fun c4=>?_) (fun c4=>?_)
    ·try simp only [I] at c4
     refine F O<|A O<|H<|zY _ (Weak.mem [false,false,false,true] O)<|o<|X O ?_
     first|exact ⟨congrArg vB ((zAx c1 ha0 hb0).trans (zVr c2 hs0 c3 hd0 c4)).symm,[],rfl⟩|exact ⟨congrArg vB ((zAx c1 ha0 hb0).trans (zVr c2 hs0 c3 hd0 c4)).symm,[_],rfl⟩|exact ⟨congrArg vB ((zAx c1 ha0 hb0).trans (zVr c2 hs0 c3 hd0 c4)).symm,[_,_],rfl⟩|exact ⟨congrArg vB ((zAx c1 ha0 hb0).trans (zVr c2 hs0 c3 hd0 c4)).symm,[_,_,_],rfl⟩|exact ⟨congrArg vB ((zAx c1 ha0 hb0).trans (zVr c2 hs0 c3 hd0 c4)).symm,[_,_,_,_],rfl⟩
    ·try simp only [I] at c4
     refine zM<|F O<|zG O zDt<|zJ U (R 0 O) O<|A O<|A O<|H<|zK<|F O<|zG O kC<|zJ wN (R 0 O) O<|qC O P<|A O<|H<|zR<|zY ⟨[(81,.c _),(8,.c _),(9,.c _),(1,.c _),(2,.c _),(79,.c _),(80,.c _)],[_,_]⟩ (Weak.mk [false,false,true,true] ⟨G,G,G,G,G,G,G,T⟩ O)<|qK 3 0 O O (Nat×Int×Bool) (fun ⟨k,lo,ok⟩=>[(81,vI k),(8,vI lo),(9,vB ok)]) (fun ⟨k,lo,ok⟩=>[]) (fun ⟨k,lo,ok⟩=>k<=d.1.L.length/\(nE m d.1.L d.1.K true=nE m (d.1.L.drop k) lo ok)) (fun ⟨k,lo,ok⟩=>d.1.L.length-k) ⟨⟨0,d.1.K,true⟩,⟨by omega,O⟩,Weak.mk [true,true] ⟨G,G,G,G,G,G,G,T⟩ O⟩ ?_
     rintro ⟨k,lo,ok⟩ ⟨hk,hp⟩
     show AWP _ _ _ _ _ ⟨[(81,vI k),(8,vI lo),(9,vB ok)]++_,[]++_⟩
     refine F O<|yD O<|H<|zK<|zD O (fun c5=>?_) (fun c5=>?_)
     ·try simp only [I] at c5
      obtain ⟨x,hx⟩:=qY d.1.L k (by omega)
      refine zM<|zK<|zR<|F O<|qD O P (by omega) (Q (by assumption))<|zP zPk qA O<|zV O O (yT O zr69) ?_
      rintro _ _ ⟨b4,rfl,rfl⟩
      refine Y 0 sz69 O<|H<|F O<|zG O zDn<|zJ U (R 0 O) O<|yD O<|A O<|rL0 O (fun g15_3=>zN O O) O<|yQ O (fun h=>h)<|H<|zD O (fun c6=>?_) (fun c6=>?_)
      ·have c6:x.By<0/\ok=true:=by simpa using c6
       refine zQ O<|A O<|zG O zDn<|zJ U (R 0 O) O<|A O<|zG O zAn<|zJ one9 (R 0 O) O<|zU O (det_lookup 2 (0:Int) O sm110 O O O (fun _ _=>CRep.lit _ O))<|zU O (zQo O O O)<|qI O ok157 (split_plus _ _ _) ⟨G,O,G,O,G,O,T⟩<|qP O<|qU O<|qU O<|A O<|A O<|H<|zQ O<|qJ O ⟨by omega,by omega⟩<|A O<|H ?_
       refine ⟨⟨k+1,(mG lo x.By (w64 ((lD m x.Name).getD 0-1))).1,(mG lo x.By (w64 ((lD m x.Name).getD 0-1))).2⟩,⟨by omega,(by first|exact lowF_next hx hp c6|exact lowF_skip hx hp c6)⟩,(by show d.1.L.length-(k+1)<d.1.L.length-k;omega),Weak.mk [false,true,true] ⟨G,G,G,G,G,G,G,T⟩ O⟩
      ·have c6:¬(x.By<0/\ok=true):=by simpa using c6
       refine zM<|zQ O<|qJ O ⟨by omega,by omega⟩<|A O<|H ?_
       refine ⟨⟨k+1,lo,ok⟩,⟨by omega,(by first|exact lowF_next hx hp c6|exact lowF_skip hx hp c6)⟩,(by show d.1.L.length-(k+1)<d.1.L.length-k;omega),Weak.mk [false,true,true] ⟨G,G,G,G,G,G,G,T⟩ O⟩
     ·try simp only [I] at c5
      have hR:=lowF_end hp (by omega)
      refine qQ<|F O<|A O<|A O<|rL0 O (fun g18_1=>zN O O) O<|B 106 O (fun g18_1=>wI O O O) O<|B 107 O (fun g18_1=>zN O O) O<|rLz [] O N T (fun g18_4=>zN O O) O<|rLz [(109,_)] O N ⟨O,O,T⟩ (fun g18_4=>yH O O O) O<|rLz [(110,_)] O N ⟨O,O,T⟩ (fun g18_4=>zN O O) O<|rLz [] O N T (fun g18_7=>zE O wF O) O<|rLz [(112,_)] O N ⟨O,O,T⟩ (fun g18_7=>zF O one3 O (R 0 O) O) O<|rLz [(113,_)] O N ⟨O,O,T⟩ (fun g18_7=>yH O O O) O<|rLz [(111,_)] O N ⟨O,O,T⟩ (fun g18_4=>kZ O O O (fun h=>kD (by assumption) h) O) O<|B 108 O (fun g18_1=>zAu O O O O (fun h=>kD (by assumption) (lzf h))) O<|yQ O (fun h=>h)<|A O<|H<|zY _ (Weak.mem [false,true] O)<|o<|X O ?_
      first|exact ⟨congrArg vB ((zAx c1 ha0 hb0).trans (zVq c2 hs0 c3 hd0 c4 hR)).symm,[],rfl⟩|exact ⟨congrArg vB ((zAx c1 ha0 hb0).trans (zVq c2 hs0 c3 hd0 c4 hR)).symm,[_],rfl⟩|exact ⟨congrArg vB ((zAx c1 ha0 hb0).trans (zVq c2 hs0 c3 hd0 c4 hR)).symm,[_,_],rfl⟩|exact ⟨congrArg vB ((zAx c1 ha0 hb0).trans (zVq c2 hs0 c3 hd0 c4 hR)).symm,[_,_,_],rfl⟩|exact ⟨congrArg vB ((zAx c1 ha0 hb0).trans (zVq c2 hs0 c3 hd0 c4 hR)).symm,[_,_,_,_],rfl⟩
theorem zJl (mb:Nat) (m:MM) (e:Ex) (har:arE e=true) (hr:e.allF Lf.rng) (he:e.wt<=1000000000):Con cfg 120 [vE e,.c (.lit (.map (some mb)))] [E.blk mb (MapR vI (m))] fun r μ'=>r=vB (nX m e)/\μ'=[E.blk mb (MapR vI (m))]:=by
  induction e using Ex.ind with
  |_ e ih=>exact redundant_step mb m e ih har hr he
theorem zQw (mb:Nat) (l:List St) (ih:∀s,s∈l->∀m:MM,Con cfg 67 [bM s.Body,.c (.lit (.map (some mb)))] [E.blk mb (MapR vI (m))] fun r μ'=>r=.tup [bM (bX m s.Body).1.1,vI ((bX m s.Body).1.2:Nat)]/\μ'=[E.blk mb (MapR vI ((bX m s.Body).2))]) (hg:gdL l=true) (hr:bH Lf.rng l) (hl:bC l<=1000000) (m:MM):
    Con cfg 67 [bM l,.c (.lit (.map (some mb)))] [E.blk mb (MapR vI (m))] fun r μ'=>r=.tup [bM (bX m l).1.1,vI ((bX m l).1.2:Nat)]/\μ'=[E.blk mb (MapR vI ((bX m l).2))]:=by
 refine Con.drop<|zT Tryz.func67 O Tryz.ntmps67 Tryz.results67 O ?_
 intro z hz
 have hll:=kO l
 have hN:=zCr l
 refine F O<|qX 20 O<|A O<|H<|F O<|A O<|yI _ (kR 46 20)<|H<|F O<|A O<|H<|zK<|F O<|A O<|zU O (det_len_sl O D O)<|A O<|H<|zR<|zY ⟨[(14,.c _),(6,.c _),(7,.c _),(1,.c _),(12,.c _),(13,.c _)],[_,_]⟩ (Weak.mk [true,true] ⟨G,G,G,G,G,G,T⟩ O)<|qK 3 2 O O (Nat×Value) (fun ⟨k,sv⟩=>[(14,vI k),(6,.c (.lit sv)),(7,vI ((bX m (l.take k)).1.2:Nat))]) (fun ⟨k,sv⟩=>[E.vec sv 46 20 ((bX m (l.take k)).1.1.map St.cells),E.blk mb (MapR vI ((bX m (l.take k)).2))]) (fun ⟨k,sv⟩=>k<=l.length) (fun ⟨k,sv⟩=>l.length-k) ⟨⟨0,(.slice none 0 0)⟩,(by omega),Weak.mk [true,true] ⟨G,G,VLe.of_eq (by rw [List.take_zero,bX];rfl),G,G,G,T⟩ (by show [E.vec (.slice none 0 0) _ _ [],E.blk mb (MapR vI m)]=[E.vec _ _ _ ((bX m (l.take 0)).1.1.map St.cells),E.blk mb (MapR vI (bX m (l.take 0)).2)];rw [List.take_zero,bX];rfl)⟩ ?_
 rintro ⟨k,sv⟩ hk
 show AWP _ _ _ _ _ ⟨[(14,vI k),(6,.c (.lit sv)),(7,vI ((bX m (l.take k)).1.2:Nat))]++_,[E.vec sv 46 20 ((bX m (l.take k)).1.1.map St.cells),E.blk mb (MapR vI ((bX m (l.take k)).2))]++_⟩
 refine F O<|yD O<|H<|zK<|zD O (fun c1=>?_) (fun c1=>?_)
 ·try simp only [I] at c1
  obtain ⟨s,hs⟩:=qY l k (by omega)
  have hsw:=yC (zZ hs)
  have hse:=St.wt_eq s
  have hPs:=St.allF_eq (kY hr s (zZ hs))
  have hgs:=gdL_mem hg (zZ hs)
  obtain ⟨hb1,hb2⟩:=zTt m (l.take k)
  obtain ⟨hb3,hb4⟩:=zTt (mIn (bX m (l.take k)).2 s) s.Body
  have hst:=zTu hs
  have hsN:=zDi s
  have hlx:=kO (bX m (l.take k)).1.1
  have hly:=kO (bX (mIn (bX m (l.take k)).2 s) s.Body).1.1
  have htk:=takeWt l k
  refine zM<|zK<|zR<|F O<|qD O D (by omega) (wD hs)<|zP zAv qA O<|zV O O (qE [none,none,none,none,none,some 4,none,none,none,none,none,none,none,none,none,none,some 2,some 4,some 13,some 20] O j O) ?_
  rintro _ _ ⟨b2,rfl,rfl⟩
  refine Y 0 sz46 O<|H<|zK<|F O<|zG O zAp<|zJ one3 (R 0 O) O<|yF O<|H<|zD O (fun c2=>?_) (fun c2=>?_)
  ·try simp only [I] at c2
   have hmi:mIn (bX m (l.take k)).2 s=lC (bX m (l.take k)).2 s.Name s.Many:=if_pos c2
   refine zQ O<|A O<|zG O zAj<|zJ one9 (R 0 O) O<|zG O zAc<|zJ one3 (R 0 O) O<|zAe O O (det_mapput 2 s.Many O sm110 O O O (G) O)<|H<|F O<|zG O kK<|zJ kP (R 0 O) O<|A O<|zU O (zKt [2] O ok67 (con_pre (congrArg (fun q=>[E.blk mb (MapR vI q)]) hmi.symm) (ih s (zZ hs) (mIn (bX m (l.take k)).2 s))) ⟨G,O,G,O,T⟩ O)<|qP O<|qU O<|qU O<|A O<|A O<|H<|F O<|A O<|A O<|qJ O ⟨by omega,by omega⟩<|A O<|H<|zK<|F O<|zG O zAp<|zJ one3 (R 0 O) O<|yF O<|A O<|rL0 O (fun g10_3=>zE O zAz O) O<|B 40 O (fun g10_3=>qB O kA O (R 0 O) O) O<|rL0 O (fun g10_3=>zN O O) O<|rLz [(41,_),(42,_)] O gv1 ⟨O,O,O,O,T⟩ (fun g10_3=>kH [2] O ok120 (zJl mb (bX (mIn (bX m (l.take k)).2 s) s.Body).2 s.E (gdS_if hgs (by simp only [Lz,cond_true,cond_false,Bool.and_eq_true,Bool.or_eq_true,Bool.not_eq_true',Bool.not_eq_false',Bool.or_eq_false_iff,Bool.and_eq_false_iff,decide_eq_true_eq,decide_eq_false_iff_not,Bool.not_eq_true,Bool.not_eq_false] at g10_3;omega)) hPs.2.1 (by omega)) ⟨G,O,G,O,T⟩ O) O<|yQ O (fun h=>h)<|H<|zD O (fun c3=>?_) (fun c3=>?_)
   ·have hug:=ungS_yes (m:=(bX m (l.take k)).2) (s:=s) (by simpa using c3)
    refine F O<|A O<|A O<|zV O O (qV 1 O D O O O (by simp only [List.length_map,List.length_append,List.length_cons,List.length_nil,List.length_take,List.length_drop];omega) (by simp only [List.length_map,List.length_append,List.length_cons,List.length_nil,List.length_take,List.length_drop];omega)) ?_
    rintro _ _ ⟨sv3,rfl,rfl⟩
    refine A O<|H<|F O<|A O<|qJ O ⟨by omega,by omega⟩<|A O<|H<|qQ<|zQ O<|qJ O ⟨by omega,by omega⟩<|A O<|H ?_
    refine ⟨⟨k+1,sv3⟩,(by omega),(by show l.length-(k+1)<l.length-k;omega),Weak.mk [false,true,true] ⟨G,G,VLe.of_eq (by rw [zEf hs,hug];exact congrArg (fun n=>V.c (C.lit (.int .i64 n))) (by dsimp only;omega)),G,G,G,T⟩ (by have e:=zEf (m:=m) hs;rw [hug] at e;show _=[E.vec sv3 _ 20 ((bX m (l.take (k+1))).1.1.map St.cells),E.blk mb (MapR vI (bX m (l.take (k+1))).2)]++_;rw [e];simp only [List.map_append,List.map_cons,List.map_nil,St.cells_eq (mN _ _)];rfl)⟩
   ·have hug:=ungS_no (m:=(bX m (l.take k)).2) (s:=s) (by simpa using c3)
    refine zM<|F O<|A O<|zG O kK<|Y 0 sz23 O<|H<|zQ O<|A O<|zP zAv (R 0 O) O<|yV O D j<|zV O O (qV 1 O D O O O (by simp only [List.length_map,List.length_append,List.length_cons,List.length_nil,List.length_take,List.length_drop];omega) (by simp only [List.length_map,List.length_append,List.length_cons,List.length_nil,List.length_take,List.length_drop];omega)) ?_
    rintro _ _ ⟨sv4,rfl,rfl⟩
    refine A O<|H<|zQ O<|qJ O ⟨by omega,by omega⟩<|A O<|H ?_
    refine ⟨⟨k+1,sv4⟩,(by omega),(by show l.length-(k+1)<l.length-k;omega),Weak.mk [false,true,true] ⟨G,G,VLe.of_eq (by rw [zEf hs,hug];exact congrArg (fun n=>V.c (C.lit (.int .i64 n))) (by dsimp only;omega)),G,G,G,T⟩ (by have e:=zEf (m:=m) hs;rw [hug] at e;show _=[E.vec sv4 _ 20 ((bX m (l.take (k+1))).1.1.map St.cells),E.blk mb (MapR vI (bX m (l.take (k+1))).2)]++_;rw [e];simp only [List.map_append,List.map_cons,List.map_nil,St.cells_eq (mN _ _)];rfl)⟩
  ·try simp only [I] at c2
   have hmi:mIn (bX m (l.take k)).2 s=(bX m (l.take k)).2:=if_neg c2
   refine zM<|F O<|zG O kK<|zJ kP (R 0 O) O<|A O<|zU O (zKt [2] O ok67 (con_pre (congrArg (fun q=>[E.blk mb (MapR vI q)]) hmi.symm) (ih s (zZ hs) (mIn (bX m (l.take k)).2 s))) ⟨G,O,G,O,T⟩ O)<|qP O<|qU O<|qU O<|A O<|A O<|H<|F O<|A O<|A O<|qJ O ⟨by omega,by omega⟩<|A O<|H<|zK<|F O<|zG O zAp<|zJ one3 (R 0 O) O<|yF O<|A O<|rL0 O (fun g10_3=>zE O zAz O) O<|B 40 O (fun g10_3=>qB O kA O (R 0 O) O) O<|rL0 O (fun g10_3=>zN O O) O<|rLz [(41,_),(42,_)] O gv1 ⟨O,O,O,O,T⟩ (fun g10_3=>kH [2] O ok120 (zJl mb (bX (mIn (bX m (l.take k)).2 s) s.Body).2 s.E (gdS_if hgs (by simp only [Lz,cond_true,cond_false,Bool.and_eq_true,Bool.or_eq_true,Bool.not_eq_true',Bool.not_eq_false',Bool.or_eq_false_iff,Bool.and_eq_false_iff,decide_eq_true_eq,decide_eq_false_iff_not,Bool.not_eq_true,Bool.not_eq_false] at g10_3;omega)) hPs.2.1 (by omega)) ⟨G,O,G,O,T⟩ O) O<|yQ O (fun h=>h)<|H<|zD O (fun c3=>?_) (fun c3=>?_)
   ·have hug:=ungS_yes (m:=(bX m (l.take k)).2) (s:=s) (by simpa using c3)
    refine F O<|A O<|A O<|zV O O (qV 1 O D O O O (by simp only [List.length_map,List.length_append,List.length_cons,List.length_nil,List.length_take,List.length_drop];omega) (by simp only [List.length_map,List.length_append,List.length_cons,List.length_nil,List.length_take,List.length_drop];omega)) ?_
    rintro _ _ ⟨sv5,rfl,rfl⟩
    refine A O<|H<|F O<|A O<|qJ O ⟨by omega,by omega⟩<|A O<|H<|qQ<|zQ O<|qJ O ⟨by omega,by omega⟩<|A O<|H ?_
    refine ⟨⟨k+1,sv5⟩,(by omega),(by show l.length-(k+1)<l.length-k;omega),Weak.mk [false,true,true] ⟨G,G,VLe.of_eq (by rw [zEf hs,hug];exact congrArg (fun n=>V.c (C.lit (.int .i64 n))) (by dsimp only;omega)),G,G,G,T⟩ (by have e:=zEf (m:=m) hs;rw [hug] at e;show _=[E.vec sv5 _ 20 ((bX m (l.take (k+1))).1.1.map St.cells),E.blk mb (MapR vI (bX m (l.take (k+1))).2)]++_;rw [e];simp only [List.map_append,List.map_cons,List.map_nil,St.cells_eq (mN _ _)];rfl)⟩
   ·have hug:=ungS_no (m:=(bX m (l.take k)).2) (s:=s) (by simpa using c3)
    refine zM<|F O<|A O<|zG O kK<|Y 0 sz23 O<|H<|zQ O<|A O<|zP zAv (R 0 O) O<|yV O D j<|zV O O (qV 1 O D O O O (by simp only [List.length_map,List.length_append,List.length_cons,List.length_nil,List.length_take,List.length_drop];omega) (by simp only [List.length_map,List.length_append,List.length_cons,List.length_nil,List.length_take,List.length_drop];omega)) ?_
    rintro _ _ ⟨sv6,rfl,rfl⟩
    refine A O<|H<|zQ O<|qJ O ⟨by omega,by omega⟩<|A O<|H ?_
    refine ⟨⟨k+1,sv6⟩,(by omega),(by show l.length-(k+1)<l.length-k;omega),Weak.mk [false,true,true] ⟨G,G,VLe.of_eq (by rw [zEf hs,hug];exact congrArg (fun n=>V.c (C.lit (.int .i64 n))) (by dsimp only;omega)),G,G,G,T⟩ (by have e:=zEf (m:=m) hs;rw [hug] at e;show _=[E.vec sv6 _ 20 ((bX m (l.take (k+1))).1.1.map St.cells),E.blk mb (MapR vI (bX m (l.take (k+1))).2)]++_;rw [e];simp only [List.map_append,List.map_cons,List.map_nil,St.cells_eq (mN _ _)];rfl)⟩
 ·try simp only [I] at c1
  refine qQ<|F O<|A O<|A O<|A O<|A O<|H<|zY _ (yK 0 O (regs':=[(6,_),(57,_),(4,_)]) (μ':=[_]) ⟨FLe.sl,FLe.sl,FLe.sl,T⟩ ⟨EFle.refl _,T⟩)<|o<|w (J O) (J O) ?_
  rw [yU (l:=l) (k:=k) (by omega)]
  first|exact ⟨rfl,[],rfl⟩|exact ⟨rfl,[_],rfl⟩|exact ⟨rfl,[_,_],rfl⟩|exact ⟨rfl,[_,_,_],rfl⟩|exact ⟨rfl,[_,_,_,_],rfl⟩
theorem unguard_body (mb:Nat) (s:St) (hg:gdL s.Body=true) (hr:bH Lf.rng s.Body) (hl:bC s.Body<=1000000):∀m:MM,Con cfg 67 [bM s.Body,.c (.lit (.map (some mb)))] [E.blk mb (MapR vI (m))] fun r μ'=>r=.tup [bM (bX m s.Body).1.1,vI ((bX m s.Body).1.2:Nat)]/\μ'=[E.blk mb (MapR vI ((bX m s.Body).2))]:=by
  induction s using St.ind with
  |_ s ih=>exact zQw mb s.Body (fun a ha=>ih a ha (gdS_body (gdL_mem hg ha)) (St.allF_eq (kY hr a ha)).2.2 (by have:=yC ha;have:=St.body_wt a;omega)) hg hr hl
theorem split_unguard (mb:Nat) (l:List St) (hg:gdL l=true) (hr:bH Lf.rng l) (hl:bC l<=1000000) (m:MM):Con cfg 67 [bM l,.c (.lit (.map (some mb)))] [E.blk mb (MapR vI (m))] fun r μ'=>r=.tup [bM (bX m l).1.1,vI ((bX m l).1.2:Nat)]/\μ'=[E.blk mb (MapR vI ((bX m l).2))]:=
  zQw mb l (fun s hs=>unguard_body mb s (gdS_body (gdL_mem hg hs)) (St.allF_eq (kY hr s hs)).2.2 (by have:=yC hs;have:=St.body_wt s;omega)) hg hr hl m
theorem zFz (n:Ns) (hn:n.Ok) (hl:bC n.Body<=1000) (hr:bH Lf.rng n.Body) (hg:(dO n).2=0->gdL n.Body=true):
    Pur cfg 24 [vNs n] (.tup [vNs (sW n).1,vI (sW n).2]):=by
 refine zT Tryz.func24 O Tryz.ntmps24 Tryz.results24 O ?_
 intro z hz
 obtain ⟨hu1,hu2⟩:=zTt [] n.Body
 have hok2:Ns.Ok ⟨n.Bufs,(bX [] n.Body).1.1⟩:=⟨hn.bufs,hn.dims,by show bC (bX [] n.Body).1.1<=_;omega⟩
 refine F O<|zV O O (qN O O) ?_
 rintro _ _ ⟨b1,rfl,rfl⟩
 refine zV O O (qE [some 8,some 20] O W O) ?_
 rintro _ _ ⟨b2,rfl,rfl⟩
 refine A O<|H<|zK<|F O<|zP yY (R 1 O) O<|qI O ok34 (zDy n hn) ⟨G,O,T⟩<|qP O<|qU O<|qU O<|A O<|A O<|H<|F O<|A O<|yM O<|H<|zD O (fun c1=>?_) (fun c1=>?_)
 ·try simp only [I] at c1
  refine F O<|qT [some 8,some 20] O W pl25<|Y 0 i O<|A O<|H<|o<|w (y yY O (R 0 O) O) (J O) ?_
  rw [remT_1 c1];rfl
 ·try simp only [I] at c1
  refine zM<|F O<|zG O zAd<|zJ kP (R 1 O) O<|zV O O (ope_mkmap vI O O) ?_
  rintro _ _ ⟨b3,rfl,rfl⟩
  refine zV O O (zEj [0] O ok67 (split_unguard _ n.Body (hg c1) hr (by omega) []) ⟨G,O,G,O,T⟩ O) ?_
  rintro _ _ ⟨_,⟨rfl,rfl⟩,rfl⟩
  refine qP O<|qU O<|qU O<|A O<|A O<|H<|F O<|zG O zAt<|zJ zEk (R 2 O) O<|A O<|yP O W pl25<|qI O ok39 (zOj ⟨n.Bufs,(bX [] n.Body).1.1⟩ hok2) ⟨G,O,T⟩<|A O<|Y 1 i O<|A O<|H<|o<|w (y yY O (R 1 O) O) (J O) ?_
  rw [remT_2 c1];rfl
end Go.W
end
section
set_option maxRecDepth 10000
namespace Go.W
open Go Go.Eng Go.Proofs Go.L41 Go.Br
attribute [local irreducible] AWP RWP TD fH
/-! The examples. -/
def nmI:ByteArray:=bs [105]
def nmO:ByteArray:=bs [111]
def nmK:ByteArray:=bs [107]
def nmP:ByteArray:=bs [112]
def exAf:Lf:=⟨0,[⟨bs [107],1⟩,⟨bs [111],2⟩]⟩
def xQ:Lf:=⟨0,[⟨bs [107],1⟩,⟨bs [111],4⟩]⟩
def exCf:Lf:=⟨2,[⟨bs [112],1⟩]⟩
def sA1:St:=gU nmK 2 0 [cpB exAf]
def sA:St:=gU nmO 3 0 [sA1]
def sB2:St:=sIf (ltE xQ 6) [cpB xQ]
def sB1:St:=gU nmK 4 0 [sB2]
def sB:St:=gU nmO 2 0 [sB1]
def sC1:St:=gU nmI 2 0 [cpB vI1]
def sC2:St:=gU nmP 4 0 [cpB exCf]
def sG:St:=gU nmI 6 0 [sIf (ltE vI1 5) [cpB vI1]]
theorem exA_eq:mM (cpy 6 0) nmI 2 nmO nmK=(cpN [sA],0):=by kernel_rfl
theorem exB_eq:mM (cpy 6 0) nmI 4 nmO nmK=(cpN [sB],0):=by kernel_rfl
theorem exC_eq:pO (cpy 6 0) nmI 2 nmP=(cpN [sC1,sC2],0):=by kernel_rfl
theorem exD_eq:nR (cpN [sA]) nmO nmI=(cpy 6 0,0):=by kernel_rfl
theorem exE_eq:sW (cpy 6 6)=(cpy 6 0,1):=by kernel_rfl
theorem exF_eq:sW (cpy 6 5)=(cpN [sG],0):=by kernel_rfl
theorem zWn {b:List St} (h:bC b<=1000):(cpN b).Ok:=by
  refine ⟨by show (2:Nat)<=4294967296;omega,fun x hx=>?_,by show bC b<=_;omega⟩
  simp only [cpN,List.mem_cons,List.not_mem_nil,or_false] at hx
  rcases hx with rfl|rfl<;>decide
theorem zQn:bC (cpy 6 0).Body<=1000/\bC (cpy 6 6).Body<=1000/\bC (cpy 6 5).Body<=1000/\bC [sA]<=1000:=by decide+kernel
def vJ (l:Lf):Bool:=decide (-9223372036854775808<=l.K)&&decide (l.K<=9223372036854775807)&&l.L.all fun m=>decide (-9223372036854775808<=m.By)&&decide (m.By<=9223372036854775807)
theorem rngB_ok {l:Lf} (h:vJ l=true):l.rng:=by
  simp only [vJ,Bool.and_eq_true,decide_eq_true_eq,List.all_eq_true] at h
  exact ⟨h.1,fun m hm=>h.2 m hm⟩
def ixB (x:Ix):Bool:=vJ x.Lin&&x.At.all vJ
def exRB (e:Ex):Bool:=(dG e).all fun x=>(bQ x).all vJ
mutual
def xG:St->Bool
  |.mk _ _ _ _ _ i e b=>i.all ixB&&exRB e&&tN b
def tN:List St->Bool
  |[]=>true
  |s::r=>xG s&&tN r
end
mutual
theorem stRB_ok:∀s:St,xG s=true->s.allF Lf.rng
  |.mk o nm mn mk fo i e b,h=>by
    rw [xG,Bool.and_eq_true,Bool.and_eq_true] at h
    rw [St.allF]
    refine ⟨fun x hx=>?_,fun x hx l hl=>?_,zLg b h.2⟩
    · have h1:=List.all_eq_true.1 h.1.1 x hx
      rw [ixB,Bool.and_eq_true] at h1
      exact ⟨rngB_ok h1.1,fun l hl=>rngB_ok (List.all_eq_true.1 h1.2 l hl)⟩
    · exact rngB_ok (List.all_eq_true.1 (List.all_eq_true.1 h.1.2 x hx) l hl)
theorem zLg:∀l:List St,tN l=true->bH Lf.rng l
  |[],_=>by rw [bH];trivial
  |s::r,h=>by
    rw [tN,Bool.and_eq_true] at h
    rw [bH]
    exact ⟨stRB_ok s h.1,zLg r h.2⟩
end
theorem ex_rng:bH Lf.rng (cpy 6 0).Body/\bH Lf.rng (cpy 6 6).Body/\bH Lf.rng (cpy 6 5).Body/\bH Lf.rng [sA]:=
  ⟨zLg _ (by decide+kernel),zLg _ (by decide+kernel),zLg _ (by decide+kernel),zLg _ (by decide+kernel)⟩
theorem ok20:bA Tryz.prog 20=true:=by kernel_rfl
theorem ok22:bA Tryz.prog 22=true:=by kernel_rfl
theorem ok24:bA Tryz.prog 24=true:=by kernel_rfl
theorem ok26:bA Tryz.prog 26=true:=by kernel_rfl
theorem ok47:bA Tryz.prog 47=true:=by kernel_rfl
theorem ok75:bA Tryz.prog 75=true:=by kernel_rfl
theorem zCg (many limit:Int):
    Pur cfg 47 [vI many,vI limit] (vNs (cpy many limit)):=by
 refine zT Tryz.func47 O Tryz.ntmps47 Tryz.results47 O ?_
 intro z hz
 refine F O<|zV O O (qE [some 8,some 20] O W O) ?_
 rintro _ _ ⟨b1,rfl,rfl⟩
 refine H<|F O<|yP O m pl38<|zV O O (yT O m) ?_
 rintro _ _ ⟨b2,rfl,rfl⟩
 refine Y 0 L O<|H<|F O<|qI O ok75 (show Pur cfg 75 [vS (bs [105])] (bZ vI1) from zEu (bs [105])) ⟨G,O,T⟩<|qT [none,none,none,some 2] O zr72 pl72<|yV O d zr72<|A O<|H<|F O<|A O<|A O<|qT [none,none,none,none,none,none,none,none,none,none,some 2,none,some 13] O zr44 pl44<|qT [none,none,none,none,none,none,none,none,none,none,none,none,none,none,none,none,none,none,none,some 20] O j pl46<|yV O D j<|A O<|H<|zK<|F O<|A O<|zU O (yG O O O)<|H<|zD O (fun c1=>?_) (fun c1=>?_)
 ·try simp only [I] at c1
  refine zQ O<|A O<|qI O ok75 (show Pur cfg 75 [vS (bs [105])] (bZ vI1) from zEu (bs [105])) ⟨G,O,T⟩<|qT [none,none,none,none,none,none,none,none,none,none,none,some 4,some 13] O zr44 pl44<|A O<|qT [none,some 2] O v pl41<|qT [none,none,none,none,none,none,none,none,none,none,none,some 4,some 13] O zr44 pl44<|yV O g zr44<|qT [none,none,none,none,none,none,none,none,none,none,some 2,some 4,none] O zr44 pl44<|qT [none,none,none,none,none,some 4,none,none,none,none,none,none,none,none,none,none,none,none,none,none] O j pl46<|yV O D j<|A O<|H<|F O<|zP yN (R 0 O) O<|yV O K zr3<|yP O zr65 pl65<|zP yN (R 0 O) O<|yV O K zr3<|yP O zr65 pl65<|yV O el22 zr65<|A O<|A O<|qT [none,none,none,none,none,some 4,none,none,none,none,none,none,none,none,none,none,some 2,some 4,some 13,none] O j pl46<|yV O D j<|yP O W pl25<|Y 1 i O<|H<|o<|fin1 (y yY O (R 1 O) O) ?_
  rw [show cpy many limit=cpN [gU (bs [105]) many 0 [sIf (ltE vI1 limit) [cpB vI1]]] by unfold cpy;rw [if_pos c1]];rfl
 ·try simp only [I] at c1
  refine zM<|F O<|zP yN (R 0 O) O<|yV O K zr3<|yP O zr65 pl65<|zP yN (R 0 O) O<|yV O K zr3<|yP O zr65 pl65<|yV O el22 zr65<|A O<|A O<|qT [none,none,none,none,none,some 4,none,none,none,none,none,none,none,none,none,none,some 2,some 4,some 13,none] O j pl46<|yV O D j<|yP O W pl25<|Y 1 i O<|H<|o<|fin1 (y yY O (R 1 O) O) ?_
  rw [show cpy many limit=cpN [gU (bs [105]) many 0 [cpB vI1]] by unfold cpy;rw [if_neg (by omega)]];rfl
theorem zMf  :
    Pur cfg 19 [] (vB true):=by
 refine zT Tryz.func19 O Tryz.ntmps19 Tryz.results19 O ?_
 intro z hz
 refine F O<|A O<|H<|F O<|qI O ok47 (zCg _ _) ⟨G,O,G,O,T⟩<|qI O ok20 (show Pur cfg 20 [vNs (cpy 6 0),vS nmI,vI 2,vS nmO,vS nmK] (.tup [vNs (cpN [sA]),vI 0]) by have h:=zUb (cpy 6 0) nmI 2 nmO nmK (zWn zQn.1) zQn.1 ex_rng.1 (by unfold r64;omega);rw [exA_eq] at h;exact h) ⟨G,O,G,O,G,O,G,O,G,O,T⟩<|qP O<|yJ O<|qU O<|zV O O (qE [some 8,some 20] O W O) ?_
 rintro _ _ ⟨b1,rfl,rfl⟩
 refine Y 0 i O<|A O<|H<|F O<|qI O ok47 (zCg _ _) ⟨G,O,G,O,T⟩<|qI O ok20 (show Pur cfg 20 [vNs (cpy 6 0),vS nmI,vI 4,vS nmO,vS nmK] (.tup [vNs (cpN [sB]),vI 0]) by have h:=zUb (cpy 6 0) nmI 4 nmO nmK (zWn zQn.1) zQn.1 ex_rng.1 (by unfold r64;omega);rw [exB_eq] at h;exact h) ⟨G,O,G,O,G,O,G,O,G,O,T⟩<|qP O<|yJ O<|qU O<|zV O O (qE [some 8,some 20] O W O) ?_
 rintro _ _ ⟨b2,rfl,rfl⟩
 refine Y 0 i O<|A O<|H<|F O<|qI O ok47 (zCg _ _) ⟨G,O,G,O,T⟩<|qI O ok22 (show Pur cfg 22 [vNs (cpy 6 0),vS nmI,vI 2,vS nmP] (.tup [vNs (cpN [sC1,sC2]),vI 0]) by have h:=split_Peel (cpy 6 0) nmI 2 nmP (zWn zQn.1) zQn.1 ex_rng.1 (by unfold r64;omega);rw [exC_eq] at h;exact h) ⟨G,O,G,O,G,O,G,O,T⟩<|qP O<|yJ O<|qU O<|zV O O (qE [some 8,some 20] O W O) ?_
 rintro _ _ ⟨b3,rfl,rfl⟩
 refine Y 0 i O<|A O<|H<|F O<|zP yY (R 2 O) O<|qI O ok26 (show Pur cfg 26 [vNs (cpN [sA]),vS nmO,vS nmI] (.tup [vNs (cpy 6 0),vI 0]) by have h:=zMa (cpN [sA]) nmO nmI (zWn zQn.2.2.2) (Nat.le_trans zQn.2.2.2 (by decide)) ex_rng.2.2.2 (fun _ _=>by decide+kernel);rw [exD_eq] at h;exact h) ⟨G,O,G,O,G,O,T⟩<|qP O<|yJ O<|qU O<|zV O O (qE [some 8,some 20] O W O) ?_
 rintro _ _ ⟨b4,rfl,rfl⟩
 refine Y 0 i O<|A O<|H<|F O<|qI O ok47 (zCg _ _) ⟨G,O,G,O,T⟩<|qI O ok24 (show Pur cfg 24 [vNs (cpy 6 6)] (.tup [vNs (cpy 6 0),vI 1]) by have h:=zFz (cpy 6 6) (zWn zQn.2.1) zQn.2.1 ex_rng.2.1 (fun _=>by decide+kernel);rw [exE_eq] at h;exact h) ⟨G,O,T⟩<|qP O<|yJ O<|qU O<|zV O O (qE [some 8,some 20] O W O) ?_
 rintro _ _ ⟨b5,rfl,rfl⟩
 refine Y 0 i O<|A O<|H<|F O<|qI O ok47 (zCg _ _) ⟨G,O,G,O,T⟩<|qI O ok24 (show Pur cfg 24 [vNs (cpy 6 5)] (.tup [vNs (cpN [sG]),vI 0]) by have h:=zFz (cpy 6 5) (zWn zQn.2.2.1) zQn.2.2.1 ex_rng.2.2.1 (fun _=>by decide+kernel);rw [exF_eq] at h;exact h) ⟨G,O,T⟩<|qP O<|yJ O<|qU O<|zV O O (qE [some 8,some 20] O W O) ?_
 rintro _ _ ⟨b6,rfl,rfl⟩
 refine Y 0 i O<|A O<|H<|zK<|F O<|A O<|yM O<|A O<|rL0 O (fun g7_2=>zN O O) O<|B 46 O (fun g7_2=>kN O O O) O<|r_or O (fun h=>(lzf h))<|A O<|rL0 O (fun g7_6=>zN O O) O<|B 50 O (fun g7_6=>kN O O O) O<|r_or O (fun h=>(lzf h))<|A O<|rL0 O (fun g7_10=>zN O O) O<|B 54 O (fun g7_10=>kN O O O) O<|r_or O (fun h=>(lzf h))<|A O<|rL0 O (fun g7_14=>zN O O) O<|B 58 O (fun g7_14=>kN O O O) O<|r_or O (fun h=>(lzf h))<|A O<|rL0 O (fun g7_18=>zN O O) O<|B 62 O (fun g7_18=>kN O O O) O<|r_or O (fun h=>(lzf h))<|A O<|rL0 O (fun g7_22=>zE O zAd O) O<|B 66 O (fun g7_22=>zF O kP O (R 5 O) O) O<|B 67 O (fun g7_22=>yB O D O) O<|B 68 O (fun g7_22=>kN O O O) O<|r_or O (fun h=>(lzf h))<|A O<|rL0 O (fun g7_28=>zE O zAd O) O<|B 72 O (fun g7_28=>zF O kP O (R 4 O) O) O<|B 73 O (fun g7_28=>yB O D O) O<|B 74 O (fun g7_28=>kN O O O) O<|r_or O (fun h=>(lzf h))<|A O<|rL0 O (fun g7_34=>zE O zAd O) O<|B 78 O (fun g7_34=>zF O kP O (R 3 O) O) O<|B 79 O (fun g7_34=>yB O D O) O<|B 80 O (fun g7_34=>kN O O O) O<|r_or O (fun h=>(lzf h))<|H<|zD O (fun c1=>?_) (fun c1=>?_)
 ·exact absurd c1 (by decide+kernel)
 ·refine zM<|zK<|F O<|zG O zAd<|zJ kP (R 5 O) O<|qD O D (by decide) (wD (x:=sA) O)<|qO O zAc<|zJ one3 qA O<|yM O<|A O<|rL0 O (fun g9_6=>zE O zAd O) O<|B 90 O (fun g9_6=>zF O kP O (R 5 O) O) O<|B 91 O (fun g9_6=>qF O D O O (by decide) (wD (x:=sA) O)) O<|B 92 O (fun g9_6=>qL O kK O) O<|B 93 O (fun g9_6=>zF O kP O qA O) O<|B 94 O (fun g9_6=>yB O D O) O<|B 95 O (fun g9_6=>kN O O O) O<|r_or O (fun h=>(lzf h))<|A O<|rL0 O (fun g9_15=>zE O zAd O) O<|B 99 O (fun g9_15=>zF O kP O (R 5 O) O) O<|B 100 O (fun g9_15=>qF O D O O (by decide) (wD (x:=sA) O)) O<|B 101 O (fun g9_15=>qL O kK O) O<|B 102 O (fun g9_15=>zF O kP O qA O) O<|B 103 O (fun g9_15=>qF O D O O (by decide) (wD (x:=sA1) O)) O<|B 104 O (fun g9_15=>qL O zAc O) O<|B 105 O (fun g9_15=>zF O one3 O qA O) O<|B 106 O (fun g9_15=>kN O O O) O<|r_or O (fun h=>(lzf h))<|A O<|rL0 O (fun g9_26=>zE O zAd O) O<|B 110 O (fun g9_26=>zF O kP O (R 4 O) O) O<|B 111 O (fun g9_26=>qF O D O O (by decide) (wD (x:=sB) O)) O<|B 112 O (fun g9_26=>qL O kK O) O<|B 113 O (fun g9_26=>zF O kP O qA O) O<|B 114 O (fun g9_26=>yB O D O) O<|B 115 O (fun g9_26=>kN O O O) O<|r_or O (fun h=>(lzf h))<|A O<|rL0 O (fun g9_35=>zE O zAd O) O<|B 119 O (fun g9_35=>zF O kP O (R 4 O) O) O<|B 120 O (fun g9_35=>qF O D O O (by decide) (wD (x:=sB) O)) O<|B 121 O (fun g9_35=>qL O kK O) O<|B 122 O (fun g9_35=>zF O kP O qA O) O<|B 123 O (fun g9_35=>qF O D O O (by decide) (wD (x:=sB1) O)) O<|B 124 O (fun g9_35=>qL O kK O) O<|B 125 O (fun g9_35=>zF O kP O qA O) O<|B 126 O (fun g9_35=>yB O D O) O<|B 127 O (fun g9_35=>kN O O O) O<|r_or O (fun h=>(lzf h))<|H<|zD O (fun c2=>?_) (fun c2=>?_)
  ·exact absurd c2 (by decide+kernel)
  ·refine zM<|zK<|qZ 42 mixed (by kernel_rfl) O O<|M O O (zE O zAd O)<|M O O (zF O kP O (R 4 O) O)<|M O O (qF O D O O (by decide) (wD (x:=sB) O))<|M O O (qL O zAc O)<|M O O (zF O one3 O qA O)<|M O O (yH O O O)<|M O O (zN O O)<|f [] O O O O gv1 T (fun g11_6=>zE O zAd O) O<|f [(137,_)] O O O O gv1 ⟨O,O,T⟩ (fun g11_6=>zF O kP O (R 4 O) O) O<|f [(138,_)] O O O O gv1 ⟨O,O,T⟩ (fun g11_6=>qF O D O O (by decide) (wD (x:=sB) O)) O<|f [(139,_)] O O O O gv1 ⟨O,O,T⟩ (fun g11_6=>qL O kK O) O<|f [(140,_)] O O O O gv1 ⟨O,O,T⟩ (fun g11_6=>zF O kP O qA O) O<|f [(141,_)] O O O O gv1 ⟨O,O,T⟩ (fun g11_6=>qF O D O O (by decide) (wD (x:=sB1) O)) O<|f [(142,_)] O O O O gv1 ⟨O,O,T⟩ (fun g11_6=>qL O kK O) O<|f [(143,_)] O O O O gv1 ⟨O,O,T⟩ (fun g11_6=>zF O kP O qA O) O<|f [(144,_)] O O O O gv1 ⟨O,O,T⟩ (fun g11_6=>qF O D O O (by decide) (wD (x:=sB2) O)) O<|f [(145,_)] O O O O gv1 ⟨O,O,T⟩ (fun g11_6=>qL O zAp O) O<|f [(146,_)] O O O O gv1 ⟨O,O,T⟩ (fun g11_6=>zF O one3 O qA O) O<|f [(147,_)] O O O O gv1 ⟨O,O,T⟩ (fun g11_6=>yH O O O) O<|M O O (kZ O O O (fun h=>h) O)<|M O O (zN O O)<|f [] O O O O gv1 T (fun g11_20=>zE O zAd O) O<|f [(151,_)] O O O O gv1 ⟨O,O,T⟩ (fun g11_20=>zF O kP O (R 3 O) O) O<|f [(152,_)] O O O O gv1 ⟨O,O,T⟩ (fun g11_20=>qF O D O O (by decide) (wD (x:=sC1) O)) O<|f [(153,_)] O O O O gv1 ⟨O,O,T⟩ (fun g11_20=>qL O zAc O) O<|f [(154,_)] O O O O gv1 ⟨O,O,T⟩ (fun g11_20=>zF O one3 O qA O) O<|f [(155,_)] O O O O gv1 ⟨O,O,T⟩ (fun g11_20=>yH O O O) O<|M O O (kZ O O O (fun h=>h) O)<|M O O (zN O O)<|f [] O O O O gv1 T (fun g11_28=>zE O zAd O) O<|f [(159,_)] O O O O gv1 ⟨O,O,T⟩ (fun g11_28=>zF O kP O (R 3 O) O) O<|f [(160,_)] O O O O gv1 ⟨O,O,T⟩ (fun g11_28=>qF O D O O (by decide) (wD (x:=sC2) O)) O<|f [(161,_)] O O O O gv1 ⟨O,O,T⟩ (fun g11_28=>qL O zAc O) O<|f [(162,_)] O O O O gv1 ⟨O,O,T⟩ (fun g11_28=>zF O one3 O qA O) O<|f [(163,_)] O O O O gv1 ⟨O,O,T⟩ (fun g11_28=>yH O O O) O<|M O O (kZ O O O (fun h=>h) O)<|M O O (zN O O)<|f [] O O O O gv1 T (fun g11_36=>qB O yY O (R 2 O) O) O<|f [] O O O O gv1 T (fun g11_36=>qM O ok47 (zCg _ _) ⟨G,O,G,O,T⟩) O<|f [(167,_),(168,_)] O O O O gv1 ⟨O,O,O,O,T⟩ (fun g11_36=>qM O ok14 (base_Nest (cpy 6 0) (cpy 6 0) (zWn zQn.1)) ⟨G,O,G,O,T⟩) O<|M O O (kZ O O O (fun h=>h) O)<|M O O (yA O O)<|kE<|H<|o<|X O ?_
   exact congrArg vB (by rw [wR rfl];decide+kernel)
end Go.W
end
section
set_option maxRecDepth 10000
namespace Go.W
open Go Go.Eng Go.Proofs Go.L41 Go.Br
attribute [local irreducible] AWP RWP TD fH
theorem ok73:bA Tryz.prog 73=true:=by kernel_rfl
theorem base_Times (a b:Int) (ha:r64 a) (hb:r64 b):
    Pur cfg 73 [vI a,vI b] (.tup [vI (dI a b).1,vB (dI a b).2]):=by
 refine zT Tryz.func73 O Tryz.ntmps73 Tryz.results73 O ?_
 intro z hz
 refine F O<|A O<|A O<|H<|zK<|F O<|A O<|yF O<|A O<|rL0 O (fun g1_2=>zN O O) O<|B 10 O (fun g1_2=>yH O O O) O<|r_or O (fun h=>(lzf h))<|H<|zD O (fun c1=>?_) (fun c1=>?_)
 ·have c1:a=0∨b=0:=by simpa using c1
  refine F O<|A O<|A O<|H<|o<|w (J O) (J O) ?_
  rw [times_0 c1]
 ·have c1:¬(a=0∨b=0):=by simpa using c1
  refine zM<|F O<|A O<|A O<|zU O (zMw O O O)<|A O<|H<|zK<|F O<|A O<|yF O<|A O<|rL0 O (fun g4_2=>zN O O) O<|B 19 O (fun g4_2=>yH O O O) O<|yQ O (fun h=>h)<|A O<|rL0 O (fun g4_6=>zN O O) O<|B 23 O (fun g4_6=>yH O O O) O<|B 24 O (fun g4_6=>zN O O) O<|rLz [] O N T (fun g4_9=>zN O O) O<|rLz [(26,_)] O N ⟨O,O,T⟩ (fun g4_9=>yH O O O) O<|B 25 O (fun g4_6=>kZ O O O (fun h=>kD (by assumption) h) O) O<|r_or O (fun h=>(lzf h))<|A O<|rL0 O (fun g4_14=>zN O O) O<|rL0 O (fun g4_14=>zN O O) O<|rLz [(31,_),(32,_)] O gv1 ⟨O,O,O,O,T⟩ (fun g4_14=>zKr O O O (fun h=>c1 (.inr h))) O<|rL0 O (fun g4_14=>zN O O) O<|rLz [(33,_),(34,_)] O gv1 ⟨O,O,O,O,T⟩ (fun g4_14=>kN O O O) O<|r_or O (fun h=>(lzf h))<|H<|zD O (fun c2=>?_) (fun c2=>?_)
  ·have c2:((a= -1/\b= -9223372036854775808)∨(b= -1/\a= -9223372036854775808))∨¬w64 (Int.tdiv (w64 (a*b)) b)=a:=by simpa [w64] using c2
   refine F O<|A O<|A O<|H<|o<|w (J O) (J O) ?_
   rw [times_no ha hb c1 c2]
  ·have c2:¬(((a= -1/\b= -9223372036854775808)∨(b= -1/\a= -9223372036854775808))∨¬w64 (Int.tdiv (w64 (a*b)) b)=a):=by simpa [w64] using c2
   refine zM<|F O<|A O<|A O<|A O<|H<|o<|w (J O) (J O) ?_
   rw [times_yes ha hb c1 c2];rfl
end Go.W
end
section
set_option maxRecDepth 10000
namespace Go.W
open Go Go.Eng Go.Proofs Go.L41 Go.Br
attribute [local irreducible] AWP RWP TD fH
theorem ok74:bA Tryz.prog 74=true:=by kernel_rfl
end Go.W
end
section
set_option maxRecDepth 10000
namespace Go.W
open Go Go.Eng Go.Proofs Go.L41 Go.Br
attribute [local irreducible] AWP RWP TD fH
theorem atT_all {l:List St} {way:List Int} (h:bH Lf.rng l):(atT l way).1.allF Lf.rng:=by
  unfold atT
  split
  · exact zJb
  · exact atF_all h zJb
theorem ok28:bA Tryz.prog 28=true:=by kernel_rfl
theorem ok58:bA Tryz.prog 58=true:=by kernel_rfl
theorem ok59:bA Tryz.prog 59=true:=by kernel_rfl
theorem ok61:bA Tryz.prog 61=true:=by kernel_rfl
theorem ok116:bA Tryz.prog 116=true:=by kernel_rfl
theorem ref36_find (n:Ns) (s:ByteArray) (hl:bC n.Body<=1000000):
    Pur cfg 59 [vNs n,vS s] (.tup [vIs (if (dX n.Body s).isSome=true then fV n s else []),vSt (if (dX n.Body s).isSome=true then (atT n.Body (fV n s)).1 else zSt),vB (dX n.Body s).isSome]):=by
 refine zT Tryz.func59 O Tryz.ntmps59 Tryz.results59 O ?_
 intro z hz
 have hwl:=zLd n s
 have hwN:=zCr n.Body
 refine F O<|zV O O (qN O O) ?_
 rintro _ _ ⟨b1,rfl,rfl⟩
 refine qX 1 O<|zV O O (qE [none,none,none,none,none,some 4,none,none,none,none,none,none,none,none,none,none,some 2,some 4,some 13,some 20] O j O) ?_
 rintro _ _ ⟨b2,rfl,rfl⟩
 refine A O<|H<|F O<|zP yY (R 1 O) O<|A O<|qI O ok28 (show Pur cfg 28 [vNs n,vS s] (.tup [vIs (fV n s),vB (dX n.Body s).isSome]) from ref30_Find n s (by omega)) ⟨G,O,G,O,T⟩<|qP O<|qU O<|qU O<|A O<|A O<|H<|zK<|F O<|A O<|kQ O<|H<|zD O (fun c1=>?_) (fun c1=>?_)
 ·try simp only [I] at c1
  have c1:(dX n.Body s).isSome=false:=by simpa using c1
  refine F O<|qT [none,none,none,none,none,some 4,none,none,none,none,none,none,none,none,none,none,some 2,some 4,some 13,some 20] O j pl46<|qX 1 O<|Y 0 sz46 O<|A O<|H<|o<|fin3 (J O) (y zAv O (R 0 O) O) (J O) ?_
  rw [c1];rfl
 ·try simp only [I] at c1
  have c1:(dX n.Body s).isSome=true:=by simpa using c1
  refine zM<|F O<|zP yY (R 1 O) O<|A O<|qI O ok29 (ref30_At n (fV n s) (by omega)) ⟨G,O,G,O,T⟩<|qP O<|yJ O<|qU O<|zV O O (qE [none,none,none,none,none,some 4,none,none,none,none,none,none,none,none,none,none,some 2,some 4,some 13,some 20] O j O) ?_
  rintro _ _ ⟨b3,rfl,rfl⟩
  refine Y 0 sz46 O<|A O<|H<|zK<|qZ 3 mixed (by kernel_rfl) O O<|M O O (zN O O)<|M O O (qB O zAv O (R 0 O) O)<|M O O (yA O O)<|kE<|Y 1 sz46 O<|A O<|H<|o<|fin3 (J O) (y zAv O (R 1 O) O) (J O) ?_
  rw [c1];rfl
theorem ref36_taken (n:Ns) (s:ByteArray) (ex:List ByteArray) (hn:n.Ok) (hl:bC n.Body<=1000000) (he:ex.length<=1000):
    Pur cfg 61 [vNs n,vS s,vSs ex] (vB (vD n s ex)):=by
 refine zT Tryz.func61 O Tryz.ntmps61 Tryz.results61 O ?_
 intro z hz
 have hll:=zHc n.Body
 have hwN:=zCr n.Body
 refine F O<|zV O O (qN O O) ?_
 rintro _ _ ⟨b1,rfl,rfl⟩
 refine A O<|H<|zK<|F O<|zP yY (R 0 O) O<|A O<|qI O ok115 (zBy n s hn) ⟨G,O,G,O,T⟩<|qP O<|yJ O<|qU O<|zV O O (qE [none,none,none,none,none,none,some 1,none] O zr65 O) ?_
 rintro _ _ ⟨b2,rfl,rfl⟩
 refine Y 0 sz65 O<|A O<|H<|F O<|A O<|H<|zD O (fun c1=>?_) (fun c1=>?_)
 ·try simp only [I] at c1
  refine F O<|A O<|H<|o<|X O ?_
  exact congrArg vB (by unfold vD;simp [c1])
 ·try simp only [I] at c1
  refine zM<|F O<|zP yY (R 1 O) O<|qI O ok116 (ref30_Loops n (by omega)) ⟨G,O,T⟩<|A O<|qI O ok113 (zTf (bE n.Body) s (by omega)) ⟨G,O,G,O,T⟩<|A O<|rL0 O (fun g4_4=>zN O O) O<|rL0 O (fun g4_4=>zN O O) O<|rLz [(21,_),(22,_)] O gv1 ⟨O,O,O,O,T⟩ (fun g4_4=>qM O ok113 (zTf ex s (by omega)) ⟨G,O,G,O,T⟩) O<|B 23 O (fun g4_4=>kW O O) O<|yQ O (fun h=>h)<|A O<|H<|o<|X O ?_
  exact congrArg vB (by unfold vD;simp [c1])
end Go.W
end
