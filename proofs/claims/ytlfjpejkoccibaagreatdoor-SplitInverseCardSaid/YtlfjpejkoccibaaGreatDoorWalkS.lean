/-
  Walks: what functions of the program compute. Printed by wip/gen/mk2.py.
  Walks: what functions of the program compute. Printed by wip/gen/mk2.py.
  Walks: what functions of the program compute. Printed by wip/gen/mk2.py.
  Walks: what functions of the program compute. Printed by wip/gen/mk2.py.
  Walks: what functions of the program compute. Printed by wip/gen/mk2.py.
  Walks: what functions of the program compute. Printed by wip/gen/mk2.py.
  Walks: what functions of the program compute. Printed by wip/gen/mk2.py.
  Walks: what functions of the program compute. Printed by wip/gen/mk2.py.
  Conditions: none.
-/
import Derived.Test.YtlfjpejkoccibaaGreatDoorPA
import Derived.Test.YtlfjpejkoccibaaGreatDoorPlain2
import Derived.Test.YtlfjpejkoccibaaGreatDoorNL
set_option linter.unusedSimpArgs false
set_option linter.unusedVariables false
section
set_option maxRecDepth 10000
namespace Go.W
open Go Go.Eng Go.Proofs Go.L41 Go.Br
attribute [local irreducible] AWP RWP TD finQ
theorem locT_no {n:Ns} {s:ByteArray} (h:¬locE n s=0):locT n s=([],zSt,locE n s):=if_neg h
theorem locT_yes {n:Ns} {s:ByteArray} (h:locE n s=0):locT n s=(wayF n s,(atT n.Body (wayF n s)).1,0):=if_pos h
theorem locE_1 {n:Ns} {s:ByteArray} (h:¬(validN n).2=0):locE n s=(validN n).2:=if_neg h
theorem locE_2 {n:Ns} {s:ByteArray} (h:(validN n).2=0) (h2:(findN n.Body s).isSome=false):locE n s=19:=by unfold locE;rw [if_pos h,if_neg (by rw [h2];simp)]
theorem locE_3 {n:Ns} {s:ByteArray} (h:(validN n).2=0) (h2:(findN n.Body s).isSome=true):locE n s=0:=by unfold locE;rw [if_pos h,if_pos h2]
theorem locT_e (n:Ns) (s:ByteArray):(locT n s).2.2=locE n s:=by
  by_cases h:locE n s=0
  · rw [locT_yes h,h]
  · rw [locT_no h]
theorem locT_w {n:Ns} {s:ByteArray} (h:locE n s=0):(locT n s).1=wayF n s:=by rw [locT_yes h]
theorem zJl (n:Ns) (s:ByteArray):(wayF n s).length<=stsN n.Body:=by unfold wayF;rw [zEu];exact fndL_getD _ _ _
theorem zPw (n:Ns) (s:ByteArray):stsWt (locT n s).2.1.Body<=stsWt n.Body+2:=by
  unfold locT
  split
  · have h1:=atT_wt (l:=n.Body) (way:=wayF n s)
    have h2:=St.body_wt (atT n.Body (wayF n s)).1
    show stsWt (atT n.Body (wayF n s)).1.Body<=_
    omega
  · show stsWt zSt.Body<=_
    rw [show zSt.Body=[] from rfl,stsWt];omega
theorem zEx_rng:zEx.allF Lf.rng:=fun x hx l hl=>by
  have hx':x∈[zEx]:=hx
  obtain rfl:=List.mem_singleton.1 hx'
  have hl':l∈[(⟨0,[]⟩:Lf)]:=hl
  obtain rfl:=List.mem_singleton.1 hl'
  exact zGj
theorem zLk:zSt.allF Lf.rng:=by
  unfold zSt
  rw [St.allF,allSs]
  exact ⟨fun x hx=>(by cases hx),zEx_rng,T⟩
theorem atF_all:∀{way:List Int} {l:List St} {s:St},allSs Lf.rng l->s.allF Lf.rng->(atF way l s).1.allF Lf.rng
  |[],_,_,_,h=>by rw [atF];exact h
  |i::r,l,s,hl,hs=>by
    rw [atF]
    split
    · next h=>
      have h1:=kJ hl _ (zLr h)
      exact atF_all (St.allF_eq h1).2.2 h1
    · exact zLk
theorem locT_rng {n:Ns} {s:ByteArray} (h:allSs Lf.rng n.Body):allSs Lf.rng (locT n s).2.1.Body:=by
  have h1:(locT n s).2.1.allF Lf.rng:=by
    unfold locT
    split
    · show (atT n.Body (wayF n s)).1.allF Lf.rng
      unfold atT
      split
      · exact zLk
      · exact atF_all h zLk
    · exact zLk
  exact (St.allF_eq h1).2.2
theorem add_rng (a b:Lf):(addL a b).1.rng/\(addL a b).1.L.length<=a.L.length+b.L.length:=by
  unfold addL
  split
  · unfold addT
    split
    · next h=>exact ⟨⟨h.1,fun m hm=>sum_rng hm⟩,Nat.le_trans (zNq _) (zMb _ _)⟩
    · exact ⟨zGj,Nat.zero_le _⟩
  · exact ⟨zGj,Nat.zero_le _⟩
theorem zFe (s:ByteArray):(varL s).rng/\(varL s).L.length<=1:=by
  unfold varL
  cases isNameB s
  · exact ⟨zGj,Nat.zero_le _⟩
  · exact ⟨vrL_rng s,Nat.le_refl _⟩
theorem zQj (by_:Int) (a b:ByteArray):(formT by_ a b).rng/\(formT by_ a b).L.length<=2:=by
  have h1:=add_rng (scaleL (varL a) by_).1 (varL b)
  have h2:=zJx (varL a) by_
  have h3:=zFe a
  have h4:=zFe b
  exact ⟨h1.1,by show (addL _ _).1.L.length<=2;omega⟩
theorem peelF_rng (many:Int) (a:ByteArray):(peelF many a).rng/\(peelF many a).L.length<=1:=by
  have h1:=add_rng (varL a) ⟨many,[]⟩
  have h3:=zFe a
  have h5:(⟨many,[]⟩:Lf).L.length=0:=rfl
  exact ⟨h1.1,by show (addL _ _).1.L.length<=1;omega⟩
theorem zFh (n:Ns) (s:ByteArray) (hn:n.Ok):
    Pur cfg 50 [vNs n,vS s] (vB (takN n s)):=by
 refine zQ Tryz.func50 O Tryz.ntmps50 Tryz.results50 O ?_
 intro z hz
 have hnb:=hn.body
 refine F O<|zU O O (qL O O) ?_
 rintro _ _ ⟨b1,rfl,rfl⟩
 refine A O<|H<|zI<|F O<|zO kF (R 0 O) O<|A O<|qG O ok101 (wJ n s hn) ⟨G,O,G,O,T⟩<|qN O<|zR O (qT O O O)<|qU O<|zU O O (qC [none,none,none,none,none,none,some 1,none] O zr65 O) ?_
 rintro _ _ ⟨b2,rfl,rfl⟩
 refine D 0 sz65 O<|A O<|H<|F O<|A O<|H<|zD O (fun c1=>?_) (fun c1=>?_)
 ·try simp only [I] at c1
  refine F O<|A O<|H<|o<|X O ?_
  exact congrArg vB (by unfold takN;simp [c1])
 ·try simp only [I] at c1
  refine zH<|F O<|zO kF (R 1 O) O<|A O<|qG O ok32 (zKk n s (by omega)) ⟨G,O,G,O,T⟩<|qN O<|qU O<|qU O<|A O<|A O<|H<|F O<|A O<|A O<|H<|o<|X O ?_
  exact congrArg vB (by unfold takN;simp [c1])
theorem zGn (n:Ns) (s:ByteArray) (hn:n.Ok):
    Pur cfg 48 [vNs n,vS s] (.tup [vIs (locT n s).1,vSt (locT n s).2.1,vI (locT n s).2.2]):=by
 refine zQ Tryz.func48 O Tryz.ntmps48 Tryz.results48 O ?_
 intro z hz
 have hnb:=hn.body
 have hwl:=zJl n s
 have hwN:=zDq n.Body
 refine F O<|zU O O (qL O O) ?_
 rintro _ _ ⟨b1,rfl,rfl⟩
 refine qX 1 O<|zU O O (qC [none,none,none,none,none,some 4,none,none,none,none,none,none,none,none,none,none,some 2,some 4,some 13,some 20] O d O) ?_
 rintro _ _ ⟨b2,rfl,rfl⟩
 refine A O<|H<|zI<|F O<|zO kF (R 1 O) O<|qG O ok34 (zCp n hn) ⟨G,O,T⟩<|qN O<|qU O<|qU O<|A O<|A O<|H<|F O<|A O<|yP O<|H<|zD O (fun c1=>?_) (fun c1=>?_)
 ·try simp only [I] at c1
  refine F O<|qV [none,none,none,none,none,some 4,none,none,none,none,none,none,none,none,none,none,some 2,some 4,some 13,some 20] O d pl46<|A O<|qX 1 O<|D 0 sz46 O<|A O<|H<|o<|fin3 (N O) (y zBw O (R 0 O) O) (N O) ?_
  rw [locT_no (by rw [locE_1 c1];exact c1),locE_1 c1];rfl
 ·try simp only [I] at c1
  refine zH<|F O<|zO kF (R 1 O) O<|A O<|qG O ok32 (show Pur cfg 32 [vNs n,vS s] (.tup [vIs (wayF n s),vB (findN n.Body s).isSome]) from zKk n s (by omega)) ⟨G,O,G,O,T⟩<|qN O<|qU O<|qU O<|A O<|A O<|H<|zI<|F O<|A O<|kY O<|H<|zD O (fun c2=>?_) (fun c2=>?_)
  ·try simp only [I] at c2
   have c2:(findN n.Body s).isSome=false:=by simpa using c2
   refine F O<|qV [none,none,none,none,none,some 4,none,none,none,none,none,none,none,none,none,none,some 2,some 4,some 13,some 20] O d pl46<|qX 1 O<|D 0 sz46 O<|A O<|H<|o<|fin3 (N O) (y zBw O (R 0 O) O) (N O) ?_
   rw [locT_no (by rw [locE_2 c1 c2];decide),locE_2 c1 c2];rfl
  ·try simp only [I] at c2
   have c2:(findN n.Body s).isSome=true:=by simpa using c2
   refine zH<|F O<|zO kF (R 1 O) O<|A O<|qG O ok15 (loopnest_At n (wayF n s) (by omega) (by omega)) ⟨G,O,G,O,T⟩<|qN O<|zR O (qT O O O)<|qU O<|zU O O (qC [none,none,none,none,none,some 4,none,none,none,none,none,none,none,none,none,none,some 2,some 4,some 13,some 20] O d O) ?_
   rintro _ _ ⟨b3,rfl,rfl⟩
   refine D 0 sz46 O<|A O<|H<|zI<|qY 3 mixed (by kernel_rfl) O O<|Y O O (w O O)<|Y O O (zX O zBw O (R 0 O) O)<|Y O O (yC O O)<|kH<|D 1 sz46 O<|A O<|H<|o<|fin3 (N O) (y zBw O (R 1 O) O) (N O) ?_
   rw [locT_yes (locE_3 c1 c2)];rfl
theorem zDx (n:Ns) (way:List Int) (q:List St) (hn:n.Ok) (hl:stsWt n.Body+stsWt q<=2000000) (hw:way.length<=1073741824):
    Pur cfg 57 [vNs n,vIs way,vSts q] (.tup [vNs (finT n way q).1,vI (finT n way q).2]):=by
 refine zQ Tryz.func57 O Tryz.ntmps57 Tryz.results57 O ?_
 intro z hz
 have hrok:=repR_ok (way:=way) hn hl
 refine F O<|zU O O (qL O O) ?_
 rintro _ _ ⟨b1,rfl,rfl⟩
 refine zU O O (qC [some 8,some 20] O U O) ?_
 rintro _ _ ⟨b2,rfl,rfl⟩
 refine A O<|H<|F O<|zO kF (R 1 O) O<|A O<|A O<|qG O ok12 (zNi n way q hn (by omega) (by omega) hw) ⟨G,O,G,O,G,O,T⟩<|qN O<|zR O (qT O O O)<|qU O<|zU O O (qC [some 8,some 20] O U O) ?_
 rintro _ _ ⟨b3,rfl,rfl⟩
 refine D 0 W O<|A O<|H<|zI<|F O<|zO kF (R 0 O) O<|qG O ok34 (zCp (repR n way q) hrok) ⟨G,O,T⟩<|qN O<|qU O<|qU O<|A O<|A O<|H<|F O<|A O<|yP O<|H<|zD O (fun c1=>?_) (fun c1=>?_)
 ·try simp only [I] at c1
  refine F O<|qV [some 8,some 20] O U pl25<|A O<|D 1 W O<|A O<|H<|o<|p (y kF O (R 1 O) O) (N O) ?_
  rw [show finT n way q=(zNs,(validN (repR n way q)).2) from if_neg c1];rfl
 ·try simp only [I] at c1
  refine zH<|F O<|zO kF (R 0 O) O<|qG O ok39 (zKl (repR n way q) hrok) ⟨G,O,T⟩<|D 1 W O<|A O<|H<|o<|p (y kF O (R 1 O) O) (N O) ?_
  rw [show finT n way q=(repR n way q,0) from if_pos c1];rfl
theorem zOx (l:Lf):
    Pur cfg 55 [vLin l] (vE (idxL l)):=by
 refine zQ Tryz.func55 O Tryz.ntmps55 Tryz.results55 O ?_
 intro z hz
 refine F O<|zU O O (qL O O) ?_
 rintro _ _ ⟨b1,rfl,rfl⟩
 refine zU O O (qC [none,none,none,none,none,none,none,none,none,none,some 2,some 4,some 13] O zr44 O) ?_
 rintro _ _ ⟨b2,rfl,rfl⟩
 refine H<|F O<|zO kE (R 1 O) O<|qV [none,none,none,none,none,none,none,none,none,none,none,some 4,some 13] O zr44 pl44<|D 0 sz44 O<|H<|o<|fin1 (y kL O (R 0 O) O) ?_
 rfl
end Go.W
end
section
set_option maxRecDepth 10000
namespace Go.W
open Go Go.Eng Go.Proofs Go.L41 Go.Br
attribute [local irreducible] AWP RWP TD finQ
theorem splE_1 {n:Ns} {s:St} {loop:ByteArray} {by_:Int} {outer inner:ByteArray} (h:by_<1∨s.Many<by_):splE n s loop by_ outer inner=1:=if_pos h
theorem splE_2 {n:Ns} {s:St} {loop:ByteArray} {by_:Int} {outer inner:ByteArray} (h:¬(by_<1∨s.Many<by_)) (h2:(!isNameB outer|| !isNameB inner)=true):splE n s loop by_ outer inner=7:=by unfold splE;rw [if_neg h,if_pos h2]
theorem splE_3 {n:Ns} {s:St} {loop:ByteArray} {by_:Int} {outer inner:ByteArray} (h:¬(by_<1∨s.Many<by_)) (h2:(!isNameB outer|| !isNameB inner)=false) (h3:dupT n loop outer inner=true):splE n s loop by_ outer inner=8:=by unfold splE;rw [if_neg h,if_neg (by rw [h2];simp),if_pos h3]
theorem splE_4 {n:Ns} {s:St} {loop:ByteArray} {by_:Int} {outer inner:ByteArray} (h:¬(by_<1∨s.Many<by_)) (h2:(!isNameB outer|| !isNameB inner)=false) (h3:dupT n loop outer inner=false):splE n s loop by_ outer inner=errE (sbT loop (formT by_ outer inner) s.Body):=by unfold splE;rw [if_neg h,if_neg (by rw [h2];simp),if_neg (by rw [h3];simp)]
theorem splitT_0 {n:Ns} {loop:ByteArray} {by_:Int} {outer inner:ByteArray} (h:¬locE n loop=0):splitT n loop by_ outer inner=(zNs,locE n loop):=if_neg h
theorem zNu {n:Ns} {s:St} {loop:ByteArray} {by_:Int} {outer inner:ByteArray} {e:Int} (hs:(locT n loop).2.1=s) (h:locE n loop=0) (he:splE n s loop by_ outer inner=e) (h0:¬e=0):splitT n loop by_ outer inner=(zNs,e):=by unfold splitT;rw [if_pos h,hs,he,if_neg h0]
theorem splitT_2 {n:Ns} {s:St} {loop:ByteArray} {by_:Int} {outer inner:ByteArray} (hs:(locT n loop).2.1=s) (h:locE n loop=0) (he:splE n s loop by_ outer inner=0):splitT n loop by_ outer inner=finT n (wayF n loop) [splS s by_ outer inner (formT by_ outer inner) (outS (sbT loop (formT by_ outer inner) s.Body))]:=by unfold splitT;rw [if_pos h,hs,if_pos he]
theorem peelE_1 {n:Ns} {s:St} {loop:ByteArray} {many:Int} {rest:ByteArray} (h:¬loopsL s.Body=[]):peelE n s loop many rest=19:=if_neg h
theorem peelE_2 {n:Ns} {s:St} {loop:ByteArray} {many:Int} {rest:ByteArray} (h:loopsL s.Body=[]) (h2:many<1∨s.Many<=many):peelE n s loop many rest=1:=by unfold peelE;rw [if_pos h,if_pos h2]
theorem peelE_3 {n:Ns} {s:St} {loop:ByteArray} {many:Int} {rest:ByteArray} (h:loopsL s.Body=[]) (h2:¬(many<1∨s.Many<=many)) (h3:isNameB rest=false):peelE n s loop many rest=7:=by unfold peelE;rw [if_pos h,if_neg h2,if_pos h3]
theorem peelE_4 {n:Ns} {s:St} {loop:ByteArray} {many:Int} {rest:ByteArray} (h:loopsL s.Body=[]) (h2:¬(many<1∨s.Many<=many)) (h3:isNameB rest=true) (h4:takN n rest=true):peelE n s loop many rest=8:=by unfold peelE;rw [if_pos h,if_neg h2,if_neg (by rw [h3];simp),if_pos h4]
theorem peelE_5 {n:Ns} {s:St} {loop:ByteArray} {many:Int} {rest:ByteArray} (h:loopsL s.Body=[]) (h2:¬(many<1∨s.Many<=many)) (h3:isNameB rest=true) (h4:takN n rest=false):peelE n s loop many rest=errE (sbT loop (peelF many rest) s.Body):=by unfold peelE;rw [if_pos h,if_neg h2,if_neg (by rw [h3];simp),if_neg (by rw [h4];simp)]
theorem peelT_0 {n:Ns} {loop:ByteArray} {many:Int} {rest:ByteArray} (h:¬locE n loop=0):peelT n loop many rest=(zNs,locE n loop):=if_neg h
theorem zPg {n:Ns} {s:St} {loop:ByteArray} {many:Int} {rest:ByteArray} {e:Int} (hs:(locT n loop).2.1=s) (h:locE n loop=0) (he:peelE n s loop many rest=e) (h0:¬e=0):peelT n loop many rest=(zNs,e):=by unfold peelT;rw [if_pos h,hs,he,if_neg h0]
theorem peelT_2 {n:Ns} {s:St} {loop:ByteArray} {many:Int} {rest:ByteArray} (hs:(locT n loop).2.1=s) (h:locE n loop=0) (he:peelE n s loop many rest=0):peelT n loop many rest=finT n (wayF n loop) [cutS s many,sFor rest (w64 (s.Many-many)) s.Mark (outS (sbT loop (peelF many rest) s.Body))]:=by unfold peelT;rw [if_pos h,hs,if_pos he]
theorem zLv (nm:ByteArray) (many mark:Int) (b:List St):(sFor nm many mark b).cells=[cI 1,cS nm,cI many,cI mark,cI 0,.sl 4 [],cI 0,cS (bs []),cI 0,cI 0,cI 0,cI 0,cI 0,cI 0,cI 0,cI 0,.sl 2 [],.sl 4 [],.sl 13 [],.sl 20 (b.map St.cells)]:=by rw [St.cells_eq];rfl
theorem sIf_cs (f:Lf) (m:Int) (b:List St):(sIf (ltE f m) b).cells=[cI 4,cS (bs []),cI 0,cI 0,cI 0,.sl 4 [],cI 13,cS (bs []),cI 0,cI 0,cI 0,cI 0,cI 0,cI 0,cI 0,cI 0,.sl 2 [],.sl 4 [],.sl 13 [(idxL f).cs,(idxL ⟨m,[]⟩).cs],.sl 20 (b.map St.cells)]:=by
  have h:[idxL f,idxL ⟨m,[]⟩].map Ex.cells=[(idxL f).cs,(idxL ⟨m,[]⟩).cs]:=by simp only [List.map_cons,List.map_nil,Ex.cells_eq]
  rw [St.cells_eq,←h];rfl
theorem splS_y {s:St} {by_:Int} (o i:ByteArray) (f:Lf) (b:List St) (h:Int.tmod s.Many by_=0):vSts [splS s by_ o i f b]=.c (.sl 20 [[cI 1,cS o,cI (w64 (Int.tdiv (w64 (w64 (s.Many+by_)-1)) by_)),cI s.Mark,cI 0,.sl 4 [],cI 0,cS (bs []),cI 0,cI 0,cI 0,cI 0,cI 0,cI 0,cI 0,cI 0,.sl 2 [],.sl 4 [],.sl 13 [],.sl 20 [[cI 1,cS i,cI by_,cI 0,cI 0,.sl 4 [],cI 0,cS (bs []),cI 0,cI 0,cI 0,cI 0,cI 0,cI 0,cI 0,cI 0,.sl 2 [],.sl 4 [],.sl 13 [],.sl 20 (b.map St.cells)]]]]):=by
  unfold splS splB
  rw [if_pos h]
  show V.c (C.sl 20 [(sFor _ _ _ _).cells])=_
  rw [zLv]
  show V.c (C.sl 20 [[cI 1,_,_,_,_,_,_,_,_,_,_,_,_,_,_,_,_,_,_,.sl 20 [(sFor _ _ _ _).cells]]])=_
  rw [zLv]
theorem splS_n {s:St} {by_:Int} (o i:ByteArray) (f:Lf) (b:List St) (h:¬Int.tmod s.Many by_=0):vSts [splS s by_ o i f b]=.c (.sl 20 [[cI 1,cS o,cI (w64 (Int.tdiv (w64 (w64 (s.Many+by_)-1)) by_)),cI s.Mark,cI 0,.sl 4 [],cI 0,cS (bs []),cI 0,cI 0,cI 0,cI 0,cI 0,cI 0,cI 0,cI 0,.sl 2 [],.sl 4 [],.sl 13 [],.sl 20 [[cI 1,cS i,cI by_,cI 0,cI 0,.sl 4 [],cI 0,cS (bs []),cI 0,cI 0,cI 0,cI 0,cI 0,cI 0,cI 0,cI 0,.sl 2 [],.sl 4 [],.sl 13 [],.sl 20 [[cI 4,cS (bs []),cI 0,cI 0,cI 0,.sl 4 [],cI 13,cS (bs []),cI 0,cI 0,cI 0,cI 0,cI 0,cI 0,cI 0,cI 0,.sl 2 [],.sl 4 [],.sl 13 [(idxL f).cs,(idxL ⟨s.Many,[]⟩).cs],.sl 20 (b.map St.cells)]]]]]]):=by
  unfold splS splB
  rw [if_neg h]
  show V.c (C.sl 20 [(sFor _ _ _ _).cells])=_
  rw [zLv]
  show V.c (C.sl 20 [[cI 1,_,_,_,_,_,_,_,_,_,_,_,_,_,_,_,_,_,_,.sl 20 [(sFor _ _ _ _).cells]]])=_
  rw [zLv]
  show V.c (C.sl 20 [[cI 1,_,_,_,_,_,_,_,_,_,_,_,_,_,_,_,_,_,_,.sl 20 [[cI 1,_,_,_,_,_,_,_,_,_,_,_,_,_,_,_,_,_,_,.sl 20 [(sIf _ _).cells]]]]])=_
  rw [sIf_cs]
theorem peelS_x (s:St) (many m2:Int) (rest:ByteArray) (b:List St):vSts [cutS s many,sFor rest m2 s.Mark b]=.c (.sl 20 [[cI s.Op,cS s.Name,cI many,cI s.Mark,cI s.Fold,.sl 4 (s.Idx.map Ix.cells),cI s.E.Op,cS s.E.Name,cI s.E.Val.N,cI s.E.Val.D,cI s.E.Ty.Kind,cI s.E.Ty.Bits,cI s.E.Ty.Frac,cI s.E.Ty.Round,cI s.E.Ty.Over,cI s.E.Lin.K,.sl 2 (s.E.Lin.L.map Mono.cells),.sl 4 (s.E.Idx.map Ix.cells),.sl 13 (s.E.Args.map Ex.cells),.sl 20 (s.Body.map St.cells)],[cI 1,cS rest,cI m2,cI s.Mark,cI 0,.sl 4 [],cI 0,cS (bs []),cI 0,cI 0,cI 0,cI 0,cI 0,cI 0,cI 0,cI 0,.sl 2 [],.sl 4 [],.sl 13 [],.sl 20 (b.map St.cells)]]):=by
  show V.c (C.sl 20 [(cutS s many).cells,(sFor _ _ _ _).cells])=_
  rw [zLv,St.cells_eq];rfl
theorem zEx_wt:zEx.wt=1:=by simp [zEx,Ex.wt,idxWt,argsWt]
theorem sFor_wt (nm:ByteArray) (many mark:Int) (b:List St):(sFor nm many mark b).wt=2+stsWt b:=by
  have h:=St.wt_eq (sFor nm many mark b)
  simp only [sFor,St.E,St.Idx,St.Body,idxWt,List.length_nil,zEx_wt] at h⊢
  omega
theorem splS_wt (s:St) (by_:Int) (o i:ByteArray) (f:Lf) (b:List St):stsWt [splS s by_ o i f b]<=stsWt b+f.L.length+12:=by
  have h1:stsWt (splB s by_ f b)<=stsWt b+f.L.length+6:=by
    unfold splB
    split
    · omega
    · have h:=St.wt_eq (sIf (ltE f s.Many) b)
      have h2:(ltE f s.Many).wt=3+f.L.length:=by simp [ltE,idxL,Ex.wt,idxWt,argsWt];omega
      simp only [sIf,St.E,St.Idx,St.Body,idxWt,List.length_nil,h2] at h
      simp only [stsWt,sIf];omega
  unfold splS
  simp only [stsWt,sFor_wt];omega
theorem peelS_wt (s:St) (many m2:Int) (rest:ByteArray) (b:List St):stsWt [cutS s many,sFor rest m2 s.Mark b]<=s.wt+stsWt b+4:=by
  have h:(cutS s many).wt=s.wt:=by cases s;simp only [cutS,St.wt,St.Op,St.Name,St.Many,St.Mark,St.Fold,St.Idx,St.E,St.Body]
  simp only [stsWt,sFor_wt,h];omega
theorem locS_wt (n:Ns) (s:ByteArray):(locT n s).2.1.wt<=stsWt n.Body+2:=by
  unfold locT
  split
  · exact atT_wt
  · show zSt.wt<=_
    have h:=St.wt_eq zSt
    simp only [zSt,St.E,St.Idx,St.Body,idxWt,stsWt,List.length_nil,zEx_wt] at h⊢
    omega
theorem zAt:∀a b:List St,loopsL (a++b)=loopsL a++loopsL b
  |[],b=>rfl
  |x::r,b=>by rw [List.cons_append,loopsL,loopsL,zAt r b,List.append_assoc]
theorem loops_next {l:List St} {k:Nat} {x:St} (h:l[k]? =some x) (h1:loopsL (l.take k)=[]) (h2:¬x.Op=1) (h3:loopsL x.Body=[]):loopsL (l.take (k+1))=[]:=by
  rw [loopsL_next h,h1,loopNm,if_neg h2,h3];rfl
theorem loops_at {l:List St} {k:Nat} {x:St} (h:l[k]? =some x) (h2:x.Op=1∨¬loopsL x.Body=[]):¬loopsL l=[]:=by
  intro h0
  have e:l=l.take k++x::l.drop (k+1):=by rw [←qP h,List.take_append_drop]
  rw [e,zAt,loopsL,zCa] at h0
  simp only [List.append_eq_nil_iff] at h0
  rcases h2 with h2|h2
  · have h3:=h0.2.1.1
    rw [loopNm,if_pos h2] at h3;cases h3
  · exact h2 h0.2.1.2
theorem ok48:callOk Tryz.prog 48=true:=by kernel_rfl
theorem ok50:callOk Tryz.prog 50=true:=by kernel_rfl
theorem ok52:callOk Tryz.prog 52=true:=by kernel_rfl
theorem ok54:callOk Tryz.prog 54=true:=by kernel_rfl
theorem ok55:callOk Tryz.prog 55=true:=by kernel_rfl
theorem ok56:callOk Tryz.prog 56=true:=by kernel_rfl
theorem ok57:callOk Tryz.prog 57=true:=by kernel_rfl
theorem ok65:callOk Tryz.prog 65=true:=by kernel_rfl
theorem zEm (l:List St) (ih:∀s,s∈l->Pur cfg 65 [vSts s.Body] (vB (!decide (loopsL s.Body=[])))) (hl:stsWt l<=1000000000):
    Pur cfg 65 [vSts l] (vB (!decide (loopsL l=[]))):=by
 refine zQ Tryz.func65 O Tryz.ntmps65 Tryz.results65 O ?_
 intro z hz
 have hll:=kP l
 refine F O<|A O<|H<|zI<|F O<|A O<|qB O K<|A O<|H<|zS<|zV ⟨[(7,.c _),(5,.c _),(6,.c _)],[]⟩ (Weak.mk [] ⟨G,G,G,T⟩ O)<|qO 1 0 O O (Nat) (fun k=>[(7,vI k)]) (fun k=>[]) (fun k=>k<=l.length/\(loopsL (l.take k)=[])) (fun k=>l.length-k) ⟨0,⟨by omega,O⟩,Weak.mk [] ⟨G,G,G,T⟩ O⟩ ?_
 rintro k ⟨hk,hp⟩
 refine F O<|yN O<|H<|zI<|zD O (fun c1=>?_) (fun c1=>?_)
 ·try simp only [I] at c1
  obtain ⟨x,hx⟩:=qZ l k (by omega)
  refine zH<|zI<|zS<|F O<|qD O K (by omega) (kZ hx)<|zO zBw qA O<|zU O O (qC [none,none,none,none,none,some 4,none,none,none,none,none,none,none,none,none,none,some 2,some 4,some 13,some 20] O d O) ?_
  rintro _ _ ⟨b1,rfl,rfl⟩
  refine D 0 sz46 O<|H<|F O<|zJ O zBu<|zK J (R 0 O) O<|yZ O<|A O<|M O (fun g4_3=>zE O kN O) O<|B 15 O (fun g4_3=>Q O kM O (R 0 O) O) O<|B 16 O (fun g4_3=>qI O ok65 (ih x (zZ hx)) ⟨G,O,T⟩) O<|j O (fun h=>(lzf h))<|H<|zD O (fun c2=>?_) (fun c2=>?_)
  ·have c2:x.Op=1∨¬loopsL x.Body=[]:=by simpa using c2
   refine F O<|A O<|H<|o<|X O ?_
   rw [yL (loops_at hx c2)];rfl
  ·have c2:¬x.Op=1/\loopsL x.Body=[]:=by simpa using c2
   refine zH<|zT O<|qK O ⟨by omega,by omega⟩<|A O<|H ?_
   refine ⟨k+1,⟨by omega,loops_next hx hp c2.1 c2.2⟩,(by omega),Weak.mk [false] ⟨G,G,G,T⟩ O⟩
 ·try simp only [I] at c1
  refine qQ<|F O<|A O<|H<|o<|X O ?_
  rw [kG (by omega)] at hp;rw [wQ hp];rfl
theorem zLt (s:St) (hl:stsWt s.Body<=1000000000):Pur cfg 65 [vSts s.Body] (vB (!decide (loopsL s.Body=[]))):=by
  induction s using St.ind with
  |_ s ih=>exact zEm s.Body (fun a ha=>ih a ha (by have:=yG ha;have:=St.body_wt a;omega)) hl
theorem split_looped (l:List St) (hl:stsWt l<=1000000000):Pur cfg 65 [vSts l] (vB (!decide (loopsL l=[]))):=
  zEm l (fun s hs=>zLt s (by have:=yG hs;have:=St.body_wt s;omega)) hl
theorem zIw (n:Ns) (loop:ByteArray) (by_:Int) (outer inner:ByteArray) (hn:n.Ok) (hl:stsWt n.Body<=1000) (hr:allSs Lf.rng n.Body) (hb:r64 by_):
    Pur cfg 20 [vNs n,vS loop,vI by_,vS outer,vS inner] (.tup [vNs (splitT n loop by_ outer inner).1,vI (splitT n loop by_ outer inner).2]):=by
 refine zQ Tryz.func20 O Tryz.ntmps20 Tryz.results20 O ?_
 intro z hz
 obtain ⟨s,hs0⟩:∃s,(locT n loop).2.1=s:=⟨_,rfl⟩
 have hlw:=zPw n loop
 have hlr:=locT_rng (s:=loop) hr
 rw [hs0] at hlw hlr
 have hwl:=zJl n loop
 have hwN:=zDq n.Body
 obtain ⟨hfr,hfl⟩:=zQj by_ outer inner
 obtain ⟨hvo,hvol⟩:=zFe outer
 obtain ⟨hvi,hvil⟩:=zFe inner
 obtain ⟨hsc,hscl⟩:=zJx (varL outer) by_
 have hbw:=sbT_wt (s:=loop) (u:=formT by_ outer inner) (l:=s.Body) (by omega)
 refine F O<|zU O O (qL O O) ?_
 rintro _ _ ⟨b1,rfl,rfl⟩
 refine zU O O (qC [some 8,some 20] O U O) ?_
 rintro _ _ ⟨b2,rfl,rfl⟩
 refine A O<|H<|F O<|zO kF (R 1 O) O<|A O<|qG O ok48 (show Pur cfg 48 [vNs n,vS loop] (.tup [vIs (locT n loop).1,vSt s,vI (locE n loop)]) by have h:=zGn n loop hn;rw [locT_e,hs0] at h;exact h) ⟨G,O,G,O,T⟩<|qN O<|qU O<|zR O (qT O O O)<|qU O<|zU O O (qC [none,none,none,none,none,some 4,none,none,none,none,none,none,none,none,none,none,some 2,some 4,some 13,some 20] O d O) ?_
 rintro _ _ ⟨b3,rfl,rfl⟩
 refine A O<|D 0 sz46 O<|A O<|H<|zI<|zS<|F O<|A O<|yP O<|A O<|H<|zD O (fun c1=>?_) (fun c1=>?_)
 ·try simp only [I] at c1
  refine F O<|qV [some 8,some 20] O U pl25<|A O<|D 1 W O<|A O<|H<|o<|p (y kF O (R 1 O) O) (N O) ?_
  rw [splitT_0 c1];rfl
 ·try simp only [I] at c1
  refine F O<|A O<|yN O<|A O<|M O (fun g4_2=>w O O) O<|M O (fun g4_2=>zE O zAi O) O<|B 39 O (fun g4_2=>Q O J O (R 0 O) O) O<|rLz [(38,_),(40,_)] O gv1 ⟨O,O,O,O,T⟩ (fun g4_2=>yW O O O) O<|j O (fun h=>(lzf h))<|A O<|H<|zD O (fun c2=>?_) (fun c2=>?_)
  ·try simp only [I] at c2
   refine F O<|qV [some 8,some 20] O U pl25<|D 1 W O<|A O<|H<|o<|p (y kF O (R 1 O) O) (N O) ?_
   rw [zNu hs0 c1 (splE_1 c2) (by decide)];rfl
  ·try simp only [I] at c2
   have c2:¬(by_<1∨s.Many<by_):=by omega
   refine F O<|A O<|qG O ok49 (zAa _) ⟨G,O,T⟩<|kY O<|A O<|M O (fun g6_3=>w O O) O<|B 49 O (fun g6_3=>qI O ok49 (zAa _) ⟨G,O,T⟩) O<|B 50 O (fun g6_3=>wC O O) O<|j O (fun h=>(lzf h))<|A O<|H<|zD O (fun c3=>?_) (fun c3=>?_)
   ·have c3:(!isNameB outer|| !isNameB inner)=true:=c3
    refine F O<|qV [some 8,some 20] O U pl25<|D 1 W O<|A O<|H<|o<|p (y kF O (R 1 O) O) (N O) ?_
    rw [zNu hs0 c1 (splE_2 c2 c3) (by decide)];rfl
   ·have c3:(!isNameB outer|| !isNameB inner)=false:=c3
    refine F O<|A O<|A O<|zR O (yM O O O)<|A O<|M O (fun g8_3=>w O O) O<|M O (fun g8_3=>w O O) O<|rLz [(59,_),(60,_)] O gv1 ⟨O,O,O,O,T⟩ (fun g8_3=>zCw O O O) O<|B 61 O (fun g8_3=>w O O) O<|rLz [] O gv2 T (fun g8_7=>zX O kF O (R 2 O) O) O<|rLz [] O gv2 T (fun g8_7=>w O O) O<|rLz [(63,_),(64,_)] O gv2 ⟨O,O,O,O,T⟩ (fun g8_7=>qI O ok50 (zFh _ _ (by omega)) ⟨G,O,G,O,T⟩) O<|B 62 O (fun g8_3=>wX O O O (fun h=>kK (by assumption) h) O) O<|j O (fun h=>(lzf h))<|A O<|M O (fun g8_13=>w O O) O<|M O (fun g8_13=>w O O) O<|rLz [(69,_),(70,_)] O gv1 ⟨O,O,O,O,T⟩ (fun g8_13=>zCw O O O) O<|B 71 O (fun g8_13=>w O O) O<|rLz [] O gv2 T (fun g8_17=>zX O kF O (R 2 O) O) O<|rLz [] O gv2 T (fun g8_17=>w O O) O<|rLz [(73,_),(74,_)] O gv2 ⟨O,O,O,O,T⟩ (fun g8_17=>qI O ok50 (zFh _ _ (by omega)) ⟨G,O,G,O,T⟩) O<|B 72 O (fun g8_13=>wX O O O (fun h=>kK (by assumption) h) O) O<|j O (fun h=>(lzf h))<|A O<|H<|zD O (fun c4=>?_) (fun c4=>?_)
    ·have c4:dupT n loop outer inner=true:=c4
     refine F O<|qV [some 8,some 20] O U pl25<|D 1 W O<|A O<|H<|o<|p (y kF O (R 1 O) O) (N O) ?_
     rw [zNu hs0 c1 (splE_3 c2 c3 c4) (by decide)];rfl
    ·have c4:dupT n loop outer inner=false:=c4
     refine zH<|F O<|A O<|qG O ok52 (lin_Var _) ⟨G,O,T⟩<|A O<|qG O ok51 (zPy (varL outer) by_ (by omega) hvo hb) ⟨G,O,G,O,T⟩<|qN O<|zR O (qT O O O)<|qU O<|zU O O (qC [none,some 2] O zr41 O) ?_
     rintro _ _ ⟨b4,rfl,rfl⟩
     refine D 0 sz41 O<|A O<|H<|zI<|kS 9 1 [⟨0,.q [1]⟩,⟨1,.q []⟩,⟨2,.q []⟩,⟨3,.q []⟩,⟨4,.q []⟩,⟨5,.q []⟩,⟨6,.q []⟩,⟨7,.e 0 []⟩,⟨8,.e 0 []⟩] mixed (by kernel_rfl) (by kernel_rfl) O O O<|t O<|t O<|t O<|t O<|t O<|t O<|t O<|t O<|t O<|zDg<|qF O (by decide) O O (zX O kE O (R 0 O) O)<|qF O (by decide) O O (w O O)<|qF O (by decide) O O (qI O ok52 (lin_Var _) ⟨G,O,T⟩)<|qF O (by decide) O O (qI O ok53 (show Pur cfg 53 [vLin (scaleL (varL outer) by_).1,vLin (varL inner)] (.tup [vLin (formT by_ outer inner),vI (addL (scaleL (varL outer) by_).1 (varL inner)).2]) from lin_Add (scaleL (varL outer) by_).1 (varL inner) (by omega) (by omega) hsc hvi) ⟨G,O,G,O,T⟩)<|qF O (by decide) O O (kQ O O)<|qF O (by decide) O O (qT O O O)<|qF O (by decide) O O (wP O O O)<|zNd O O (by decide) O O (qC [none,some 2] O zr41 O) ?_
     rintro _ _ ⟨b5,rfl,rfl⟩
     refine ⟨_,O,?_⟩
     refine zIm O O (by decide) O O (yO O sz41 O O O (zIk 0 O O)) ?_
     rintro _ _ ⟨rfl,rfl⟩
     refine ⟨_,O,?_⟩
     refine zDf O<|A O<|H<|F O<|zJ O kN<|zK kM (R 2 O) O<|A O<|zO kE (R 0 O) O<|qG O ok54 (zAe s.Body loop (formT by_ outer inner) (by omega) hfr (by omega) hlr) ⟨G,O,G,O,G,O,T⟩<|qN O<|qU O<|qU O<|A O<|A O<|H<|zI<|F O<|A O<|yP O<|H<|zD O (fun c5=>?_) (fun c5=>?_)
     ·try simp only [I] at c5
      refine F O<|qV [some 8,some 20] O U pl25<|A O<|D 3 W O<|A O<|H<|o<|p (y kF O (R 3 O) O) (N O) ?_
      rw [zNu hs0 c1 (splE_4 c2 c3 c4) c5];rfl
     ·try simp only [I] at c5
      refine zH<|zI<|F O<|zJ O zAi<|zK J (R 2 O) O<|A O<|zR O (det_rem O O O (by omega))<|yP O<|H<|zD O (fun c6=>?_) (fun c6=>?_)
      ·try simp only [I] at c6
       refine zI<|kS 9 1 [⟨0,.q [1]⟩,⟨1,.q []⟩,⟨2,.q []⟩,⟨3,.q [3]⟩,⟨4,.q []⟩,⟨5,.q []⟩,⟨6,.q []⟩,⟨7,.q []⟩,⟨8,.f 0⟩] mixed (by kernel_rfl) (by kernel_rfl) O O O<|t O<|t O<|t O<|t O<|t O<|t O<|t O<|t O<|fx_fresh O O (zHg (qC [none,none,none,none,none,none,none,none,none,none,some 2,some 4,some 13] O zr44 O)) ⟨_,_,0,O,O⟩<|zDg<|qF O (by decide) O O (zX O kE O (R 0 O) O)<|qF O (by decide) O O (qI O ok55 (zOx _) ⟨G,O,T⟩)<|qF O (by decide) O O (zE O zAi O)<|qF O (by decide) O O (Q O J O (R 0 O) O)<|qF O (by decide) O O (qI O ok56 (zPz _) ⟨G,O,T⟩)<|qF O (by decide) O O (qI O ok55 (zOx _) ⟨G,O,T⟩)<|qF O (by decide) O O (qW O el42 zr44 O O O O)<|qF O (by decide) O O (zEy [none,none,none,none,none,none,none,none,none,none,some 2,some 4,none] O zr44 pl44 O O)<|sq_fresh O O ?_
       rintro _ _ ⟨b6,rfl,rfl⟩
       refine zDf O<|D 0 sz44 O<|H<|zT O<|zO kL (R 0 O) O<|A O<|qV [none,none,none,none,none,some 4,none,none,none,none,none,none,none,none,none,none,none,none,none,none] O d pl46<|zR O (qW O K d O O O O)<|A O<|H<|F O<|A O<|A O<|A O<|qV [none,none,none,none,none,some 4,none,none,none,none,none,none,none,none,none,none,some 2,some 4,some 13,none] O d pl46<|zU O O (qC [none,none,none,none,none,some 4,none,none,none,none,none,none,none,none,none,none,some 2,some 4,some 13,some 20] O d O) ?_
       rintro _ _ ⟨b7,rfl,rfl⟩
       refine D 0 sz46 O<|H<|zI<|qY 19 mixed (by kernel_rfl) O O<|Y O O (zX O kF O (R 6 O) O)<|Y O O (w O O)<|Y O O (w O O)<|Y O O (zE O zAi O)<|Y O O (Q O J O (R 4 O) O)<|Y O O (w O O)<|Y O O (zJh O O O)<|Y O O (zMk O O O)<|Y O O (w O O)<|Y O O (zMl O O O (by omega))<|Y O O (zE O zKs O)<|Y O O (Q O J O (R 4 O) O)<|Y O O (zX O zBw O (R 0 O) O)<|Y O O (qW O K d O O O O)<|Y O O (zEy [none,none,none,none,none,some 4,none,none,none,none,none,none,none,none,none,none,some 2,some 4,some 13,none] O d pl46 O O)<|Y O O (qW O K d O O O O) ?_
       refine Y O O (qI O ok57 (zDx n (wayF n loop) [splS s by_ outer inner (formT by_ outer inner) (outS (sbT loop (formT by_ outer inner) s.Body))] hn (by have:=splS_wt s by_ outer inner (formT by_ outer inner) (outS (sbT loop (formT by_ outer inner) s.Body));omega) (by omega)) ⟨G,O,VLe.of_eq (congrArg vIs (locT_w c1)),O,VLe.of_eq (by first|exact (splS_y outer inner _ _ (by simpa using c6)).symm|exact (splS_n outer inner _ _ (by simpa using c6)).symm),O,T⟩)<|Y O O (qT O O O)<|Y O O (wP O O O)<|kH<|D 5 W O<|A O<|H<|o<|p (y kF O (R 5 O) O) (N O) ?_
       rw [splitT_2 hs0 c1 ((splE_4 c2 c3 c4).trans c5)];rfl
      ·try simp only [I] at c6
       refine zH<|F O<|A O<|A O<|A O<|qV [none,none,none,none,none,some 4,none,none,none,none,none,none,none,none,none,none,some 2,some 4,some 13,none] O d pl46<|zU O O (qC [none,none,none,none,none,some 4,none,none,none,none,none,none,none,none,none,none,some 2,some 4,some 13,some 20] O d O) ?_
       rintro _ _ ⟨b8,rfl,rfl⟩
       refine D 0 sz46 O<|H<|zI<|qY 19 mixed (by kernel_rfl) O O<|Y O O (zX O kF O (R 5 O) O)<|Y O O (w O O)<|Y O O (w O O)<|Y O O (zE O zAi O)<|Y O O (Q O J O (R 3 O) O)<|Y O O (w O O)<|Y O O (zJh O O O)<|Y O O (zMk O O O)<|Y O O (w O O)<|Y O O (zMl O O O (by omega))<|Y O O (zE O zKs O)<|Y O O (Q O J O (R 3 O) O)<|Y O O (zX O zBw O (R 0 O) O)<|Y O O (qW O K d O O O O)<|Y O O (zEy [none,none,none,none,none,some 4,none,none,none,none,none,none,none,none,none,none,some 2,some 4,some 13,none] O d pl46 O O)<|Y O O (qW O K d O O O O) ?_
       refine Y O O (qI O ok57 (zDx n (wayF n loop) [splS s by_ outer inner (formT by_ outer inner) (outS (sbT loop (formT by_ outer inner) s.Body))] hn (by have:=splS_wt s by_ outer inner (formT by_ outer inner) (outS (sbT loop (formT by_ outer inner) s.Body));omega) (by omega)) ⟨G,O,VLe.of_eq (congrArg vIs (locT_w c1)),O,VLe.of_eq (by first|exact (splS_y outer inner _ _ (by simpa using c6)).symm|exact (splS_n outer inner _ _ (by simpa using c6)).symm),O,T⟩)<|Y O O (qT O O O)<|Y O O (wP O O O)<|kH<|D 4 W O<|A O<|H<|o<|p (y kF O (R 4 O) O) (N O) ?_
       rw [splitT_2 hs0 c1 ((splE_4 c2 c3 c4).trans c5)];rfl
theorem split_Peel (n:Ns) (loop:ByteArray) (many:Int) (rest:ByteArray) (hn:n.Ok) (hl:stsWt n.Body<=1000) (hr:allSs Lf.rng n.Body) (hb:r64 many):
    Pur cfg 22 [vNs n,vS loop,vI many,vS rest] (.tup [vNs (peelT n loop many rest).1,vI (peelT n loop many rest).2]):=by
 refine zQ Tryz.func22 O Tryz.ntmps22 Tryz.results22 O ?_
 intro z hz
 obtain ⟨s,hs0⟩:∃s,(locT n loop).2.1=s:=⟨_,rfl⟩
 have hlw:=zPw n loop
 have hlr:=locT_rng (s:=loop) hr
 rw [hs0] at hlw hlr
 have hwl:=zJl n loop
 have hwN:=zDq n.Body
 obtain ⟨hfr,hfl⟩:=peelF_rng many rest
 have hsw:=locS_wt n loop
 rw [hs0] at hsw
 obtain ⟨hvo,hvol⟩:=zFe rest
 have hbw:=sbT_wt (s:=loop) (u:=peelF many rest) (l:=s.Body) (by omega)
 refine F O<|zU O O (qL O O) ?_
 rintro _ _ ⟨b1,rfl,rfl⟩
 refine zU O O (qC [some 8,some 20] O U O) ?_
 rintro _ _ ⟨b2,rfl,rfl⟩
 refine A O<|H<|F O<|zO kF (R 1 O) O<|A O<|qG O ok48 (show Pur cfg 48 [vNs n,vS loop] (.tup [vIs (locT n loop).1,vSt s,vI (locE n loop)]) by have h:=zGn n loop hn;rw [locT_e,hs0] at h;exact h) ⟨G,O,G,O,T⟩<|qN O<|qU O<|zR O (qT O O O)<|qU O<|zU O O (qC [none,none,none,none,none,some 4,none,none,none,none,none,none,none,none,none,none,some 2,some 4,some 13,some 20] O d O) ?_
 rintro _ _ ⟨b3,rfl,rfl⟩
 refine A O<|D 0 sz46 O<|A O<|H<|zI<|zS<|F O<|A O<|yP O<|A O<|H<|zD O (fun c1=>?_) (fun c1=>?_)
 ·try simp only [I] at c1
  refine F O<|qV [some 8,some 20] O U pl25<|A O<|D 1 W O<|A O<|H<|o<|p (y kF O (R 1 O) O) (N O) ?_
  rw [peelT_0 c1];rfl
 ·try simp only [I] at c1
  refine F O<|zJ O kN<|zK kM (R 0 O) O<|qG O ok65 (split_looped s.Body (by omega)) ⟨G,O,T⟩<|A O<|H<|zD O (fun c2=>?_) (fun c2=>?_)
  ·try simp only [I] at c2
   have c2:¬loopsL s.Body=[]:=by simpa using c2
   refine F O<|qV [some 8,some 20] O U pl25<|D 1 W O<|A O<|H<|o<|p (y kF O (R 1 O) O) (N O) ?_
   rw [zPg hs0 c1 (peelE_1 c2) (by decide)];rfl
  ·try simp only [I] at c2
   have c2:loopsL s.Body=[]:=by simpa using c2
   refine F O<|A O<|yN O<|A O<|M O (fun g6_2=>w O O) O<|M O (fun g6_2=>zE O zAi O) O<|B 39 O (fun g6_2=>Q O J O (R 0 O) O) O<|rLz [(38,_),(40,_)] O gv1 ⟨O,O,O,O,T⟩ (fun g6_2=>wK O O O) O<|j O (fun h=>(lzf h))<|A O<|H<|zD O (fun c3=>?_) (fun c3=>?_)
   ·try simp only [I] at c3
    refine F O<|qV [some 8,some 20] O U pl25<|D 1 W O<|A O<|H<|o<|p (y kF O (R 1 O) O) (N O) ?_
    rw [zPg hs0 c1 (peelE_2 c2 c3) (by decide)];rfl
   ·try simp only [I] at c3
    have c3:¬(many<1∨s.Many<=many):=by omega
    refine F O<|A O<|qG O ok49 (zAa _) ⟨G,O,T⟩<|kY O<|A O<|H<|zD O (fun c4=>?_) (fun c4=>?_)
    ·try simp only [I] at c4
     have c4:isNameB rest=false:=by simpa using c4
     refine F O<|qV [some 8,some 20] O U pl25<|D 1 W O<|A O<|H<|o<|p (y kF O (R 1 O) O) (N O) ?_
     rw [zPg hs0 c1 (peelE_3 c2 c3 c4) (by decide)];rfl
    ·try simp only [I] at c4
     have c4:isNameB rest=true:=by simpa using c4
     refine F O<|zO kF (R 2 O) O<|A O<|qG O ok50 (zFh _ _ (by omega)) ⟨G,O,G,O,T⟩<|A O<|H<|zD O (fun c5=>?_) (fun c5=>?_)
     ·try simp only [I] at c5
      refine F O<|qV [some 8,some 20] O U pl25<|D 1 W O<|A O<|H<|o<|p (y kF O (R 1 O) O) (N O) ?_
      rw [zPg hs0 c1 (peelE_4 c2 c3 c4 c5) (by decide)];rfl
     ·try simp only [I] at c5
      refine zH<|F O<|A O<|qG O ok52 (lin_Var _) ⟨G,O,T⟩<|A O<|qG O ok56 (zPz _) ⟨G,O,T⟩<|qG O ok53 (show Pur cfg 53 [vLin (varL rest),vLin ⟨many,[]⟩] (.tup [vLin (peelF many rest),vI (addL (varL rest) ⟨many,[]⟩).2]) from lin_Add (varL rest) ⟨many,[]⟩ (by omega) (by show 0<=_;omega) hvo ⟨hb,fun m hm=>by cases hm⟩) ⟨G,O,G,O,T⟩<|qN O<|zR O (qT O O O)<|qU O<|zU O O (qC [none,some 2] O zr41 O) ?_
      rintro _ _ ⟨b4,rfl,rfl⟩
      refine D 0 sz41 O<|A O<|H<|F O<|zJ O kN<|zK kM (R 1 O) O<|A O<|zO kE (R 0 O) O<|qG O ok54 (zAe s.Body loop (peelF many rest) (by omega) hfr (by omega) hlr) ⟨G,O,G,O,G,O,T⟩<|qN O<|qU O<|qU O<|A O<|A O<|H<|zI<|F O<|A O<|yP O<|H<|zD O (fun c6=>?_) (fun c6=>?_)
      ·try simp only [I] at c6
       refine F O<|qV [some 8,some 20] O U pl25<|A O<|D 2 W O<|A O<|H<|o<|p (y kF O (R 2 O) O) (N O) ?_
       rw [zPg hs0 c1 (peelE_5 c2 c3 c4 c5) c6];rfl
      ·try simp only [I] at c6
       refine zH<|F O<|A O<|zJ O zAi<|zK J (R 1 O) O<|A O<|zR O (zMk O O O)<|zJ O zKs<|zK J (R 1 O) O<|A O<|qV [none,none,none,none,none,some 4,none,none,none,none,none,none,none,none,none,none,some 2,some 4,some 13,none] O d pl46<|zU O O (qC [none,none,none,none,none,some 4,none,none,none,none,none,none,none,none,none,none,some 2,some 4,some 13,some 20] O d O) ?_
       rintro _ _ ⟨b5,rfl,rfl⟩
       refine D 0 sz46 O<|H<|F O<|A O<|zJ O zAi<|D 2 sz3 O<|H<|F O<|zO kF (R 4 O) O<|A O<|zO zBw (R 2 O) O<|zO zBw (R 0 O) O<|zR O (qW O K d O O O O) ?_
       refine qG O ok57 (zDx n (wayF n loop) [cutS s many,sFor rest (w64 (s.Many-many)) s.Mark (outS (sbT loop (peelF many rest) s.Body))] hn (by have:=peelS_wt s many (w64 (s.Many-many)) rest (outS (sbT loop (peelF many rest) s.Body));omega) (by omega)) ⟨G,O,VLe.of_eq (congrArg vIs (locT_w c1)),O,VLe.of_eq ((peelS_x s many _ rest _).symm),O,T⟩<|zR O (qT O O O)<|qU O<|D 3 W O<|A O<|H<|o<|p (y kF O (R 3 O) O) (N O) ?_
       rw [peelT_2 hs0 c1 ((peelE_5 c2 c3 c4 c5).trans c6)];rfl
end Go.W
end
section
set_option maxRecDepth 10000
namespace Go.W
open Go Go.Eng Go.Proofs Go.L41 Go.Br
attribute [local irreducible] AWP RWP TD finQ
theorem node_P {P:Lf->Prop} {e x:Ex} (h:e.allF P) (hx:x∈nodes e):P x.Lin/\ixsAll P x.Idx:=
  ⟨h x hx _ (by unfold formsL;simp),fun y hy=>⟨h x hx _ (by unfold formsL;exact List.mem_cons_of_mem _ (List.mem_flatMap.2 ⟨y,hy,by simp⟩)),fun l hl=>h x hx _ (by unfold formsL;exact List.mem_cons_of_mem _ (List.mem_flatMap.2 ⟨y,hy,by simp [hl]⟩))⟩⟩
theorem ev_ix1 {f:Lf->Bool} {i:List Ix} {k:Nat} {x:Ix} (h:i[k]? =some x) (c:(f x.Lin&&x.At.all f)=false):ixEv f i=false:=all_no h (p:=fun x:Ix=>f x.Lin&&x.At.all f) c
theorem ev_next {f:Lf->Bool} {i:List Ix} {k:Nat} {x:Ix} (h:i[k]? =some x) (hp:ixEv f (i.take k)=true) (c:f x.Lin=true) (c2:x.At.all f=true):ixEv f (i.take (k+1))=true:=by
  unfold ixEv at hp⊢
  rw [yH h,List.all_append,hp];simp [c,c2]
theorem evL_app (f:Lf->Bool):∀a b:List St,evL f (a++b)=(evL f a&&evL f b)
  |[],b=>by rw [evL];rfl
  |x::r,b=>by rw [List.cons_append,evL,evL,evL_app f r b,Bool.and_assoc]
theorem evS_eq (f:Lf->Bool) (s:St):evS f s=(ixEv f s.Idx&&evL f s.Body&&exEv f s.E):=by cases s;rw [evS];rfl
theorem evL_next {f:Lf->Bool} {l:List St} {k:Nat} {s:St} (h:l[k]? =some s) (hp:evL f (l.take k)=true) (c:(!ixEv f s.Idx|| !evL f s.Body)=false) (d:exEv f s.E=true):evL f (l.take (k+1))=true:=by
  rw [←Bool.not_and] at c
  have c':(ixEv f s.Idx&&evL f s.Body)=true:=by simpa using c
  rw [yH h,evL_app,hp,evL,evS_eq,c',d,evL];rfl
theorem evL_no {f:Lf->Bool} {l:List St} {k:Nat} {s:St} (h:l[k]? =some s) (c:evS f s=false):evL f l=false:=by
  have e:l=l.take k++s::l.drop (k+1):=by rw [←qP h,List.take_append_drop]
  rw [e,evL_app,evL,c];simp
theorem evS_1 {f:Lf->Bool} {s:St} (c:(!ixEv f s.Idx|| !evL f s.Body)=true):evS f s=false:=by
  rw [←Bool.not_and] at c
  rw [evS_eq]
  have c':(ixEv f s.Idx&&evL f s.Body)=false:=by rw [Bool.not_eq_true'] at c;exact c
  rw [c'];rfl
theorem ev_ret {f:Lf->Bool} {pre:List Ex} {x:Ex} (hi:(pre.all fun a=>f a.Lin&&ixEv f a.Idx)=true) (c:(!f x.Lin|| !ixEv f x.Idx)=true):((pre++[x]).all fun a=>f a.Lin&&ixEv f a.Idx)=false:=by
  rw [←Bool.not_and,Bool.not_eq_true'] at c
  rw [List.all_append,hi,List.all_cons,c];rfl
theorem evS_2 {f:Lf->Bool} {s:St} (c:exEv f s.E=false):evS f s=false:=by rw [evS_eq,c,Bool.and_false]
theorem linsWt_0 {g:Lf->Lf} (hg:∀l,(g l).L.length<=l.L.length):∀l:List Lf,linsWt (l.map g)<=linsWt l
  |[]=>by simp [linsWt]
  |x::r=>by rw [List.map_cons,linsWt,linsWt];have:=linsWt_0 hg r;have:=hg x;omega
theorem idxWt_0 {g:Lf->Lf} (hg:∀l,(g l).L.length<=l.L.length):∀l:List Ix,idxWt (l.map (gIx g))<=idxWt l
  |[]=>by simp [idxWt]
  |x::r=>by
    rw [List.map_cons,idxWt,idxWt]
    have h1:=idxWt_0 hg r
    have h2:(gIx g x).wt<=x.wt:=by
      unfold gIx Ix.wt
      have h3:=linsWt_0 hg x.At
      have h4:=hg x.Lin
      simp only [List.length_map];omega
    omega
mutual
theorem gSt_0 {g:Lf->Lf} {r:ByteArray->ByteArray} (hg:∀l,(g l).L.length<=l.L.length):∀s:St,(gSt g r s).wt<=s.wt
  |.mk o nm mn mk fo i e b=>by
    rw [gSt,St.wt,St.wt,List.length_map]
    have h1:=idxWt_0 hg i
    have h2:=wt_g (c:=0) (fun l=>by have:=hg l;omega) e
    have h3:=gSts_0 (r:=r) hg b
    omega
theorem gSts_0 {g:Lf->Lf} {r:ByteArray->ByteArray} (hg:∀l,(g l).L.length<=l.L.length):∀l:List St,stsWt (gSts g r l)<=stsWt l
  |[]=>by rw [gSts];simp [stsWt]
  |s::t=>by rw [gSts,stsWt,stsWt];have:=gSt_0 (r:=r) hg s;have:=gSts_0 (r:=r) hg t;omega
end
theorem sbT0_wt {s:ByteArray} {l:List St}:stsWt (outS (sbT s ⟨0,[]⟩ l))<=stsWt l:=by
  cases h:sbT s ⟨0,[]⟩ l with
  |error y=>show stsWt []<=_;simp [stsWt]
  |ok a=>
    show stsWt a<=_
    rw [zMu h]
    exact gSts_0 (fun l=>by have:=substR_len l ⟨0,[]⟩ s;exact this) l
mutual
theorem sbS_rng {g:Lf->Lf} {r:ByteArray->ByteArray} (hg:∀l,l.rng->(g l).rng):∀s:St,s.allF Lf.rng->(gSt g r s).allF Lf.rng
  |.mk o nm mn mk fo i e b,h=>by
    rw [St.allF] at h
    rw [gSt,St.allF]
    refine ⟨fun x hx=>?_,allF_g fun x hx l hl=>hg _ (h.2.1 x hx l hl),sbL_rng hg b h.2.2⟩
    obtain ⟨y,hy,rfl⟩:=List.mem_map.1 hx
    refine ⟨hg _ (h.1 y hy).1,fun l hl=>?_⟩
    obtain ⟨k,hk,rfl⟩:=List.mem_map.1 hl
    exact hg _ ((h.1 y hy).2 k hk)
theorem sbL_rng {g:Lf->Lf} {r:ByteArray->ByteArray} (hg:∀l,l.rng->(g l).rng):∀l:List St,allSs Lf.rng l->allSs Lf.rng (gSts g r l)
  |[],_=>by rw [gSts,allSs];trivial
  |s::t,h=>by
    rw [allSs] at h
    rw [gSts,allSs]
    exact ⟨sbS_rng hg s h.1,sbL_rng hg t h.2⟩
end
theorem sbT_rng (s:ByteArray) (u:Lf) {l:List St} (h:allSs Lf.rng l):allSs Lf.rng (outS (sbT s u l)):=by
  cases c:sbT s u l with
  |error y=>show allSs Lf.rng [];rw [allSs];trivial
  |ok a=>
    show allSs Lf.rng a
    rw [zMu c]
    exact sbL_rng (fun l hl=>zHs s hl) l h
theorem colE_1 {n:Ns} {s inn:St} {outer nm:ByteArray} (hi:s.Body.getD 0 zSt=inn) (h:¬(s.Body.length=1/\inn.Op=1)):colE n s outer nm=19:=by unfold colE;rw [hi,if_neg h]
theorem colE_2 {n:Ns} {s inn:St} {outer nm:ByteArray} (hi:s.Body.getD 0 zSt=inn) (h:s.Body.length=1/\inn.Op=1) (h2:isNameB nm=false):colE n s outer nm=7:=by unfold colE;rw [hi,if_pos h,if_pos h2]
theorem colE_3 {n:Ns} {s inn:St} {outer nm:ByteArray} (hi:s.Body.getD 0 zSt=inn) (h:s.Body.length=1/\inn.Op=1) (h2:isNameB nm=true) (h3:((!decide (nm=outer)&& !decide (nm=inn.Name))&&takN n nm)=true):colE n s outer nm=8:=by unfold colE;rw [hi,if_pos h,if_neg (by rw [h2];simp),if_pos h3]
theorem colE_4 {n:Ns} {s inn:St} {outer nm:ByteArray} (hi:s.Body.getD 0 zSt=inn) (h:s.Body.length=1/\inn.Op=1) (h2:isNameB nm=true) (h3:((!decide (nm=outer)&& !decide (nm=inn.Name))&&takN n nm)=false) (h4:w64 (Int.tdiv 65536 inn.Many)<s.Many):colE n s outer nm=2:=by unfold colE;rw [hi,if_pos h,if_neg (by rw [h2];simp),if_neg (by rw [h3];simp),if_pos h4]
theorem colE_5 {n:Ns} {s inn:St} {outer nm:ByteArray} (hi:s.Body.getD 0 zSt=inn) (h:s.Body.length=1/\inn.Op=1) (h2:isNameB nm=true) (h3:((!decide (nm=outer)&& !decide (nm=inn.Name))&&takN n nm)=false) (h4:¬w64 (Int.tdiv 65536 inn.Many)<s.Many) (h5:evL (linC outer inn.Name inn.Many) inn.Body=false):colE n s outer nm=19:=by unfold colE;rw [hi,if_pos h,if_neg (by rw [h2];simp),if_neg (by rw [h3];simp),if_neg h4,if_pos h5]
theorem colE_6 {n:Ns} {s inn:St} {outer nm:ByteArray} (hi:s.Body.getD 0 zSt=inn) (h:s.Body.length=1/\inn.Op=1) (h2:isNameB nm=true) (h3:((!decide (nm=outer)&& !decide (nm=inn.Name))&&takN n nm)=false) (h4:¬w64 (Int.tdiv 65536 inn.Many)<s.Many) (h5:evL (linC outer inn.Name inn.Many) inn.Body=true):
    colE n s outer nm=if errE (sbT outer ⟨0,[]⟩ inn.Body)=0 then errE (sbT inn.Name (varL nm) (outS (sbT outer ⟨0,[]⟩ inn.Body))) else errE (sbT outer ⟨0,[]⟩ inn.Body):=by unfold colE;rw [hi,if_pos h,if_neg (by rw [h2];simp),if_neg (by rw [h3];simp),if_neg h4,if_neg (by rw [h5];simp)]
theorem colT_0 {n:Ns} {outer nm:ByteArray} (h:¬locE n outer=0):colT n outer nm=(zNs,locE n outer):=if_neg h
theorem zRc {n:Ns} {s:St} {outer nm:ByteArray} {e:Int} (hs:(locT n outer).2.1=s) (h:locE n outer=0) (he:colE n s outer nm=e) (h0:¬e=0):colT n outer nm=(zNs,e):=by unfold colT;rw [if_pos h,hs,he,if_neg h0]
theorem colT_2 {n:Ns} {s:St} {outer nm:ByteArray} (hs:(locT n outer).2.1=s) (h:locE n outer=0) (he:colE n s outer nm=0):colT n outer nm=finT n (wayF n outer) [colS s outer nm]:=by unfold colT;rw [if_pos h,hs,if_pos he]
theorem colS_x {s inn:St} (hi:s.Body.getD 0 zSt=inn) (outer nm:ByteArray):vSts [colS s outer nm]=.c (.sl 20 [[cI 1,cS nm,cI (w64 (s.Many*inn.Many)),cI s.Mark,cI 0,.sl 4 [],cI 0,cS (bs []),cI 0,cI 0,cI 0,cI 0,cI 0,cI 0,cI 0,cI 0,.sl 2 [],.sl 4 [],.sl 13 [],.sl 20 ((outS (sbT inn.Name (varL nm) (outS (sbT outer ⟨0,[]⟩ inn.Body)))).map St.cells)]]):=by
  unfold colS
  rw [hi]
  show V.c (C.sl 20 [(sFor _ _ _ _).cells])=_
  rw [zLv]
theorem colS_wt {s inn:St} (hi:s.Body.getD 0 zSt=inn) (outer nm:ByteArray):stsWt [colS s outer nm]=stsWt (outS (sbT inn.Name (varL nm) (outS (sbT outer ⟨0,[]⟩ inn.Body))))+2:=by
  unfold colS
  rw [hi]
  simp only [stsWt,sFor_wt];omega
theorem get_0 {l:List St} (h:0<l.length):l[0]? =some (l.getD 0 zSt):=by
  rw [List.getD_eq_getElem?_getD,List.getElem?_eq_getElem h];rfl
theorem ok69:callOk Tryz.prog 69=true:=by kernel_rfl
theorem ok70:callOk Tryz.prog 70=true:=by kernel_rfl
theorem ok71:callOk Tryz.prog 71=true:=by kernel_rfl
theorem ok122:callOk Tryz.prog 122=true:=by kernel_rfl
theorem one114:oneT Tryz.prog 114=true:=by kernel_rfl
theorem one157:oneT Tryz.prog 157=true:=by kernel_rfl
theorem sz157:(Tryz.prog.info? 157).map (·.size)=some 1:=by kernel_rfl
theorem zr2:zeroT Tryz.prog 2=some [(Value.int IntKind.i64 0)]:=by kernel_rfl
theorem zr157:zeroT Tryz.prog 157=some [Value.nilFunc]:=by kernel_rfl
theorem lin_Coeff (l:Lf) (s:ByteArray) (hl:l.L.length<=6000000000000):
    Pur cfg 71 [vLin l,vS s] (vI (coeffL l.L s)):=by
 refine zQ Tryz.func71 O Tryz.ntmps71 Tryz.results71 O ?_
 intro z hz
 refine F O<|zU O O (qL O O) ?_
 rintro _ _ ⟨b1,rfl,rfl⟩
 refine A O<|H<|zI<|F O<|zJ O wU<|zK zDl (R 0 O) O<|qB O P<|A O<|H<|zS<|zV ⟨[(10,.c _),(1,.c _),(8,.c _),(9,.c _)],[]⟩ (Weak.mk [false] ⟨G,G,G,G,T⟩ O)<|qO 1 0 O O (Nat) (fun k=>[(10,vI k)]) (fun k=>[]) (fun k=>k<=l.L.length/\(coeffL l.L s=coeffL (l.L.drop k) s)) (fun k=>l.L.length-k) ⟨0,⟨by omega,O⟩,Weak.mk [] ⟨G,G,G,G,T⟩ O⟩ ?_
 rintro k ⟨hk,hp⟩
 refine F O<|yN O<|H<|zI<|zD O (fun c1=>?_) (fun c1=>?_)
 ·try simp only [I] at c1
  obtain ⟨x,hx⟩:=qZ l.L k (by omega)
  refine zH<|zI<|zS<|F O<|qD O P (by omega) (v (by assumption))<|zO zMq qA O<|zU O O (yV O zr69) ?_
  rintro _ _ ⟨b2,rfl,rfl⟩
  refine D 0 sz69 O<|H<|F O<|zJ O zCe<|zK one9 (R 0 O) O<|A O<|zR O (yM O O O)<|H<|zD O (fun c2=>?_) (fun c2=>?_)
  ·try simp only [I] at c2
   refine F O<|zJ O zGc<|zK n (R 0 O) O<|A O<|H<|o<|X O ?_
   rw [hp,qP hx,coeffL,if_pos c2]
  ·try simp only [I] at c2
   refine zH<|zT O<|qK O ⟨by omega,by omega⟩<|A O<|H ?_
   refine ⟨k+1,⟨by omega,by rw [hp,qP hx,coeffL,if_neg c2]⟩,(by omega),Weak.mk [false] ⟨G,G,G,G,T⟩ O⟩
 ·try simp only [I] at c1
  refine qQ<|F O<|A O<|H<|o<|X O ?_
  rw [hp,kB (by omega)];rfl
theorem collapse_1 (outer:ByteArray) (many:Int) (inn:St) (l:Lf) (hm:1<=many) (hl:l.L.length<=6000000000000):
    Pur cfg 70 [vLin l,.c (.iptr [cS outer]),.c (.iptr [cI many]),.c (.iptr inn.cs)] (vB (linC outer inn.Name many l)):=by
 refine zQ Tryz.func70 O Tryz.ntmps70 Tryz.results70 O ?_
 intro z hz
 refine F O<|zU O O (qL O O) ?_
 rintro _ _ ⟨b1,rfl,rfl⟩
 refine A O<|H<|F O<|zO kE (R 0 O) O<|zK one9 qA O<|qG O ok71 (lin_Coeff _ _ (by omega)) ⟨G,O,G,O,T⟩<|A O<|H<|zI<|qY 15 mixed (by kernel_rfl) O O<|Y O O (w O O)<|Y O O (Q O n O qA O)<|Y O O (det_rem O O O (by omega))<|Y O O (yX O O O)<|Y O O (w O O)<|i [] O O O O gv1 T (fun g2_4=>w O O) O<|i [] O O O O gv1 T (fun g2_4=>Q O n O qA O) O<|i [(15,_),(16,_)] O O O O gv1 ⟨O,O,O,O,T⟩ (fun g2_4=>zMl O O O (by omega)) O<|i [] O O O O gv1 T (fun g2_4=>zX O kE O (R 0 O) O) O<|i [] O O O O gv1 T (fun g2_4=>qJ O zBt O) O<|i [(19,_)] O O O O gv1 ⟨O,O,T⟩ (fun g2_4=>Q O one9 O qA O) O<|i [(18,_),(20,_)] O O O O gv1 ⟨O,O,O,O,T⟩ (fun g2_4=>qI O ok71 (lin_Coeff _ _ (by omega)) ⟨G,O,G,O,T⟩) O<|i [(17,_),(21,_)] O O O O gv1 ⟨O,O,O,O,T⟩ (fun g2_4=>yX O O O) O<|Y O O (wX O O O (fun h=>h) O)<|Y O O (yC O O)<|kH<|H<|o<|X O ?_
 rfl
theorem every_1 (f:Lf->Bool) (c:C) (P:Lf->Prop) (hc:∀l,P l->FnPur cfg c [vLin l] (vB (f l))) (i:List Ix) (hi:i.length<=4294967296) (hA:∀x,x∈i->x.At.length<=4294967296) (hP:ixsAll P i):
    Pur cfg 122 [vIndices i,.c (.iptr [c])] (vB (ixEv f i)):=by
 refine zQ Tryz.func122 O Tryz.ntmps122 Tryz.results122 O ?_
 intro z hz
 refine F O<|A O<|H<|zI<|F O<|A O<|qB O g<|A O<|H<|zS<|zV ⟨[(10,.c _),(1,.c _),(8,.c _),(9,.c _)],[]⟩ (Weak.mk [] ⟨G,G,G,G,T⟩ O)<|qO 1 0 O O (Nat) (fun k=>[(10,vI k)]) (fun k=>[]) (fun k=>k<=i.length/\(ixEv f (i.take k)=true)) (fun k=>i.length-k) ⟨0,⟨by omega,O⟩,Weak.mk [] ⟨G,G,G,G,T⟩ O⟩ ?_
 rintro k ⟨hk,hp⟩
 refine F O<|yN O<|H<|zI<|zD O (fun c1=>?_) (fun c1=>?_)
 ·try simp only [I] at c1
  obtain ⟨x,hx⟩:=qZ i k (by omega)
  have hAx:=hA x (zZ hx)
  refine zH<|zI<|zS<|F O<|qD O g (by omega) (v (by assumption))<|zO zNl qA O<|zU O O (qC [none,some 2,none,some 2] O zr72 O) ?_
  rintro _ _ ⟨b1,rfl,rfl⟩
  refine D 0 sz72 O<|H<|zI<|F O<|zK one114 qA O<|zJ O zHh<|zO kE (R 0 O) O<|zR O (kC O O (hc x.Lin (hP x (zZ hx)).1) ⟨G,O,T⟩)<|kY O<|H<|zD O (fun c2=>?_) (fun c2=>?_)
  ·refine F O<|A O<|H<|o<|X O ?_
   rw [ev_ix1 hx (by simp at c2;rw [c2];rfl)]
  ·refine zH<|F O<|zJ O zCk<|zK zGy (R 0 O) O<|qB O el70<|A O<|H<|zS<|zV ⟨[(22,.c _),(1,.c _),(8,.c _),(9,.c _),(10,.c _),(20,.c _),(21,.c _)],[]⟩ (Weak.mk [false] ⟨G,G,G,G,G,G,G,T⟩ O)<|qO 1 0 O O (Nat) (fun j=>[(22,vI j)]) (fun j=>[]) (fun j=>j<=x.At.length/\((x.At.take j).all f=true)) (fun j=>x.At.length-j) ⟨0,⟨by omega,O⟩,Weak.mk [] ⟨G,G,G,G,G,G,G,T⟩ O⟩ ?_
   rintro j ⟨hk,hq⟩
   refine F O<|yN O<|H<|zI<|zD O (fun c3=>?_) (fun c3=>?_)
   ·try simp only [I] at c3
    obtain ⟨l,hl⟩:=qZ x.At j (by omega)
    refine zH<|zI<|zS<|F O<|qD O el70 (by omega) (v (by assumption))<|zO kE qA O<|zU O O (qC [none,some 2] O zr41 O) ?_
    rintro _ _ ⟨b2,rfl,rfl⟩
    refine D 0 sz41 O<|H<|F O<|zK one114 qA O<|zO kE (R 0 O) O<|zR O (kC O O (hc l ((hP x (zZ hx)).2 l (zZ hl))) ⟨G,O,T⟩)<|kY O<|H<|zD O (fun c4=>?_) (fun c4=>?_)
    ·refine F O<|A O<|H<|o<|X O ?_
     rw [ev_ix1 hx (by simp at c4;rw [all_no hl c4,Bool.and_false])]
    ·refine zH<|zT O<|qK O ⟨by omega,by omega⟩<|A O<|H ?_
     refine ⟨j+1,⟨by omega,by rw [yH hl,List.all_append,hq];simpa using c4⟩,(by omega),Weak.mk [false] ⟨G,G,G,G,G,G,G,T⟩ O⟩
   ·try simp only [I] at c3
    refine qQ<|zT O<|qK O ⟨by omega,by omega⟩<|A O<|H ?_
    refine ⟨k+1,⟨by omega,ev_next hx hp (by simpa using c2) (by rw [kG (by omega)] at hq;exact hq)⟩,(by omega),Weak.mk [] ⟨G,G,G,G,T⟩ O⟩
 ·try simp only [I] at c1
  refine qQ<|F O<|A O<|H<|o<|X O ?_
  rw [kG (by omega)] at hp;rw [hp]
theorem every_step (f:Lf->Bool) (c:C) (P:Lf->Prop) (hc:∀l,P l->FnPur cfg c [vLin l] (vB (f l))) (l:List St) (ih:∀s,s∈l->Pur cfg 69 [vSts s.Body,.c c] (vB (evL f s.Body))) (hP:allSs P l) (hl:stsWt l<=1073741824):
    Pur cfg 69 [vSts l,.c c] (vB (evL f l)):=by
 refine zQ Tryz.func69 O Tryz.ntmps69 Tryz.results69 O ?_
 intro z hz
 have hll:=kP l
 refine F O<|zU O O (qL O O) ?_
 rintro _ _ ⟨b1,rfl,rfl⟩
 refine yJ _ (yA 0 O 3 _ PLe.ptr)<|zU O O (yV O zr4) ?_
 rintro _ _ ⟨b2,rfl,rfl⟩
 refine H<|F O<|zR O (zCx O O O O O)<|zU O O (yV O zr157) ?_
 rintro _ _ ⟨b3,rfl,rfl⟩
 refine D 0 sz157 O<|yJ _ (yA 0 O 5 _ PLe.ptr)<|H<|zI<|F O<|A O<|qB O K<|A O<|H<|zS<|zV ⟨[(12,.c _),(3,.c _),(4,.c _),(5,.c _),(10,.c _),(11,.c _)],[_]⟩ (Weak.mk [true] ⟨G,G,G,G,G,G,T⟩ O)<|qO 1 0 O O (Nat) (fun k=>[(12,vI k)]) (fun k=>[]) (fun k=>k<=l.length/\(evL f (l.take k)=true)) (fun k=>l.length-k) ⟨0,⟨by omega,by rw [List.take_zero,evL]⟩,Weak.mk [true] ⟨G,G,G,G,G,G,T⟩ O⟩ ?_
 rintro k ⟨hk,hp⟩
 refine F O<|yN O<|H<|zI<|zD O (fun c1=>?_) (fun c1=>?_)
 ·try simp only [I] at c1
  obtain ⟨s,hs⟩:=qZ l k (by omega)
  have hsw:=yG (zZ hs)
  have hse:=St.wt_eq s
  have hPs:=St.allF_eq (kJ hP s (zZ hs))
  refine zH<|zI<|zS<|F O<|qD O K (by omega) (kZ hs)<|zO zBw qA O<|zU O O (qC [none,none,none,none,none,some 4,none,none,none,none,none,none,none,none,none,none,some 2,some 4,some 13,some 20] O d O) ?_
  rintro _ _ ⟨b4,rfl,rfl⟩
  refine D 0 sz46 O<|H<|zI<|F O<|zK one157 qA O<|zJ O zEc<|zK zBn (R 0 O) O<|zR O (kC O O (show FnPur cfg (.fn (.func 122) [] [.iptr [c]]) [vIndices s.Idx] (vB (ixEv f s.Idx)) from FnPur.of_pur (first:=[]) (cap:=[.iptr [c]]) ok122 (every_1 f c P hc s.Idx (by omega) (fun x hx=>by have:=zAp hx;rw [Ix.wt] at this;omega) hPs.1)) ⟨G,O,T⟩)<|kY O<|A O<|M O (fun g5_5=>zE O kN O) O<|B 22 O (fun g5_5=>Q O kM O (R 0 O) O) O<|M O (fun g5_5=>Q O one114 O qA O) O<|rLz [(23,_),(24,_)] O gv1 ⟨O,O,O,O,T⟩ (fun g5_5=>qI O ok69 (ih s (zZ hs)) ⟨G,O,G,O,T⟩) O<|B 25 O (fun g5_5=>wC O O) O<|j O (fun h=>(lzf h))<|H<|zD O (fun c2=>?_) (fun c2=>?_)
  ·refine F O<|D 1 sz4 O<|H<|o<|fin1 (kI one4 O (R 1 O) O) ?_
   rw [evL_no hs (evS_1 c2)]
  ·refine zH<|F O<|zJ O zCf<|zO kL (R 0 O) O<|qG O ok123 (zKw _) ⟨G,O,T⟩<|H<|zS<|zV _ (Weak.mem [false,true] O)<|zDv (ps:=[31]) hz 1 O O ok158 (zJm s.E (by omega)) (fun _ _=>O) O (fun pre=>pre.all (fun a=>f a.Lin&&ixEv f a.Idx)=true) (fun pre=>[E.row b2 4 [.lit (.bool false)]]) (fun c pre=>(c=.ret/\pre.all (fun a=>f a.Lin&&ixEv f a.Idx)=false)) (fun c pre=>[E.row b2 4 [.lit (.bool false)]]) ⟨O,O⟩ ?_ ?_ ?_ ?_
   ·intro pre x suf hxs hi z hz
    have hxw:x.wt<=s.E.wt:=zFq s.E x (by rw [hxs];simp)
    have hxe:=Ex.wt_eq x
    refine zT O<|zU O O (qC [none,none,none,none,none,none,none,none,none,none,some 2,some 4,some 13] O zr44 O) ?_
    rintro _ _ ⟨b5,rfl,rfl⟩
    refine D 0 sz44 O<|H ?_
    intro z hz
    refine zS<|F O<|zK one114 qA O<|zJ O zEv<|zO kE (R 0 O) O<|zR O (kC O O (hc x.Lin (node_P hPs.2.1 (by rw [hxs];simp)).1) ⟨G,O,T⟩)<|kY O<|A O<|M O (fun g9_5=>Q O one157 O qA O) O<|M O (fun g9_5=>zE O zAw O) O<|B 39 O (fun g9_5=>Q O zBn O (R 0 O) O) O<|rLz [(38,_),(40,_)] O gv1 ⟨O,O,O,O,T⟩ (fun g9_5=>kC O O (show FnPur cfg (.fn (.func 122) [] [.iptr [c]]) [vIndices x.Idx] (vB (ixEv f x.Idx)) from FnPur.of_pur (first:=[]) (cap:=[.iptr [c]]) ok122 (every_1 f c P hc x.Idx (by omega) (fun y hy=>by have:=zAp hy;rw [Ix.wt] at this;omega) (node_P hPs.2.1 (by rw [hxs];simp)).2)) ⟨G,O,T⟩) O<|B 41 O (fun g9_5=>wC O O) O<|j O (fun h=>(lzf h))<|H<|zD O (fun c3=>?_) (fun c3=>?_)
    ·refine F O<|D 1 sz4 O<|H<|o ?_
     exact zBe (τ:=⟨[],_⟩) (Weak.mk [false,true] T O) ⟨⟨O,ev_ret hi c3⟩,O⟩
    ·refine zH ?_
     exact zBe (τ:=⟨[],_⟩) (Weak.mk [false,true] T O) ⟨(by simp at c3;simp only [List.all_append,hi,List.all_cons,List.all_nil,c3.1,c3.2,Bool.and_self]),O⟩
   ·intro hd
    refine zT O<|qK O ⟨by omega,by omega⟩<|A O<|H ?_
    refine ⟨k+1,⟨by omega,evL_next hs hp c2 hd⟩,(by omega),Weak.mk [true] ⟨G,G,G,G,G,G,T⟩ O⟩
   ·rintro pre x suf hxs hx
    rcases hx with ⟨hc,hx⟩
    clear hc
    repeat (first|refine zJq ?_|refine zIb ?_)
    refine fin1 (kI one4 O (R 0 O) O) ?_
    rw [evL_no hs (evS_2 (by unfold exEv;rw [hxs];exact all_app_no hx))]
   ·rintro i pre x suf hxs hx
    rcases hx with ⟨hc,hx⟩
    cases hc
 ·try simp only [I] at c1
  refine qQ<|F O<|D 0 sz4 O<|H<|o<|fin1 (kI one4 O (R 0 O) O) ?_
  rw [kG (by omega)] at hp;rw [hp]
theorem every_body (f:Lf->Bool) (c:C) (P:Lf->Prop) (hc:∀l,P l->FnPur cfg c [vLin l] (vB (f l))) (s:St) (hP:allSs P s.Body) (hl:stsWt s.Body<=1073741824):Pur cfg 69 [vSts s.Body,.c c] (vB (evL f s.Body)):=by
  induction s using St.ind with
  |_ s ih=>exact every_step f c P hc s.Body (fun a ha=>ih a ha (St.allF_eq (kJ hP a ha)).2.2 (by have:=yG ha;have:=St.body_wt a;omega)) hP hl
theorem split_every (f:Lf->Bool) (c:C) (P:Lf->Prop) (hc:∀l,P l->FnPur cfg c [vLin l] (vB (f l))) (l:List St) (hP:allSs P l) (hl:stsWt l<=1073741824):Pur cfg 69 [vSts l,.c c] (vB (evL f l)):=
  every_step f c P hc l (fun s hs=>every_body f c P hc s (St.allF_eq (kJ hP s hs)).2.2 (by have:=yG hs;have:=St.body_wt s;omega)) hP hl
theorem zIn (n:Ns) (outer nm:ByteArray) (hn:n.Ok) (hl:stsWt n.Body<=30000) (hr:allSs Lf.rng n.Body) (hM:locE n outer=0->((locT n outer).2.1.Body.length=1/\((locT n outer).2.1.Body.getD 0 zSt).Op=1)->1<=((locT n outer).2.1.Body.getD 0 zSt).Many):
    Pur cfg 26 [vNs n,vS outer,vS nm] (.tup [vNs (colT n outer nm).1,vI (colT n outer nm).2]):=by
 refine zQ Tryz.func26 O Tryz.ntmps26 Tryz.results26 O ?_
 intro z hz
 obtain ⟨s,hs0⟩:∃s,(locT n outer).2.1=s:=⟨_,rfl⟩
 have hlw:=zPw n outer
 have hlr:=locT_rng (s:=outer) hr
 rw [hs0] at hlw hlr
 have hwl:=zJl n outer
 have hwN:=zDq n.Body
 rw [hs0] at hM
 obtain ⟨inn,hi0⟩:∃x,s.Body.getD 0 zSt=x:=⟨_,rfl⟩
 rw [hi0] at hM
 obtain ⟨hvr,hvl⟩:=zFe nm
 refine F O<|zU O O (qL O O) ?_
 rintro _ _ ⟨b1,rfl,rfl⟩
 refine zU O O (qL O O) ?_
 rintro _ _ ⟨b2,rfl,rfl⟩
 refine yJ _ (yA 0 O 4 _ PLe.ptr)<|zU O O (qC [some 8,some 20] O U O) ?_
 rintro _ _ ⟨b3,rfl,rfl⟩
 refine A O<|H<|F O<|zO kF (R 1 O) O<|zK one9 qA O<|qG O ok48 (show Pur cfg 48 [vNs n,vS outer] (.tup [vIs (locT n outer).1,vSt s,vI (locE n outer)]) by have h:=zGn n outer hn;rw [locT_e,hs0] at h;exact h) ⟨G,O,G,O,T⟩<|qN O<|qU O<|zR O (qT O O O)<|qU O<|zU O O (qC [none,none,none,none,none,some 4,none,none,none,none,none,none,none,none,none,none,some 2,some 4,some 13,some 20] O d O) ?_
 rintro _ _ ⟨b4,rfl,rfl⟩
 refine A O<|D 0 sz46 O<|A O<|H<|zI<|F O<|A O<|yP O<|H<|zD O (fun c1=>?_) (fun c1=>?_)
 ·try simp only [I] at c1
  refine F O<|qV [some 8,some 20] O U pl25<|A O<|D 1 W O<|A O<|H<|o<|p (y kF O (R 1 O) O) (N O) ?_
  rw [colT_0 c1];rfl
 ·try simp only [I] at c1
  refine zH<|zI<|F O<|zJ O kN<|zK kM (R 0 O) O<|qB O K<|yP O<|A O<|M O (fun g4_4=>zE O kN O) O<|B 31 O (fun g4_4=>Q O kM O (R 0 O) O) O<|B 32 O (fun g4_4=>qE O K O O (by simp only [Lz,cond_true,cond_false,Bool.and_eq_true,Bool.or_eq_true,Bool.not_eq_true',Bool.not_eq_false',Bool.or_eq_false_iff,Bool.and_eq_false_iff,decide_eq_true_eq,decide_eq_false_iff_not,Bool.not_eq_true,Bool.not_eq_false] at g4_4;omega) (kZ (get_0 (by simp only [Lz,cond_true,cond_false,Bool.and_eq_true,Bool.or_eq_true,Bool.not_eq_true',Bool.not_eq_false',Bool.or_eq_false_iff,Bool.and_eq_false_iff,decide_eq_true_eq,decide_eq_false_iff_not,Bool.not_eq_true,Bool.not_eq_false] at g4_4;omega)))) O<|B 33 O (fun g4_4=>qJ O zBu O) O<|B 34 O (fun g4_4=>Q O J O qA O) O<|B 35 O (fun g4_4=>kT O O O) O<|j O (fun h=>(lzf h))<|H<|zD O (fun c2=>?_) (fun c2=>?_)
  ·have c2:¬(s.Body.length=1/\inn.Op=1):=by rintro ⟨h1,h2⟩;rw [←hi0] at h2;simp only [Bool.or_eq_true,Bool.not_eq_true',decide_eq_false_iff_not] at c2;omega
   refine F O<|qV [some 8,some 20] O U pl25<|D 1 W O<|A O<|H<|o<|p (y kF O (R 1 O) O) (N O) ?_
   rw [zRc hs0 c1 (colE_1 hi0 c2) (by decide)];rfl
  ·have c2:s.Body.length=1/\inn.Op=1:=by rw [←hi0];simp at c2⊢;exact ⟨by omega,c2.2⟩
   have hM1:=hM c1 c2
   have hin:s.Body[0]? =some inn:=by rw [←hi0];exact get_0 (by omega)
   have hiw:=yG (zZ hin)
   have hib:=St.body_wt inn
   have hir:=(St.allF_eq (kJ hlr inn (zZ hin))).2.2
   have hb1:=sbT0_wt (s:=outer) (l:=inn.Body)
   have hb2:=sbT_wt (s:=inn.Name) (u:=varL nm) (l:=outS (sbT outer ⟨0,[]⟩ inn.Body)) (by omega)
   refine zH<|F O<|zJ O kN<|zK kM (R 0 O) O<|qD O K (by omega) (kZ hin)<|zO zBw qA O<|zU O O (qC [none,none,none,none,none,some 4,none,none,none,none,none,none,none,none,none,none,some 2,some 4,some 13,some 20] O d O) ?_
   rintro _ _ ⟨b5,rfl,rfl⟩
   refine D 0 sz46 O<|yJ _ (yA 0 O 11 _ PLe.ptr)<|H<|zI<|zS<|F O<|A O<|qG O ok49 (zAa _) ⟨G,O,T⟩<|kY O<|A O<|H<|zD O (fun c3=>?_) (fun c3=>?_)
   ·try simp only [I] at c3
    have c3:isNameB nm=false:=by simpa using c3
    refine F O<|qV [some 8,some 20] O U pl25<|D 1 W O<|A O<|H<|o<|p (y kF O (R 1 O) O) (N O) ?_
    rw [zRc hs0 c1 (colE_2 hi0 c2 c3) (by decide)];rfl
   ·try simp only [I] at c3
    have c3:isNameB nm=true:=by simpa using c3
    refine F O<|A O<|zK one9 qA O<|zR O (zCw O O O)<|A O<|M O (fun g9_3=>w O O) O<|M O (fun g9_3=>qJ O zBt O) O<|B 54 O (fun g9_3=>Q O one9 O qA O) O<|rLz [(53,_),(55,_)] O gv1 ⟨O,O,O,O,T⟩ (fun g9_3=>zCw O O O) O<|kD O (fun h=>h)<|A O<|M O (fun g9_9=>zX O kF O (R 2 O) O) O<|M O (fun g9_9=>w O O) O<|rLz [(59,_),(60,_)] O gv1 ⟨O,O,O,O,T⟩ (fun g9_9=>qI O ok50 (zFh _ _ (by omega)) ⟨G,O,G,O,T⟩) O<|kD O (fun h=>h)<|A O<|H<|zD O (fun c4=>?_) (fun c4=>?_)
    ·have c4:((!decide (nm=outer)&& !decide (nm=inn.Name))&&takN n nm)=true:=c4
     refine F O<|qV [some 8,some 20] O U pl25<|D 1 W O<|A O<|H<|o<|p (y kF O (R 1 O) O) (N O) ?_
     rw [zRc hs0 c1 (colE_3 hi0 c2 c3 c4) (by decide)];rfl
    ·have c4:((!decide (nm=outer)&& !decide (nm=inn.Name))&&takN n nm)=false:=c4
     refine zI<|qY 7 mixed (by kernel_rfl) O O<|Y O O (zE O zAi O)<|Y O O (Q O J O (R 0 O) O)<|Y O O (qJ O zAi O)<|Y O O (Q O J O qA O)<|Y O O (zMl O O O (by omega))<|Y O O (yW O O O)<|Y O O (yC O O)<|kH<|H<|zD O (fun c5=>?_) (fun c5=>?_)
     ·try simp only [I] at c5
      refine F O<|qV [some 8,some 20] O U pl25<|D 1 W O<|A O<|H<|o<|p (y kF O (R 1 O) O) (N O) ?_
      rw [zRc hs0 c1 (colE_4 hi0 c2 c3 c4 c5) (by decide)];rfl
     ·try simp only [I] at c5
      have c5:¬w64 (Int.tdiv 65536 inn.Many)<s.Many:=by show ¬(IntKind.i64.wrap (Int.tdiv 65536 inn.Many)<s.Many);omega
      refine zH<|F O<|qS O zAi<|zK J qA O<|zU O O (yV O zr2) ?_
      rintro _ _ ⟨b6,rfl,rfl⟩
      refine D 0 sz2 O<|yJ _ (yA 0 O 12 _ PLe.ptr)<|H<|F O<|qS O kN<|zK kM qA O<|zR O (zCx O O O O O)<|qG O ok69 (split_every (linC outer inn.Name inn.Many) _ (fun l=>l.L.length<=1073741824) (fun l hl=>FnPur.of_pur (first:=[]) (cap:=[.iptr [cS outer],.iptr [cI inn.Many],.iptr inn.cs]) ok70 (collapse_1 outer inn.Many inn l hM1 (by omega))) inn.Body (zJr (by omega)) (by omega)) ⟨G,O,G,O,T⟩<|A O<|H<|zI<|F O<|A O<|kY O<|H<|zD O (fun c6=>?_) (fun c6=>?_)
      ·try simp only [I] at c6
       have c6:evL (linC outer inn.Name inn.Many) inn.Body=false:=by simpa using c6
       refine F O<|qV [some 8,some 20] O U pl25<|D 1 W O<|A O<|H<|o<|p (y kF O (R 1 O) O) (N O) ?_
       rw [zRc hs0 c1 (colE_5 hi0 c2 c3 c4 c5 c6) (by decide)];rfl
      ·try simp only [I] at c6
       have c6:evL (linC outer inn.Name inn.Many) inn.Body=true:=by simpa using c6
       refine zH<|zI<|qY 10 mixed (by kernel_rfl) O O<|Y O O (qJ O kN O)<|Y O O (Q O kM O qA O)<|Y O O (Q O one9 O qA O)<|Y O O (qI O ok56 (zPz _) ⟨G,O,T⟩)<|Y O O (qI O ok54 (zAe inn.Body outer ⟨0,[]⟩ (by show 0<=_;omega) zGj (by omega) hir) ⟨G,O,G,O,G,O,T⟩)<|Y O O (kQ O O)<|Y O O (wP O O O)<|Y O O (wP O O O)<|Y O O (yC O O)<|Y O O (yC O O)<|kH<|H<|zI<|F O<|A O<|yP O<|H<|zD O (fun c7=>?_) (fun c7=>?_)
       ·try simp only [I] at c7
        refine F O<|qV [some 8,some 20] O U pl25<|A O<|D 1 W O<|A O<|H<|o<|p (y kF O (R 1 O) O) (N O) ?_
        rw [zRc hs0 c1 ((colE_6 hi0 c2 c3 c4 c5 c6).trans (if_neg c7)) c7];rfl
       ·try simp only [I] at c7
        refine zH<|zI<|qY 11 mixed (by kernel_rfl) O O<|Y O O (w O O)<|Y O O (qJ O zBt O)<|Y O O (Q O one9 O qA O)<|Y O O (w O O)<|Y O O (qI O ok52 (lin_Var _) ⟨G,O,T⟩)<|Y O O (qI O ok54 (zAe (outS (sbT outer ⟨0,[]⟩ inn.Body)) inn.Name (varL nm) (by omega) hvr (by omega) (sbT_rng outer ⟨0,[]⟩ hir)) ⟨G,O,G,O,G,O,T⟩)<|Y O O (kQ O O)<|Y O O (wP O O O)<|Y O O (wP O O O)<|Y O O (yC O O)<|Y O O (yC O O)<|kH<|H<|zI<|F O<|A O<|yP O<|H<|zD O (fun c8=>?_) (fun c8=>?_)
        ·try simp only [I] at c8
         refine F O<|qV [some 8,some 20] O U pl25<|A O<|D 1 W O<|A O<|H<|o<|p (y kF O (R 1 O) O) (N O) ?_
         rw [zRc hs0 c1 ((colE_6 hi0 c2 c3 c4 c5 c6).trans (if_pos c7)) c8];rfl
        ·try simp only [I] at c8
         refine zH<|F O<|zO kF (R 2 O) O<|A O<|A O<|zJ O zAi<|zK J (R 0 O) O<|qS O zAi<|zK J qA O<|zR O (zQt O O O)<|zJ O zKs<|zK J (R 0 O) O<|A O<|qV [none,none,none,none,none,some 4,none,none,none,none,none,none,none,none,none,none,some 2,some 4,some 13,none] O d pl46<|zR O (qW O K d O O O O) ?_
         refine qG O ok57 (zDx n (wayF n outer) [colS s outer nm] hn (by rw [colS_wt hi0];omega) (by omega)) ⟨G,O,VLe.of_eq (congrArg vIs (locT_w c1)),O,VLe.of_eq ((colS_x hi0 outer nm).symm),O,T⟩<|zR O (qT O O O)<|qU O<|D 1 W O<|A O<|H<|o<|p (y kF O (R 1 O) O) (N O) ?_
         rw [colT_2 hs0 c1 ((colE_6 hi0 c2 c3 c4 c5 c6).trans ((if_pos c7).trans c8))];rfl
end Go.W
end
section
set_option maxRecDepth 10000
namespace Go.W
open Go Go.Eng Go.Proofs Go.L41 Go.Br
attribute [local irreducible] AWP RWP TD finQ
/-! Redundant guards. -/
abbrev MM:=List (ByteArray×Int)
def plusP (a b c:Int):Int×Bool:=if c=0 then (a,true) else if w64 (Int.tdiv (w64 (b*c)) c)=b then (w64 (a+w64 (b*c)),decide (w64 (a+w64 (b*c))<a)) else (0,false)
def lowF (m:MM):List Mono->Int->Bool->Int×Bool
  |[],lo,ok=>(lo,ok)
  |x::r,lo,ok=>if x.By<0/\ok=true then lowF m r (plusP lo x.By (w64 ((mget m x.Name).getD 0-1))).1 (plusP lo x.By (w64 ((mget m x.Name).getD 0-1))).2 else lowF m r lo ok
def leafP (m:MM) (o:Int) (a b:Ex):Bool:=
  if (((!decide (o=13)&& !decide (o=14))|| !decide (a.Op=2))|| !decide (b.Op=2))=true then false
  else if (scaleL a.Lin (-1)).2=0 then
    (if (addL b.Lin (scaleL a.Lin (-1)).1).2=0 then
      (lowF m (addL b.Lin (scaleL a.Lin (-1)).1).1.L (addL b.Lin (scaleL a.Lin (-1)).1).1.K true).2&&(decide (1<=(lowF m (addL b.Lin (scaleL a.Lin (-1)).1).1.L (addL b.Lin (scaleL a.Lin (-1)).1).1.K true).1)||(decide ((lowF m (addL b.Lin (scaleL a.Lin (-1)).1).1.L (addL b.Lin (scaleL a.Lin (-1)).1).1.K true).1=0)&&decide (o=14)))
    else false)
  else false
mutual
def redP (m:MM):Ex->Bool
  |.mk o _ _ _ _ _ A=>if o=16 then (redL m A).getD 0 false&&(redL m A).getD 1 false else leafP m o (A.getD 0 zEx) (A.getD 1 zEx)
def redL (m:MM):List Ex->List Bool
  |[]=>[]
  |a::r=>redP m a::redL m r
end
theorem redL_map (m:MM):∀l:List Ex,redL m l=l.map (redP m)
  |[]=>by rw [redL];rfl
  |a::r=>by rw [redL,redL_map m r];rfl
theorem zKb {m:MM} {e a b:Ex} (h:e.Op=16) (ha:e.Args[0]? =some a) (hb:e.Args[1]? =some b):redP m e=(redP m a&&redP m b):=by
  cases e
  simp only [Ex.Op,Ex.Args] at h ha hb
  rw [redP,if_pos h,redL_map]
  simp [List.getD_eq_getElem?_getD,ha,hb]
theorem wR {m:MM} {e a b:Ex} (h:¬e.Op=16) (ha:e.Args.getD 0 zEx=a) (hb:e.Args.getD 1 zEx=b):redP m e=leafP m e.Op a b:=by
  cases e
  simp only [Ex.Op,Ex.Args] at h ha hb⊢
  rw [redP,if_neg h,ha,hb]
theorem exG {l:List Ex} {k:Nat} {x:Ex} (h:k<l.length) (h0:l.getD k zEx=x):l[k]? =some x:=by
  rw [←h0,List.getD_eq_getElem?_getD,List.getElem?_eq_getElem h];rfl
theorem zQe {m:MM} {o:Int} {a b:Ex} (h:(((!decide (o=13)&& !decide (o=14))|| !decide (a.Op=2))|| !decide (b.Op=2))=true):leafP m o a b=false:=if_pos h
theorem zQd {m:MM} {o:Int} {a b:Ex} {sc:Lf×Int} (h:(((!decide (o=13)&& !decide (o=14))|| !decide (a.Op=2))|| !decide (b.Op=2))=false) (hs:scaleL a.Lin (-1)=sc) (c:¬sc.2=0):leafP m o a b=false:=by
  unfold leafP;rw [if_neg (by rw [h];simp),hs,if_neg c]
theorem zQc {m:MM} {o:Int} {a b:Ex} {sc d:Lf×Int} (h:(((!decide (o=13)&& !decide (o=14))|| !decide (a.Op=2))|| !decide (b.Op=2))=false) (hs:scaleL a.Lin (-1)=sc) (c:sc.2=0) (hd:addL b.Lin sc.1=d) (c2:¬d.2=0):leafP m o a b=false:=by
  unfold leafP;rw [if_neg (by rw [h];simp),hs,if_pos c,hd,if_neg c2]
theorem zQb {m:MM} {o:Int} {a b:Ex} {sc d:Lf×Int} {lo:Int} {ok:Bool} (h:(((!decide (o=13)&& !decide (o=14))|| !decide (a.Op=2))|| !decide (b.Op=2))=false) (hs:scaleL a.Lin (-1)=sc) (c:sc.2=0) (hd:addL b.Lin sc.1=d) (c2:d.2=0) (hR:lowF m d.1.L d.1.K true=(lo,ok)):leafP m o a b=(ok&&(decide (1<=lo)||(decide (lo=0)&&decide (o=14)))):=by
  unfold leafP;rw [if_neg (by rw [h];simp),hs,if_pos c,hd,if_pos c2,hR]
def arE (e:Ex):Bool:=(nodes e).all fun x=> !(decide (x.Op=13)||decide (x.Op=14)||decide (x.Op=16))||decide (2<=x.Args.length)
theorem zMp {e:Ex} (h:arE e=true) (ho:e.Op=13∨e.Op=14∨e.Op=16):2<=e.Args.length:=by
  have h1:=List.all_eq_true.1 h e (by rw [kV];simp)
  simp only [Bool.or_eq_true,Bool.not_eq_true',Bool.or_eq_false_iff,decide_eq_false_iff_not,decide_eq_true_eq] at h1
  omega
theorem arE_arg {e a:Ex} (h:arE e=true) (ha:a∈e.Args):arE a=true:=
  List.all_eq_true.2 fun x hx=>List.all_eq_true.1 h x (by rw [kV];exact List.mem_cons_of_mem _ (zPl ha hx))
theorem lowF_next {m:MM} {R:Int×Bool} {l:List Mono} {k:Nat} {x:Mono} {lo:Int} {ok:Bool} (h:l[k]? =some x) (hp:R=lowF m (l.drop k) lo ok) (c:x.By<0/\ok=true):R=lowF m (l.drop (k+1)) (plusP lo x.By (w64 ((mget m x.Name).getD 0-1))).1 (plusP lo x.By (w64 ((mget m x.Name).getD 0-1))).2:=by
  rw [hp,qP h,lowF,if_pos c]
theorem lowF_skip {m:MM} {R:Int×Bool} {l:List Mono} {k:Nat} {x:Mono} {lo:Int} {ok:Bool} (h:l[k]? =some x) (hp:R=lowF m (l.drop k) lo ok) (c:¬(x.By<0/\ok=true)):R=lowF m (l.drop (k+1)) lo ok:=by
  rw [hp,qP h,lowF,if_neg c]
theorem lowF_end {m:MM} {R:Int×Bool} {l:List Mono} {k:Nat} {lo:Int} {ok:Bool} (hp:R=lowF m (l.drop k) lo ok) (c:¬k<l.length):R=(lo,ok):=by
  rw [hp,kB c,lowF]
mutual
def ungS:MM->St->(List St×Nat)×MM
  |m,.mk o nm mn mk fo i e b=>
    if o=4/\redP (ungL (if o=1 then mput m nm mn else m) b).2 e=true then (((ungL (if o=1 then mput m nm mn else m) b).1.1,(ungL (if o=1 then mput m nm mn else m) b).1.2+1),(ungL (if o=1 then mput m nm mn else m) b).2)
    else (([.mk o nm mn mk fo i e (ungL (if o=1 then mput m nm mn else m) b).1.1],(ungL (if o=1 then mput m nm mn else m) b).1.2),(ungL (if o=1 then mput m nm mn else m) b).2)
def ungL:MM->List St->(List St×Nat)×MM
  |m,[]=>(([],0),m)
  |m,s::r=>(((ungS m s).1.1++(ungL (ungS m s).2 r).1.1,(ungS m s).1.2+(ungL (ungS m s).2 r).1.2),(ungL (ungS m s).2 r).2)
end
theorem con_pre {X:Cfg} {f:FuncId} {args:List V} {μ μ':List E} {Q:V->List E->Prop} (e:μ=μ') (h:Con X f args μ' Q):Con X f args μ Q:=by rw [e];exact h
def mIn (m:MM) (s:St):MM:=if s.Op=1 then mput m s.Name s.Many else m
theorem ungS_yes {m:MM} {s:St} (h:s.Op=4/\redP (ungL (mIn m s) s.Body).2 s.E=true):ungS m s=(((ungL (mIn m s) s.Body).1.1,(ungL (mIn m s) s.Body).1.2+1),(ungL (mIn m s) s.Body).2):=by
  cases s;rw [ungS];exact if_pos h
theorem ungS_no {m:MM} {s:St} (h:¬(s.Op=4/\redP (ungL (mIn m s) s.Body).2 s.E=true)):ungS m s=(([setB s (ungL (mIn m s) s.Body).1.1],(ungL (mIn m s) s.Body).1.2),(ungL (mIn m s) s.Body).2):=by
  cases s;rw [ungS];exact if_neg h
theorem ungL_app:∀(m:MM) (a b:List St),ungL m (a++b)=(((ungL m a).1.1++(ungL (ungL m a).2 b).1.1,(ungL m a).1.2+(ungL (ungL m a).2 b).1.2),(ungL (ungL m a).2 b).2)
  |m,[],b=>by rw [List.nil_append,ungL];simp
  |m,s::r,b=>by
    rw [List.cons_append,ungL,ungL_app (ungS m s).2 r b,ungL]
    simp only [List.append_assoc,Nat.add_assoc]
theorem zDa {m:MM} {l:List St} {k:Nat} {s:St} (h:l[k]? =some s):ungL m (l.take (k+1))=(((ungL m (l.take k)).1.1++(ungS (ungL m (l.take k)).2 s).1.1,(ungL m (l.take k)).1.2+(ungS (ungL m (l.take k)).2 s).1.2),(ungS (ungL m (l.take k)).2 s).2):=by
  rw [yH h,ungL_app,ungL,ungL];simp
mutual
theorem ungS_bd:∀(m:MM) (s:St),(ungS m s).1.2<=stN s/\stsWt (ungS m s).1.1<=s.wt
  |m,.mk o nm mn mk fo i e b=>by
    rw [ungS,stN]
    obtain ⟨h1,h2⟩:=zOt (if o=1 then mput m nm mn else m) b
    generalize (if o=1 then mput m nm mn else m)=m1 at *
    split
    · exact ⟨by show _+1<=_;omega,by show stsWt (ungL m1 b).1.1<=_;rw [St.wt];omega⟩
    · refine ⟨by show (ungL m1 b).1.2<=_;omega,?_⟩
      show stsWt [St.mk o nm mn mk fo i e (ungL m1 b).1.1]<=_
      simp only [stsWt,St.wt];omega
theorem zOt:∀(m:MM) (l:List St),(ungL m l).1.2<=stsN l/\stsWt (ungL m l).1.1<=stsWt l
  |m,[]=>by rw [ungL];simp [stsN,stsWt]
  |m,s::r=>by
    rw [ungL,stsN,stsWt]
    obtain ⟨h1,h2⟩:=ungS_bd m s
    obtain ⟨h3,h4⟩:=zOt (ungS m s).2 r
    exact ⟨by show (ungS m s).1.2+(ungL (ungS m s).2 r).1.2<=_;omega,by show stsWt ((ungS m s).1.1++(ungL (ungS m s).2 r).1.1)<=_;rw [zJj];omega⟩
end
mutual
def gdS:St->Bool
  |.mk o _ _ _ _ _ e b=>(!decide (o=4)||arE e)&&gdL b
def gdL:List St->Bool
  |[]=>true
  |s::r=>gdS s&&gdL r
end
theorem gdL_mem:∀{l:List St} {s:St},gdL l=true->s∈l->gdS s=true
  |x::r,s,h,hs=>by
    rw [gdL,Bool.and_eq_true] at h
    rcases List.mem_cons.1 hs with rfl|hs
    · exact h.1
    · exact gdL_mem h.2 hs
theorem gdS_body {s:St} (h:gdS s=true):gdL s.Body=true:=by cases s;rw [gdS,Bool.and_eq_true] at h;exact h.2
theorem gdS_if:∀{s:St},gdS s=true->s.Op=4->arE s.E=true
  |.mk o nm mn mk fo i e b,h,ho=>by
    rw [gdS,Bool.and_eq_true] at h
    have h1:=h.1
    rw [show o=4 from ho] at h1
    have h2:arE e=true:=by simpa using h1
    exact h2
theorem takeWt (l:List St) (k:Nat):stsWt (l.take k)<=stsWt l:=by
  have h:=zJj (l.take k) (l.drop k)
  rw [List.take_append_drop] at h;omega
def remT (n:Ns):Ns×Int:=if (validN n).2=0 then (⟨n.Bufs,(ungL [] n.Body).1.1⟩,((ungL [] n.Body).1.2:Nat)) else (zNs,0)
theorem remT_1 {n:Ns} (h:¬(validN n).2=0):remT n=(zNs,0):=by unfold remT;rw [if_neg h]
theorem remT_2 {n:Ns} (h:(validN n).2=0):remT n=((⟨n.Bufs,(ungL [] n.Body).1.1⟩:Ns),(((ungL [] n.Body).1.2:Nat):Int)):=by unfold remT;rw [if_pos h]
theorem ok67:callOk Tryz.prog 67=true:=by kernel_rfl
theorem ok120:callOk Tryz.prog 120=true:=by kernel_rfl
theorem ok157:callOk Tryz.prog 157=true:=by kernel_rfl
theorem sm110:smapT Tryz.prog 110=some (Value.int IntKind.i64 0):=by kernel_rfl
theorem split_plus (a b c:Int):
    Pur cfg 157 [vI a,vI b,vI c] (.tup [vI (plusP a b c).1,vB (plusP a b c).2]):=by
 refine zQ Tryz.func157 O Tryz.ntmps157 Tryz.results157 O ?_
 intro z hz
 refine F O<|A O<|A O<|H<|zI<|F O<|A O<|yZ O<|H<|zD O (fun c1=>?_) (fun c1=>?_)
 ·try simp only [I] at c1
  refine F O<|A O<|A O<|A O<|H<|o<|p (N O) (N O) ?_
  rw [show plusP a b c=(a,true) from if_pos c1]
 ·try simp only [I] at c1
  refine zH<|F O<|A O<|A O<|zR O (zQt O O O)<|A O<|H<|zI<|F O<|A O<|A O<|zR O (zMl O O O c1)<|A O<|yP O<|H<|zD O (fun c2=>?_) (fun c2=>?_)
  ·try simp only [I] at c2
   refine F O<|A O<|A O<|H<|o<|p (N O) (N O) ?_
   rw [show plusP a b c=(0,false) by unfold plusP;rw [if_neg c1];exact if_neg c2]
  ·try simp only [I] at c2
   refine zH<|F O<|A O<|A O<|zR O (zJh O O O)<|A O<|A O<|zR O (zJh O O O)<|A O<|yN O<|A O<|A O<|H<|o<|p (N O) (N O) ?_
   rw [show plusP a b c=(w64 (a+w64 (b*c)),decide (w64 (a+w64 (b*c))<a)) by unfold plusP;rw [if_neg c1];exact if_pos c2];rfl
theorem redundant_step (mb:Nat) (m:MM) (e:Ex) (ih:∀a,a∈e.Args->arE a=true->a.allF Lf.rng->a.wt<=1000000000->Con cfg 120 [vE a,.c (.lit (.map (some mb)))] [E.blk mb (MapR vI (m))] fun r μ'=>r=vB (redP m a)/\μ'=[E.blk mb (MapR vI (m))]) (har:arE e=true) (hr:e.allF Lf.rng) (he:e.wt<=1000000000):
    Con cfg 120 [vE e,.c (.lit (.map (some mb)))] [E.blk mb (MapR vI (m))] fun r μ'=>r=vB (redP m e)/\μ'=[E.blk mb (MapR vI (m))]:=by
 refine Con.drop<|zQ Tryz.func120 O Tryz.ntmps120 Tryz.results120 O ?_
 intro z hz
 have hew:=Ex.wt_eq e
 obtain ⟨a,ha0⟩:∃x,e.Args.getD 0 zEx=x:=⟨_,rfl⟩
 obtain ⟨b,hb0⟩:∃x,e.Args.getD 1 zEx=x:=⟨_,rfl⟩
 obtain ⟨sc,hs0⟩:∃x,scaleL a.Lin (-1)=x:=⟨_,rfl⟩
 obtain ⟨d,hd0⟩:∃x,addL b.Lin sc.1=x:=⟨_,rfl⟩
 obtain ⟨hsr,hsl⟩:=zJx a.Lin (-1)
 rw [hs0] at hsr hsl
 have hdl:=(add_rng b.Lin sc.1).2
 rw [hd0] at hdl
 refine F O<|zU O O (qL O O) ?_
 rintro _ _ ⟨b1,rfl,rfl⟩
 refine A O<|H<|zI<|F O<|zJ O wT<|zK J (R 0 O) O<|yZ O<|H<|zD O (fun c1=>?_) (fun c1=>?_)
 ·try simp only [I] at c1
  have h2:=zMp har (.inr (.inr c1))
  have ha:=exG (k:=0) (by omega) ha0
  have hb:=exG (k:=1) (by omega) hb0
  have haw:=Ex.arg_wt (zZ ha)
  have hbw:=Ex.arg_wt (zZ hb)
  refine F O<|zJ O zAv<|zK zEh (R 0 O) O<|qD O el42 (by omega) (zIh ha)<|zO kL qA O<|A O<|zR O (yK [1] O ok120 (ih a (zZ ha) (arE_arg har (zZ ha)) (Ex.allF_arg hr (zZ ha)) (by omega)) ⟨G,O,G,O,T⟩ O)<|A O<|M O (fun g2_6=>zE O zAv O) O<|B 22 O (fun g2_6=>Q O zEh O (R 0 O) O) O<|B 23 O (fun g2_6=>qE O el42 O O (by omega) (zIh hb)) O<|B 24 O (fun g2_6=>zX O kL O qA O) O<|M O (fun g2_6=>w O O) O<|rLz [(25,_),(26,_)] O gv1 ⟨O,O,O,O,T⟩ (fun g2_6=>yK [1] O ok120 (ih b (zZ hb) (arE_arg har (zZ hb)) (Ex.allF_arg hr (zZ hb)) (by omega)) ⟨G,O,G,O,T⟩ O) O<|kD O (fun h=>h)<|A O<|H<|zV _ (Weak.mem [false,true] O)<|o<|X O ?_
  first|exact ⟨congrArg vB (zKb c1 ha hb).symm,[],rfl⟩|exact ⟨congrArg vB (zKb c1 ha hb).symm,[_],rfl⟩|exact ⟨congrArg vB (zKb c1 ha hb).symm,[_,_],rfl⟩|exact ⟨congrArg vB (zKb c1 ha hb).symm,[_,_,_],rfl⟩|exact ⟨congrArg vB (zKb c1 ha hb).symm,[_,_,_,_],rfl⟩
 ·try simp only [I] at c1
  refine zH<|zI<|F O<|zJ O wT<|zK J (R 0 O) O<|yP O<|A O<|M O (fun g3_3=>zE O wT O) O<|B 33 O (fun g3_3=>Q O J O (R 0 O) O) O<|B 34 O (fun g3_3=>kT O O O) O<|kD O (fun h=>h)<|A O<|M O (fun g3_8=>zE O zAv O) O<|B 38 O (fun g3_8=>Q O zEh O (R 0 O) O) O<|B 39 O (fun g3_8=>qE O el42 O O (by have hq:=zMp har (by simp only [Lz,cond_true,cond_false,Bool.and_eq_true,Bool.or_eq_true,Bool.not_eq_true',Bool.not_eq_false',Bool.or_eq_false_iff,Bool.and_eq_false_iff,decide_eq_true_eq,decide_eq_false_iff_not,Bool.not_eq_true,Bool.not_eq_false] at g3_8;omega);omega) (zIh (exG (by have hq:=zMp har (by simp only [Lz,cond_true,cond_false,Bool.and_eq_true,Bool.or_eq_true,Bool.not_eq_true',Bool.not_eq_false',Bool.or_eq_false_iff,Bool.and_eq_false_iff,decide_eq_true_eq,decide_eq_false_iff_not,Bool.not_eq_true,Bool.not_eq_false] at g3_8;omega);omega) ha0))) O<|B 40 O (fun g3_8=>qJ O wT O) O<|B 41 O (fun g3_8=>Q O J O qA O) O<|B 42 O (fun g3_8=>kT O O O) O<|j O (fun h=>(lzf h))<|A O<|M O (fun g3_16=>zE O zAv O) O<|B 46 O (fun g3_16=>Q O zEh O (R 0 O) O) O<|B 47 O (fun g3_16=>qE O el42 O O (by have hq:=zMp har (by simp only [Lz,cond_true,cond_false,Bool.and_eq_true,Bool.or_eq_true,Bool.not_eq_true',Bool.not_eq_false',Bool.or_eq_false_iff,Bool.and_eq_false_iff,decide_eq_true_eq,decide_eq_false_iff_not,Bool.not_eq_true,Bool.not_eq_false] at g3_16;omega);omega) (zIh (exG (by have hq:=zMp har (by simp only [Lz,cond_true,cond_false,Bool.and_eq_true,Bool.or_eq_true,Bool.not_eq_true',Bool.not_eq_false',Bool.or_eq_false_iff,Bool.and_eq_false_iff,decide_eq_true_eq,decide_eq_false_iff_not,Bool.not_eq_true,Bool.not_eq_false] at g3_16;omega);omega) hb0))) O<|B 48 O (fun g3_16=>qJ O wT O) O<|B 49 O (fun g3_16=>Q O J O qA O) O<|B 50 O (fun g3_16=>kT O O O) O<|j O (fun h=>(lzf h))<|H<|zD O (fun c2=>?_) (fun c2=>?_)
  ·refine F O<|A O<|H<|zV _ (Weak.mem [false,true] O)<|o<|X O ?_
   first|exact ⟨congrArg vB ((wR c1 ha0 hb0).trans (zQe c2)).symm,[],rfl⟩|exact ⟨congrArg vB ((wR c1 ha0 hb0).trans (zQe c2)).symm,[_],rfl⟩|exact ⟨congrArg vB ((wR c1 ha0 hb0).trans (zQe c2)).symm,[_,_],rfl⟩|exact ⟨congrArg vB ((wR c1 ha0 hb0).trans (zQe c2)).symm,[_,_,_],rfl⟩|exact ⟨congrArg vB ((wR c1 ha0 hb0).trans (zQe c2)).symm,[_,_,_,_],rfl⟩
  ·have h2:=zMp har (by simp only [Lz,cond_true,cond_false,Bool.and_eq_true,Bool.or_eq_true,Bool.not_eq_true',Bool.not_eq_false',Bool.or_eq_false_iff,Bool.and_eq_false_iff,decide_eq_true_eq,decide_eq_false_iff_not,Bool.not_eq_true,Bool.not_eq_false] at c2;omega)
   have ha:=exG (k:=0) (by omega) ha0
   have hb:=exG (k:=1) (by omega) hb0
   have haw:=Ex.arg_wt (zZ ha)
   have hbw:=Ex.arg_wt (zZ hb)
   have hae:=Ex.wt_eq a
   have hbe:=Ex.wt_eq b
   refine zH<|F O<|zJ O zAv<|zK zEh (R 0 O) O<|qD O el42 (by omega) (zIh ha)<|qS O zEv<|zO kE qA O<|qG O ok51 (show Pur cfg 51 [vLin a.Lin,vI (-1)] (.tup [vLin sc.1,vI sc.2]) by rw [←hs0];exact zPy a.Lin (-1) (by omega) (Ex.allF_lin (Ex.allF_arg hr (zZ ha))) (by unfold r64;omega)) ⟨G,O,G,O,T⟩<|qN O<|zR O (qT O O O)<|qU O<|zU O O (qC [none,some 2] O zr41 O) ?_
   rintro _ _ ⟨b2,rfl,rfl⟩
   refine D 0 sz41 O<|A O<|H<|zI<|F O<|A O<|yP O<|H<|zD O (fun c3=>?_) (fun c3=>?_)
   ·try simp only [I] at c3
    refine F O<|A O<|H<|zV _ (Weak.mem [false,false,true] O)<|o<|X O ?_
    first|exact ⟨congrArg vB ((wR c1 ha0 hb0).trans (zQd c2 hs0 c3)).symm,[],rfl⟩|exact ⟨congrArg vB ((wR c1 ha0 hb0).trans (zQd c2 hs0 c3)).symm,[_],rfl⟩|exact ⟨congrArg vB ((wR c1 ha0 hb0).trans (zQd c2 hs0 c3)).symm,[_,_],rfl⟩|exact ⟨congrArg vB ((wR c1 ha0 hb0).trans (zQd c2 hs0 c3)).symm,[_,_,_],rfl⟩|exact ⟨congrArg vB ((wR c1 ha0 hb0).trans (zQd c2 hs0 c3)).symm,[_,_,_,_],rfl⟩
   ·try simp only [I] at c3
    refine zH<|zI<|kS 12 1 [⟨0,.q []⟩,⟨1,.q [2]⟩,⟨2,.q []⟩,⟨3,.q []⟩,⟨4,.q []⟩,⟨5,.q [1]⟩,⟨6,.q []⟩,⟨7,.q []⟩,⟨8,.q []⟩,⟨9,.q []⟩,⟨10,.e 0 []⟩,⟨11,.e 0 []⟩] mixed (by kernel_rfl) (by kernel_rfl) O O O<|t O<|t O<|t O<|t O<|t O<|t O<|t O<|t O<|t O<|t O<|t O<|t O<|zDg<|qF O (by decide) O O (zE O zAv O)<|qF O (by decide) O O (Q O zEh O (R 0 O) O)<|qF O (by decide) O O (qE O el42 O O (by omega) (zIh hb))<|qF O (by decide) O O (qJ O zEv O)<|qF O (by decide) O O (zX O kE O qA O)<|qF O (by decide) O O (zX O kE O (R 0 O) O)<|qF O (by decide) O O (qI O ok53 (show Pur cfg 53 [vLin b.Lin,vLin sc.1] (.tup [vLin d.1,vI d.2]) by rw [←hd0];exact lin_Add b.Lin sc.1 (by omega) (by omega) (Ex.allF_lin (Ex.allF_arg hr (zZ hb))) hsr) ⟨G,O,G,O,T⟩)<|qF O (by decide) O O (kQ O O)<|qF O (by decide) O O (qT O O O)<|qF O (by decide) O O (wP O O O)<|zNd O O (by decide) O O (qC [none,some 2] O zr41 O) ?_
    rintro _ _ ⟨b3,rfl,rfl⟩
    refine ⟨_,O,?_⟩
    refine zIm O O (by decide) O O (yO O sz41 O O O (zIk 0 O O)) ?_
    rintro _ _ ⟨rfl,rfl⟩
    refine ⟨_,O,?_⟩
    refine zDf O<|A O<|H<|zI<|F O<|A O<|yP O<|H<|zD O (fun c4=>?_) (fun c4=>?_)
    ·try simp only [I] at c4
     refine F O<|A O<|H<|zV _ (Weak.mem [false,false,false,true] O)<|o<|X O ?_
     first|exact ⟨congrArg vB ((wR c1 ha0 hb0).trans (zQc c2 hs0 c3 hd0 c4)).symm,[],rfl⟩|exact ⟨congrArg vB ((wR c1 ha0 hb0).trans (zQc c2 hs0 c3 hd0 c4)).symm,[_],rfl⟩|exact ⟨congrArg vB ((wR c1 ha0 hb0).trans (zQc c2 hs0 c3 hd0 c4)).symm,[_,_],rfl⟩|exact ⟨congrArg vB ((wR c1 ha0 hb0).trans (zQc c2 hs0 c3 hd0 c4)).symm,[_,_,_],rfl⟩|exact ⟨congrArg vB ((wR c1 ha0 hb0).trans (zQc c2 hs0 c3 hd0 c4)).symm,[_,_,_,_],rfl⟩
    ·try simp only [I] at c4
     refine zH<|F O<|zJ O zGd<|zK n (R 0 O) O<|A O<|A O<|H<|zI<|F O<|zJ O wU<|zK zDl (R 0 O) O<|qB O P<|A O<|H<|zS<|zV ⟨[(81,.c _),(8,.c _),(9,.c _),(1,.c _),(2,.c _),(79,.c _),(80,.c _)],[_,_]⟩ (Weak.mk [false,false,true,true] ⟨G,G,G,G,G,G,G,T⟩ O)<|qO 3 0 O O (Nat×Int×Bool) (fun ⟨k,lo,ok⟩=>[(81,vI k),(8,vI lo),(9,vB ok)]) (fun ⟨k,lo,ok⟩=>[]) (fun ⟨k,lo,ok⟩=>k<=d.1.L.length/\(lowF m d.1.L d.1.K true=lowF m (d.1.L.drop k) lo ok)) (fun ⟨k,lo,ok⟩=>d.1.L.length-k) ⟨⟨0,d.1.K,true⟩,⟨by omega,O⟩,Weak.mk [true,true] ⟨G,G,G,G,G,G,G,T⟩ O⟩ ?_
     rintro ⟨k,lo,ok⟩ ⟨hk,hp⟩
     show AWP _ _ _ _ _ ⟨[(81,vI k),(8,vI lo),(9,vB ok)]++_,[]++_⟩
     refine F O<|yN O<|H<|zI<|zD O (fun c5=>?_) (fun c5=>?_)
     ·try simp only [I] at c5
      obtain ⟨x,hx⟩:=qZ d.1.L k (by omega)
      refine zH<|zI<|zS<|F O<|qD O P (by omega) (v (by assumption))<|zO zMq qA O<|zU O O (yV O zr69) ?_
      rintro _ _ ⟨b4,rfl,rfl⟩
      refine D 0 sz69 O<|H<|F O<|zJ O zGc<|zK n (R 0 O) O<|yN O<|A O<|M O (fun g15_3=>w O O) O<|kD O (fun h=>h)<|H<|zD O (fun c6=>?_) (fun c6=>?_)
      ·have c6:x.By<0/\ok=true:=by simpa using c6
       refine zT O<|A O<|zJ O zGc<|zK n (R 0 O) O<|A O<|zJ O zCe<|zK one9 (R 0 O) O<|zR O (det_lookup 2 (0:Int) O sm110 O O O (fun _ _=>CRep.lit _ O))<|zR O (zMk O O O)<|qG O ok157 (split_plus _ _ _) ⟨G,O,G,O,G,O,T⟩<|qN O<|qU O<|qU O<|A O<|A O<|H<|zT O<|qK O ⟨by omega,by omega⟩<|A O<|H ?_
       refine ⟨⟨k+1,(plusP lo x.By (w64 ((mget m x.Name).getD 0-1))).1,(plusP lo x.By (w64 ((mget m x.Name).getD 0-1))).2⟩,⟨by omega,(by first|exact lowF_next hx hp c6|exact lowF_skip hx hp c6)⟩,(by show d.1.L.length-(k+1)<d.1.L.length-k;omega),Weak.mk [false,true,true] ⟨G,G,G,G,G,G,G,T⟩ O⟩
      ·have c6:¬(x.By<0/\ok=true):=by simpa using c6
       refine zH<|zT O<|qK O ⟨by omega,by omega⟩<|A O<|H ?_
       refine ⟨⟨k+1,lo,ok⟩,⟨by omega,(by first|exact lowF_next hx hp c6|exact lowF_skip hx hp c6)⟩,(by show d.1.L.length-(k+1)<d.1.L.length-k;omega),Weak.mk [false,true,true] ⟨G,G,G,G,G,G,G,T⟩ O⟩
     ·try simp only [I] at c5
      have hR:=lowF_end hp (by omega)
      refine qQ<|F O<|A O<|A O<|M O (fun g18_1=>w O O) O<|B 106 O (fun g18_1=>wK O O O) O<|B 107 O (fun g18_1=>w O O) O<|rLz [] O gv2 T (fun g18_4=>w O O) O<|rLz [(109,_)] O gv2 ⟨O,O,T⟩ (fun g18_4=>yX O O O) O<|rLz [(110,_)] O gv2 ⟨O,O,T⟩ (fun g18_4=>w O O) O<|rLz [] O gv2 T (fun g18_7=>zE O wT O) O<|rLz [(112,_)] O gv2 ⟨O,O,T⟩ (fun g18_7=>Q O J O (R 0 O) O) O<|rLz [(113,_)] O gv2 ⟨O,O,T⟩ (fun g18_7=>yX O O O) O<|rLz [(111,_)] O gv2 ⟨O,O,T⟩ (fun g18_4=>wX O O O (fun h=>kK (by assumption) h) O) O<|B 108 O (fun g18_1=>zDh O O O O (fun h=>kK (by assumption) (lzf h))) O<|kD O (fun h=>h)<|A O<|H<|zV _ (Weak.mem [false,true] O)<|o<|X O ?_
      first|exact ⟨congrArg vB ((wR c1 ha0 hb0).trans (zQb c2 hs0 c3 hd0 c4 hR)).symm,[],rfl⟩|exact ⟨congrArg vB ((wR c1 ha0 hb0).trans (zQb c2 hs0 c3 hd0 c4 hR)).symm,[_],rfl⟩|exact ⟨congrArg vB ((wR c1 ha0 hb0).trans (zQb c2 hs0 c3 hd0 c4 hR)).symm,[_,_],rfl⟩|exact ⟨congrArg vB ((wR c1 ha0 hb0).trans (zQb c2 hs0 c3 hd0 c4 hR)).symm,[_,_,_],rfl⟩|exact ⟨congrArg vB ((wR c1 ha0 hb0).trans (zQb c2 hs0 c3 hd0 c4 hR)).symm,[_,_,_,_],rfl⟩
theorem zGm (mb:Nat) (m:MM) (e:Ex) (har:arE e=true) (hr:e.allF Lf.rng) (he:e.wt<=1000000000):Con cfg 120 [vE e,.c (.lit (.map (some mb)))] [E.blk mb (MapR vI (m))] fun r μ'=>r=vB (redP m e)/\μ'=[E.blk mb (MapR vI (m))]:=by
  induction e using Ex.ind with
  |_ e ih=>exact redundant_step mb m e ih har hr he
theorem zMs (mb:Nat) (l:List St) (ih:∀s,s∈l->∀m:MM,Con cfg 67 [vSts s.Body,.c (.lit (.map (some mb)))] [E.blk mb (MapR vI (m))] fun r μ'=>r=.tup [vSts (ungL m s.Body).1.1,vI ((ungL m s.Body).1.2:Nat)]/\μ'=[E.blk mb (MapR vI ((ungL m s.Body).2))]) (hg:gdL l=true) (hr:allSs Lf.rng l) (hl:stsWt l<=1000000) (m:MM):
    Con cfg 67 [vSts l,.c (.lit (.map (some mb)))] [E.blk mb (MapR vI (m))] fun r μ'=>r=.tup [vSts (ungL m l).1.1,vI ((ungL m l).1.2:Nat)]/\μ'=[E.blk mb (MapR vI ((ungL m l).2))]:=by
 refine Con.drop<|zQ Tryz.func67 O Tryz.ntmps67 Tryz.results67 O ?_
 intro z hz
 have hll:=kP l
 have hN:=zDq l
 refine F O<|qX 20 O<|A O<|H<|F O<|A O<|yJ _ (wL 46 20)<|H<|F O<|A O<|H<|zI<|F O<|A O<|zR O (det_len_sl O K O)<|A O<|H<|zS<|zV ⟨[(14,.c _),(6,.c _),(7,.c _),(1,.c _),(12,.c _),(13,.c _)],[_,_]⟩ (Weak.mk [true,true] ⟨G,G,G,G,G,G,T⟩ O)<|qO 3 2 O O (Nat×Value) (fun ⟨k,sv⟩=>[(14,vI k),(6,.c (.lit sv)),(7,vI ((ungL m (l.take k)).1.2:Nat))]) (fun ⟨k,sv⟩=>[E.vec sv 46 20 ((ungL m (l.take k)).1.1.map St.cells),E.blk mb (MapR vI ((ungL m (l.take k)).2))]) (fun ⟨k,sv⟩=>k<=l.length) (fun ⟨k,sv⟩=>l.length-k) ⟨⟨0,(.slice none 0 0)⟩,(by omega),Weak.mk [true,true] ⟨G,G,VLe.of_eq (by rw [List.take_zero,ungL];rfl),G,G,G,T⟩ (by show [E.vec (.slice none 0 0) _ _ [],E.blk mb (MapR vI m)]=[E.vec _ _ _ ((ungL m (l.take 0)).1.1.map St.cells),E.blk mb (MapR vI (ungL m (l.take 0)).2)];rw [List.take_zero,ungL];rfl)⟩ ?_
 rintro ⟨k,sv⟩ hk
 show AWP _ _ _ _ _ ⟨[(14,vI k),(6,.c (.lit sv)),(7,vI ((ungL m (l.take k)).1.2:Nat))]++_,[E.vec sv 46 20 ((ungL m (l.take k)).1.1.map St.cells),E.blk mb (MapR vI ((ungL m (l.take k)).2))]++_⟩
 refine F O<|yN O<|H<|zI<|zD O (fun c1=>?_) (fun c1=>?_)
 ·try simp only [I] at c1
  obtain ⟨s,hs⟩:=qZ l k (by omega)
  have hsw:=yG (zZ hs)
  have hse:=St.wt_eq s
  have hPs:=St.allF_eq (kJ hr s (zZ hs))
  have hgs:=gdL_mem hg (zZ hs)
  obtain ⟨hb1,hb2⟩:=zOt m (l.take k)
  obtain ⟨hb3,hb4⟩:=zOt (mIn (ungL m (l.take k)).2 s) s.Body
  have hst:=stsN_take hs
  have hsN:=zIl s
  have hlx:=kP (ungL m (l.take k)).1.1
  have hly:=kP (ungL (mIn (ungL m (l.take k)).2 s) s.Body).1.1
  have htk:=takeWt l k
  refine zH<|zI<|zS<|F O<|qD O K (by omega) (kZ hs)<|zO zBw qA O<|zU O O (qC [none,none,none,none,none,some 4,none,none,none,none,none,none,none,none,none,none,some 2,some 4,some 13,some 20] O d O) ?_
  rintro _ _ ⟨b2,rfl,rfl⟩
  refine D 0 sz46 O<|H<|zI<|F O<|zJ O zBu<|zK J (R 0 O) O<|yZ O<|H<|zD O (fun c2=>?_) (fun c2=>?_)
  ·try simp only [I] at c2
   have hmi:mIn (ungL m (l.take k)).2 s=mput (ungL m (l.take k)).2 s.Name s.Many:=if_pos c2
   refine zT O<|A O<|zJ O zBt<|zK one9 (R 0 O) O<|zJ O zAi<|zK J (R 0 O) O<|wA O O (det_mapput 2 s.Many O sm110 O O O (G) O)<|H<|F O<|zJ O kN<|zK kM (R 0 O) O<|A O<|zR O (zHl [2] O ok67 (con_pre (congrArg (fun q=>[E.blk mb (MapR vI q)]) hmi.symm) (ih s (zZ hs) (mIn (ungL m (l.take k)).2 s))) ⟨G,O,G,O,T⟩ O)<|qN O<|qU O<|qU O<|A O<|A O<|H<|F O<|A O<|A O<|qK O ⟨by omega,by omega⟩<|A O<|H<|zI<|F O<|zJ O zBu<|zK J (R 0 O) O<|yZ O<|A O<|M O (fun g10_3=>zE O zCf O) O<|B 40 O (fun g10_3=>zX O kL O (R 0 O) O) O<|M O (fun g10_3=>w O O) O<|rLz [(41,_),(42,_)] O gv1 ⟨O,O,O,O,T⟩ (fun g10_3=>yK [2] O ok120 (zGm mb (ungL (mIn (ungL m (l.take k)).2 s) s.Body).2 s.E (gdS_if hgs (by simp only [Lz,cond_true,cond_false,Bool.and_eq_true,Bool.or_eq_true,Bool.not_eq_true',Bool.not_eq_false',Bool.or_eq_false_iff,Bool.and_eq_false_iff,decide_eq_true_eq,decide_eq_false_iff_not,Bool.not_eq_true,Bool.not_eq_false] at g10_3;omega)) hPs.2.1 (by omega)) ⟨G,O,G,O,T⟩ O) O<|kD O (fun h=>h)<|H<|zD O (fun c3=>?_) (fun c3=>?_)
   ·have hug:=ungS_yes (m:=(ungL m (l.take k)).2) (s:=s) (by simpa using c3)
    refine F O<|A O<|A O<|zU O O (yU 1 O K O O O (by simp only [List.length_map,List.length_append,List.length_cons,List.length_nil,List.length_take,List.length_drop];omega) (by simp only [List.length_map,List.length_append,List.length_cons,List.length_nil,List.length_take,List.length_drop];omega)) ?_
    rintro _ _ ⟨sv3,rfl,rfl⟩
    refine A O<|H<|F O<|A O<|qK O ⟨by omega,by omega⟩<|A O<|H<|qQ<|zT O<|qK O ⟨by omega,by omega⟩<|A O<|H ?_
    refine ⟨⟨k+1,sv3⟩,(by omega),(by show l.length-(k+1)<l.length-k;omega),Weak.mk [false,true,true] ⟨G,G,VLe.of_eq (by rw [zDa hs,hug];exact congrArg (fun n=>V.c (C.lit (.int .i64 n))) (by dsimp only;omega)),G,G,G,T⟩ (by have e:=zDa (m:=m) hs;rw [hug] at e;show _=[E.vec sv3 _ 20 ((ungL m (l.take (k+1))).1.1.map St.cells),E.blk mb (MapR vI (ungL m (l.take (k+1))).2)]++_;rw [e];simp only [List.map_append,List.map_cons,List.map_nil,St.cells_eq (setB _ _)];rfl)⟩
   ·have hug:=ungS_no (m:=(ungL m (l.take k)).2) (s:=s) (by simpa using c3)
    refine zH<|F O<|A O<|zJ O kN<|D 0 sz23 O<|H<|zT O<|A O<|zO zBw (R 0 O) O<|zR O (qW O K d O O O O)<|zU O O (yU 1 O K O O O (by simp only [List.length_map,List.length_append,List.length_cons,List.length_nil,List.length_take,List.length_drop];omega) (by simp only [List.length_map,List.length_append,List.length_cons,List.length_nil,List.length_take,List.length_drop];omega)) ?_
    rintro _ _ ⟨sv4,rfl,rfl⟩
    refine A O<|H<|zT O<|qK O ⟨by omega,by omega⟩<|A O<|H ?_
    refine ⟨⟨k+1,sv4⟩,(by omega),(by show l.length-(k+1)<l.length-k;omega),Weak.mk [false,true,true] ⟨G,G,VLe.of_eq (by rw [zDa hs,hug];exact congrArg (fun n=>V.c (C.lit (.int .i64 n))) (by dsimp only;omega)),G,G,G,T⟩ (by have e:=zDa (m:=m) hs;rw [hug] at e;show _=[E.vec sv4 _ 20 ((ungL m (l.take (k+1))).1.1.map St.cells),E.blk mb (MapR vI (ungL m (l.take (k+1))).2)]++_;rw [e];simp only [List.map_append,List.map_cons,List.map_nil,St.cells_eq (setB _ _)];rfl)⟩
  ·try simp only [I] at c2
   have hmi:mIn (ungL m (l.take k)).2 s=(ungL m (l.take k)).2:=if_neg c2
   refine zH<|F O<|zJ O kN<|zK kM (R 0 O) O<|A O<|zR O (zHl [2] O ok67 (con_pre (congrArg (fun q=>[E.blk mb (MapR vI q)]) hmi.symm) (ih s (zZ hs) (mIn (ungL m (l.take k)).2 s))) ⟨G,O,G,O,T⟩ O)<|qN O<|qU O<|qU O<|A O<|A O<|H<|F O<|A O<|A O<|qK O ⟨by omega,by omega⟩<|A O<|H<|zI<|F O<|zJ O zBu<|zK J (R 0 O) O<|yZ O<|A O<|M O (fun g10_3=>zE O zCf O) O<|B 40 O (fun g10_3=>zX O kL O (R 0 O) O) O<|M O (fun g10_3=>w O O) O<|rLz [(41,_),(42,_)] O gv1 ⟨O,O,O,O,T⟩ (fun g10_3=>yK [2] O ok120 (zGm mb (ungL (mIn (ungL m (l.take k)).2 s) s.Body).2 s.E (gdS_if hgs (by simp only [Lz,cond_true,cond_false,Bool.and_eq_true,Bool.or_eq_true,Bool.not_eq_true',Bool.not_eq_false',Bool.or_eq_false_iff,Bool.and_eq_false_iff,decide_eq_true_eq,decide_eq_false_iff_not,Bool.not_eq_true,Bool.not_eq_false] at g10_3;omega)) hPs.2.1 (by omega)) ⟨G,O,G,O,T⟩ O) O<|kD O (fun h=>h)<|H<|zD O (fun c3=>?_) (fun c3=>?_)
   ·have hug:=ungS_yes (m:=(ungL m (l.take k)).2) (s:=s) (by simpa using c3)
    refine F O<|A O<|A O<|zU O O (yU 1 O K O O O (by simp only [List.length_map,List.length_append,List.length_cons,List.length_nil,List.length_take,List.length_drop];omega) (by simp only [List.length_map,List.length_append,List.length_cons,List.length_nil,List.length_take,List.length_drop];omega)) ?_
    rintro _ _ ⟨sv5,rfl,rfl⟩
    refine A O<|H<|F O<|A O<|qK O ⟨by omega,by omega⟩<|A O<|H<|qQ<|zT O<|qK O ⟨by omega,by omega⟩<|A O<|H ?_
    refine ⟨⟨k+1,sv5⟩,(by omega),(by show l.length-(k+1)<l.length-k;omega),Weak.mk [false,true,true] ⟨G,G,VLe.of_eq (by rw [zDa hs,hug];exact congrArg (fun n=>V.c (C.lit (.int .i64 n))) (by dsimp only;omega)),G,G,G,T⟩ (by have e:=zDa (m:=m) hs;rw [hug] at e;show _=[E.vec sv5 _ 20 ((ungL m (l.take (k+1))).1.1.map St.cells),E.blk mb (MapR vI (ungL m (l.take (k+1))).2)]++_;rw [e];simp only [List.map_append,List.map_cons,List.map_nil,St.cells_eq (setB _ _)];rfl)⟩
   ·have hug:=ungS_no (m:=(ungL m (l.take k)).2) (s:=s) (by simpa using c3)
    refine zH<|F O<|A O<|zJ O kN<|D 0 sz23 O<|H<|zT O<|A O<|zO zBw (R 0 O) O<|zR O (qW O K d O O O O)<|zU O O (yU 1 O K O O O (by simp only [List.length_map,List.length_append,List.length_cons,List.length_nil,List.length_take,List.length_drop];omega) (by simp only [List.length_map,List.length_append,List.length_cons,List.length_nil,List.length_take,List.length_drop];omega)) ?_
    rintro _ _ ⟨sv6,rfl,rfl⟩
    refine A O<|H<|zT O<|qK O ⟨by omega,by omega⟩<|A O<|H ?_
    refine ⟨⟨k+1,sv6⟩,(by omega),(by show l.length-(k+1)<l.length-k;omega),Weak.mk [false,true,true] ⟨G,G,VLe.of_eq (by rw [zDa hs,hug];exact congrArg (fun n=>V.c (C.lit (.int .i64 n))) (by dsimp only;omega)),G,G,G,T⟩ (by have e:=zDa (m:=m) hs;rw [hug] at e;show _=[E.vec sv6 _ 20 ((ungL m (l.take (k+1))).1.1.map St.cells),E.blk mb (MapR vI (ungL m (l.take (k+1))).2)]++_;rw [e];simp only [List.map_append,List.map_cons,List.map_nil,St.cells_eq (setB _ _)];rfl)⟩
 ·try simp only [I] at c1
  refine qQ<|F O<|A O<|A O<|A O<|A O<|H<|zV _ (yY 0 O (regs':=[(6,_),(57,_),(4,_)]) (μ':=[_]) ⟨FLe.sl,FLe.sl,FLe.sl,T⟩ ⟨EFle.refl _,T⟩)<|o<|p (N O) (N O) ?_
  rw [kG (l:=l) (k:=k) (by omega)]
  first|exact ⟨rfl,[],rfl⟩|exact ⟨rfl,[_],rfl⟩|exact ⟨rfl,[_,_],rfl⟩|exact ⟨rfl,[_,_,_],rfl⟩|exact ⟨rfl,[_,_,_,_],rfl⟩
theorem unguard_body (mb:Nat) (s:St) (hg:gdL s.Body=true) (hr:allSs Lf.rng s.Body) (hl:stsWt s.Body<=1000000):∀m:MM,Con cfg 67 [vSts s.Body,.c (.lit (.map (some mb)))] [E.blk mb (MapR vI (m))] fun r μ'=>r=.tup [vSts (ungL m s.Body).1.1,vI ((ungL m s.Body).1.2:Nat)]/\μ'=[E.blk mb (MapR vI ((ungL m s.Body).2))]:=by
  induction s using St.ind with
  |_ s ih=>exact zMs mb s.Body (fun a ha=>ih a ha (gdS_body (gdL_mem hg ha)) (St.allF_eq (kJ hr a ha)).2.2 (by have:=yG ha;have:=St.body_wt a;omega)) hg hr hl
theorem split_unguard (mb:Nat) (l:List St) (hg:gdL l=true) (hr:allSs Lf.rng l) (hl:stsWt l<=1000000) (m:MM):Con cfg 67 [vSts l,.c (.lit (.map (some mb)))] [E.blk mb (MapR vI (m))] fun r μ'=>r=.tup [vSts (ungL m l).1.1,vI ((ungL m l).1.2:Nat)]/\μ'=[E.blk mb (MapR vI ((ungL m l).2))]:=
  zMs mb l (fun s hs=>unguard_body mb s (gdS_body (gdL_mem hg hs)) (St.allF_eq (kJ hr s hs)).2.2 (by have:=yG hs;have:=St.body_wt s;omega)) hg hr hl m
theorem zDy (n:Ns) (hn:n.Ok) (hl:stsWt n.Body<=1000) (hr:allSs Lf.rng n.Body) (hg:(validN n).2=0->gdL n.Body=true):
    Pur cfg 24 [vNs n] (.tup [vNs (remT n).1,vI (remT n).2]):=by
 refine zQ Tryz.func24 O Tryz.ntmps24 Tryz.results24 O ?_
 intro z hz
 obtain ⟨hu1,hu2⟩:=zOt [] n.Body
 have hok2:Ns.Ok ⟨n.Bufs,(ungL [] n.Body).1.1⟩:=⟨hn.bufs,hn.dims,by show stsWt (ungL [] n.Body).1.1<=_;omega⟩
 refine F O<|zU O O (qL O O) ?_
 rintro _ _ ⟨b1,rfl,rfl⟩
 refine zU O O (qC [some 8,some 20] O U O) ?_
 rintro _ _ ⟨b2,rfl,rfl⟩
 refine A O<|H<|zI<|F O<|zO kF (R 1 O) O<|qG O ok34 (zCp n hn) ⟨G,O,T⟩<|qN O<|qU O<|qU O<|A O<|A O<|H<|F O<|A O<|yP O<|H<|zD O (fun c1=>?_) (fun c1=>?_)
 ·try simp only [I] at c1
  refine F O<|qV [some 8,some 20] O U pl25<|D 0 W O<|A O<|H<|o<|p (y kF O (R 0 O) O) (N O) ?_
  rw [remT_1 c1];rfl
 ·try simp only [I] at c1
  refine zH<|F O<|zJ O wO<|zK kM (R 1 O) O<|zU O O (ope_mkmap vI O O) ?_
  rintro _ _ ⟨b3,rfl,rfl⟩
  refine zU O O (zDc [0] O ok67 (split_unguard _ n.Body (hg c1) hr (by omega) []) ⟨G,O,G,O,T⟩ O) ?_
  rintro _ _ ⟨_,⟨rfl,rfl⟩,rfl⟩
  refine qN O<|qU O<|qU O<|A O<|A O<|H<|F O<|zJ O zBh<|zK zFo (R 2 O) O<|A O<|yS O U pl25<|qG O ok39 (zKl ⟨n.Bufs,(ungL [] n.Body).1.1⟩ hok2) ⟨G,O,T⟩<|A O<|D 1 W O<|A O<|H<|o<|p (y kF O (R 1 O) O) (N O) ?_
  rw [remT_2 c1];rfl
end Go.W
end
section
set_option maxRecDepth 10000
namespace Go.W
open Go Go.Eng Go.Proofs Go.L41 Go.Br
attribute [local irreducible] AWP RWP TD finQ
/-! The examples. -/
def nmI:ByteArray:=bs [105]
def nmO:ByteArray:=bs [111]
def nmK:ByteArray:=bs [107]
def nmP:ByteArray:=bs [112]
def exAf:Lf:=⟨0,[⟨bs [107],1⟩,⟨bs [111],2⟩]⟩
def exBf:Lf:=⟨0,[⟨bs [107],1⟩,⟨bs [111],4⟩]⟩
def exCf:Lf:=⟨2,[⟨bs [112],1⟩]⟩
def sA1:St:=sFor nmK 2 0 [cpB exAf]
def sA:St:=sFor nmO 3 0 [sA1]
def sB2:St:=sIf (ltE exBf 6) [cpB exBf]
def sB1:St:=sFor nmK 4 0 [sB2]
def sB:St:=sFor nmO 2 0 [sB1]
def sC1:St:=sFor nmI 2 0 [cpB vI1]
def sC2:St:=sFor nmP 4 0 [cpB exCf]
def sG:St:=sFor nmI 6 0 [sIf (ltE vI1 5) [cpB vI1]]
theorem exA_eq:splitT (cpy 6 0) nmI 2 nmO nmK=(cpN [sA],0):=by kernel_rfl
theorem exB_eq:splitT (cpy 6 0) nmI 4 nmO nmK=(cpN [sB],0):=by kernel_rfl
theorem exC_eq:peelT (cpy 6 0) nmI 2 nmP=(cpN [sC1,sC2],0):=by kernel_rfl
theorem exD_eq:colT (cpN [sA]) nmO nmI=(cpy 6 0,0):=by kernel_rfl
theorem exE_eq:remT (cpy 6 6)=(cpy 6 0,1):=by kernel_rfl
theorem exF_eq:remT (cpy 6 5)=(cpN [sG],0):=by kernel_rfl
theorem zQx {b:List St} (h:stsWt b<=1000):(cpN b).Ok:=by
  refine ⟨by show (2:Nat)<=4294967296;omega,fun x hx=>?_,by show stsWt b<=_;omega⟩
  simp only [cpN,List.mem_cons,List.not_mem_nil,or_false] at hx
  rcases hx with rfl|rfl<;>decide
theorem zMj:stsWt (cpy 6 0).Body<=1000/\stsWt (cpy 6 6).Body<=1000/\stsWt (cpy 6 5).Body<=1000/\stsWt [sA]<=1000:=by decide+kernel
def rngB (l:Lf):Bool:=decide (-9223372036854775808<=l.K)&&decide (l.K<=9223372036854775807)&&l.L.all fun m=>decide (-9223372036854775808<=m.By)&&decide (m.By<=9223372036854775807)
theorem rngB_ok {l:Lf} (h:rngB l=true):l.rng:=by
  simp only [rngB,Bool.and_eq_true,decide_eq_true_eq,List.all_eq_true] at h
  exact ⟨h.1,fun m hm=>h.2 m hm⟩
def ixB (x:Ix):Bool:=rngB x.Lin&&x.At.all rngB
def exRB (e:Ex):Bool:=(nodes e).all fun x=>(formsL x).all rngB
mutual
def stRB:St->Bool
  |.mk _ _ _ _ _ i e b=>i.all ixB&&exRB e&&stsRB b
def stsRB:List St->Bool
  |[]=>true
  |s::r=>stRB s&&stsRB r
end
mutual
theorem stRB_ok:∀s:St,stRB s=true->s.allF Lf.rng
  |.mk o nm mn mk fo i e b,h=>by
    rw [stRB,Bool.and_eq_true,Bool.and_eq_true] at h
    rw [St.allF]
    refine ⟨fun x hx=>?_,fun x hx l hl=>?_,zHt b h.2⟩
    · have h1:=List.all_eq_true.1 h.1.1 x hx
      rw [ixB,Bool.and_eq_true] at h1
      exact ⟨rngB_ok h1.1,fun l hl=>rngB_ok (List.all_eq_true.1 h1.2 l hl)⟩
    · exact rngB_ok (List.all_eq_true.1 (List.all_eq_true.1 h.1.2 x hx) l hl)
theorem zHt:∀l:List St,stsRB l=true->allSs Lf.rng l
  |[],_=>by rw [allSs];trivial
  |s::r,h=>by
    rw [stsRB,Bool.and_eq_true] at h
    rw [allSs]
    exact ⟨stRB_ok s h.1,zHt r h.2⟩
end
theorem ex_rng:allSs Lf.rng (cpy 6 0).Body/\allSs Lf.rng (cpy 6 6).Body/\allSs Lf.rng (cpy 6 5).Body/\allSs Lf.rng [sA]:=
  ⟨zHt _ (by decide+kernel),zHt _ (by decide+kernel),zHt _ (by decide+kernel),zHt _ (by decide+kernel)⟩
theorem ok20:callOk Tryz.prog 20=true:=by kernel_rfl
theorem ok22:callOk Tryz.prog 22=true:=by kernel_rfl
theorem ok24:callOk Tryz.prog 24=true:=by kernel_rfl
theorem ok26:callOk Tryz.prog 26=true:=by kernel_rfl
theorem ok47:callOk Tryz.prog 47=true:=by kernel_rfl
theorem ok75:callOk Tryz.prog 75=true:=by kernel_rfl
theorem zAu (many limit:Int):
    Pur cfg 47 [vI many,vI limit] (vNs (cpy many limit)):=by
 refine zQ Tryz.func47 O Tryz.ntmps47 Tryz.results47 O ?_
 intro z hz
 refine F O<|zU O O (qC [some 8,some 20] O U O) ?_
 rintro _ _ ⟨b1,rfl,rfl⟩
 refine H<|F O<|yS O l pl38<|zU O O (yV O l) ?_
 rintro _ _ ⟨b2,rfl,rfl⟩
 refine D 0 f O<|H<|F O<|qG O ok75 (show Pur cfg 75 [vS (bs [105])] (vLin vI1) from zGe (bs [105])) ⟨G,O,T⟩<|qV [none,none,none,some 2] O zr72 pl72<|zR O (qW O g zr72 O O O O)<|A O<|H<|F O<|A O<|A O<|qV [none,none,none,none,none,none,none,none,none,none,some 2,none,some 13] O zr44 pl44<|qV [none,none,none,none,none,none,none,none,none,none,none,none,none,none,none,none,none,none,none,some 20] O d pl46<|zR O (qW O K d O O O O)<|A O<|H<|zI<|F O<|A O<|zR O (yW O O O)<|H<|zD O (fun c1=>?_) (fun c1=>?_)
 ·try simp only [I] at c1
  refine zT O<|A O<|qG O ok75 (show Pur cfg 75 [vS (bs [105])] (vLin vI1) from zGe (bs [105])) ⟨G,O,T⟩<|qV [none,none,none,none,none,none,none,none,none,none,none,some 4,some 13] O zr44 pl44<|A O<|qV [none,some 2] O zr41 pl41<|qV [none,none,none,none,none,none,none,none,none,none,none,some 4,some 13] O zr44 pl44<|zR O (qW O el42 zr44 O O O O)<|qV [none,none,none,none,none,none,none,none,none,none,some 2,some 4,none] O zr44 pl44<|qV [none,none,none,none,none,some 4,none,none,none,none,none,none,none,none,none,none,none,none,none,none] O d pl46<|zR O (qW O K d O O O O)<|A O<|H<|F O<|zO yR (R 0 O) O<|zR O (qW O L zr3 O O O O)<|yS O zr65 pl65<|zO yR (R 0 O) O<|zR O (qW O L zr3 O O O O)<|yS O zr65 pl65<|zR O (qW O el22 zr65 O O O O)<|A O<|A O<|qV [none,none,none,none,none,some 4,none,none,none,none,none,none,none,none,none,none,some 2,some 4,some 13,none] O d pl46<|zR O (qW O K d O O O O)<|yS O U pl25<|D 1 W O<|H<|o<|fin1 (y kF O (R 1 O) O) ?_
  rw [show cpy many limit=cpN [sFor (bs [105]) many 0 [sIf (ltE vI1 limit) [cpB vI1]]] by unfold cpy;rw [if_pos c1]];rfl
 ·try simp only [I] at c1
  refine zH<|F O<|zO yR (R 0 O) O<|zR O (qW O L zr3 O O O O)<|yS O zr65 pl65<|zO yR (R 0 O) O<|zR O (qW O L zr3 O O O O)<|yS O zr65 pl65<|zR O (qW O el22 zr65 O O O O)<|A O<|A O<|qV [none,none,none,none,none,some 4,none,none,none,none,none,none,none,none,none,none,some 2,some 4,some 13,none] O d pl46<|zR O (qW O K d O O O O)<|yS O U pl25<|D 1 W O<|H<|o<|fin1 (y kF O (R 1 O) O) ?_
  rw [show cpy many limit=cpN [sFor (bs [105]) many 0 [cpB vI1]] by unfold cpy;rw [if_neg (by omega)]];rfl
theorem zCu  :
    Pur cfg 19 [] (vB true):=by
 refine zQ Tryz.func19 O Tryz.ntmps19 Tryz.results19 O ?_
 intro z hz
 refine F O<|A O<|H<|F O<|qG O ok47 (zAu _ _) ⟨G,O,G,O,T⟩<|qG O ok20 (show Pur cfg 20 [vNs (cpy 6 0),vS nmI,vI 2,vS nmO,vS nmK] (.tup [vNs (cpN [sA]),vI 0]) by have h:=zIw (cpy 6 0) nmI 2 nmO nmK (zQx zMj.1) zMj.1 ex_rng.1 (by unfold r64;omega);rw [exA_eq] at h;exact h) ⟨G,O,G,O,G,O,G,O,G,O,T⟩<|qN O<|zR O (qT O O O)<|qU O<|zU O O (qC [some 8,some 20] O U O) ?_
 rintro _ _ ⟨b1,rfl,rfl⟩
 refine D 0 W O<|A O<|H<|F O<|qG O ok47 (zAu _ _) ⟨G,O,G,O,T⟩<|qG O ok20 (show Pur cfg 20 [vNs (cpy 6 0),vS nmI,vI 4,vS nmO,vS nmK] (.tup [vNs (cpN [sB]),vI 0]) by have h:=zIw (cpy 6 0) nmI 4 nmO nmK (zQx zMj.1) zMj.1 ex_rng.1 (by unfold r64;omega);rw [exB_eq] at h;exact h) ⟨G,O,G,O,G,O,G,O,G,O,T⟩<|qN O<|zR O (qT O O O)<|qU O<|zU O O (qC [some 8,some 20] O U O) ?_
 rintro _ _ ⟨b2,rfl,rfl⟩
 refine D 0 W O<|A O<|H<|F O<|qG O ok47 (zAu _ _) ⟨G,O,G,O,T⟩<|qG O ok22 (show Pur cfg 22 [vNs (cpy 6 0),vS nmI,vI 2,vS nmP] (.tup [vNs (cpN [sC1,sC2]),vI 0]) by have h:=split_Peel (cpy 6 0) nmI 2 nmP (zQx zMj.1) zMj.1 ex_rng.1 (by unfold r64;omega);rw [exC_eq] at h;exact h) ⟨G,O,G,O,G,O,G,O,T⟩<|qN O<|zR O (qT O O O)<|qU O<|zU O O (qC [some 8,some 20] O U O) ?_
 rintro _ _ ⟨b3,rfl,rfl⟩
 refine D 0 W O<|A O<|H<|F O<|zO kF (R 2 O) O<|qG O ok26 (show Pur cfg 26 [vNs (cpN [sA]),vS nmO,vS nmI] (.tup [vNs (cpy 6 0),vI 0]) by have h:=zIn (cpN [sA]) nmO nmI (zQx zMj.2.2.2) (Nat.le_trans zMj.2.2.2 (by decide)) ex_rng.2.2.2 (fun _ _=>by decide+kernel);rw [exD_eq] at h;exact h) ⟨G,O,G,O,G,O,T⟩<|qN O<|zR O (qT O O O)<|qU O<|zU O O (qC [some 8,some 20] O U O) ?_
 rintro _ _ ⟨b4,rfl,rfl⟩
 refine D 0 W O<|A O<|H<|F O<|qG O ok47 (zAu _ _) ⟨G,O,G,O,T⟩<|qG O ok24 (show Pur cfg 24 [vNs (cpy 6 6)] (.tup [vNs (cpy 6 0),vI 1]) by have h:=zDy (cpy 6 6) (zQx zMj.2.1) zMj.2.1 ex_rng.2.1 (fun _=>by decide+kernel);rw [exE_eq] at h;exact h) ⟨G,O,T⟩<|qN O<|zR O (qT O O O)<|qU O<|zU O O (qC [some 8,some 20] O U O) ?_
 rintro _ _ ⟨b5,rfl,rfl⟩
 refine D 0 W O<|A O<|H<|F O<|qG O ok47 (zAu _ _) ⟨G,O,G,O,T⟩<|qG O ok24 (show Pur cfg 24 [vNs (cpy 6 5)] (.tup [vNs (cpN [sG]),vI 0]) by have h:=zDy (cpy 6 5) (zQx zMj.2.2.1) zMj.2.2.1 ex_rng.2.2.1 (fun _=>by decide+kernel);rw [exF_eq] at h;exact h) ⟨G,O,T⟩<|qN O<|zR O (qT O O O)<|qU O<|zU O O (qC [some 8,some 20] O U O) ?_
 rintro _ _ ⟨b6,rfl,rfl⟩
 refine D 0 W O<|A O<|H<|zI<|F O<|A O<|yP O<|A O<|M O (fun g7_2=>w O O) O<|B 46 O (fun g7_2=>kT O O O) O<|j O (fun h=>(lzf h))<|A O<|M O (fun g7_6=>w O O) O<|B 50 O (fun g7_6=>kT O O O) O<|j O (fun h=>(lzf h))<|A O<|M O (fun g7_10=>w O O) O<|B 54 O (fun g7_10=>kT O O O) O<|j O (fun h=>(lzf h))<|A O<|M O (fun g7_14=>w O O) O<|B 58 O (fun g7_14=>kT O O O) O<|j O (fun h=>(lzf h))<|A O<|M O (fun g7_18=>w O O) O<|B 62 O (fun g7_18=>kT O O O) O<|j O (fun h=>(lzf h))<|A O<|M O (fun g7_22=>zE O wO O) O<|B 66 O (fun g7_22=>Q O kM O (R 5 O) O) O<|B 67 O (fun g7_22=>yE O K O) O<|B 68 O (fun g7_22=>kT O O O) O<|j O (fun h=>(lzf h))<|A O<|M O (fun g7_28=>zE O wO O) O<|B 72 O (fun g7_28=>Q O kM O (R 4 O) O) O<|B 73 O (fun g7_28=>yE O K O) O<|B 74 O (fun g7_28=>kT O O O) O<|j O (fun h=>(lzf h))<|A O<|M O (fun g7_34=>zE O wO O) O<|B 78 O (fun g7_34=>Q O kM O (R 3 O) O) O<|B 79 O (fun g7_34=>yE O K O) O<|B 80 O (fun g7_34=>kT O O O) O<|j O (fun h=>(lzf h))<|H<|zD O (fun c1=>?_) (fun c1=>?_)
 ·exact absurd c1 (by decide+kernel)
 ·refine zH<|zI<|F O<|zJ O wO<|zK kM (R 5 O) O<|qD O K (by decide) (kZ (x:=sA) O)<|qS O zAi<|zK J qA O<|yP O<|A O<|M O (fun g9_6=>zE O wO O) O<|B 90 O (fun g9_6=>Q O kM O (R 5 O) O) O<|B 91 O (fun g9_6=>qE O K O O (by decide) (kZ (x:=sA) O)) O<|B 92 O (fun g9_6=>qJ O kN O) O<|B 93 O (fun g9_6=>Q O kM O qA O) O<|B 94 O (fun g9_6=>yE O K O) O<|B 95 O (fun g9_6=>kT O O O) O<|j O (fun h=>(lzf h))<|A O<|M O (fun g9_15=>zE O wO O) O<|B 99 O (fun g9_15=>Q O kM O (R 5 O) O) O<|B 100 O (fun g9_15=>qE O K O O (by decide) (kZ (x:=sA) O)) O<|B 101 O (fun g9_15=>qJ O kN O) O<|B 102 O (fun g9_15=>Q O kM O qA O) O<|B 103 O (fun g9_15=>qE O K O O (by decide) (kZ (x:=sA1) O)) O<|B 104 O (fun g9_15=>qJ O zAi O) O<|B 105 O (fun g9_15=>Q O J O qA O) O<|B 106 O (fun g9_15=>kT O O O) O<|j O (fun h=>(lzf h))<|A O<|M O (fun g9_26=>zE O wO O) O<|B 110 O (fun g9_26=>Q O kM O (R 4 O) O) O<|B 111 O (fun g9_26=>qE O K O O (by decide) (kZ (x:=sB) O)) O<|B 112 O (fun g9_26=>qJ O kN O) O<|B 113 O (fun g9_26=>Q O kM O qA O) O<|B 114 O (fun g9_26=>yE O K O) O<|B 115 O (fun g9_26=>kT O O O) O<|j O (fun h=>(lzf h))<|A O<|M O (fun g9_35=>zE O wO O) O<|B 119 O (fun g9_35=>Q O kM O (R 4 O) O) O<|B 120 O (fun g9_35=>qE O K O O (by decide) (kZ (x:=sB) O)) O<|B 121 O (fun g9_35=>qJ O kN O) O<|B 122 O (fun g9_35=>Q O kM O qA O) O<|B 123 O (fun g9_35=>qE O K O O (by decide) (kZ (x:=sB1) O)) O<|B 124 O (fun g9_35=>qJ O kN O) O<|B 125 O (fun g9_35=>Q O kM O qA O) O<|B 126 O (fun g9_35=>yE O K O) O<|B 127 O (fun g9_35=>kT O O O) O<|j O (fun h=>(lzf h))<|H<|zD O (fun c2=>?_) (fun c2=>?_)
  ·exact absurd c2 (by decide+kernel)
  ·refine zH<|zI<|qY 42 mixed (by kernel_rfl) O O<|Y O O (zE O wO O)<|Y O O (Q O kM O (R 4 O) O)<|Y O O (qE O K O O (by decide) (kZ (x:=sB) O))<|Y O O (qJ O zAi O)<|Y O O (Q O J O qA O)<|Y O O (yX O O O)<|Y O O (w O O)<|i [] O O O O gv1 T (fun g11_6=>zE O wO O) O<|i [(137,_)] O O O O gv1 ⟨O,O,T⟩ (fun g11_6=>Q O kM O (R 4 O) O) O<|i [(138,_)] O O O O gv1 ⟨O,O,T⟩ (fun g11_6=>qE O K O O (by decide) (kZ (x:=sB) O)) O<|i [(139,_)] O O O O gv1 ⟨O,O,T⟩ (fun g11_6=>qJ O kN O) O<|i [(140,_)] O O O O gv1 ⟨O,O,T⟩ (fun g11_6=>Q O kM O qA O) O<|i [(141,_)] O O O O gv1 ⟨O,O,T⟩ (fun g11_6=>qE O K O O (by decide) (kZ (x:=sB1) O)) O<|i [(142,_)] O O O O gv1 ⟨O,O,T⟩ (fun g11_6=>qJ O kN O) O<|i [(143,_)] O O O O gv1 ⟨O,O,T⟩ (fun g11_6=>Q O kM O qA O) O<|i [(144,_)] O O O O gv1 ⟨O,O,T⟩ (fun g11_6=>qE O K O O (by decide) (kZ (x:=sB2) O)) O<|i [(145,_)] O O O O gv1 ⟨O,O,T⟩ (fun g11_6=>qJ O zBu O) O<|i [(146,_)] O O O O gv1 ⟨O,O,T⟩ (fun g11_6=>Q O J O qA O) O<|i [(147,_)] O O O O gv1 ⟨O,O,T⟩ (fun g11_6=>yX O O O) O<|Y O O (wX O O O (fun h=>h) O)<|Y O O (w O O)<|i [] O O O O gv1 T (fun g11_20=>zE O wO O) O<|i [(151,_)] O O O O gv1 ⟨O,O,T⟩ (fun g11_20=>Q O kM O (R 3 O) O) O<|i [(152,_)] O O O O gv1 ⟨O,O,T⟩ (fun g11_20=>qE O K O O (by decide) (kZ (x:=sC1) O)) O<|i [(153,_)] O O O O gv1 ⟨O,O,T⟩ (fun g11_20=>qJ O zAi O) O<|i [(154,_)] O O O O gv1 ⟨O,O,T⟩ (fun g11_20=>Q O J O qA O) O<|i [(155,_)] O O O O gv1 ⟨O,O,T⟩ (fun g11_20=>yX O O O) O<|Y O O (wX O O O (fun h=>h) O)<|Y O O (w O O)<|i [] O O O O gv1 T (fun g11_28=>zE O wO O) O<|i [(159,_)] O O O O gv1 ⟨O,O,T⟩ (fun g11_28=>Q O kM O (R 3 O) O) O<|i [(160,_)] O O O O gv1 ⟨O,O,T⟩ (fun g11_28=>qE O K O O (by decide) (kZ (x:=sC2) O)) O<|i [(161,_)] O O O O gv1 ⟨O,O,T⟩ (fun g11_28=>qJ O zAi O) O<|i [(162,_)] O O O O gv1 ⟨O,O,T⟩ (fun g11_28=>Q O J O qA O) O<|i [(163,_)] O O O O gv1 ⟨O,O,T⟩ (fun g11_28=>yX O O O) O<|Y O O (wX O O O (fun h=>h) O)<|Y O O (w O O)<|i [] O O O O gv1 T (fun g11_36=>zX O kF O (R 2 O) O) O<|i [] O O O O gv1 T (fun g11_36=>qI O ok47 (zAu _ _) ⟨G,O,G,O,T⟩) O<|i [(167,_),(168,_)] O O O O gv1 ⟨O,O,O,O,T⟩ (fun g11_36=>qI O ok14 (base_Nest (cpy 6 0) (cpy 6 0) (zQx zMj.1)) ⟨G,O,G,O,T⟩) O<|Y O O (wX O O O (fun h=>h) O)<|Y O O (yC O O)<|kH<|H<|o<|X O ?_
   exact congrArg vB (by rw [wQ rfl];decide+kernel)
end Go.W
end
section
set_option maxRecDepth 10000
namespace Go.W
open Go Go.Eng Go.Proofs Go.L41 Go.Br
attribute [local irreducible] AWP RWP TD finQ
end Go.W
end
section
set_option maxRecDepth 10000
namespace Go.W
open Go Go.Eng Go.Proofs Go.L41 Go.Br
attribute [local irreducible] AWP RWP TD finQ
end Go.W
end
section
set_option maxRecDepth 10000
namespace Go.W
open Go Go.Eng Go.Proofs Go.L41 Go.Br
attribute [local irreducible] AWP RWP TD finQ
theorem ok28:callOk Tryz.prog 28=true:=by kernel_rfl
end Go.W
end
