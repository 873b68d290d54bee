/-
  What functions compute.
  And what the laws need besides.
  Conditions: none.
-/
import Derived.Test.YthgichbbgocmoaaGreatDoorWalkR
import Derived.Test.YthgichbbgocmoaaGreatDoorPlain3
set_option linter.unusedSimpArgs false
set_option linter.unusedVariables false
set_option linter.defProp false
section
set_option maxRecDepth 10000
namespace Go.W
open Go Go.Eng Go.Proofs Go.L41 Go.Br Tryz
attribute [local irreducible] AWP RWP TD fK
def repR_wt {n:Ns} {way:List Int} {q:List St}:bD (mQ n way q).Body<=bD n.Body+bD q:=by
  unfold mQ
  split
  · next h=>exact replL_wt (way_of h).2
  · show bD []<=_;rw [bD];omega
def repR_ok {n:Ns} {way:List Int} {q:List St} (hn:n.Ok) (h:bD n.Body+bD q<=2000000):(mQ n way q).Ok:=by
  have hw:=repR_wt (n:=n) (way:=way) (q:=q)
  have h2:∀b,b∈(mQ n way q).Bufs->b∈n.Bufs:=by
    unfold mQ;intro b hb
    split at hb
    · exact hb
    · cases hb
  refine ⟨?_,fun b hb=>hn.dims b (h2 b hb),by have:=hn.body;omega⟩
  unfold mQ
  split
  · exact hn.bufs
  · show (0:Nat)<=_;omega
def zUh (n:Ns) (way:List Int) (q:List St) (hn:n.Ok) (hl:bD n.Body<=2000000) (hq:bD q<=2000000) (hw:way.length<=1073741824):
    Pur cfg 61 [vNs n,vIs way,dA q] (.tup [vNs (mQ n way q),vB (atT n.Body way).2]):=by
 refine zR func61 O ntmps61 results61 O ?_
 intro z hz
 have hql:=kY q
 refine G O<|mj O fun b1=>zV O O (qH [some 8,some 20] O zr25 O) ?_
 rintro _ _ ⟨b2,rfl,rfl⟩
 refine mm O<|zG<|G O<|zC O zAq<|zH kX (J 1 O) O<|A O<|qD O uB (zOb n.Body way zA) (vlr O)<|qB O D<|yF O<|Y<|qK O (fun c1=>?_) (fun c1=>?_)
 ·have he:fQ n.Body way=[]:=aV zA
  have ha:=at_none he
  refine G O<|yH [some 8,some 20] O zr25 pl25<|rStR 0 sz25 O<|mm O<|zF<|fin2 (zP kE O (J 0 O) O) (rs_c O) ?_
  rw [show mQ n way q=⟨[],[]⟩ from aa (by rw [ha];simp),ha];rfl
 ·have hne:fQ n.Body way≠[]:=fun h=>c1 (by rw [h];rfl)
  have hok:=at_some hne
  obtain ⟨hwn,hwo⟩:=way_of hok
  refine zI<|G O<|zM kE (J 1 O) O<|zV O O (zPx O uB (loopnest_CopyC way hwn n hn hwo) (vlr O)) ?_
  rintro _ _ ⟨ch,rfl,rfl⟩
  refine zV O O (qH [some 8,some 20] O zr25 O) ?_
  rintro _ _ ⟨b3,rfl,rfl⟩
  refine rStR 0 sz25 O<|Y<|zG<|qV 5 mixed uB O O<|mr O (zE O zAq O)<|mr O (zD O kX O (J 0 O) O)<|mr O (zO O O)<|mr O (zO O O)<|mr O (qG O uB (zDz q zA) (vlr O))<|yQ<|zV O O (zFe [1] O uB (replaceC way hwn ch n.Body q hwo zA zA) (vlr O) O) ?_
  rintro _ _ ⟨_,⟨sv9,rfl,rfl⟩,rfl⟩
  refine zC O zAq<|rStR 0 sz23 O<|Y<|zG<|zY _ (yV 1 O (regs':=[(23,_)]) (μ':=[_,_,_]) ⟨FLe.sl,T⟩ ⟨EFle.row (ds:=[_,_]) ⟨.inl O,.inr ⟨O,O⟩,T⟩,EFle.refl _,EFle.refl _,T⟩)<|zT O<|zM kE (J 0 O) O<|rStR 1 sz25 O<|mm O<|zF<|fin2 (zP kE O (J 1 O) O) (rs_c O) ?_
  rw [show mQ n way q=eN n way q from ab hok,hok];rfl
end Go.W
end
section
set_option maxRecDepth 10000
namespace Go.W
open Go Go.Eng Go.Proofs Go.L41 Go.Br Tryz
attribute [local irreducible] AWP RWP TD fK
variable {n:Ns} {s:lr}
def locT_no (h:¬gO n s=0):gH n s=([],zSt,gO n s):=aa h
def locT_yes (h:gO n s=0):gH n s=(jK n s,(atT n.Body (jK n s)).1,0):=ab h
def locE_1 (h:¬(bL n).2=0):gO n s=(bL n).2:=aa h
def locE_2 (h:(bL n).2=0) (h2:(jC n.Body s).isSome=false):gO n s=19:=by unfold gO;rw [ab h,aa (by rw [h2];simp)]
def locE_3 (h:(bL n).2=0) (h2:(jC n.Body s).isSome=true):gO n s=0:=by unfold gO;rw [ab h,ab h2]
def locT_e (n:Ns) (s:lr):(gH n s).2.2=gO n s:=by
  by_cases h:gO n s=0
  · rw [locT_yes h,h]
  · rw [locT_no h]
def locT_w (h:gO n s=0):(gH n s).1=jK n s:=by rw [locT_yes h]
def zUm (n:Ns) (s:lr):(jK n s).length<=dJ n.Body:=by unfold jK;rw [zYp];exact fndL_getD _ _ _
def locT_wt (n:Ns) (s:lr):bD (gH n s).2.1.Body<=bD n.Body+2:=by
  unfold gH
  split
  · have h1:=atT_wt (l:=n.Body) (way:=jK n s)
    have h2:=St.body_wt (atT n.Body (jK n s)).1
    show bD (atT n.Body (jK n s)).1.Body<=_
    omega
  · show bD zSt.Body<=_
    rw [show zSt.Body=[] from rfl,bD];omega
def zEx_rng:zEx.allF Lf.rng:=fun x hx l hl=>by
  have hx':x∈[zEx]:=hx
  obtain rfl:=aO.1 hx'
  have hl':l∈[(⟨0,[]⟩:Lf)]:=hl
  obtain rfl:=aO.1 hl'
  exact zKs
def zRo:zSt.allF Lf.rng:=by
  unfold zSt
  rw [St.allF,bE]
  exact ⟨fun x hx=>(by cases hx),zEx_rng,T⟩
def atF_all:∀{way:List Int} {l:List St} {s:St},bE Lf.rng l->s.allF Lf.rng->(atF way l s).1.allF Lf.rng
  |[],_,_,_,h=>by rw [atF];exact h
  |i::r,l,s,hl,hs=>by
    rw [atF]
    split
    · next h=>
      have h1:=kR hl _ (zRx h)
      exact atF_all (St.allF_eq h1).2.2 h1
    · exact zRo
def locT_rng (h:bE Lf.rng n.Body):bE Lf.rng (gH n s).2.1.Body:=by
  have h1:(gH n s).2.1.allF Lf.rng:=by
    unfold gH
    split
    · show (atT n.Body (jK n s)).1.allF Lf.rng
      unfold atT
      split
      · exact zRo
      · exact atF_all h zRo
    · exact zRo
  exact (St.allF_eq h1).2.2
def add_rng (a b:Lf):(jM a b).1.rng/\(jM a b).1.L.length<=a.L.length+b.L.length:=by
  unfold jM
  split
  · unfold nA
    split
    · next h=>exact ⟨⟨h.1,fun m hm=>sum_rng hm⟩,cc (zUt _) (zSk _ _)⟩
    · exact ⟨zKs,bn _⟩
  · exact ⟨zKs,bn _⟩
def zHg (s:lr):(fY s).rng/\(fY s).L.length<=1:=by
  unfold fY
  cases bB s
  · exact ⟨zKs,bn _⟩
  · exact ⟨vrL_rng s,aH _⟩
def formT_rng (by_:Int) (a b:lr):(gE by_ a b).rng/\(gE by_ a b).L.length<=2:=by
  have h1:=add_rng (dG (fY a) by_).1 (fY b)
  have h2:=zPo (fY a) by_
  have h3:=zHg a
  have h4:=zHg b
  exact ⟨h1.1,by show (jM _ _).1.L.length<=2;omega⟩
def peelF_rng (many:Int) (a:lr):(jZ many a).rng/\(jZ many a).L.length<=1:=by
  have h1:=add_rng (fY a) ⟨many,[]⟩
  have h3:=zHg a
  have h5:(⟨many,[]⟩:Lf).L.length=0:=rfl
  exact ⟨h1.1,by show (jM _ _).1.L.length<=1;omega⟩
def zJe (n:Ns) (s:lr) (hn:n.Ok):
    Pur cfg 18 [vNs n,vS s] (vB (nS n s)):=by
 refine zR func18 O ntmps18 results18 O ?_
 intro z hz
 have hnb:=hn.body
 refine G O<|mj O fun b1=>mm O<|zG<|G O<|zM kE (J 0 O) O<|A O<|qD O uB (zAj n s hn) (vlr O)<|qP O<|yG O<|qS O<|zV O O (qH lw O zr94 O) ?_
 rintro _ _ ⟨b2,rfl,rfl⟩
 refine rStR 0 sz94 O<|mm O<|ml O O<|zK O ?_ ?_<;>intro c1<;>try simp only [sx] at c1
 ·refine ml O O<|zF<|zS O ?_
  exact ag vB (by unfold nS;simp [c1])
 ·refine zI<|G O<|zM kE (J 1 O) O<|A O<|qD O uB (zQg n s zA) (vlr O)<|qP O<|qS O<|qS O<|A O<|mm O<|mo O O<|mm O<|zF<|zS O ?_
  exact ag vB (by unfold nS;simp [c1])
def zKz (n:Ns) (s:lr) (hn:n.Ok):
    Pur cfg 16 [vNs n,vS s] (.tup [vIs (gH n s).1,vSt (gH n s).2.1,vI (gH n s).2.2]):=by
 refine zR func16 O ntmps16 results16 O ?_
 intro z hz
 have hnb:=hn.body
 have hwl:=zUm n s
 have hwN:=zHt n.Body
 refine G O<|mj O fun b1=>yJ 1 O<|zV O O (qH ly O zr56 O) ?_
 rintro _ _ ⟨b2,rfl,rfl⟩
 refine mm O<|zG<|G O<|zM kE (J 1 O) O<|qD O uB (zEm n hn) (vlr O)<|qP O<|qS O<|qS O<|A O<|mm O<|mo O O<|yL O<|Y<|zK O ?_ ?_<;>intro c1<;>try simp only [sx] at c1
 ·refine G O<|yH ly O zr56 pl56<|A O<|yJ 1 O<|rStR 0 sz56 O<|mm O<|zF<|fin3 (rs_c O) (zP zDv O (J 0 O) O) (rs_c O) ?_
  rw [locT_no (by rw [locE_1 c1];exact c1),locE_1 c1];rfl
 ·refine zI<|G O<|zM kE (J 1 O) O<|A O<|qD O uB (show Pur cfg 44 [vNs n,vS s] (.tup [vIs (jK n s),vB (jC n.Body s).isSome]) from zQg n s zA) (vlr O)<|qP O<|qS O<|qS O<|A O<|mm O<|zG<|mo O O<|kO O<|Y<|zK O ?_ ?_<;>intro c2<;>try simp only [sx] at c2
  ·have c2:(jC n.Body s).isSome=false:=by simpa using c2
   refine G O<|yH ly O zr56 pl56<|yJ 1 O<|rStR 0 sz56 O<|mm O<|zF<|fin3 (rs_c O) (zP zDv O (J 0 O) O) (rs_c O) ?_
   rw [locT_no (by rw [locE_2 c1 c2];decide),locE_2 c1 c2];rfl
  ·have c2:(jC n.Body s).isSome=true:=by simpa using c2
   refine zI<|G O<|zM kE (J 1 O) O<|A O<|qD O uB (loopnest_At n (jK n s) zA zA) (vlr O)<|qP O<|yG O<|qS O<|zV O O (qH ly O zr56 O) ?_
   rintro _ _ ⟨b3,rfl,rfl⟩
   refine rStR 0 sz56 O<|mm O<|zG<|qV 3 mixed uB O O<|mr O (zO O O)<|mr O (zU O zDv O (J 0 O) O)<|mr O (qY O O)<|yQ<|rStR 1 sz56 O<|mm O<|zF<|fin3 (rs_c O) (zP zDv O (J 1 O) O) (rs_c O) ?_
   rw [locT_yes (locE_3 c1 c2)];rfl
def zHi (n:Ns) (way:List Int) (q:List St) (hn:n.Ok) (hl:bD n.Body+bD q<=2000000) (hw:way.length<=1073741824):
    Pur cfg 25 [vNs n,vIs way,dA q] (.tup [vNs (pL n way q).1,vI (pL n way q).2]):=by
 refine zR func25 O ntmps25 results25 O ?_
 intro z hz
 have hrok:=repR_ok (way:=way) hn hl
 refine G O<|mj O fun b1=>zV O O (qH [some 8,some 20] O zr25 O) ?_
 rintro _ _ ⟨b2,rfl,rfl⟩
 refine mm O<|G O<|zM kE (J 1 O) O<|A O<|A O<|qD O uB (zUh n way q hn zA zA hw) (vlr O)<|qP O<|yG O<|qS O<|zV O O (qH [some 8,some 20] O zr25 O) ?_
 rintro _ _ ⟨b3,rfl,rfl⟩
 refine rStR 0 sz25 O<|mm O<|zG<|G O<|zM kE (J 0 O) O<|qD O uB (zEm (mQ n way q) hrok) (vlr O)<|qP O<|qS O<|qS O<|A O<|mm O<|mo O O<|yL O<|Y<|zK O ?_ ?_<;>intro c1<;>try simp only [sx] at c1
 ·refine G O<|yH [some 8,some 20] O zr25 pl25<|A O<|rStR 1 sz25 O<|mm O<|zF<|fin2 (zP kE O (J 1 O) O) (rs_c O) ?_
  rw [show pL n way q=(zNs,(bL (mQ n way q)).2) from aa c1];rfl
 ·refine zI<|G O<|zM kE (J 0 O) O<|qD O uB (zQh (mQ n way q) hrok) (vlr O)<|rStR 1 sz25 O<|mm O<|zF<|fin2 (zP kE O (J 1 O) O) (rs_c O) ?_
  rw [show pL n way q=(mQ n way q,0) from ab c1];rfl
def zWk (l:Lf):
    Pur cfg 23 [dK l] (vE (nQ l)):=by
 refine zR func23 O ntmps23 results23 O fun z hz=>G O<|mj O fun b1=>zV O O (qH lx O zr54 O) ?_
 rintro _ _ ⟨b2,rfl,rfl⟩
 refine Y<|G O<|zM kQ (J 1 O) O<|yH mg O zr54 pl54<|rStR 0 sz54 O<|Y<|zF<|fin1 (zP yY O (J 0 O) O) ?_
 rfl
end Go.W
end
section
set_option maxRecDepth 10000
namespace Go.W
open Go Go.Eng Go.Proofs Go.L41 Go.Br Tryz
attribute [local irreducible] AWP RWP TD fK
variable {loop:lr} {n:Ns} {s:St} {by_:Int} {outer inner:lr}
def splE_1 (h:by_<1∨s.Many<by_):nZ n s loop by_ outer inner=1:=ab h
def splE_2 (h:¬(by_<1∨s.Many<by_)) (h2:(!bB outer|| !bB inner)=true):nZ n s loop by_ outer inner=7:=by unfold nZ;rw [aa h,ab h2]
def splE_3 (h:¬(by_<1∨s.Many<by_)) (h2:(!bB outer|| !bB inner)=false) (h3:cN n loop outer inner=true):nZ n s loop by_ outer inner=8:=by unfold nZ;rw [aa h,aa (by rw [h2];simp),ab h3]
def splE_4 (h:¬(by_<1∨s.Many<by_)) (h2:(!bB outer|| !bB inner)=false) (h3:cN n loop outer inner=false):nZ n s loop by_ outer inner=jV (sbT loop (gE by_ outer inner) s.Body):=by unfold nZ;rw [aa h,aa (by rw [h2];simp),aa (by rw [h3];simp)]
def splitT_0 (h:¬gO n loop=0):lG n loop by_ outer inner=(zNs,gO n loop):=aa h
def zUu {e:Int} (hs:(gH n loop).2.1=s) (h:gO n loop=0) (he:nZ n s loop by_ outer inner=e) (h0:¬e=0):lG n loop by_ outer inner=(zNs,e):=by unfold lG;rw [ab h,hs,he,aa h0]
def splitT_2 (hs:(gH n loop).2.1=s) (h:gO n loop=0) (he:nZ n s loop by_ outer inner=0):lG n loop by_ outer inner=pL n (jK n loop) [rP s by_ outer inner (gE by_ outer inner) (jU (sbT loop (gE by_ outer inner) s.Body))]:=by unfold lG;rw [ab h,hs,ab he]
variable {many:Int} {rest:lr}
def peelE_1 (h:¬bG s.Body=[]):lC n s loop many rest=19:=aa h
def peelE_2 (h:bG s.Body=[]) (h2:many<1∨s.Many<=many):lC n s loop many rest=1:=by unfold lC;rw [ab h,ab h2]
def peelE_3 (h:bG s.Body=[]) (h2:¬(many<1∨s.Many<=many)) (h3:bB rest=false):lC n s loop many rest=7:=by unfold lC;rw [ab h,aa h2,ab h3]
def peelE_4 (h:bG s.Body=[]) (h2:¬(many<1∨s.Many<=many)) (h3:bB rest=true) (h4:nS n rest=true):lC n s loop many rest=8:=by unfold lC;rw [ab h,aa h2,aa (by rw [h3];simp),ab h4]
def peelE_5 (h:bG s.Body=[]) (h2:¬(many<1∨s.Many<=many)) (h3:bB rest=true) (h4:nS n rest=false):lC n s loop many rest=jV (sbT loop (jZ many rest) s.Body):=by unfold lC;rw [ab h,aa h2,aa (by rw [h3];simp),aa (by rw [h4];simp)]
def peelT_0 (h:¬gO n loop=0):mV n loop many rest=(zNs,gO n loop):=aa h
def zXg {e:Int} (hs:(gH n loop).2.1=s) (h:gO n loop=0) (he:lC n s loop many rest=e) (h0:¬e=0):mV n loop many rest=(zNs,e):=by unfold mV;rw [ab h,hs,he,aa h0]
def peelT_2 (hs:(gH n loop).2.1=s) (h:gO n loop=0) (he:lC n s loop many rest=0):mV n loop many rest=pL n (jK n loop) [sK s many,gQ rest (w64 (s.Many-many)) s.Mark (jU (sbT loop (jZ many rest) s.Body))]:=by unfold mV;rw [ab h,hs,ab he]
def zSb (nm:lr) (many pC:Int) (b:List St):(gQ nm many pC b).cells=[cI 1,cS nm,cI many,cI pC,cI 0,.sl 4 [],cI 0,cS (bs []),cI 0,cI 0,cI 0,cI 0,cI 0,cI 0,cI 0,cI 0,.sl 2 [],.sl 4 [],.sl 13 [],.sl 20 (b.map St.cells)]:=by rw [St.cells_eq];rfl
def sIf_cs (f:Lf) (m:Int) (b:List St):(sIf (ltE f m) b).cells=[cI 4,cS (bs []),cI 0,cI 0,cI 0,.sl 4 [],cI 13,cS (bs []),cI 0,cI 0,cI 0,cI 0,cI 0,cI 0,cI 0,cI 0,.sl 2 [],.sl 4 [],.sl 13 [(nQ f).cs,(nQ ⟨m,[]⟩).cs],.sl 20 (b.map St.cells)]:=by
  have h:[nQ f,nQ ⟨m,[]⟩].map Ex.cells=[(nQ f).cs,(nQ ⟨m,[]⟩).cs]:=by simp only [aK,ck,Ex.cells_eq]
  rw [St.cells_eq,←h];rfl
def splS_y (o i:lr) (f:Lf) (b:List St) (h:Int.tmod s.Many by_=0):dA [rP s by_ o i f b]=.c (.sl 20 [[cI 1,cS o,cI (w64 (Int.tdiv (w64 (w64 (s.Many+by_)-1)) by_)),cI s.Mark,cI 0,.sl 4 [],cI 0,cS (bs []),cI 0,cI 0,cI 0,cI 0,cI 0,cI 0,cI 0,cI 0,.sl 2 [],.sl 4 [],.sl 13 [],.sl 20 [[cI 1,cS i,cI by_,cI 0,cI 0,.sl 4 [],cI 0,cS (bs []),cI 0,cI 0,cI 0,cI 0,cI 0,cI 0,cI 0,cI 0,.sl 2 [],.sl 4 [],.sl 13 [],.sl 20 (b.map St.cells)]]]]):=by
  unfold rP vH
  rw [ab h]
  show V.c (C.sl 20 [(gQ _ _ _ _).cells])=_
  rw [zSb]
  show V.c (C.sl 20 [[cI 1,_,_,_,_,_,_,_,_,_,_,_,_,_,_,_,_,_,_,.sl 20 [(gQ _ _ _ _).cells]]])=_
  rw [zSb]
def splS_n (o i:lr) (f:Lf) (b:List St) (h:¬Int.tmod s.Many by_=0):dA [rP s by_ o i f b]=.c (.sl 20 [[cI 1,cS o,cI (w64 (Int.tdiv (w64 (w64 (s.Many+by_)-1)) by_)),cI s.Mark,cI 0,.sl 4 [],cI 0,cS (bs []),cI 0,cI 0,cI 0,cI 0,cI 0,cI 0,cI 0,cI 0,.sl 2 [],.sl 4 [],.sl 13 [],.sl 20 [[cI 1,cS i,cI by_,cI 0,cI 0,.sl 4 [],cI 0,cS (bs []),cI 0,cI 0,cI 0,cI 0,cI 0,cI 0,cI 0,cI 0,.sl 2 [],.sl 4 [],.sl 13 [],.sl 20 [[cI 4,cS (bs []),cI 0,cI 0,cI 0,.sl 4 [],cI 13,cS (bs []),cI 0,cI 0,cI 0,cI 0,cI 0,cI 0,cI 0,cI 0,.sl 2 [],.sl 4 [],.sl 13 [(nQ f).cs,(nQ ⟨s.Many,[]⟩).cs],.sl 20 (b.map St.cells)]]]]]]):=by
  unfold rP vH
  rw [aa h]
  show V.c (C.sl 20 [(gQ _ _ _ _).cells])=_
  rw [zSb]
  show V.c (C.sl 20 [[cI 1,_,_,_,_,_,_,_,_,_,_,_,_,_,_,_,_,_,_,.sl 20 [(gQ _ _ _ _).cells]]])=_
  rw [zSb]
  show V.c (C.sl 20 [[cI 1,_,_,_,_,_,_,_,_,_,_,_,_,_,_,_,_,_,_,.sl 20 [[cI 1,_,_,_,_,_,_,_,_,_,_,_,_,_,_,_,_,_,_,.sl 20 [(sIf _ _).cells]]]]])=_
  rw [sIf_cs]
def peelS_x (s:St) (many m2:Int) (rest:lr) (b:List St):dA [sK s many,gQ rest m2 s.Mark b]=.c (.sl 20 [[cI s.Op,cS s.Name,cI many,cI s.Mark,cI s.Fold,.sl 4 (s.Idx.map Ix.cells),cI s.E.Op,cS s.E.Name,cI s.E.Val.N,cI s.E.Val.D,cI s.E.Ty.Kind,cI s.E.Ty.Bits,cI s.E.Ty.Frac,cI s.E.Ty.Round,cI s.E.Ty.Over,cI s.E.Lin.K,.sl 2 (s.E.Lin.L.map Mono.cells),.sl 4 (s.E.Idx.map Ix.cells),.sl 13 (s.E.Args.map Ex.cells),.sl 20 (s.Body.map St.cells)],[cI 1,cS rest,cI m2,cI s.Mark,cI 0,.sl 4 [],cI 0,cS (bs []),cI 0,cI 0,cI 0,cI 0,cI 0,cI 0,cI 0,cI 0,.sl 2 [],.sl 4 [],.sl 13 [],.sl 20 (b.map St.cells)]]):=by
  show V.c (C.sl 20 [(sK s many).cells,(gQ _ _ _ _).cells])=_
  rw [zSb,St.cells_eq];rfl
def zEx_wt:zEx.wt=1:=by simp [zEx,Ex.wt,dO,fC]
def sFor_wt (nm:lr) (many pC:Int) (b:List St):(gQ nm many pC b).wt=2+bD b:=by
  have h:=St.wt_eq (gQ nm many pC b)
  simp only [gQ,St.E,St.Idx,St.Body,dO,lLn,zEx_wt] at h⊢
  omega
def splS_wt (s:St) (by_:Int) (o i:lr) (f:Lf) (b:List St):bD [rP s by_ o i f b]<=bD b+f.L.length+12:=by
  have h1:bD (vH s by_ f b)<=bD b+f.L.length+6:=by
    unfold vH
    split
    · omega
    · have h:=St.wt_eq (sIf (ltE f s.Many) b)
      have h2:(ltE f s.Many).wt=3+f.L.length:=by simp [ltE,nQ,Ex.wt,dO,fC];omega
      simp only [sIf,St.E,St.Idx,St.Body,dO,lLn,h2] at h
      simp only [bD,sIf];omega
  unfold rP
  simp only [bD,sFor_wt];omega
def peelS_wt (s:St) (many m2:Int) (rest:lr) (b:List St):bD [sK s many,gQ rest m2 s.Mark b]<=s.wt+bD b+4:=by
  have h:(sK s many).wt=s.wt:=by cases s;simp only [sK,St.wt,St.Op,St.Name,St.Many,St.Mark,St.Fold,St.Idx,St.E,St.Body]
  simp only [bD,sFor_wt,h];omega
def locS_wt (n:Ns) (s:lr):(gH n s).2.1.wt<=bD n.Body+2:=by
  unfold gH
  split
  · exact atT_wt
  · show zSt.wt<=_
    have h:=St.wt_eq zSt
    simp only [zSt,St.E,St.Idx,St.Body,dO,bD,lLn,zEx_wt] at h⊢
    omega
def zNa:∀a b:List St,bG (a++b)=bG a++bG b
  |[],b=>rfl
  |x::r,b=>by rw [lCa,bG,bG,zNa r b,lAa]
def loops_next {l:List St} {k:Nat} {x:St} (h:l[k]? =some x) (h1:bG (l.take k)=[]) (h2:¬x.Op=1) (h3:bG x.Body=[]):bG (l.take (k+1))=[]:=by
  rw [loopsL_next h,h1,mX,aa h2,h3];rfl
def loops_at {l:List St} {k:Nat} {x:St} (h:l[k]? =some x) (h2:x.Op=1∨¬bG x.Body=[]):¬bG l=[]:=by
  intro h0
  have e:l=l.take k++x::l.drop (k+1):=by rw [←qQ h,aM]
  rw [e,zNa,bG,loopsS_eq] at h0
  simp only [List.append_eq_nil_iff] at h0
  rcases h2 with h2|h2
  · have h3:=h0.2.1.1
    rw [mX,ab h2] at h3;cases h3
  · exact h2 h0.2.1.2
def zIe (l:List St) (ih:∀s,s∈l->Pur cfg 29 [dA s.Body] (vB (!decide (bG s.Body=[])))) (hl:bD l<=1000000000):
    Pur cfg 29 [dA l] (vB (!decide (bG l=[]))):=by
 refine zR func29 O ntmps29 results29 O ?_
 intro z hz
 have hll:=kY l
 refine ml O O<|zG<|mo O O<|qB O D<|mm O<|zQ<|zY ⟨[(7,.c _),(5,.c _),(6,.c _)],[]⟩ (Weak.mk [] ⟨zJ,zJ,zJ,T⟩ O)<|qL 1 0 O O (Nat) (fun k=>[(7,vI k)]) (fun k=>[]) (fun k=>k<=l.length/\(bG (l.take k)=[])) (fun k=>l.length-k) ⟨0,⟨zA,O⟩,Weak.mk [] ⟨zJ,zJ,zJ,T⟩ O⟩ ?_
 rintro k ⟨hk,hp⟩
 refine G O<|yI O<|Y<|zG<|zK O ?_ ?_<;>intro c1<;>try simp only [sx] at c1
 ·obtain ⟨x,hx⟩:=qZ l k zA
  refine zI<|zG<|zQ<|G O<|qC O D zA (wL hx)<|zM zDv zZ O<|zV O O (qH ly O zr56 O) ?_
  rintro _ _ ⟨b1,rfl,rfl⟩
  refine rStR 0 sz56 O<|Y<|G O<|zC O zAp<|zH one3 (J 0 O) O<|yF O<|A O<|rL0 O (fun g4_3=>zE O kV O) O<|rL1 15 O (fun g4_3=>zD O kX O (J 0 O) O) O<|rL1 16 O (fun g4_3=>qG O uB (ih x (qA hx)) (vlr O)) O<|r_or O (fun h=>(lzf h))<|Y<|zK O (fun c2=>?_) (fun c2=>?_)
  ·have c2:x.Op=1∨¬bG x.Body=[]:=by simpa using c2
   refine ml O O<|zF<|zS O ?_
   rw [qX (loops_at hx c2)];rfl
  ·have c2:¬x.Op=1/\bG x.Body=[]:=by simpa using c2
   refine zI<|zT O<|qI O ⟨zA,zA⟩<|A O<|Y ?_
   refine ⟨k+1,⟨zA,loops_next hx hp c2.1 c2.2⟩,zA,Weak.mk [false] ⟨zJ,zJ,zJ,T⟩ O⟩
 ·refine qO<|ml O O<|zF<|zS O ?_
  rw [yW zA] at hp;rw [wU hp];rfl
def zRy (s:St) (hl:bD s.Body<=1000000000):Pur cfg 29 [dA s.Body] (vB (!decide (bG s.Body=[]))):=by
  induction s using St.ind with
  |_ s ih=>exact zIe s.Body (fun a ha=>ih a ha (by have:=yS ha;have:=St.body_wt a;omega)) hl
def split_looped (l:List St) (hl:bD l<=1000000000):Pur cfg 29 [dA l] (vB (!decide (bG l=[]))):=
  zIe l (fun s hs=>zRy s (by have:=yS hs;have:=St.body_wt s;omega)) hl
def zOi (n:Ns) (loop:lr) (by_:Int) (outer inner:lr) (hn:n.Ok) (hl:bD n.Body<=1000) (hr:bE Lf.rng n.Body) (hb:r64 by_):
    Pur cfg 7 [vNs n,vS loop,vI by_,vS outer,vS inner] (.tup [vNs (lG n loop by_ outer inner).1,vI (lG n loop by_ outer inner).2]):=by
 refine zR func7 O ntmps7 results7 O ?_
 intro z hz
 obtain ⟨s,hs0⟩:∃s,(gH n loop).2.1=s:=⟨_,rfl⟩
 have hlw:=locT_wt n loop
 have hlr:=locT_rng (s:=loop) hr
 rw [hs0] at hlw hlr
 have hwl:=zUm n loop
 have hwN:=zHt n.Body
 obtain ⟨hfr,hfl⟩:=formT_rng by_ outer inner
 obtain ⟨hvo,hvol⟩:=zHg outer
 obtain ⟨hvi,hvil⟩:=zHg inner
 obtain ⟨hsc,hscl⟩:=zPo (fY outer) by_
 have hbw:=zWs (s:=loop) (u:=gE by_ outer inner) (l:=s.Body) zA
 refine G O<|mj O fun b1=>zV O O (qH [some 8,some 20] O zr25 O) ?_
 rintro _ _ ⟨b2,rfl,rfl⟩
 refine mm O<|G O<|zM kE (J 1 O) O<|A O<|qD O uB (show Pur cfg 16 [vNs n,vS loop] (.tup [vIs (gH n loop).1,vSt s,vI (gO n loop)]) by have h:=zKz n loop hn;rw [locT_e,hs0] at h;exact h) (vlr O)<|qP O<|qS O<|yG O<|qS O<|zV O O (qH ly O zr56 O) ?_
 rintro _ _ ⟨b3,rfl,rfl⟩
 refine A O<|rStR 0 sz56 O<|mm O<|zG<|zQ<|mo O O<|yL O<|mm O<|zK O ?_ ?_<;>intro c1<;>try simp only [sx] at c1
 ·refine G O<|yH [some 8,some 20] O zr25 pl25<|A O<|rStR 1 sz25 O<|mm O<|zF<|fin2 (zP kE O (J 1 O) O) (rs_c O) ?_
  rw [splitT_0 c1];rfl
 ·refine mo O O<|yI O<|A O<|rL0 O (fun g4_2=>zO O O) O<|rL0 O (fun g4_2=>zE O zAt O) O<|rL1 39 O (fun g4_2=>zD O one3 O (J 0 O) O) O<|rLz [(38,_),(40,_)] O gv1 ⟨O,O,O,O,T⟩ (fun g4_2=>yD O O O) O<|r_or O (fun h=>(lzf h))<|mm O<|zK O ?_ ?_<;>intro c2<;>try simp only [sx] at c2
  ·refine G O<|yH [some 8,some 20] O zr25 pl25<|rStR 1 sz25 O<|mm O<|zF<|fin2 (zP kE O (J 1 O) O) (rs_c O) ?_
   rw [zUu hs0 c1 (splE_1 c2) zB];rfl
  ·have c2:¬(by_<1∨s.Many<by_):=by omega
   refine mo O O<|qD O uB (zBi _) (vlr O)<|kO O<|A O<|rL0 O (fun g6_3=>zO O O) O<|rL1 49 O (fun g6_3=>qG O uB (zBi _) (vlr O)) O<|rL1 50 O (fun g6_3=>kG O O) O<|r_or O (fun h=>(lzf h))<|mm O<|zK O (fun c3=>?_) (fun c3=>?_)
   ·have c3:(!bB outer|| !bB inner)=true:=c3
    refine G O<|yH [some 8,some 20] O zr25 pl25<|rStR 1 sz25 O<|mm O<|zF<|fin2 (zP kE O (J 1 O) O) (rs_c O) ?_
    rw [zUu hs0 c1 (splE_2 c2 c3) zB];rfl
   ·have c3:(!bB outer|| !bB inner)=false:=c3
    refine mo O O<|A O<|wP O<|A O<|rL0 O (fun g8_3=>zO O O) O<|rL0 O (fun g8_3=>zO O O) O<|rLz [(59,_),(60,_)] O gv1 ⟨O,O,O,O,T⟩ (fun g8_3=>zBq O O O) O<|rL1 61 O (fun g8_3=>zO O O) O<|rLz [] O gv2 T (fun g8_7=>zU O kE O (J 2 O) O) O<|rLz [] O gv2 T (fun g8_7=>zO O O) O<|rLz [(63,_),(64,_)] O gv2 ⟨O,O,O,O,T⟩ (fun g8_7=>qG O uB (zJe _ _ zA) (vlr O)) O<|rL1 62 O (fun g8_3=>wA O O O (fun h=>kD uA h) O) O<|r_or O (fun h=>(lzf h))<|A O<|rL0 O (fun g8_13=>zO O O) O<|rL0 O (fun g8_13=>zO O O) O<|rLz [(69,_),(70,_)] O gv1 ⟨O,O,O,O,T⟩ (fun g8_13=>zBq O O O) O<|rL1 71 O (fun g8_13=>zO O O) O<|rLz [] O gv2 T (fun g8_17=>zU O kE O (J 2 O) O) O<|rLz [] O gv2 T (fun g8_17=>zO O O) O<|rLz [(73,_),(74,_)] O gv2 ⟨O,O,O,O,T⟩ (fun g8_17=>qG O uB (zJe _ _ zA) (vlr O)) O<|rL1 72 O (fun g8_13=>wA O O O (fun h=>kD uA h) O) O<|r_or O (fun h=>(lzf h))<|mm O<|zK O (fun c4=>?_) (fun c4=>?_)
    ·have c4:cN n loop outer inner=true:=c4
     refine G O<|yH [some 8,some 20] O zr25 pl25<|rStR 1 sz25 O<|mm O<|zF<|fin2 (zP kE O (J 1 O) O) (rs_c O) ?_
     rw [zUu hs0 c1 (splE_3 c2 c3 c4) zB];rfl
    ·have c4:cN n loop outer inner=false:=c4
     refine zI<|mo O O<|qD O uB (lin_Var _) (vlr O)<|A O<|qD O uB (zXz (fY outer) by_ zA hvo hb) (vlr O)<|qP O<|yG O<|qS O<|zV O O (qH [none,some 2] O zr51 O) ?_
     rintro _ _ ⟨b4,rfl,rfl⟩
     refine rStR 0 sz51 O<|mm O<|zG<|kK 9 1 [⟨0,.q [1]⟩,⟨1,.q []⟩,⟨2,.q []⟩,⟨3,.q []⟩,⟨4,.q []⟩,⟨5,.q []⟩,⟨6,.q []⟩,⟨7,.e 0 []⟩,⟨8,.e 0 []⟩] mixed uB uB O O O<|zX O<|zX O<|zX O<|zX O<|zX O<|zX O<|zX O<|zX O<|zX O<|zBj<|mq O (zU O kQ O (J 0 O) O)<|mq O (zO O O)<|mq O (qG O uB (lin_Var _) (vlr O))<|mq O (qG O uB (show Pur cfg 21 [dK (dG (fY outer) by_).1,dK (fY inner)] (.tup [dK (gE by_ outer inner),vI (jM (dG (fY outer) by_).1 (fY inner)).2]) from lin_Add (dG (fY outer) by_).1 (fY inner) zA zA hsc hvi) (vlr O))<|mq O (kJ O O)<|mq O (wG O O O)<|mq O (wF O O O)<|zKm O O zB O O (qH [none,some 2] O zr51 O) ?_
     rintro _ _ ⟨b5,rfl,rfl⟩
     refine ⟨_,O,?_⟩
     refine zGl O O zB O O (yM O sz51 O O O (zFu 0 O O)) ?_
     rintro _ _ ⟨rfl,rfl⟩
     refine ⟨_,O,?_⟩
     refine zBe O<|mm O<|G O<|zC O kV<|zH kX (J 2 O) O<|A O<|zM kQ (J 0 O) O<|qD O uB (zBo s.Body loop (gE by_ outer inner) zA hfr zA hlr) (vlr O)<|qP O<|qS O<|qS O<|A O<|mm O<|zG<|mo O O<|yL O<|Y<|zK O ?_ ?_<;>intro c5<;>try simp only [sx] at c5
     ·refine G O<|yH [some 8,some 20] O zr25 pl25<|A O<|rStR 3 sz25 O<|mm O<|zF<|fin2 (zP kE O (J 3 O) O) (rs_c O) ?_
      rw [zUu hs0 c1 (splE_4 c2 c3 c4) c5];rfl
     ·refine zI<|zG<|G O<|zC O zAt<|zH one3 (J 2 O) O<|A O<|zW O (zOv O O O zA)<|yL O<|Y<|zK O ?_ ?_<;>intro c6<;>try simp only [sx] at c6
      ·refine zG<|kK 9 1 [⟨0,.q [1]⟩,⟨1,.q []⟩,⟨2,.q []⟩,⟨3,.q [3]⟩,⟨4,.q []⟩,⟨5,.q []⟩,⟨6,.q []⟩,⟨7,.q []⟩,⟨8,.f 0⟩] mixed uB uB O O O<|zX O<|zX O<|zX O<|zX O<|zX O<|zX O<|zX O<|zX O<|zQp O O (zFg (qH lx O zr54 O)) ⟨_,_,0,O,O⟩<|zBj<|mq O (zU O kQ O (J 0 O) O)<|mq O (qG O uB (zWk _) (vlr O))<|mq O (zE O zAt O)<|mq O (zD O one3 O (J 0 O) O)<|mq O (qG O uB (zYa _) (vlr O))<|mq O (qG O uB (zWk _) (vlr O))<|mq O (yA O el52 zr54 O O O O)<|mq O (zGf mh O zr54 pl54 O O)<|zPk O O ?_
       rintro _ _ ⟨b6,rfl,rfl⟩
       refine zBe O<|rStR 0 sz54 O<|Y<|zT O<|zM yY (J 0 O) O<|A O<|yH mi O zr56 pl56<|zW O (yA O D zr56 O O O O)<|mm O<|mo O O<|A O<|A O<|yH mc O zr56 pl56<|zV O O (qH ly O zr56 O) ?_
       rintro _ _ ⟨b7,rfl,rfl⟩
       refine rStR 0 sz56 O<|Y<|zG<|qV 19 mixed uB O O<|mr O (zU O kE O (J 6 O) O)<|mr O (zO O O)<|mr O (zO O O)<|mr O (zE O zAt O)<|mr O (zD O one3 O (J 4 O) O)<|mr O (zO O O)<|mr O (zMh O O O)<|mr O (zOu O O O)<|mr O (zO O O)<|mr O (zKb O O O zA)<|mr O (zE O zKj O)<|mr O (zD O one3 O (J 4 O) O)<|mr O (zU O zDv O (J 0 O) O)<|mr O (yA O D zr56 O O O O)<|mr O (zGf mc O zr56 pl56 O O)<|mr O (yA O D zr56 O O O O) ?_
       refine mr O (qG O uB (zHi n (jK n loop) [rP s by_ outer inner (gE by_ outer inner) (jU (sbT loop (gE by_ outer inner) s.Body))] hn (by have:=splS_wt s by_ outer inner (gE by_ outer inner) (jU (sbT loop (gE by_ outer inner) s.Body));omega) zA) ⟨zJ,O,VLe.of_eq (ag vIs (locT_w c1)),O,VLe.of_eq (by first|exact (splS_y outer inner _ _ (by simpa using c6)).symm|exact (splS_n outer inner _ _ (by simpa using c6)).symm),O,T⟩)<|mr O (wG O O O)<|mr O (wF O O O)<|yQ<|rStR 5 sz25 O<|mm O<|zF<|fin2 (zP kE O (J 5 O) O) (rs_c O) ?_
       rw [splitT_2 hs0 c1 ((splE_4 c2 c3 c4).trans c5)];rfl
      ·refine zI<|mo O O<|A O<|A O<|yH mc O zr56 pl56<|zV O O (qH ly O zr56 O) ?_
       rintro _ _ ⟨b8,rfl,rfl⟩
       refine rStR 0 sz56 O<|Y<|zG<|qV 19 mixed uB O O<|mr O (zU O kE O (J 5 O) O)<|mr O (zO O O)<|mr O (zO O O)<|mr O (zE O zAt O)<|mr O (zD O one3 O (J 3 O) O)<|mr O (zO O O)<|mr O (zMh O O O)<|mr O (zOu O O O)<|mr O (zO O O)<|mr O (zKb O O O zA)<|mr O (zE O zKj O)<|mr O (zD O one3 O (J 3 O) O)<|mr O (zU O zDv O (J 0 O) O)<|mr O (yA O D zr56 O O O O)<|mr O (zGf mc O zr56 pl56 O O)<|mr O (yA O D zr56 O O O O) ?_
       refine mr O (qG O uB (zHi n (jK n loop) [rP s by_ outer inner (gE by_ outer inner) (jU (sbT loop (gE by_ outer inner) s.Body))] hn (by have:=splS_wt s by_ outer inner (gE by_ outer inner) (jU (sbT loop (gE by_ outer inner) s.Body));omega) zA) ⟨zJ,O,VLe.of_eq (ag vIs (locT_w c1)),O,VLe.of_eq (by first|exact (splS_y outer inner _ _ (by simpa using c6)).symm|exact (splS_n outer inner _ _ (by simpa using c6)).symm),O,T⟩)<|mr O (wG O O O)<|mr O (wF O O O)<|yQ<|rStR 4 sz25 O<|mm O<|zF<|fin2 (zP kE O (J 4 O) O) (rs_c O) ?_
       rw [splitT_2 hs0 c1 ((splE_4 c2 c3 c4).trans c5)];rfl
def split_Peel (n:Ns) (loop:lr) (many:Int) (rest:lr) (hn:n.Ok) (hl:bD n.Body<=1000) (hr:bE Lf.rng n.Body) (hb:r64 many):
    Pur cfg 9 [vNs n,vS loop,vI many,vS rest] (.tup [vNs (mV n loop many rest).1,vI (mV n loop many rest).2]):=by
 refine zR func9 O ntmps9 results9 O ?_
 intro z hz
 obtain ⟨s,hs0⟩:∃s,(gH n loop).2.1=s:=⟨_,rfl⟩
 have hlw:=locT_wt n loop
 have hlr:=locT_rng (s:=loop) hr
 rw [hs0] at hlw hlr
 have hwl:=zUm n loop
 have hwN:=zHt n.Body
 obtain ⟨hfr,hfl⟩:=peelF_rng many rest
 have hsw:=locS_wt n loop
 rw [hs0] at hsw
 obtain ⟨hvo,hvol⟩:=zHg rest
 have hbw:=zWs (s:=loop) (u:=jZ many rest) (l:=s.Body) zA
 refine G O<|mj O fun b1=>zV O O (qH [some 8,some 20] O zr25 O) ?_
 rintro _ _ ⟨b2,rfl,rfl⟩
 refine mm O<|G O<|zM kE (J 1 O) O<|A O<|qD O uB (show Pur cfg 16 [vNs n,vS loop] (.tup [vIs (gH n loop).1,vSt s,vI (gO n loop)]) by have h:=zKz n loop hn;rw [locT_e,hs0] at h;exact h) (vlr O)<|qP O<|qS O<|yG O<|qS O<|zV O O (qH ly O zr56 O) ?_
 rintro _ _ ⟨b3,rfl,rfl⟩
 refine A O<|rStR 0 sz56 O<|mm O<|zG<|zQ<|mo O O<|yL O<|mm O<|zK O ?_ ?_<;>intro c1<;>try simp only [sx] at c1
 ·refine G O<|yH [some 8,some 20] O zr25 pl25<|A O<|rStR 1 sz25 O<|mm O<|zF<|fin2 (zP kE O (J 1 O) O) (rs_c O) ?_
  rw [peelT_0 c1];rfl
 ·refine G O<|zC O kV<|zH kX (J 0 O) O<|qD O uB (split_looped s.Body zA) (vlr O)<|mm O<|zK O ?_ ?_<;>intro c2<;>try simp only [sx] at c2
  ·have c2:¬bG s.Body=[]:=by simpa using c2
   refine G O<|yH [some 8,some 20] O zr25 pl25<|rStR 1 sz25 O<|mm O<|zF<|fin2 (zP kE O (J 1 O) O) (rs_c O) ?_
   rw [zXg hs0 c1 (peelE_1 c2) zB];rfl
  ·have c2:bG s.Body=[]:=by simpa using c2
   refine mo O O<|yI O<|A O<|rL0 O (fun g6_2=>zO O O) O<|rL0 O (fun g6_2=>zE O zAt O) O<|rL1 39 O (fun g6_2=>zD O one3 O (J 0 O) O) O<|rLz [(38,_),(40,_)] O gv1 ⟨O,O,O,O,T⟩ (fun g6_2=>wH O O O) O<|r_or O (fun h=>(lzf h))<|mm O<|zK O ?_ ?_<;>intro c3<;>try simp only [sx] at c3
   ·refine G O<|yH [some 8,some 20] O zr25 pl25<|rStR 1 sz25 O<|mm O<|zF<|fin2 (zP kE O (J 1 O) O) (rs_c O) ?_
    rw [zXg hs0 c1 (peelE_2 c2 c3) zB];rfl
   ·have c3:¬(many<1∨s.Many<=many):=by omega
    refine mo O O<|qD O uB (zBi _) (vlr O)<|kO O<|mm O<|zK O ?_ ?_<;>intro c4<;>try simp only [sx] at c4
    ·have c4:bB rest=false:=by simpa using c4
     refine G O<|yH [some 8,some 20] O zr25 pl25<|rStR 1 sz25 O<|mm O<|zF<|fin2 (zP kE O (J 1 O) O) (rs_c O) ?_
     rw [zXg hs0 c1 (peelE_3 c2 c3 c4) zB];rfl
    ·have c4:bB rest=true:=by simpa using c4
     refine G O<|zM kE (J 2 O) O<|A O<|qD O uB (zJe _ _ zA) (vlr O)<|mm O<|zK O ?_ ?_<;>intro c5<;>try simp only [sx] at c5
     ·refine G O<|yH [some 8,some 20] O zr25 pl25<|rStR 1 sz25 O<|mm O<|zF<|fin2 (zP kE O (J 1 O) O) (rs_c O) ?_
      rw [zXg hs0 c1 (peelE_4 c2 c3 c4 c5) zB];rfl
     ·refine zI<|mo O O<|qD O uB (lin_Var _) (vlr O)<|A O<|qD O uB (zYa _) (vlr O)<|qD O uB (show Pur cfg 21 [dK (fY rest),dK ⟨many,[]⟩] (.tup [dK (jZ many rest),vI (jM (fY rest) ⟨many,[]⟩).2]) from lin_Add (fY rest) ⟨many,[]⟩ zA (by show 0<=_;omega) hvo ⟨hb,fun m hm=>by cases hm⟩) (vlr O)<|qP O<|yG O<|qS O<|zV O O (qH [none,some 2] O zr51 O) ?_
      rintro _ _ ⟨b4,rfl,rfl⟩
      refine rStR 0 sz51 O<|mm O<|G O<|zC O kV<|zH kX (J 1 O) O<|A O<|zM kQ (J 0 O) O<|qD O uB (zBo s.Body loop (jZ many rest) zA hfr zA hlr) (vlr O)<|qP O<|qS O<|qS O<|A O<|mm O<|zG<|mo O O<|yL O<|Y<|zK O ?_ ?_<;>intro c6<;>try simp only [sx] at c6
      ·refine G O<|yH [some 8,some 20] O zr25 pl25<|A O<|rStR 2 sz25 O<|mm O<|zF<|fin2 (zP kE O (J 2 O) O) (rs_c O) ?_
       rw [zXg hs0 c1 (peelE_5 c2 c3 c4 c5) c6];rfl
      ·refine zI<|mo O O<|zC O zAt<|zH one3 (J 1 O) O<|A O<|zW O (zOu O O O)<|zC O zKj<|zH one3 (J 1 O) O<|A O<|yH mc O zr56 pl56<|zV O O (qH ly O zr56 O) ?_
       rintro _ _ ⟨b5,rfl,rfl⟩
       refine rStR 0 sz56 O<|Y<|mo O O<|zC O zAt<|rStR 2 sz3 O<|Y<|G O<|zM kE (J 4 O) O<|A O<|zM zDv (J 2 O) O<|zM zDv (J 0 O) O<|zW O (yA O D zr56 O O O O) ?_
       refine qD O uB (zHi n (jK n loop) [sK s many,gQ rest (w64 (s.Many-many)) s.Mark (jU (sbT loop (jZ many rest) s.Body))] hn (by have:=peelS_wt s many (w64 (s.Many-many)) rest (jU (sbT loop (jZ many rest) s.Body));omega) zA) ⟨zJ,O,VLe.of_eq (ag vIs (locT_w c1)),O,VLe.of_eq ((peelS_x s many _ rest _).symm),O,T⟩<|yG O<|qS O<|rStR 3 sz25 O<|mm O<|zF<|fin2 (zP kE O (J 3 O) O) (rs_c O) ?_
       rw [peelT_2 hs0 c1 ((peelE_5 c2 c3 c4 c5).trans c6)];rfl
end Go.W
end
section
set_option maxRecDepth 10000
namespace Go.W
open Go Go.Eng Go.Proofs Go.L41 Go.Br Tryz
attribute [local irreducible] AWP RWP TD fK
def node_P {P:Lf->Prop} {e x:Ex} (h:e.allF P) (hx:x∈dI e):P x.Lin/\gK P x.Idx:=
  ⟨h x hx _ (by unfold dC;simp),fun y hy=>⟨h x hx _ (by unfold dC;exact au _ (cf.2 ⟨y,hy,uD⟩)),fun l hl=>h x hx _ (by unfold dC;exact au _ (cf.2 ⟨y,hy,by simp [hl]⟩))⟩⟩
variable {f:Lf->Bool} {k:Nat}
def ev_ix1 {i:List Ix} {x:Ix} (h:i[k]? =some x) (c:(f x.Lin&&x.At.all f)=false):mS f i=false:=zMk h (p:=fun x:Ix=>f x.Lin&&x.At.all f) c
def ev_next {i:List Ix} {x:Ix} (h:i[k]? =some x) (hp:mS f (i.take k)=true) (c:f x.Lin=true) (c2:x.At.all f=true):mS f (i.take (k+1))=true:=by
  unfold mS at hp⊢
  rw [yR h,bx,hp];simp [c,c2]
def evL_app (f:Lf->Bool):∀a b:List St,evL f (a++b)=(evL f a&&evL f b)
  |[],b=>by rw [evL];rfl
  |x::r,b=>by rw [lCa,evL,evL,evL_app f r b,ij]
def evS_eq (f:Lf->Bool) (s:St):evS f s=(mS f s.Idx&&evL f s.Body&&cM f s.E):=by cases s;rw [evS];rfl
variable {s:St} {l:List St}
def evL_next (h:l[k]? =some s) (hp:evL f (l.take k)=true) (c:(!mS f s.Idx|| !evL f s.Body)=false) (d:cM f s.E=true):evL f (l.take (k+1))=true:=by
  rw [←Bool.not_and] at c
  have c':(mS f s.Idx&&evL f s.Body)=true:=by simpa using c
  rw [yR h,evL_app,hp,evL,evS_eq,c',d,evL];rfl
def evL_no (h:l[k]? =some s) (c:evS f s=false):evL f l=false:=by
  have e:l=l.take k++s::l.drop (k+1):=by rw [←qQ h,aM]
  rw [e,evL_app,evL,c];simp
def evS_1 (c:(!mS f s.Idx|| !evL f s.Body)=true):evS f s=false:=by
  rw [←Bool.not_and] at c
  rw [evS_eq]
  have c':(mS f s.Idx&&evL f s.Body)=false:=by rw [ao] at c;exact c
  rw [c'];rfl
def ev_ret {pre:List Ex} {x:Ex} (hi:(pre.all fun a=>f a.Lin&&mS f a.Idx)=true) (c:(!f x.Lin|| !mS f x.Idx)=true):((pre++[x]).all fun a=>f a.Lin&&mS f a.Idx)=false:=by
  rw [←Bool.not_and,ao] at c
  rw [bx,hi,aW,c];rfl
def evS_2 (c:cM f s.E=false):evS f s=false:=by rw [evS_eq,c,co]
def linsWt_0 {g:Lf->Lf} (hg:∀l,(g l).L.length<=l.L.length):∀l:List Lf,fI (l.map g)<=fI l
  |[]=>by simp [fI]
  |x::r=>by rw [aK,fI,fI];have:=linsWt_0 hg r;have:=hg x;omega
def idxWt_0 {g:Lf->Lf} (hg:∀l,(g l).L.length<=l.L.length):∀l:List Ix,dO (l.map (gIx g))<=dO l
  |[]=>by simp [dO]
  |x::r=>by
    rw [aK,dO,dO]
    have h1:=idxWt_0 hg r
    have h2:(gIx g x).wt<=x.wt:=by
      unfold gIx Ix.wt
      have h3:=linsWt_0 hg x.At
      have h4:=hg x.Lin
      simp only [lLm];omega
    omega
mutual
def gSt_0 {g:Lf->Lf} {r:lr->lr} (hg:∀l,(g l).L.length<=l.L.length):∀s:St,(gSt g r s).wt<=s.wt
  |.mk o nm mn mk fo i e b=>by
    rw [gSt,St.wt,St.wt,lLm]
    have h1:=idxWt_0 hg i
    have h2:=wt_g (c:=0) (fun l=>by have:=hg l;omega) e
    have h3:=gSts_0 (r:=r) hg b
    omega
def gSts_0 {g:Lf->Lf} {r:lr->lr} (hg:∀l,(g l).L.length<=l.L.length):∀l:List St,bD (gX g r l)<=bD l
  |[]=>by rw [gX];simp [bD]
  |s::t=>by rw [gX,bD,bD];have:=gSt_0 (r:=r) hg s;have:=gSts_0 (r:=r) hg t;omega
end
def sbT0_wt {s:lr}:bD (jU (sbT s ⟨0,[]⟩ l))<=bD l:=by
  cases h:sbT s ⟨0,[]⟩ l with
  |error y=>show bD []<=_;simp [bD]
  |ok a=>
    show bD a<=_
    rw [mSts_g h]
    exact gSts_0 (fun l=>by have:=substR_len l ⟨0,[]⟩ s;exact this) l
mutual
def sbS_rng {g:Lf->Lf} {r:lr->lr} (hg:∀l,l.rng->(g l).rng):∀s:St,s.allF Lf.rng->(gSt g r s).allF Lf.rng
  |.mk o nm mn mk fo i e b,h=>by
    rw [St.allF] at h
    rw [gSt,St.allF]
    refine ⟨fun x hx=>?_,allF_g fun x hx l hl=>hg _ (h.2.1 x hx l hl),sbL_rng hg b h.2.2⟩
    obtain ⟨y,hy,rfl⟩:=bq.1 hx
    refine ⟨hg _ (h.1 y hy).1,fun l hl=>?_⟩
    obtain ⟨k,hk,rfl⟩:=bq.1 hl
    exact hg _ ((h.1 y hy).2 k hk)
def sbL_rng {g:Lf->Lf} {r:lr->lr} (hg:∀l,l.rng->(g l).rng):∀l:List St,bE Lf.rng l->bE Lf.rng (gX g r l)
  |[],_=>by rw [gX,bE];trivial
  |s::t,h=>by
    rw [bE] at h
    rw [gX,bE]
    exact ⟨sbS_rng hg s h.1,sbL_rng hg t h.2⟩
end
def sbT_rng (s:lr) (u:Lf) (h:bE Lf.rng l):bE Lf.rng (jU (sbT s u l)):=by
  cases c:sbT s u l with
  |error y=>show bE Lf.rng [];rw [bE];trivial
  |ok a=>
    show bE Lf.rng a
    rw [mSts_g c]
    exact sbL_rng (fun l hl=>zId s hl) l h
variable {outer:lr} {inn:St} {nm:lr} {n:Ns}
def colE_1 (hi:s.Body.getD 0 zSt=inn) (h:¬(s.Body.length=1/\inn.Op=1)):nR n s outer nm=19:=by unfold nR;rw [hi,aa h]
def colE_2 (hi:s.Body.getD 0 zSt=inn) (h:s.Body.length=1/\inn.Op=1) (h2:bB nm=false):nR n s outer nm=7:=by unfold nR;rw [hi,ab h,ab h2]
def colE_3 (hi:s.Body.getD 0 zSt=inn) (h:s.Body.length=1/\inn.Op=1) (h2:bB nm=true) (h3:((!decide (nm=outer)&& !decide (nm=inn.Name))&&nS n nm)=true):nR n s outer nm=8:=by unfold nR;rw [hi,ab h,aa (by rw [h2];simp),ab h3]
def colE_4 (hi:s.Body.getD 0 zSt=inn) (h:s.Body.length=1/\inn.Op=1) (h2:bB nm=true) (h3:((!decide (nm=outer)&& !decide (nm=inn.Name))&&nS n nm)=false) (h4:w64 (Int.tdiv 65536 inn.Many)<s.Many):nR n s outer nm=2:=by unfold nR;rw [hi,ab h,aa (by rw [h2];simp),aa (by rw [h3];simp),ab h4]
def colE_5 (hi:s.Body.getD 0 zSt=inn) (h:s.Body.length=1/\inn.Op=1) (h2:bB nm=true) (h3:((!decide (nm=outer)&& !decide (nm=inn.Name))&&nS n nm)=false) (h4:¬w64 (Int.tdiv 65536 inn.Many)<s.Many) (h5:evL (tL outer inn.Name inn.Many) inn.Body=false):nR n s outer nm=19:=by unfold nR;rw [hi,ab h,aa (by rw [h2];simp),aa (by rw [h3];simp),aa h4,ab h5]
def colE_6 (hi:s.Body.getD 0 zSt=inn) (h:s.Body.length=1/\inn.Op=1) (h2:bB nm=true) (h3:((!decide (nm=outer)&& !decide (nm=inn.Name))&&nS n nm)=false) (h4:¬w64 (Int.tdiv 65536 inn.Many)<s.Many) (h5:evL (tL outer inn.Name inn.Many) inn.Body=true):
    nR n s outer nm=if jV (sbT outer ⟨0,[]⟩ inn.Body)=0 then jV (sbT inn.Name (fY nm) (jU (sbT outer ⟨0,[]⟩ inn.Body))) else jV (sbT outer ⟨0,[]⟩ inn.Body):=by unfold nR;rw [hi,ab h,aa (by rw [h2];simp),aa (by rw [h3];simp),aa h4,aa (by rw [h5];simp)]
def colT_0 (h:¬gO n outer=0):rK n outer nm=(zNs,gO n outer):=aa h
def zZm {e:Int} (hs:(gH n outer).2.1=s) (h:gO n outer=0) (he:nR n s outer nm=e) (h0:¬e=0):rK n outer nm=(zNs,e):=by unfold rK;rw [ab h,hs,he,aa h0]
def colT_2 (hs:(gH n outer).2.1=s) (h:gO n outer=0) (he:nR n s outer nm=0):rK n outer nm=pL n (jK n outer) [tX s outer nm]:=by unfold rK;rw [ab h,hs,ab he]
def colS_x (hi:s.Body.getD 0 zSt=inn) (outer nm:lr):dA [tX s outer nm]=.c (.sl 20 [[cI 1,cS nm,cI (w64 (s.Many*inn.Many)),cI s.Mark,cI 0,.sl 4 [],cI 0,cS (bs []),cI 0,cI 0,cI 0,cI 0,cI 0,cI 0,cI 0,cI 0,.sl 2 [],.sl 4 [],.sl 13 [],.sl 20 ((jU (sbT inn.Name (fY nm) (jU (sbT outer ⟨0,[]⟩ inn.Body)))).map St.cells)]]):=by
  unfold tX
  rw [hi]
  show V.c (C.sl 20 [(gQ _ _ _ _).cells])=_
  rw [zSb]
def colS_wt (hi:s.Body.getD 0 zSt=inn) (outer nm:lr):bD [tX s outer nm]=bD (jU (sbT inn.Name (fY nm) (jU (sbT outer ⟨0,[]⟩ inn.Body))))+2:=by
  unfold tX
  rw [hi]
  simp only [bD,sFor_wt];omega
def get_0 (h:0<l.length):l[0]? =some (l.getD 0 zSt):=by
  rw [aT,ak h];rfl
def one79:mM prog 79=true:=by kernel_rfl
def one129:mM prog 129=true:=by kernel_rfl
def sz129:(prog.info? 129).map (·.size)=some 1:=by kernel_rfl
def zr2:fL prog 2=some [(Value.int IntKind.i64 0)]:=by kernel_rfl
def zr129:fL prog 129=some [Value.nilFunc]:=by kernel_rfl
def lin_Coeff (l:Lf) (s:lr) (hl:l.L.length<=6000000000000):
    Pur cfg 32 [dK l,vS s] (vI (bF l.L s)):=by
 refine zR func32 O ntmps32 results32 O fun z hz=>G O<|mj O fun b1=>mm O<|zG<|G O<|zC O wM<|zH zBs (J 0 O) O<|qB O N<|mm O<|zQ<|zY ⟨[(10,.c _),(1,.c _),(8,.c _),(9,.c _)],[]⟩ (Weak.mk [false] ⟨zJ,zJ,zJ,zJ,T⟩ O)<|qL 1 0 O O (Nat) (fun k=>[(10,vI k)]) (fun k=>[]) (fun k=>k<=l.L.length/\(bF l.L s=bF (l.L.drop k) s)) (fun k=>l.L.length-k) ⟨0,⟨zA,O⟩,Weak.mk [] ⟨zJ,zJ,zJ,zJ,T⟩ O⟩ ?_
 rintro k ⟨hk,hp⟩
 refine G O<|yI O<|Y<|zG<|zK O ?_ ?_<;>intro c1<;>try simp only [sx] at c1
 ·obtain ⟨x,hx⟩:=qZ l.L k zA
  refine zI<|zG<|zQ<|G O<|qC O N zA (getm uA)<|zM zIy zZ O<|zV O O (qW O zKr) ?_
  rintro _ _ ⟨b2,rfl,rfl⟩
  refine rStR 0 sz109 O<|Y<|G O<|zC O zAd<|zH one9 (J 0 O) O<|A O<|wP O<|Y<|zK O ?_ ?_<;>intro c2<;>try simp only [sx] at c2
  ·refine G O<|zC O zCz<|zH U (J 0 O) O<|mm O<|zF<|zS O ?_
   rw [hp,qQ hx,bF,ab c2]
  ·refine zI<|zT O<|qI O ⟨zA,zA⟩<|A O<|Y ?_
   refine ⟨k+1,⟨zA,by rw [hp,qQ hx,bF,aa c2]⟩,zA,Weak.mk [false] ⟨zJ,zJ,zJ,zJ,T⟩ O⟩
 ·refine qO<|ml O O<|zF<|zS O ?_
  rw [hp,kL zA];rfl
def collapse_1 (outer:lr) (many:Int) (inn:St) (l:Lf) (hm:1<=many) (hl:l.L.length<=6000000000000):
    Pur cfg 31 [dK l,.c (.iptr [cS outer]),.c (.iptr [cI many]),.c (.iptr inn.cs)] (vB (tL outer inn.Name many l)):=by
 refine zR func31 O ntmps31 results31 O fun z hz=>G O<|mj O fun b1=>mm O<|G O<|zM kQ (J 0 O) O<|zH one9 zZ O<|qD O uB (lin_Coeff _ _ zA) (vlr O)<|mm O<|zG<|qV 15 mixed uB O O<|mr O (zO O O)<|mr O (zD O U O zZ O)<|mr O (zOv O O O zA)<|mr O (yN O O O)<|mr O (zO O O)<|qM [] O O O O gv1 T (fun g2_4=>zO O O) O<|qM [] O O O O gv1 T (fun g2_4=>zD O U O zZ O) O<|qM [(15,_),(16,_)] O O O O gv1 ⟨O,O,O,O,T⟩ (fun g2_4=>zKb O O O zA) O<|qM [] O O O O gv1 T (fun g2_4=>zU O kQ O (J 0 O) O) O<|qM [] O O O O gv1 T (fun g2_4=>qN O zAl O) O<|qM [(19,_)] O O O O gv1 ⟨O,O,T⟩ (fun g2_4=>zD O one9 O zZ O) O<|qM [(18,_),(20,_)] O O O O gv1 ⟨O,O,O,O,T⟩ (fun g2_4=>qG O uB (lin_Coeff _ _ zA) (vlr O)) O<|qM [(17,_),(21,_)] O O O O gv1 ⟨O,O,O,O,T⟩ (fun g2_4=>yN O O O) O<|mr O (wA O O O (fun h=>h) O)<|mr O (qY O O)<|yQ<|Y<|zF<|zS O ?_
 rfl
def every_1 (f:Lf->Bool) (c:C) (P:Lf->Prop) (hc:∀l,P l->FnPur cfg c [dK l] (vB (f l))) (i:List Ix) (hi:i.length<=4294967296) (hA:∀x,x∈i->x.At.length<=4294967296) (hP:gK P i):
    Pur cfg 67 [jF i,.c (.iptr [c])] (vB (mS f i)):=by
 refine zR func67 O ntmps67 results67 O fun z hz=>ml O O<|zG<|mo O O<|qB O v<|mm O<|zQ<|zY ⟨[(10,.c _),(1,.c _),(8,.c _),(9,.c _)],[]⟩ (Weak.mk [] ⟨zJ,zJ,zJ,zJ,T⟩ O)<|qL 1 0 O O (Nat) (fun k=>[(10,vI k)]) (fun k=>[]) (fun k=>k<=i.length/\(mS f (i.take k)=true)) (fun k=>i.length-k) ⟨0,⟨zA,O⟩,Weak.mk [] ⟨zJ,zJ,zJ,zJ,T⟩ O⟩ ?_
 rintro k ⟨hk,hp⟩
 refine G O<|yI O<|Y<|zG<|zK O ?_ ?_<;>intro c1<;>try simp only [sx] at c1
 ·obtain ⟨x,hx⟩:=qZ i k zA
  have hAx:=hA x (qA hx)
  refine zI<|zG<|zQ<|G O<|qC O v zA (getm uA)<|zM zRn zZ O<|zV O O (qH md O zr92 O) ?_
  rintro _ _ ⟨b1,rfl,rfl⟩
  refine rStR 0 sz92 O<|Y<|zG<|G O<|zH one79 zZ O<|zC O zFw<|zM kQ (J 0 O) O<|zW O (kU O O (hc x.Lin (hP x (qA hx)).1) (vlr O))<|kO O<|Y<|zK O (fun c2=>?_) (fun c2=>?_)
  ·refine ml O O<|zF<|zS O ?_
   rw [ev_ix1 hx (by simp at c2;rw [c2];rfl)]
  ·refine zI<|G O<|zC O zBa<|zH zFf (J 0 O) O<|qB O el90<|mm O<|zQ<|zY ⟨[(22,.c _),(1,.c _),(8,.c _),(9,.c _),(10,.c _),(20,.c _),(21,.c _)],[]⟩ (Weak.mk [false] ⟨zJ,zJ,zJ,zJ,zJ,zJ,zJ,T⟩ O)<|qL 1 0 O O (Nat) (fun j=>[(22,vI j)]) (fun j=>[]) (fun j=>j<=x.At.length/\((x.At.take j).all f=true)) (fun j=>x.At.length-j) ⟨0,⟨zA,O⟩,Weak.mk [] ⟨zJ,zJ,zJ,zJ,zJ,zJ,zJ,T⟩ O⟩ ?_
   rintro j ⟨hk,hq⟩
   refine G O<|yI O<|Y<|zG<|zK O ?_ ?_<;>intro c3<;>try simp only [sx] at c3
   ·obtain ⟨l,hl⟩:=qZ x.At j zA
    refine zI<|zG<|zQ<|G O<|qC O el90 zA (getm uA)<|zM kQ zZ O<|zV O O (qH [none,some 2] O zr51 O) ?_
    rintro _ _ ⟨b2,rfl,rfl⟩
    refine rStR 0 sz51 O<|Y<|G O<|zH one79 zZ O<|zM kQ (J 0 O) O<|zW O (kU O O (hc l ((hP x (qA hx)).2 l (qA hl))) (vlr O))<|kO O<|Y<|zK O (fun c4=>?_) (fun c4=>?_)
    ·refine ml O O<|zF<|zS O ?_
     rw [ev_ix1 hx (by simp at c4;rw [zMk hl c4,co])]
    ·refine zI<|zT O<|qI O ⟨zA,zA⟩<|A O<|Y ?_
     refine ⟨j+1,⟨zA,by rw [yR hl,bx,hq];simpa using c4⟩,zA,Weak.mk [false] ⟨zJ,zJ,zJ,zJ,zJ,zJ,zJ,T⟩ O⟩
   ·refine qO<|zT O<|qI O ⟨zA,zA⟩<|A O<|Y ?_
    refine ⟨k+1,⟨zA,ev_next hx hp (by simpa using c2) (by rw [yW zA] at hq;exact hq)⟩,zA,Weak.mk [] ⟨zJ,zJ,zJ,zJ,T⟩ O⟩
 ·refine qO<|ml O O<|zF<|zS O ?_
  rw [yW zA] at hp;rw [hp]
def every_step (f:Lf->Bool) (c:C) (P:Lf->Prop) (hc:∀l,P l->FnPur cfg c [dK l] (vB (f l))) (l:List St) (ih:∀s,s∈l->Pur cfg 30 [dA s.Body,.c c] (vB (evL f s.Body))) (hP:bE P l) (hl:bD l<=1073741824):
    Pur cfg 30 [dA l,.c c] (vB (evL f l)):=by
 refine zR func30 O ntmps30 results30 O ?_
 intro z hz
 have hll:=kY l
 refine G O<|mj O fun b1=>yU _ (yX 0 O 3 _ PLe.ptr)<|zV O O (qW O zr4) ?_
 rintro _ _ ⟨b2,rfl,rfl⟩
 refine Y<|G O<|zW O (zFa O O O O O)<|zV O O (qW O zr129) ?_
 rintro _ _ ⟨b3,rfl,rfl⟩
 refine rStR 0 sz129 O<|yU _ (yX 0 O 5 _ PLe.ptr)<|Y<|zG<|mo O O<|qB O D<|mm O<|zQ<|zY ⟨[(12,.c _),(3,.c _),(4,.c _),(5,.c _),(10,.c _),(11,.c _)],[_]⟩ (Weak.mk [true] ⟨zJ,zJ,zJ,zJ,zJ,zJ,T⟩ O)<|qL 1 0 O O (Nat) (fun k=>[(12,vI k)]) (fun k=>[]) (fun k=>k<=l.length/\(evL f (l.take k)=true)) (fun k=>l.length-k) ⟨0,⟨zA,by rw [bc,evL]⟩,Weak.mk [true] ⟨zJ,zJ,zJ,zJ,zJ,zJ,T⟩ O⟩ ?_
 rintro k ⟨hk,hp⟩
 refine G O<|yI O<|Y<|zG<|zK O ?_ ?_<;>intro c1<;>try simp only [sx] at c1
 ·obtain ⟨s,hs⟩:=qZ l k zA
  have hsw:=yS (qA hs)
  have hse:=St.wt_eq s
  have hPs:=St.allF_eq (kR hP s (qA hs))
  refine zI<|zG<|zQ<|G O<|qC O D zA (wL hs)<|zM zDv zZ O<|zV O O (qH ly O zr56 O) ?_
  rintro _ _ ⟨b4,rfl,rfl⟩
  refine rStR 0 sz56 O<|Y<|zG<|G O<|zH one129 zZ O<|zC O zFj<|zH wT (J 0 O) O<|zW O (kU O O (show FnPur cfg (.fn (.func 67) [] [.iptr [c]]) [jF s.Idx] (vB (mS f s.Idx)) from FnPur.of_pur (first:=[]) (cap:=[.iptr [c]]) uB (every_1 f c P hc s.Idx zA (fun x hx=>by have:=zBu hx;rw [Ix.wt] at this;omega) hPs.1)) (vlr O))<|kO O<|A O<|rL0 O (fun g5_5=>zE O kV O) O<|rL1 22 O (fun g5_5=>zD O kX O (J 0 O) O) O<|rL0 O (fun g5_5=>zD O one79 O zZ O) O<|rLz [(23,_),(24,_)] O gv1 ⟨O,O,O,O,T⟩ (fun g5_5=>qG O uB (ih s (qA hs)) (vlr O)) O<|rL1 25 O (fun g5_5=>kG O O) O<|r_or O (fun h=>(lzf h))<|Y<|zK O (fun c2=>?_) (fun c2=>?_)
  ·refine G O<|rStR 1 sz4 O<|Y<|zF<|fin1 (kZ one4 O (J 1 O) O) ?_
   rw [evL_no hs (evS_1 c2)]
  ·refine zI<|G O<|zC O zBk<|zM yY (J 0 O) O<|qD O uB (zQu _) (vlr O)<|Y<|zQ<|zY _ (Weak.mem [false,true] O)<|zHc (ps:=[31]) hz 1 O O uB (zPa s.E zA) (fun _ _=>O) O (fun pre=>pre.all (fun a=>f a.Lin&&mS f a.Idx)=true) (fun pre=>[E.row b2 4 [.lit (.bool false)]]) (fun c pre=>(c=.ret/\pre.all (fun a=>f a.Lin&&mS f a.Idx)=false)) (fun c pre=>[E.row b2 4 [.lit (.bool false)]]) ⟨O,O⟩ ?_ ?_ ?_ ?_
   ·intro pre x suf hxs hi z hz
    have hxw:x.wt<=s.E.wt:=zGq s.E x (by rw [hxs];simp)
    have hxe:=Ex.wt_eq x
    refine zT O<|zV O O (qH lx O zr54 O) ?_
    rintro _ _ ⟨b5,rfl,rfl⟩
    refine rStR 0 sz54 O<|Y ?_
    intro z hz
    refine zQ<|G O<|zH one79 zZ O<|zC O zEk<|zM kQ (J 0 O) O<|zW O (kU O O (hc x.Lin (node_P hPs.2.1 (by rw [hxs];simp)).1) (vlr O))<|kO O<|A O<|rL0 O (fun g9_5=>zD O one129 O zZ O) O<|rL0 O (fun g9_5=>zE O wK O) O<|rL1 39 O (fun g9_5=>zD O wT O (J 0 O) O) O<|rLz [(38,_),(40,_)] O gv1 ⟨O,O,O,O,T⟩ (fun g9_5=>kU O O (show FnPur cfg (.fn (.func 67) [] [.iptr [c]]) [jF x.Idx] (vB (mS f x.Idx)) from FnPur.of_pur (first:=[]) (cap:=[.iptr [c]]) uB (every_1 f c P hc x.Idx zA (fun y hy=>by have:=zBu hy;rw [Ix.wt] at this;omega) (node_P hPs.2.1 (by rw [hxs];simp)).2)) (vlr O)) O<|rL1 41 O (fun g9_5=>kG O O) O<|r_or O (fun h=>(lzf h))<|Y<|zK O (fun c3=>?_) (fun c3=>?_)
    ·refine G O<|rStR 1 sz4 O<|Y<|zF ?_
     exact zDa (τ:=⟨[],_⟩) (Weak.mk [false,true] T O) ⟨⟨O,ev_ret hi c3⟩,O⟩
    ·refine zI ?_
     exact zDa (τ:=⟨[],_⟩) (Weak.mk [false,true] T O) ⟨(by simp at c3;simp only [bx,hi,aW,fh,c3.1,c3.2,Bool.and_self]),O⟩
   ·intro hd
    refine zT O<|qI O ⟨zA,zA⟩<|A O<|Y ?_
    refine ⟨k+1,⟨zA,evL_next hs hp c2 hd⟩,zA,Weak.mk [true] ⟨zJ,zJ,zJ,zJ,zJ,zJ,T⟩ O⟩
   ·rintro pre x suf hxs hx
    rcases hx with ⟨hc,hx⟩
    clear hc
    repeat (first|refine zPe ?_|refine zNl ?_)
    refine fin1 (kZ one4 O (J 0 O) O) ?_
    rw [evL_no hs (evS_2 (by unfold cM;rw [hxs];exact all_app_no hx))]
   ·rintro i pre x suf hxs hx
    rcases hx with ⟨hc,hx⟩
    cases hc
 ·refine qO<|G O<|rStR 0 sz4 O<|Y<|zF<|fin1 (kZ one4 O (J 0 O) O) ?_
  rw [yW zA] at hp;rw [hp]
def every_body (f:Lf->Bool) (c:C) (P:Lf->Prop) (hc:∀l,P l->FnPur cfg c [dK l] (vB (f l))) (s:St) (hP:bE P s.Body) (hl:bD s.Body<=1073741824):Pur cfg 30 [dA s.Body,.c c] (vB (evL f s.Body)):=by
  induction s using St.ind with
  |_ s ih=>exact every_step f c P hc s.Body (fun a ha=>ih a ha (St.allF_eq (kR hP a ha)).2.2 (by have:=yS ha;have:=St.body_wt a;omega)) hP hl
def split_every (f:Lf->Bool) (c:C) (P:Lf->Prop) (hc:∀l,P l->FnPur cfg c [dK l] (vB (f l))) (l:List St) (hP:bE P l) (hl:bD l<=1073741824):Pur cfg 30 [dA l,.c c] (vB (evL f l)):=
  every_step f c P hc l (fun s hs=>every_body f c P hc s (St.allF_eq (kR hP s hs)).2.2 (by have:=yS hs;have:=St.body_wt s;omega)) hP hl
def zNu (n:Ns) (outer nm:lr) (hn:n.Ok) (hl:bD n.Body<=30000) (hr:bE Lf.rng n.Body) (hM:gO n outer=0->((gH n outer).2.1.Body.length=1/\((gH n outer).2.1.Body.getD 0 zSt).Op=1)->1<=((gH n outer).2.1.Body.getD 0 zSt).Many):
    Pur cfg 10 [vNs n,vS outer,vS nm] (.tup [vNs (rK n outer nm).1,vI (rK n outer nm).2]):=by
 refine zR func10 O ntmps10 results10 O ?_
 intro z hz
 obtain ⟨s,hs0⟩:∃s,(gH n outer).2.1=s:=⟨_,rfl⟩
 have hlw:=locT_wt n outer
 have hlr:=locT_rng (s:=outer) hr
 rw [hs0] at hlw hlr
 have hwl:=zUm n outer
 have hwN:=zHt n.Body
 rw [hs0] at hM
 obtain ⟨inn,hi0⟩:∃x,s.Body.getD 0 zSt=x:=⟨_,rfl⟩
 rw [hi0] at hM
 obtain ⟨hvr,hvl⟩:=zHg nm
 refine G O<|mj O fun b1=>mj O fun b2=>yU _ (yX 0 O 4 _ PLe.ptr)<|zV O O (qH [some 8,some 20] O zr25 O) ?_
 rintro _ _ ⟨b3,rfl,rfl⟩
 refine mm O<|G O<|zM kE (J 1 O) O<|zH one9 zZ O<|qD O uB (show Pur cfg 16 [vNs n,vS outer] (.tup [vIs (gH n outer).1,vSt s,vI (gO n outer)]) by have h:=zKz n outer hn;rw [locT_e,hs0] at h;exact h) (vlr O)<|qP O<|qS O<|yG O<|qS O<|zV O O (qH ly O zr56 O) ?_
 rintro _ _ ⟨b4,rfl,rfl⟩
 refine A O<|rStR 0 sz56 O<|mm O<|zG<|mo O O<|yL O<|Y<|zK O ?_ ?_<;>intro c1<;>try simp only [sx] at c1
 ·refine G O<|yH [some 8,some 20] O zr25 pl25<|A O<|rStR 1 sz25 O<|mm O<|zF<|fin2 (zP kE O (J 1 O) O) (rs_c O) ?_
  rw [colT_0 c1];rfl
 ·refine zI<|zG<|G O<|zC O kV<|zH kX (J 0 O) O<|qB O D<|yL O<|A O<|rL0 O (fun g4_4=>zE O kV O) O<|rL1 31 O (fun g4_4=>zD O kX O (J 0 O) O) O<|rL1 32 O (fun g4_4=>qE O D O O (by simp only [Lz,ay,az,sx] at g4_4;omega) (wL (get_0 (by simp only [Lz,ay,az,sx] at g4_4;omega)))) O<|rL1 33 O (fun g4_4=>qN O zAp O) O<|rL1 34 O (fun g4_4=>zD O one3 O zZ O) O<|rL1 35 O (fun g4_4=>kB O O O) O<|r_or O (fun h=>(lzf h))<|Y<|zK O (fun c2=>?_) (fun c2=>?_)
  ·have c2:¬(s.Body.length=1/\inn.Op=1):=by rintro ⟨h1,h2⟩;rw [←hi0] at h2;simp only [aI,ao,aj] at c2;omega
   refine G O<|yH [some 8,some 20] O zr25 pl25<|rStR 1 sz25 O<|mm O<|zF<|fin2 (zP kE O (J 1 O) O) (rs_c O) ?_
   rw [zZm hs0 c1 (colE_1 hi0 c2) zB];rfl
  ·have c2:s.Body.length=1/\inn.Op=1:=by rw [←hi0];simp at c2⊢;exact ⟨zA,c2.2⟩
   have hM1:=hM c1 c2
   have hin:s.Body[0]? =some inn:=by rw [←hi0];exact get_0 zA
   have hiw:=yS (qA hin)
   have hib:=St.body_wt inn
   have hir:=(St.allF_eq (kR hlr inn (qA hin))).2.2
   have hb1:=sbT0_wt (s:=outer) (l:=inn.Body)
   have hb2:=zWs (s:=inn.Name) (u:=fY nm) (l:=jU (sbT outer ⟨0,[]⟩ inn.Body)) zA
   refine zI<|G O<|zC O kV<|zH kX (J 0 O) O<|qC O D zA (wL hin)<|zM zDv zZ O<|zV O O (qH ly O zr56 O) ?_
   rintro _ _ ⟨b5,rfl,rfl⟩
   refine rStR 0 sz56 O<|yU _ (yX 0 O 11 _ PLe.ptr)<|Y<|zG<|zQ<|mo O O<|qD O uB (zBi _) (vlr O)<|kO O<|mm O<|zK O ?_ ?_<;>intro c3<;>try simp only [sx] at c3
   ·have c3:bB nm=false:=by simpa using c3
    refine G O<|yH [some 8,some 20] O zr25 pl25<|rStR 1 sz25 O<|mm O<|zF<|fin2 (zP kE O (J 1 O) O) (rs_c O) ?_
    rw [zZm hs0 c1 (colE_2 hi0 c2 c3) zB];rfl
   ·have c3:bB nm=true:=by simpa using c3
    refine mo O O<|zH one9 zZ O<|zW O (zBq O O O)<|A O<|rL0 O (fun g9_3=>zO O O) O<|rL0 O (fun g9_3=>qN O zAl O) O<|rL1 54 O (fun g9_3=>zD O one9 O zZ O) O<|rLz [(53,_),(55,_)] O gv1 ⟨O,O,O,O,T⟩ (fun g9_3=>zBq O O O) O<|yT O (fun h=>h)<|A O<|rL0 O (fun g9_9=>zU O kE O (J 2 O) O) O<|rL0 O (fun g9_9=>zO O O) O<|rLz [(59,_),(60,_)] O gv1 ⟨O,O,O,O,T⟩ (fun g9_9=>qG O uB (zJe _ _ zA) (vlr O)) O<|yT O (fun h=>h)<|mm O<|zK O (fun c4=>?_) (fun c4=>?_)
    ·have c4:((!decide (nm=outer)&& !decide (nm=inn.Name))&&nS n nm)=true:=c4
     refine G O<|yH [some 8,some 20] O zr25 pl25<|rStR 1 sz25 O<|mm O<|zF<|fin2 (zP kE O (J 1 O) O) (rs_c O) ?_
     rw [zZm hs0 c1 (colE_3 hi0 c2 c3 c4) zB];rfl
    ·have c4:((!decide (nm=outer)&& !decide (nm=inn.Name))&&nS n nm)=false:=c4
     refine zG<|qV 7 mixed uB O O<|mr O (zE O zAt O)<|mr O (zD O one3 O (J 0 O) O)<|mr O (qN O zAt O)<|mr O (zD O one3 O zZ O)<|mr O (zKb O O O zA)<|mr O (yD O O O)<|mr O (qY O O)<|yQ<|Y<|zK O ?_ ?_<;>intro c5<;>try simp only [sx] at c5
     ·refine G O<|yH [some 8,some 20] O zr25 pl25<|rStR 1 sz25 O<|mm O<|zF<|fin2 (zP kE O (J 1 O) O) (rs_c O) ?_
      rw [zZm hs0 c1 (colE_4 hi0 c2 c3 c4 c5) zB];rfl
     ·have c5:¬w64 (Int.tdiv 65536 inn.Many)<s.Many:=by show ¬(IntKind.i64.wrap (Int.tdiv 65536 inn.Many)<s.Many);omega
      refine zI<|G O<|qR O zAt<|zH one3 zZ O<|zV O O (qW O zr2) ?_
      rintro _ _ ⟨b6,rfl,rfl⟩
      refine rStR 0 sz2 O<|yU _ (yX 0 O 12 _ PLe.ptr)<|Y<|G O<|qR O kV<|zH kX zZ O<|zW O (zFa O O O O O)<|qD O uB (split_every (tL outer inn.Name inn.Many) _ (fun l=>l.L.length<=1073741824) (fun l hl=>FnPur.of_pur (first:=[]) (cap:=[.iptr [cS outer],.iptr [cI inn.Many],.iptr inn.cs]) uB (collapse_1 outer inn.Many inn l hM1 zA)) inn.Body (zKw zA) zA) (vlr O)<|mm O<|zG<|mo O O<|kO O<|Y<|zK O ?_ ?_<;>intro c6<;>try simp only [sx] at c6
      ·have c6:evL (tL outer inn.Name inn.Many) inn.Body=false:=by simpa using c6
       refine G O<|yH [some 8,some 20] O zr25 pl25<|rStR 1 sz25 O<|mm O<|zF<|fin2 (zP kE O (J 1 O) O) (rs_c O) ?_
       rw [zZm hs0 c1 (colE_5 hi0 c2 c3 c4 c5 c6) zB];rfl
      ·have c6:evL (tL outer inn.Name inn.Many) inn.Body=true:=by simpa using c6
       refine zI<|zG<|qV 10 mixed uB O O<|mr O (qN O kV O)<|mr O (zD O kX O zZ O)<|mr O (zD O one9 O zZ O)<|mr O (qG O uB (zYa _) (vlr O))<|mr O (qG O uB (zBo inn.Body outer ⟨0,[]⟩ (by show 0<=_;omega) zKs zA hir) (vlr O))<|mr O (kJ O O)<|mr O (wF O O O)<|mr O (wF O O O)<|mr O (qY O O)<|mr O (qY O O)<|yQ<|Y<|zG<|mo O O<|yL O<|Y<|zK O ?_ ?_<;>intro c7<;>try simp only [sx] at c7
       ·refine G O<|yH [some 8,some 20] O zr25 pl25<|A O<|rStR 1 sz25 O<|mm O<|zF<|fin2 (zP kE O (J 1 O) O) (rs_c O) ?_
        rw [zZm hs0 c1 ((colE_6 hi0 c2 c3 c4 c5 c6).trans (aa c7)) c7];rfl
       ·refine zI<|zG<|qV 11 mixed uB O O<|mr O (zO O O)<|mr O (qN O zAl O)<|mr O (zD O one9 O zZ O)<|mr O (zO O O)<|mr O (qG O uB (lin_Var _) (vlr O))<|mr O (qG O uB (zBo (jU (sbT outer ⟨0,[]⟩ inn.Body)) inn.Name (fY nm) zA hvr zA (sbT_rng outer ⟨0,[]⟩ hir)) (vlr O))<|mr O (kJ O O)<|mr O (wF O O O)<|mr O (wF O O O)<|mr O (qY O O)<|mr O (qY O O)<|yQ<|Y<|zG<|mo O O<|yL O<|Y<|zK O ?_ ?_<;>intro c8<;>try simp only [sx] at c8
        ·refine G O<|yH [some 8,some 20] O zr25 pl25<|A O<|rStR 1 sz25 O<|mm O<|zF<|fin2 (zP kE O (J 1 O) O) (rs_c O) ?_
         rw [zZm hs0 c1 ((colE_6 hi0 c2 c3 c4 c5 c6).trans (ab c7)) c8];rfl
        ·refine zI<|G O<|zM kE (J 2 O) O<|A O<|A O<|zC O zAt<|zH one3 (J 0 O) O<|qR O zAt<|zH one3 zZ O<|zW O (zZc O O O)<|zC O zKj<|zH one3 (J 0 O) O<|A O<|yH mc O zr56 pl56<|zW O (yA O D zr56 O O O O) ?_
         refine qD O uB (zHi n (jK n outer) [tX s outer nm] hn (by rw [colS_wt hi0];omega) zA) ⟨zJ,O,VLe.of_eq (ag vIs (locT_w c1)),O,VLe.of_eq ((colS_x hi0 outer nm).symm),O,T⟩<|yG O<|qS O<|rStR 1 sz25 O<|mm O<|zF<|fin2 (zP kE O (J 1 O) O) (rs_c O) ?_
         rw [colT_2 hs0 c1 ((colE_6 hi0 c2 c3 c4 c5 c6).trans ((ab c7).trans c8))];rfl
end Go.W
end
section
set_option maxRecDepth 10000
namespace Go.W
open Go Go.Eng Go.Proofs Go.L41 Go.Br Tryz
attribute [local irreducible] AWP RWP TD fK
/-! Redundant guards. -/
abbrev MM:=List (lr×Int)
def nU (a b c:Int):Int×Bool:=if c=0 then (a,true) else if w64 (Int.tdiv (w64 (b*c)) c)=b then (w64 (a+w64 (b*c)),decide (w64 (a+w64 (b*c))<a)) else (0,false)
def rC (m:MM):List Mono->Int->Bool->Int×Bool
  |[],lo,ok=>(lo,ok)
  |x::r,lo,ok=>if x.By<0/\ok=true then rC m r (nU lo x.By (w64 ((mE m x.Name).getD 0-1))).1 (nU lo x.By (w64 ((mE m x.Name).getD 0-1))).2 else rC m r lo ok
def rV (m:MM) (o:Int) (a b:Ex):Bool:=
  if (((!decide (o=13)&& !decide (o=14))|| !decide (a.Op=2))|| !decide (b.Op=2))=true then false
  else if (dG a.Lin (-1)).2=0 then
    (if (jM b.Lin (dG a.Lin (-1)).1).2=0 then
      (rC m (jM b.Lin (dG a.Lin (-1)).1).1.L (jM b.Lin (dG a.Lin (-1)).1).1.K true).2&&(decide (1<=(rC m (jM b.Lin (dG a.Lin (-1)).1).1.L (jM b.Lin (dG a.Lin (-1)).1).1.K true).1)||(decide ((rC m (jM b.Lin (dG a.Lin (-1)).1).1.L (jM b.Lin (dG a.Lin (-1)).1).1.K true).1=0)&&decide (o=14)))
    else false)
  else false
mutual
def rR (m:MM):Ex->Bool
  |.mk o _ _ _ _ _ A=>if o=16 then (cL m A).getD 0 false&&(cL m A).getD 1 false else rV m o (A.getD 0 zEx) (A.getD 1 zEx)
def cL (m:MM):List Ex->List Bool
  |[]=>[]
  |a::r=>rR m a::cL m r
end
def redL_map (m:MM):∀l:List Ex,cL m l=l.map (rR m)
  |[]=>by rw [cL];rfl
  |a::r=>by rw [cL,redL_map m r];rfl
variable {m:MM} {a b e:Ex}
def zPw (h:e.Op=16) (ha:e.Args[0]? =some a) (hb:e.Args[1]? =some b):rR m e=(rR m a&&rR m b):=by
  cases e
  simp only [Ex.Op,Ex.Args] at h ha hb
  rw [rR,ab h,redL_map]
  simp [aT,ha,hb]
def zAx (h:¬e.Op=16) (ha:e.Args.getD 0 zEx=a) (hb:e.Args.getD 1 zEx=b):rR m e=rV m e.Op a b:=by
  cases e
  simp only [Ex.Op,Ex.Args] at h ha hb⊢
  rw [rR,aa h,ha,hb]
variable {k:Nat}
def exG {l:List Ex} {x:Ex} (h:k<l.length) (h0:l.getD k zEx=x):l[k]? =some x:=by
  rw [←h0,aT,ak h];rfl
variable {o:Int}
def zYf (h:(((!decide (o=13)&& !decide (o=14))|| !decide (a.Op=2))|| !decide (b.Op=2))=true):rV m o a b=false:=ab h
variable {sc:Lf×Int}
def zYe (h:(((!decide (o=13)&& !decide (o=14))|| !decide (a.Op=2))|| !decide (b.Op=2))=false) (hs:dG a.Lin (-1)=sc) (c:¬sc.2=0):rV m o a b=false:=by
  unfold rV;rw [aa (by rw [h];simp),hs,aa c]
variable {d:Lf×Int}
def zYd (h:(((!decide (o=13)&& !decide (o=14))|| !decide (a.Op=2))|| !decide (b.Op=2))=false) (hs:dG a.Lin (-1)=sc) (c:sc.2=0) (hd:jM b.Lin sc.1=d) (c2:¬d.2=0):rV m o a b=false:=by
  unfold rV;rw [aa (by rw [h];simp),hs,ab c,hd,aa c2]
variable {lo:Int}
def zYc {ok:Bool} (h:(((!decide (o=13)&& !decide (o=14))|| !decide (a.Op=2))|| !decide (b.Op=2))=false) (hs:dG a.Lin (-1)=sc) (c:sc.2=0) (hd:jM b.Lin sc.1=d) (c2:d.2=0) (hR:rC m d.1.L d.1.K true=(lo,ok)):rV m o a b=(ok&&(decide (1<=lo)||(decide (lo=0)&&decide (o=14)))):=by
  unfold rV;rw [aa (by rw [h];simp),hs,ab c,hd,ab c2,hR]
def arE (e:Ex):Bool:=(dI e).all fun x=> !(decide (x.Op=13)||decide (x.Op=14)||decide (x.Op=16))||decide (2<=x.Args.length)
def zTh (h:arE e=true) (ho:e.Op=13∨e.Op=14∨e.Op=16):2<=e.Args.length:=by
  have h1:=ax.1 h e (by rw [wC];simp)
  simp only [aI,ao,al,aj,ah] at h1
  omega
def arE_arg (h:arE e=true) (ha:a∈e.Args):arE a=true:=
  ax.2 fun x hx=>ax.1 h x (by rw [wC];exact au _ (zPz ha hx))
variable {R:Int×Bool}
def lowF_next {l:List Mono} {x:Mono} {ok:Bool} (h:l[k]? =some x) (hp:R=rC m (l.drop k) lo ok) (c:x.By<0/\ok=true):R=rC m (l.drop (k+1)) (nU lo x.By (w64 ((mE m x.Name).getD 0-1))).1 (nU lo x.By (w64 ((mE m x.Name).getD 0-1))).2:=by
  rw [hp,qQ h,rC,ab c]
def lowF_skip {l:List Mono} {x:Mono} {ok:Bool} (h:l[k]? =some x) (hp:R=rC m (l.drop k) lo ok) (c:¬(x.By<0/\ok=true)):R=rC m (l.drop (k+1)) lo ok:=by
  rw [hp,qQ h,rC,aa c]
def lowF_end {l:List Mono} {ok:Bool} (hp:R=rC m (l.drop k) lo ok) (c:¬k<l.length):R=(lo,ok):=by
  rw [hp,kL c,rC]
mutual
def nK:MM->St->(List St×Nat)×MM
  |m,.mk o nm mn mk fo i e b=>
    if o=4/\rR (bV (if o=1 then mI m nm mn else m) b).2 e=true then (((bV (if o=1 then mI m nm mn else m) b).1.1,(bV (if o=1 then mI m nm mn else m) b).1.2+1),(bV (if o=1 then mI m nm mn else m) b).2)
    else (([.mk o nm mn mk fo i e (bV (if o=1 then mI m nm mn else m) b).1.1],(bV (if o=1 then mI m nm mn else m) b).1.2),(bV (if o=1 then mI m nm mn else m) b).2)
def bV:MM->List St->(List St×Nat)×MM
  |m,[]=>(([],0),m)
  |m,s::r=>(((nK m s).1.1++(bV (nK m s).2 r).1.1,(nK m s).1.2+(bV (nK m s).2 r).1.2),(bV (nK m s).2 r).2)
end
def con_pre {X:Cfg} {f:FuncId} {args:List V} {μ μ':List E} {Q:V->List E->Prop} (e:μ=μ') (h:Con X f args μ' Q):Con X f args μ Q:=by rw [e];exact h
def mIn (m:MM) (s:St):MM:=if s.Op=1 then mI m s.Name s.Many else m
variable {s:St}
def ungS_yes (h:s.Op=4/\rR (bV (mIn m s) s.Body).2 s.E=true):nK m s=(((bV (mIn m s) s.Body).1.1,(bV (mIn m s) s.Body).1.2+1),(bV (mIn m s) s.Body).2):=by
  cases s;rw [nK];exact ab h
def ungS_no (h:¬(s.Op=4/\rR (bV (mIn m s) s.Body).2 s.E=true)):nK m s=(([pJ s (bV (mIn m s) s.Body).1.1],(bV (mIn m s) s.Body).1.2),(bV (mIn m s) s.Body).2):=by
  cases s;rw [nK];exact aa h
def ungL_app:∀(m:MM) (a b:List St),bV m (a++b)=(((bV m a).1.1++(bV (bV m a).2 b).1.1,(bV m a).1.2+(bV (bV m a).2 b).1.2),(bV (bV m a).2 b).2)
  |m,[],b=>by rw [lNa,bV];simp
  |m,s::r,b=>by
    rw [lCa,bV,ungL_app (nK m s).2 r b,bV]
    simp only [lAa,gg]
def zFc {l:List St} (h:l[k]? =some s):bV m (l.take (k+1))=(((bV m (l.take k)).1.1++(nK (bV m (l.take k)).2 s).1.1,(bV m (l.take k)).1.2+(nK (bV m (l.take k)).2 s).1.2),(nK (bV m (l.take k)).2 s).2):=by
  rw [yR h,ungL_app,bV,bV];simp
mutual
def ungS_bd:∀(m:MM) (s:St),(nK m s).1.2<=stN s/\bD (nK m s).1.1<=s.wt
  |m,.mk o nm mn mk fo i e b=>by
    rw [nK,stN]
    obtain ⟨h1,h2⟩:=zWd (if o=1 then mI m nm mn else m) b
    generalize (if o=1 then mI m nm mn else m)=m1 at *
    split
    · exact ⟨by show _+1<=_;omega,by show bD (bV m1 b).1.1<=_;rw [St.wt];omega⟩
    · refine ⟨by show (bV m1 b).1.2<=_;omega,?_⟩
      show bD [St.mk o nm mn mk fo i e (bV m1 b).1.1]<=_
      simp only [bD,St.wt];omega
def zWd:∀(m:MM) (l:List St),(bV m l).1.2<=dJ l/\bD (bV m l).1.1<=bD l
  |m,[]=>by rw [bV];simp [dJ,bD]
  |m,s::r=>by
    rw [bV,dJ,bD]
    obtain ⟨h1,h2⟩:=ungS_bd m s
    obtain ⟨h3,h4⟩:=zWd (nK m s).2 r
    exact ⟨by show (nK m s).1.2+(bV (nK m s).2 r).1.2<=_;omega,by show bD ((nK m s).1.1++(bV (nK m s).2 r).1.1)<=_;rw [zOz];omega⟩
end
mutual
def gdS:St->Bool
  |.mk o _ _ _ _ _ e b=>(!decide (o=4)||arE e)&&gdL b
def gdL:List St->Bool
  |[]=>true
  |s::r=>gdS s&&gdL r
end
def gdL_mem:∀{l:List St} {s:St},gdL l=true->s∈l->gdS s=true
  |x::r,s,h,hs=>by
    rw [gdL,ae] at h
    rcases af.1 hs with rfl|hs
    · exact h.1
    · exact gdL_mem h.2 hs
def gdS_body (h:gdS s=true):gdL s.Body=true:=by cases s;rw [gdS,ae] at h;exact h.2
def gdS_if:∀{s:St},gdS s=true->s.Op=4->arE s.E=true
  |.mk o nm mn mk fo i e b,h,ho=>by
    rw [gdS,ae] at h
    have h1:=h.1
    rw [show o=4 from ho] at h1
    have h2:arE e=true:=by simpa using h1
    exact h2
def takeWt (l:List St) (k:Nat):bD (l.take k)<=bD l:=by
  have h:=zOz (l.take k) (l.drop k)
  rw [aM] at h;omega
def xC (n:Ns):Ns×Int:=if (bL n).2=0 then (⟨n.Bufs,(bV [] n.Body).1.1⟩,((bV [] n.Body).1.2:Nat)) else (zNs,0)
def remT_1 {n:Ns} (h:¬(bL n).2=0):xC n=(zNs,0):=by unfold xC;rw [aa h]
def remT_2 {n:Ns} (h:(bL n).2=0):xC n=((⟨n.Bufs,(bV [] n.Body).1.1⟩:Ns),(((bV [] n.Body).1.2:Nat):Int)):=by unfold xC;rw [ab h]
def sm82:vA prog 82=some (Value.int IntKind.i64 0):=by kernel_rfl
def split_plus (a b c:Int):
    Pur cfg 105 [vI a,vI b,vI c] (.tup [vI (nU a b c).1,vB (nU a b c).2]):=by
 refine zR func105 O ntmps105 results105 O fun z hz=>mo O O<|mm O<|zG<|mo O O<|yF O<|Y<|qK O (fun c1=>?_) (fun c1=>?_)
 ·refine mo O O<|A O<|mm O<|zF<|fin2 (rs_c O) (rs_c O) ?_
  rw [show nU a b c=(a,true) from ab c1]
 ·refine zI<|mo O O<|A O<|zW O (zZc O O O)<|mm O<|zG<|mo O O<|A O<|zW O (zKb O O O c1)<|A O<|yL O<|Y<|zK O ?_ ?_<;>intro c2<;>try simp only [sx] at c2
  ·refine mo O O<|mm O<|zF<|fin2 (rs_c O) (rs_c O) ?_
   rw [show nU a b c=(0,false) by unfold nU;rw [aa c1];exact aa c2]
  ·refine zI<|mo O O<|A O<|zW O (zMh O O O)<|A O<|A O<|zW O (zMh O O O)<|A O<|yI O<|A O<|mm O<|zF<|fin2 (rs_c O) (rs_c O) ?_
   rw [show nU a b c=(w64 (a+w64 (b*c)),decide (w64 (a+w64 (b*c))<a)) by unfold nU;rw [aa c1];exact ab c2];rfl
def redundant_step (mb:Nat) (m:MM) (e:Ex) (ih:∀a,a∈e.Args->arE a=true->a.allF Lf.rng->a.wt<=1000000000->Con cfg 73 [vE a,.c (.lit (.map (some mb)))] [E.blk mb (MapR vI (m))] fun r μ'=>r=vB (rR m a)/\μ'=[E.blk mb (MapR vI (m))]) (har:arE e=true) (hr:e.allF Lf.rng) (he:e.wt<=1000000000):
    Con cfg 73 [vE e,.c (.lit (.map (some mb)))] [E.blk mb (MapR vI (m))] fun r μ'=>r=vB (rR m e)/\μ'=[E.blk mb (MapR vI (m))]:=by
 refine Con.drop<|zR func73 O ntmps73 results73 O ?_
 intro z hz
 have hew:=Ex.wt_eq e
 obtain ⟨a,ha0⟩:∃x,e.Args.getD 0 zEx=x:=⟨_,rfl⟩
 obtain ⟨b,hb0⟩:∃x,e.Args.getD 1 zEx=x:=⟨_,rfl⟩
 obtain ⟨sc,hs0⟩:∃x,dG a.Lin (-1)=x:=⟨_,rfl⟩
 obtain ⟨d,hd0⟩:∃x,jM b.Lin sc.1=x:=⟨_,rfl⟩
 obtain ⟨hsr,hsl⟩:=zPo a.Lin (-1)
 rw [hs0] at hsr hsl
 have hdl:=(add_rng b.Lin sc.1).2
 rw [hd0] at hdl
 refine G O<|mj O fun b1=>mm O<|zG<|G O<|zC O kP<|zH one3 (J 0 O) O<|yF O<|Y<|qK O (fun c1=>?_) (fun c1=>?_)
 ·have h2:=zTh har (.inr (.inr c1))
  have ha:=exG (k:=0) zA ha0
  have hb:=exG (k:=1) zA hb0
  have haw:=Ex.arg_wt (qA ha)
  have hbw:=Ex.arg_wt (qA hb)
  refine G O<|zC O wD<|zH zAs (J 0 O) O<|qC O el52 zA (zCy ha)<|zM yY zZ O<|A O<|zW O (kI [1] O uB (ih a (qA ha) (arE_arg har (qA ha)) (Ex.allF_arg hr (qA ha)) zA) (vlr O) O)<|A O<|rL0 O (fun g2_6=>zE O wD O) O<|rL1 22 O (fun g2_6=>zD O zAs O (J 0 O) O) O<|rL1 23 O (fun g2_6=>qE O el52 O O zA (zCy hb)) O<|rL1 24 O (fun g2_6=>zU O yY O zZ O) O<|rL0 O (fun g2_6=>zO O O) O<|rLz [(25,_),(26,_)] O gv1 ⟨O,O,O,O,T⟩ (fun g2_6=>kI [1] O uB (ih b (qA hb) (arE_arg har (qA hb)) (Ex.allF_arg hr (qA hb)) zA) (vlr O) O) O<|yT O (fun h=>h)<|mm O<|zY _ (Weak.mem [false,true] O)<|zF<|zS O ?_
  first|exact ⟨ag vB (zPw c1 ha hb).symm,[],rfl⟩|exact ⟨ag vB (zPw c1 ha hb).symm,[_],rfl⟩|exact ⟨ag vB (zPw c1 ha hb).symm,[_,_],rfl⟩|exact ⟨ag vB (zPw c1 ha hb).symm,[_,_,_],rfl⟩|exact ⟨ag vB (zPw c1 ha hb).symm,[_,_,_,_],rfl⟩
 ·refine zI<|zG<|G O<|zC O kP<|zH one3 (J 0 O) O<|yL O<|A O<|rL0 O (fun g3_3=>zE O kP O) O<|rL1 33 O (fun g3_3=>zD O one3 O (J 0 O) O) O<|rL1 34 O (fun g3_3=>kB O O O) O<|yT O (fun h=>h)<|A O<|rL0 O (fun g3_8=>zE O wD O) O<|rL1 38 O (fun g3_8=>zD O zAs O (J 0 O) O) O<|rL1 39 O (fun g3_8=>qE O el52 O O (by have hq:=zTh har (by simp only [Lz,ay,az,sx] at g3_8;omega);omega) (zCy (exG (by have hq:=zTh har (by simp only [Lz,ay,az,sx] at g3_8;omega);omega) ha0))) O<|rL1 40 O (fun g3_8=>qN O kP O) O<|rL1 41 O (fun g3_8=>zD O one3 O zZ O) O<|rL1 42 O (fun g3_8=>kB O O O) O<|r_or O (fun h=>(lzf h))<|A O<|rL0 O (fun g3_16=>zE O wD O) O<|rL1 46 O (fun g3_16=>zD O zAs O (J 0 O) O) O<|rL1 47 O (fun g3_16=>qE O el52 O O (by have hq:=zTh har (by simp only [Lz,ay,az,sx] at g3_16;omega);omega) (zCy (exG (by have hq:=zTh har (by simp only [Lz,ay,az,sx] at g3_16;omega);omega) hb0))) O<|rL1 48 O (fun g3_16=>qN O kP O) O<|rL1 49 O (fun g3_16=>zD O one3 O zZ O) O<|rL1 50 O (fun g3_16=>kB O O O) O<|r_or O (fun h=>(lzf h))<|Y<|zK O (fun c2=>?_) (fun c2=>?_)
  ·refine ml O O<|zY _ (Weak.mem [false,true] O)<|zF<|zS O ?_
   first|exact ⟨ag vB ((zAx c1 ha0 hb0).trans (zYf c2)).symm,[],rfl⟩|exact ⟨ag vB ((zAx c1 ha0 hb0).trans (zYf c2)).symm,[_],rfl⟩|exact ⟨ag vB ((zAx c1 ha0 hb0).trans (zYf c2)).symm,[_,_],rfl⟩|exact ⟨ag vB ((zAx c1 ha0 hb0).trans (zYf c2)).symm,[_,_,_],rfl⟩|exact ⟨ag vB ((zAx c1 ha0 hb0).trans (zYf c2)).symm,[_,_,_,_],rfl⟩
  ·have h2:=zTh har (by simp only [Lz,ay,az,ae,aI,ao,fj,al,bm,ah,aj,Bool.not_eq_true,Bool.not_eq_false] at c2;omega)
   have ha:=exG (k:=0) zA ha0
   have hb:=exG (k:=1) zA hb0
   have haw:=Ex.arg_wt (qA ha)
   have hbw:=Ex.arg_wt (qA hb)
   have hae:=Ex.wt_eq a
   have hbe:=Ex.wt_eq b
   refine zI<|G O<|zC O wD<|zH zAs (J 0 O) O<|qC O el52 zA (zCy ha)<|qR O zEk<|zM kQ zZ O<|qD O uB (show Pur cfg 19 [dK a.Lin,vI (-1)] (.tup [dK sc.1,vI sc.2]) by rw [←hs0];exact zXz a.Lin (-1) zA (Ex.allF_lin (Ex.allF_arg hr (qA ha))) uH) (vlr O)<|qP O<|yG O<|qS O<|zV O O (qH [none,some 2] O zr51 O) ?_
   rintro _ _ ⟨b2,rfl,rfl⟩
   refine rStR 0 sz51 O<|mm O<|zG<|mo O O<|yL O<|Y<|zK O ?_ ?_<;>intro c3<;>try simp only [sx] at c3
   ·refine ml O O<|zY _ (Weak.mem [false,false,true] O)<|zF<|zS O ?_
    first|exact ⟨ag vB ((zAx c1 ha0 hb0).trans (zYe c2 hs0 c3)).symm,[],rfl⟩|exact ⟨ag vB ((zAx c1 ha0 hb0).trans (zYe c2 hs0 c3)).symm,[_],rfl⟩|exact ⟨ag vB ((zAx c1 ha0 hb0).trans (zYe c2 hs0 c3)).symm,[_,_],rfl⟩|exact ⟨ag vB ((zAx c1 ha0 hb0).trans (zYe c2 hs0 c3)).symm,[_,_,_],rfl⟩|exact ⟨ag vB ((zAx c1 ha0 hb0).trans (zYe c2 hs0 c3)).symm,[_,_,_,_],rfl⟩
   ·refine zI<|zG<|kK 12 1 [⟨0,.q []⟩,⟨1,.q [2]⟩,⟨2,.q []⟩,⟨3,.q []⟩,⟨4,.q []⟩,⟨5,.q [1]⟩,⟨6,.q []⟩,⟨7,.q []⟩,⟨8,.q []⟩,⟨9,.q []⟩,⟨10,.e 0 []⟩,⟨11,.e 0 []⟩] mixed uB uB O O O<|zX O<|zX O<|zX O<|zX O<|zX O<|zX O<|zX O<|zX O<|zX O<|zX O<|zX O<|zX O<|zBj<|mq O (zE O wD O)<|mq O (zD O zAs O (J 0 O) O)<|mq O (qE O el52 O O zA (zCy hb))<|mq O (qN O zEk O)<|mq O (zU O kQ O zZ O)<|mq O (zU O kQ O (J 0 O) O)<|mq O (qG O uB (show Pur cfg 21 [dK b.Lin,dK sc.1] (.tup [dK d.1,vI d.2]) by rw [←hd0];exact lin_Add b.Lin sc.1 zA zA (Ex.allF_lin (Ex.allF_arg hr (qA hb))) hsr) (vlr O))<|mq O (kJ O O)<|mq O (wG O O O)<|mq O (wF O O O)<|zKm O O zB O O (qH [none,some 2] O zr51 O) ?_
    rintro _ _ ⟨b3,rfl,rfl⟩
    refine ⟨_,O,?_⟩
    refine zGl O O zB O O (yM O sz51 O O O (zFu 0 O O)) ?_
    rintro _ _ ⟨rfl,rfl⟩
    refine ⟨_,O,?_⟩
    refine zBe O<|mm O<|zG<|mo O O<|yL O<|Y<|zK O ?_ ?_<;>intro c4<;>try simp only [sx] at c4
    ·refine ml O O<|zY _ (Weak.mem [false,false,false,true] O)<|zF<|zS O ?_
     first|exact ⟨ag vB ((zAx c1 ha0 hb0).trans (zYd c2 hs0 c3 hd0 c4)).symm,[],rfl⟩|exact ⟨ag vB ((zAx c1 ha0 hb0).trans (zYd c2 hs0 c3 hd0 c4)).symm,[_],rfl⟩|exact ⟨ag vB ((zAx c1 ha0 hb0).trans (zYd c2 hs0 c3 hd0 c4)).symm,[_,_],rfl⟩|exact ⟨ag vB ((zAx c1 ha0 hb0).trans (zYd c2 hs0 c3 hd0 c4)).symm,[_,_,_],rfl⟩|exact ⟨ag vB ((zAx c1 ha0 hb0).trans (zYd c2 hs0 c3 hd0 c4)).symm,[_,_,_,_],rfl⟩
    ·refine zI<|G O<|zC O zFl<|zH U (J 0 O) O<|A O<|mm O<|zG<|G O<|zC O wM<|zH zBs (J 0 O) O<|qB O N<|mm O<|zQ<|zY ⟨[(81,.c _),(8,.c _),(9,.c _),(1,.c _),(2,.c _),(79,.c _),(80,.c _)],[_,_]⟩ (Weak.mk [false,false,true,true] ⟨zJ,zJ,zJ,zJ,zJ,zJ,zJ,T⟩ O)<|qL 3 0 O O (Nat×Int×Bool) (fun ⟨k,lo,ok⟩=>[(81,vI k),(8,vI lo),(9,vB ok)]) (fun ⟨k,lo,ok⟩=>[]) (fun ⟨k,lo,ok⟩=>k<=d.1.L.length/\(rC m d.1.L d.1.K true=rC m (d.1.L.drop k) lo ok)) (fun ⟨k,lo,ok⟩=>d.1.L.length-k) ⟨⟨0,d.1.K,true⟩,⟨zA,O⟩,Weak.mk [true,true] ⟨zJ,zJ,zJ,zJ,zJ,zJ,zJ,T⟩ O⟩ ?_
     rintro ⟨k,lo,ok⟩ ⟨hk,hp⟩
     show AWP _ _ _ _ _ ⟨[(81,vI k),(8,vI lo),(9,vB ok)]++_,[]++_⟩
     refine G O<|yI O<|Y<|zG<|zK O ?_ ?_<;>intro c5<;>try simp only [sx] at c5
     ·obtain ⟨x,hx⟩:=qZ d.1.L k zA
      refine zI<|zG<|zQ<|G O<|qC O N zA (getm uA)<|zM zIy zZ O<|zV O O (qW O zKr) ?_
      rintro _ _ ⟨b4,rfl,rfl⟩
      refine rStR 0 sz109 O<|Y<|G O<|zC O zCz<|zH U (J 0 O) O<|yI O<|A O<|rL0 O (fun g15_3=>zO O O) O<|yT O (fun h=>h)<|Y<|zK O (fun c6=>?_) (fun c6=>?_)
      ·have c6:x.By<0/\ok=true:=by simpa using c6
       refine zT O<|A O<|zC O zCz<|zH U (J 0 O) O<|A O<|zC O zAd<|zH one9 (J 0 O) O<|zW O (det_lookup 2 (0:Int) O sm82 O O O (fun _ _=>CRep.lit _ O))<|zW O (zOu O O O)<|qD O uB (split_plus _ _ _) (vlr O)<|qP O<|qS O<|qS O<|A O<|mm O<|zT O<|qI O ⟨zA,zA⟩<|A O<|Y ?_
       refine ⟨⟨k+1,(nU lo x.By (w64 ((mE m x.Name).getD 0-1))).1,(nU lo x.By (w64 ((mE m x.Name).getD 0-1))).2⟩,⟨zA,(by first|exact lowF_next hx hp c6|exact lowF_skip hx hp c6)⟩,(by show d.1.L.length-(k+1)<d.1.L.length-k;omega),Weak.mk [false,true,true] ⟨zJ,zJ,zJ,zJ,zJ,zJ,zJ,T⟩ O⟩
      ·have c6:¬(x.By<0/\ok=true):=by simpa using c6
       refine zI<|zT O<|qI O ⟨zA,zA⟩<|A O<|Y ?_
       refine ⟨⟨k+1,lo,ok⟩,⟨zA,(by first|exact lowF_next hx hp c6|exact lowF_skip hx hp c6)⟩,(by show d.1.L.length-(k+1)<d.1.L.length-k;omega),Weak.mk [false,true,true] ⟨zJ,zJ,zJ,zJ,zJ,zJ,zJ,T⟩ O⟩
     ·have hR:=lowF_end hp zA
      refine qO<|mo O O<|A O<|rL0 O (fun g18_1=>zO O O) O<|rL1 106 O (fun g18_1=>wH O O O) O<|rL1 107 O (fun g18_1=>zO O O) O<|rLz [] O gv2 T (fun g18_4=>zO O O) O<|rLz [(109,_)] O gv2 ⟨O,O,T⟩ (fun g18_4=>yN O O O) O<|rLz [(110,_)] O gv2 ⟨O,O,T⟩ (fun g18_4=>zO O O) O<|rLz [] O gv2 T (fun g18_7=>zE O kP O) O<|rLz [(112,_)] O gv2 ⟨O,O,T⟩ (fun g18_7=>zD O one3 O (J 0 O) O) O<|rLz [(113,_)] O gv2 ⟨O,O,T⟩ (fun g18_7=>yN O O O) O<|rLz [(111,_)] O gv2 ⟨O,O,T⟩ (fun g18_4=>wA O O O (fun h=>kD uA h) O) O<|rL1 108 O (fun g18_1=>zAr O O O O (fun h=>kD uA (lzf h))) O<|yT O (fun h=>h)<|mm O<|zY _ (Weak.mem [false,true] O)<|zF<|zS O ?_
      first|exact ⟨ag vB ((zAx c1 ha0 hb0).trans (zYc c2 hs0 c3 hd0 c4 hR)).symm,[],rfl⟩|exact ⟨ag vB ((zAx c1 ha0 hb0).trans (zYc c2 hs0 c3 hd0 c4 hR)).symm,[_],rfl⟩|exact ⟨ag vB ((zAx c1 ha0 hb0).trans (zYc c2 hs0 c3 hd0 c4 hR)).symm,[_,_],rfl⟩|exact ⟨ag vB ((zAx c1 ha0 hb0).trans (zYc c2 hs0 c3 hd0 c4 hR)).symm,[_,_,_],rfl⟩|exact ⟨ag vB ((zAx c1 ha0 hb0).trans (zYc c2 hs0 c3 hd0 c4 hR)).symm,[_,_,_,_],rfl⟩
def zKy (mb:Nat) (m:MM) (e:Ex) (har:arE e=true) (hr:e.allF Lf.rng) (he:e.wt<=1000000000):Con cfg 73 [vE e,.c (.lit (.map (some mb)))] [E.blk mb (MapR vI (m))] fun r μ'=>r=vB (rR m e)/\μ'=[E.blk mb (MapR vI (m))]:=by
  induction e using Ex.ind with
  |_ e ih=>exact redundant_step mb m e ih har hr he
def zTk (mb:Nat) (l:List St) (ih:∀s,s∈l->∀m:MM,Con cfg 34 [dA s.Body,.c (.lit (.map (some mb)))] [E.blk mb (MapR vI (m))] fun r μ'=>r=.tup [dA (bV m s.Body).1.1,vI ((bV m s.Body).1.2:Nat)]/\μ'=[E.blk mb (MapR vI ((bV m s.Body).2))]) (hg:gdL l=true) (hr:bE Lf.rng l) (hl:bD l<=1000000) (m:MM):
    Con cfg 34 [dA l,.c (.lit (.map (some mb)))] [E.blk mb (MapR vI (m))] fun r μ'=>r=.tup [dA (bV m l).1.1,vI ((bV m l).1.2:Nat)]/\μ'=[E.blk mb (MapR vI ((bV m l).2))]:=by
 refine Con.drop<|zR func34 O ntmps34 results34 O ?_
 intro z hz
 have hll:=kY l
 have hN:=zHt l
 refine G O<|yJ 20 O<|mm O<|mo O O<|yU _ (wE 56 20)<|Y<|ml O O<|zG<|mo O O<|zW O (det_len_sl O D O)<|mm O<|zQ<|zY ⟨[(14,.c _),(6,.c _),(7,.c _),(1,.c _),(12,.c _),(13,.c _)],[_,_]⟩ (Weak.mk [true,true] ⟨zJ,zJ,zJ,zJ,zJ,zJ,T⟩ O)<|qL 3 2 O O (Nat×Value) (fun ⟨k,sv⟩=>[(14,vI k),(6,.c (.lit sv)),(7,vI ((bV m (l.take k)).1.2:Nat))]) (fun ⟨k,sv⟩=>[E.vec sv 56 20 ((bV m (l.take k)).1.1.map St.cells),E.blk mb (MapR vI ((bV m (l.take k)).2))]) (fun ⟨k,sv⟩=>k<=l.length) (fun ⟨k,sv⟩=>l.length-k) ⟨⟨0,(.slice none 0 0)⟩,zA,Weak.mk [true,true] ⟨zJ,zJ,VLe.of_eq (by rw [bc,bV];rfl),zJ,zJ,zJ,T⟩ (by show [E.vec (.slice none 0 0) _ _ [],E.blk mb (MapR vI m)]=[E.vec _ _ _ ((bV m (l.take 0)).1.1.map St.cells),E.blk mb (MapR vI (bV m (l.take 0)).2)];rw [bc,bV];rfl)⟩ ?_
 rintro ⟨k,sv⟩ hk
 show AWP _ _ _ _ _ ⟨[(14,vI k),(6,.c (.lit sv)),(7,vI ((bV m (l.take k)).1.2:Nat))]++_,[E.vec sv 56 20 ((bV m (l.take k)).1.1.map St.cells),E.blk mb (MapR vI ((bV m (l.take k)).2))]++_⟩
 refine G O<|yI O<|Y<|zG<|zK O ?_ ?_<;>intro c1<;>try simp only [sx] at c1
 ·obtain ⟨s,hs⟩:=qZ l k zA
  have hsw:=yS (qA hs)
  have hse:=St.wt_eq s
  have hPs:=St.allF_eq (kR hr s (qA hs))
  have hgs:=gdL_mem hg (qA hs)
  obtain ⟨hb1,hb2⟩:=zWd m (l.take k)
  obtain ⟨hb3,hb4⟩:=zWd (mIn (bV m (l.take k)).2 s) s.Body
  have hst:=stsN_take hs
  have hsN:=zKx s
  have hlx:=kY (bV m (l.take k)).1.1
  have hly:=kY (bV (mIn (bV m (l.take k)).2 s) s.Body).1.1
  have htk:=takeWt l k
  refine zI<|zG<|zQ<|G O<|qC O D zA (wL hs)<|zM zDv zZ O<|zV O O (qH ly O zr56 O) ?_
  rintro _ _ ⟨b2,rfl,rfl⟩
  refine rStR 0 sz56 O<|Y<|zG<|G O<|zC O zAp<|zH one3 (J 0 O) O<|yF O<|Y<|qK O (fun c2=>?_) (fun c2=>?_)
  ·have hmi:mIn (bV m (l.take k)).2 s=mI (bV m (l.take k)).2 s.Name s.Many:=ab c2
   refine zT O<|A O<|zC O zAl<|zH one9 (J 0 O) O<|zC O zAt<|zH one3 (J 0 O) O<|kS O O (det_mapput 2 s.Many O sm82 O O O (zJ) O)<|Y<|G O<|zC O kV<|zH kX (J 0 O) O<|A O<|zW O (zMg [2] O uB (con_pre (ag (fun q=>[E.blk mb (MapR vI q)]) hmi.symm) (ih s (qA hs) (mIn (bV m (l.take k)).2 s))) (vlr O) O)<|qP O<|qS O<|qS O<|A O<|mm O<|mo O O<|A O<|qI O ⟨zA,zA⟩<|mm O<|zG<|G O<|zC O zAp<|zH one3 (J 0 O) O<|yF O<|A O<|rL0 O (fun g10_3=>zE O zBk O) O<|rL1 40 O (fun g10_3=>zU O yY O (J 0 O) O) O<|rL0 O (fun g10_3=>zO O O) O<|rLz [(41,_),(42,_)] O gv1 ⟨O,O,O,O,T⟩ (fun g10_3=>kI [2] O uB (zKy mb (bV (mIn (bV m (l.take k)).2 s) s.Body).2 s.E (gdS_if hgs (by simp only [Lz,ay,az,sx] at g10_3;omega)) hPs.2.1 zA) (vlr O) O) O<|yT O (fun h=>h)<|Y<|zK O (fun c3=>?_) (fun c3=>?_)
   ·have hug:=ungS_yes (m:=(bV m (l.take k)).2) (s:=s) (by simpa using c3)
    refine mo O O<|A O<|zV O O (yO 1 O D O O O uC uC) ?_
    rintro _ _ ⟨sv3,rfl,rfl⟩
    refine mm O<|mo O O<|qI O ⟨zA,zA⟩<|mm O<|qO<|zT O<|qI O ⟨zA,zA⟩<|A O<|Y ?_
    refine ⟨⟨k+1,sv3⟩,zA,(by show l.length-(k+1)<l.length-k;omega),Weak.mk [false,true,true] ⟨zJ,zJ,VLe.of_eq (by rw [zFc hs,hug];exact ag (fun n=>V.c (C.lit (.int .i64 n))) (by dsimp only;omega)),zJ,zJ,zJ,T⟩ (by have e:=zFc (m:=m) hs;rw [hug] at e;show _=[E.vec sv3 _ 20 ((bV m (l.take (k+1))).1.1.map St.cells),E.blk mb (MapR vI (bV m (l.take (k+1))).2)]++_;rw [e];simp only [aC,aK,ck,St.cells_eq (pJ _ _)];rfl)⟩
   ·have hug:=ungS_no (m:=(bV m (l.take k)).2) (s:=s) (by simpa using c3)
    refine zI<|mo O O<|zC O kV<|rStR 0 sz23 O<|Y<|zT O<|A O<|zM zDv (J 0 O) O<|zW O (yA O D zr56 O O O O)<|zV O O (yO 1 O D O O O uC uC) ?_
    rintro _ _ ⟨sv4,rfl,rfl⟩
    refine mm O<|zT O<|qI O ⟨zA,zA⟩<|A O<|Y ?_
    refine ⟨⟨k+1,sv4⟩,zA,(by show l.length-(k+1)<l.length-k;omega),Weak.mk [false,true,true] ⟨zJ,zJ,VLe.of_eq (by rw [zFc hs,hug];exact ag (fun n=>V.c (C.lit (.int .i64 n))) (by dsimp only;omega)),zJ,zJ,zJ,T⟩ (by have e:=zFc (m:=m) hs;rw [hug] at e;show _=[E.vec sv4 _ 20 ((bV m (l.take (k+1))).1.1.map St.cells),E.blk mb (MapR vI (bV m (l.take (k+1))).2)]++_;rw [e];simp only [aC,aK,ck,St.cells_eq (pJ _ _)];rfl)⟩
  ·have hmi:mIn (bV m (l.take k)).2 s=(bV m (l.take k)).2:=aa c2
   refine zI<|G O<|zC O kV<|zH kX (J 0 O) O<|A O<|zW O (zMg [2] O uB (con_pre (ag (fun q=>[E.blk mb (MapR vI q)]) hmi.symm) (ih s (qA hs) (mIn (bV m (l.take k)).2 s))) (vlr O) O)<|qP O<|qS O<|qS O<|A O<|mm O<|mo O O<|A O<|qI O ⟨zA,zA⟩<|mm O<|zG<|G O<|zC O zAp<|zH one3 (J 0 O) O<|yF O<|A O<|rL0 O (fun g10_3=>zE O zBk O) O<|rL1 40 O (fun g10_3=>zU O yY O (J 0 O) O) O<|rL0 O (fun g10_3=>zO O O) O<|rLz [(41,_),(42,_)] O gv1 ⟨O,O,O,O,T⟩ (fun g10_3=>kI [2] O uB (zKy mb (bV (mIn (bV m (l.take k)).2 s) s.Body).2 s.E (gdS_if hgs (by simp only [Lz,ay,az,sx] at g10_3;omega)) hPs.2.1 zA) (vlr O) O) O<|yT O (fun h=>h)<|Y<|zK O (fun c3=>?_) (fun c3=>?_)
   ·have hug:=ungS_yes (m:=(bV m (l.take k)).2) (s:=s) (by simpa using c3)
    refine mo O O<|A O<|zV O O (yO 1 O D O O O uC uC) ?_
    rintro _ _ ⟨sv5,rfl,rfl⟩
    refine mm O<|mo O O<|qI O ⟨zA,zA⟩<|mm O<|qO<|zT O<|qI O ⟨zA,zA⟩<|A O<|Y ?_
    refine ⟨⟨k+1,sv5⟩,zA,(by show l.length-(k+1)<l.length-k;omega),Weak.mk [false,true,true] ⟨zJ,zJ,VLe.of_eq (by rw [zFc hs,hug];exact ag (fun n=>V.c (C.lit (.int .i64 n))) (by dsimp only;omega)),zJ,zJ,zJ,T⟩ (by have e:=zFc (m:=m) hs;rw [hug] at e;show _=[E.vec sv5 _ 20 ((bV m (l.take (k+1))).1.1.map St.cells),E.blk mb (MapR vI (bV m (l.take (k+1))).2)]++_;rw [e];simp only [aC,aK,ck,St.cells_eq (pJ _ _)];rfl)⟩
   ·have hug:=ungS_no (m:=(bV m (l.take k)).2) (s:=s) (by simpa using c3)
    refine zI<|mo O O<|zC O kV<|rStR 0 sz23 O<|Y<|zT O<|A O<|zM zDv (J 0 O) O<|zW O (yA O D zr56 O O O O)<|zV O O (yO 1 O D O O O uC uC) ?_
    rintro _ _ ⟨sv6,rfl,rfl⟩
    refine mm O<|zT O<|qI O ⟨zA,zA⟩<|A O<|Y ?_
    refine ⟨⟨k+1,sv6⟩,zA,(by show l.length-(k+1)<l.length-k;omega),Weak.mk [false,true,true] ⟨zJ,zJ,VLe.of_eq (by rw [zFc hs,hug];exact ag (fun n=>V.c (C.lit (.int .i64 n))) (by dsimp only;omega)),zJ,zJ,zJ,T⟩ (by have e:=zFc (m:=m) hs;rw [hug] at e;show _=[E.vec sv6 _ 20 ((bV m (l.take (k+1))).1.1.map St.cells),E.blk mb (MapR vI (bV m (l.take (k+1))).2)]++_;rw [e];simp only [aC,aK,ck,St.cells_eq (pJ _ _)];rfl)⟩
 ·refine qO<|mo O O<|A O<|A O<|mm O<|zY _ (yV 0 O (regs':=[(6,_),(57,_),(4,_)]) (μ':=[_]) ⟨FLe.sl,FLe.sl,FLe.sl,T⟩ ⟨EFle.refl _,T⟩)<|zF<|fin2 (rs_c O) (rs_c O) ?_
  rw [yW (l:=l) (k:=k) zA]
  first|exact ⟨rfl,[],rfl⟩|exact ⟨rfl,[_],rfl⟩|exact ⟨rfl,[_,_],rfl⟩|exact ⟨rfl,[_,_,_],rfl⟩|exact ⟨rfl,[_,_,_,_],rfl⟩
def unguard_body (mb:Nat) (s:St) (hg:gdL s.Body=true) (hr:bE Lf.rng s.Body) (hl:bD s.Body<=1000000):∀m:MM,Con cfg 34 [dA s.Body,.c (.lit (.map (some mb)))] [E.blk mb (MapR vI (m))] fun r μ'=>r=.tup [dA (bV m s.Body).1.1,vI ((bV m s.Body).1.2:Nat)]/\μ'=[E.blk mb (MapR vI ((bV m s.Body).2))]:=by
  induction s using St.ind with
  |_ s ih=>exact zTk mb s.Body (fun a ha=>ih a ha (gdS_body (gdL_mem hg ha)) (St.allF_eq (kR hr a ha)).2.2 (by have:=yS ha;have:=St.body_wt a;omega)) hg hr hl
def split_unguard (mb:Nat) (l:List St) (hg:gdL l=true) (hr:bE Lf.rng l) (hl:bD l<=1000000) (m:MM):Con cfg 34 [dA l,.c (.lit (.map (some mb)))] [E.blk mb (MapR vI (m))] fun r μ'=>r=.tup [dA (bV m l).1.1,vI ((bV m l).1.2:Nat)]/\μ'=[E.blk mb (MapR vI ((bV m l).2))]:=
  zTk mb l (fun s hs=>unguard_body mb s (gdS_body (gdL_mem hg hs)) (St.allF_eq (kR hr s hs)).2.2 (by have:=yS hs;have:=St.body_wt s;omega)) hg hr hl m
def zHj (n:Ns) (hn:n.Ok) (hl:bD n.Body<=1000) (hr:bE Lf.rng n.Body) (hg:(bL n).2=0->gdL n.Body=true):
    Pur cfg 11 [vNs n] (.tup [vNs (xC n).1,vI (xC n).2]):=by
 refine zR func11 O ntmps11 results11 O ?_
 intro z hz
 obtain ⟨hu1,hu2⟩:=zWd [] n.Body
 have hok2:Ns.Ok ⟨n.Bufs,(bV [] n.Body).1.1⟩:=⟨hn.bufs,hn.dims,by show bD (bV [] n.Body).1.1<=_;omega⟩
 refine G O<|mj O fun b1=>zV O O (qH [some 8,some 20] O zr25 O) ?_
 rintro _ _ ⟨b2,rfl,rfl⟩
 refine mm O<|zG<|G O<|zM kE (J 1 O) O<|qD O uB (zEm n hn) (vlr O)<|qP O<|qS O<|qS O<|A O<|mm O<|mo O O<|yL O<|Y<|zK O ?_ ?_<;>intro c1<;>try simp only [sx] at c1
 ·refine G O<|yH [some 8,some 20] O zr25 pl25<|rStR 0 sz25 O<|mm O<|zF<|fin2 (zP kE O (J 0 O) O) (rs_c O) ?_
  rw [remT_1 c1];rfl
 ·refine zI<|G O<|zC O zAq<|zH kX (J 1 O) O<|zV O O (ope_mkmap vI O O) ?_
  rintro _ _ ⟨b3,rfl,rfl⟩
  refine zV O O (zFe [0] O uB (split_unguard _ n.Body (hg c1) hr zA []) (vlr O) O) ?_
  rintro _ _ ⟨_,⟨rfl,rfl⟩,rfl⟩
  refine qP O<|qS O<|qS O<|A O<|mm O<|G O<|zC O zAm<|zH zDx (J 2 O) O<|A O<|qU O zr25 pl25<|qD O uB (zQh ⟨n.Bufs,(bV [] n.Body).1.1⟩ hok2) (vlr O)<|A O<|rStR 1 sz25 O<|mm O<|zF<|fin2 (zP kE O (J 1 O) O) (rs_c O) ?_
  rw [remT_2 c1];rfl
end Go.W
end
section
set_option maxRecDepth 10000
namespace Go.W
open Go Go.Eng Go.Proofs Go.L41 Go.Br Tryz
attribute [local irreducible] AWP RWP TD fK
/-! The examples. -/
def nmI:lr:=bs [105]
def nmO:lr:=bs [111]
def nmK:lr:=bs [107]
def nmP:lr:=bs [112]
def exAf:Lf:=⟨0,[⟨bs [107],1⟩,⟨bs [111],2⟩]⟩
def iF:Lf:=⟨0,[⟨bs [107],1⟩,⟨bs [111],4⟩]⟩
def exCf:Lf:=⟨2,[⟨bs [112],1⟩]⟩
def sA1:St:=gQ nmK 2 0 [cpB exAf]
def sA:St:=gQ nmO 3 0 [sA1]
def sB2:St:=sIf (ltE iF 6) [cpB iF]
def sB1:St:=gQ nmK 4 0 [sB2]
def sB:St:=gQ nmO 2 0 [sB1]
def sC1:St:=gQ nmI 2 0 [cpB vI1]
def sC2:St:=gQ nmP 4 0 [cpB exCf]
def sG:St:=gQ nmI 6 0 [sIf (ltE vI1 5) [cpB vI1]]
def exA_eq:lG (cpy 6 0) nmI 2 nmO nmK=(cpN [sA],0):=by kernel_rfl
def exB_eq:lG (cpy 6 0) nmI 4 nmO nmK=(cpN [sB],0):=by kernel_rfl
def exC_eq:mV (cpy 6 0) nmI 2 nmP=(cpN [sC1,sC2],0):=by kernel_rfl
def exD_eq:rK (cpN [sA]) nmO nmI=(cpy 6 0,0):=by kernel_rfl
def exE_eq:xC (cpy 6 6)=(cpy 6 0,1):=by kernel_rfl
def exF_eq:xC (cpy 6 5)=(cpN [sG],0):=by kernel_rfl
def zZh {b:List St} (h:bD b<=1000):(cpN b).Ok:=by
  refine ⟨by show (2:Nat)<=4294967296;omega,fun x hx=>?_,by show bD b<=_;omega⟩
  simp only [cpN,lMc,aN,cp] at hx
  rcases hx with rfl|rfl<;>decide
def zTc:bD (cpy 6 0).Body<=1000/\bD (cpy 6 6).Body<=1000/\bD (cpy 6 5).Body<=1000/\bD [sA]<=1000:=by decide+kernel
def cV (l:Lf):Bool:=decide (-9223372036854775808<=l.K)&&decide (l.K<=9223372036854775807)&&l.L.all fun m=>decide (-9223372036854775808<=m.By)&&decide (m.By<=9223372036854775807)
def rngB_ok {l:Lf} (h:cV l=true):l.rng:=by
  simp only [cV,ae,ah,lAe] at h
  exact ⟨h.1,fun m hm=>h.2 m hm⟩
def ixB (x:Ix):Bool:=cV x.Lin&&x.At.all cV
def exRB (e:Ex):Bool:=(dI e).all fun x=>(dC x).all cV
mutual
def eT:St->Bool
  |.mk _ _ _ _ _ i e b=>i.all ixB&&exRB e&&xZ b
def xZ:List St->Bool
  |[]=>true
  |s::r=>eT s&&xZ r
end
mutual
def stRB_ok:∀s:St,eT s=true->s.allF Lf.rng
  |.mk o nm mn mk fo i e b,h=>by
    rw [eT,ae,ae] at h
    rw [St.allF]
    refine ⟨fun x hx=>?_,fun x hx l hl=>?_,zMo b h.2⟩
    · have h1:=ax.1 h.1.1 x hx
      rw [ixB,ae] at h1
      exact ⟨rngB_ok h1.1,fun l hl=>rngB_ok (ax.1 h1.2 l hl)⟩
    · exact rngB_ok (ax.1 (ax.1 h.1.2 x hx) l hl)
def zMo:∀l:List St,xZ l=true->bE Lf.rng l
  |[],_=>by rw [bE];trivial
  |s::r,h=>by
    rw [xZ,ae] at h
    rw [bE]
    exact ⟨stRB_ok s h.1,zMo r h.2⟩
end
def ex_rng:bE Lf.rng (cpy 6 0).Body/\bE Lf.rng (cpy 6 6).Body/\bE Lf.rng (cpy 6 5).Body/\bE Lf.rng [sA]:=
  ⟨zMo _ (by decide+kernel),zMo _ (by decide+kernel),zMo _ (by decide+kernel),zMo _ (by decide+kernel)⟩
def pl92:fW prog 92=some [(0,2),(2,1),(3,1)]:=by kernel_rfl
def zCp (many limit:Int):
    Pur cfg 14 [vI many,vI limit] (vNs (cpy many limit)):=by
 refine zR func14 O ntmps14 results14 O fun z hz=>G O<|zV O O (qH [some 8,some 20] O zr25 O) ?_
 rintro _ _ ⟨b1,rfl,rfl⟩
 refine Y<|G O<|qU O zr48 pl48<|zV O O (qW O zr48) ?_
 rintro _ _ ⟨b2,rfl,rfl⟩
 refine rStR 0 sz48 O<|Y<|G O<|qD O uB (show Pur cfg 41 [vS (bs [105])] (dK vI1) from zKl (bs [105])) (vlr O)<|yH [none,none,none,some 2] O zr92 pl92<|zW O (yA O v zr92 O O O O)<|mm O<|mo O O<|A O<|yH me O zr54 pl54<|yH [none,none,none,none,none,none,none,none,none,none,none,none,none,none,none,none,none,none,none,some 20] O zr56 pl56<|zW O (yA O D zr56 O O O O)<|mm O<|zG<|mo O O<|zW O (yD O O O)<|Y<|zK O ?_ ?_<;>intro c1<;>try simp only [sx] at c1
 ·refine zT O<|A O<|qD O uB (show Pur cfg 41 [vS (bs [105])] (dK vI1) from zKl (bs [105])) (vlr O)<|yH mg O zr54 pl54<|A O<|yH [none,some 2] O zr51 pl51<|yH mg O zr54 pl54<|zW O (yA O el52 zr54 O O O O)<|yH mh O zr54 pl54<|yH mi O zr56 pl56<|zW O (yA O D zr56 O O O O)<|mm O<|G O<|zM yE (J 0 O) O<|zW O (yA O el38 zr3 O O O O)<|qU O zr94 pl94<|zM yE (J 0 O) O<|zW O (yA O el38 zr3 O O O O)<|qU O zr94 pl94<|zW O (yA O el22 zr94 O O O O)<|A O<|A O<|yH mc O zr56 pl56<|zW O (yA O D zr56 O O O O)<|qU O zr25 pl25<|rStR 1 sz25 O<|Y<|zF<|fin1 (zP kE O (J 1 O) O) ?_
  rw [show cpy many limit=cpN [gQ (bs [105]) many 0 [sIf (ltE vI1 limit) [cpB vI1]]] by unfold cpy;rw [ab c1]];rfl
 ·refine zI<|G O<|zM yE (J 0 O) O<|zW O (yA O el38 zr3 O O O O)<|qU O zr94 pl94<|zM yE (J 0 O) O<|zW O (yA O el38 zr3 O O O O)<|qU O zr94 pl94<|zW O (yA O el22 zr94 O O O O)<|A O<|A O<|yH mc O zr56 pl56<|zW O (yA O D zr56 O O O O)<|qU O zr25 pl25<|rStR 1 sz25 O<|Y<|zF<|fin1 (zP kE O (J 1 O) O) ?_
  rw [show cpy many limit=cpN [gQ (bs [105]) many 0 [cpB vI1]] by unfold cpy;rw [aa zA]];rfl
def zOc:
    Pur cfg 6 [] (vB true):=by
 refine zR func6 O ntmps6 results6 O fun z hz=>ml O O<|G O<|qD O uB (zCp _ _) (vlr O)<|qD O uB (show Pur cfg 7 [vNs (cpy 6 0),vS nmI,vI 2,vS nmO,vS nmK] (.tup [vNs (cpN [sA]),vI 0]) by have h:=zOi (cpy 6 0) nmI 2 nmO nmK (zZh zTc.1) zTc.1 ex_rng.1 uH;rw [exA_eq] at h;exact h) (vlr O)<|qP O<|yG O<|qS O<|zV O O (qH [some 8,some 20] O zr25 O) ?_
 rintro _ _ ⟨b1,rfl,rfl⟩
 refine rStR 0 sz25 O<|mm O<|G O<|qD O uB (zCp _ _) (vlr O)<|qD O uB (show Pur cfg 7 [vNs (cpy 6 0),vS nmI,vI 4,vS nmO,vS nmK] (.tup [vNs (cpN [sB]),vI 0]) by have h:=zOi (cpy 6 0) nmI 4 nmO nmK (zZh zTc.1) zTc.1 ex_rng.1 uH;rw [exB_eq] at h;exact h) (vlr O)<|qP O<|yG O<|qS O<|zV O O (qH [some 8,some 20] O zr25 O) ?_
 rintro _ _ ⟨b2,rfl,rfl⟩
 refine rStR 0 sz25 O<|mm O<|G O<|qD O uB (zCp _ _) (vlr O)<|qD O uB (show Pur cfg 9 [vNs (cpy 6 0),vS nmI,vI 2,vS nmP] (.tup [vNs (cpN [sC1,sC2]),vI 0]) by have h:=split_Peel (cpy 6 0) nmI 2 nmP (zZh zTc.1) zTc.1 ex_rng.1 uH;rw [exC_eq] at h;exact h) (vlr O)<|qP O<|yG O<|qS O<|zV O O (qH [some 8,some 20] O zr25 O) ?_
 rintro _ _ ⟨b3,rfl,rfl⟩
 refine rStR 0 sz25 O<|mm O<|G O<|zM kE (J 2 O) O<|qD O uB (show Pur cfg 10 [vNs (cpN [sA]),vS nmO,vS nmI] (.tup [vNs (cpy 6 0),vI 0]) by have h:=zNu (cpN [sA]) nmO nmI (zZh zTc.2.2.2) (cc zTc.2.2.2 zB) ex_rng.2.2.2 (fun _ _=>by decide+kernel);rw [exD_eq] at h;exact h) (vlr O)<|qP O<|yG O<|qS O<|zV O O (qH [some 8,some 20] O zr25 O) ?_
 rintro _ _ ⟨b4,rfl,rfl⟩
 refine rStR 0 sz25 O<|mm O<|G O<|qD O uB (zCp _ _) (vlr O)<|qD O uB (show Pur cfg 11 [vNs (cpy 6 6)] (.tup [vNs (cpy 6 0),vI 1]) by have h:=zHj (cpy 6 6) (zZh zTc.2.1) zTc.2.1 ex_rng.2.1 (fun _=>by decide+kernel);rw [exE_eq] at h;exact h) (vlr O)<|qP O<|yG O<|qS O<|zV O O (qH [some 8,some 20] O zr25 O) ?_
 rintro _ _ ⟨b5,rfl,rfl⟩
 refine rStR 0 sz25 O<|mm O<|G O<|qD O uB (zCp _ _) (vlr O)<|qD O uB (show Pur cfg 11 [vNs (cpy 6 5)] (.tup [vNs (cpN [sG]),vI 0]) by have h:=zHj (cpy 6 5) (zZh zTc.2.2.1) zTc.2.2.1 ex_rng.2.2.1 (fun _=>by decide+kernel);rw [exF_eq] at h;exact h) (vlr O)<|qP O<|yG O<|qS O<|zV O O (qH [some 8,some 20] O zr25 O) ?_
 rintro _ _ ⟨b6,rfl,rfl⟩
 refine rStR 0 sz25 O<|mm O<|zG<|mo O O<|yL O<|A O<|rL0 O (fun g7_2=>zO O O) O<|rL1 46 O (fun g7_2=>kB O O O) O<|r_or O (fun h=>(lzf h))<|A O<|rL0 O (fun g7_6=>zO O O) O<|rL1 50 O (fun g7_6=>kB O O O) O<|r_or O (fun h=>(lzf h))<|A O<|rL0 O (fun g7_10=>zO O O) O<|rL1 54 O (fun g7_10=>kB O O O) O<|r_or O (fun h=>(lzf h))<|A O<|rL0 O (fun g7_14=>zO O O) O<|rL1 58 O (fun g7_14=>kB O O O) O<|r_or O (fun h=>(lzf h))<|A O<|rL0 O (fun g7_18=>zO O O) O<|rL1 62 O (fun g7_18=>kB O O O) O<|r_or O (fun h=>(lzf h))<|A O<|rL0 O (fun g7_22=>zE O zAq O) O<|rL1 66 O (fun g7_22=>zD O kX O (J 5 O) O) O<|rL1 67 O (fun g7_22=>yK O D O) O<|rL1 68 O (fun g7_22=>kB O O O) O<|r_or O (fun h=>(lzf h))<|A O<|rL0 O (fun g7_28=>zE O zAq O) O<|rL1 72 O (fun g7_28=>zD O kX O (J 4 O) O) O<|rL1 73 O (fun g7_28=>yK O D O) O<|rL1 74 O (fun g7_28=>kB O O O) O<|r_or O (fun h=>(lzf h))<|A O<|rL0 O (fun g7_34=>zE O zAq O) O<|rL1 78 O (fun g7_34=>zD O kX O (J 3 O) O) O<|rL1 79 O (fun g7_34=>yK O D O) O<|rL1 80 O (fun g7_34=>kB O O O) O<|r_or O (fun h=>(lzf h))<|Y<|zK O (fun c1=>?_) (fun c1=>?_)
 ·exact absurd c1 (by decide+kernel)
 ·refine zI<|zG<|G O<|zC O zAq<|zH kX (J 5 O) O<|qC O D zB (wL (x:=sA) O)<|qR O zAt<|zH one3 zZ O<|yL O<|A O<|rL0 O (fun g9_6=>zE O zAq O) O<|rL1 90 O (fun g9_6=>zD O kX O (J 5 O) O) O<|rL1 91 O (fun g9_6=>qE O D O O zB (wL (x:=sA) O)) O<|rL1 92 O (fun g9_6=>qN O kV O) O<|rL1 93 O (fun g9_6=>zD O kX O zZ O) O<|rL1 94 O (fun g9_6=>yK O D O) O<|rL1 95 O (fun g9_6=>kB O O O) O<|r_or O (fun h=>(lzf h))<|A O<|rL0 O (fun g9_15=>zE O zAq O) O<|rL1 99 O (fun g9_15=>zD O kX O (J 5 O) O) O<|rL1 100 O (fun g9_15=>qE O D O O zB (wL (x:=sA) O)) O<|rL1 101 O (fun g9_15=>qN O kV O) O<|rL1 102 O (fun g9_15=>zD O kX O zZ O) O<|rL1 103 O (fun g9_15=>qE O D O O zB (wL (x:=sA1) O)) O<|rL1 104 O (fun g9_15=>qN O zAt O) O<|rL1 105 O (fun g9_15=>zD O one3 O zZ O) O<|rL1 106 O (fun g9_15=>kB O O O) O<|r_or O (fun h=>(lzf h))<|A O<|rL0 O (fun g9_26=>zE O zAq O) O<|rL1 110 O (fun g9_26=>zD O kX O (J 4 O) O) O<|rL1 111 O (fun g9_26=>qE O D O O zB (wL (x:=sB) O)) O<|rL1 112 O (fun g9_26=>qN O kV O) O<|rL1 113 O (fun g9_26=>zD O kX O zZ O) O<|rL1 114 O (fun g9_26=>yK O D O) O<|rL1 115 O (fun g9_26=>kB O O O) O<|r_or O (fun h=>(lzf h))<|A O<|rL0 O (fun g9_35=>zE O zAq O) O<|rL1 119 O (fun g9_35=>zD O kX O (J 4 O) O) O<|rL1 120 O (fun g9_35=>qE O D O O zB (wL (x:=sB) O)) O<|rL1 121 O (fun g9_35=>qN O kV O) O<|rL1 122 O (fun g9_35=>zD O kX O zZ O) O<|rL1 123 O (fun g9_35=>qE O D O O zB (wL (x:=sB1) O)) O<|rL1 124 O (fun g9_35=>qN O kV O) O<|rL1 125 O (fun g9_35=>zD O kX O zZ O) O<|rL1 126 O (fun g9_35=>yK O D O) O<|rL1 127 O (fun g9_35=>kB O O O) O<|r_or O (fun h=>(lzf h))<|Y<|zK O (fun c2=>?_) (fun c2=>?_)
  ·exact absurd c2 (by decide+kernel)
  ·refine zI<|zG<|qV 42 mixed uB O O<|mr O (zE O zAq O)<|mr O (zD O kX O (J 4 O) O)<|mr O (qE O D O O zB (wL (x:=sB) O))<|mr O (qN O zAt O)<|mr O (zD O one3 O zZ O)<|mr O (yN O O O)<|mr O (zO O O)<|qM [] O O O O gv1 T (fun g11_6=>zE O zAq O) O<|qM [(137,_)] O O O O gv1 ⟨O,O,T⟩ (fun g11_6=>zD O kX O (J 4 O) O) O<|qM [(138,_)] O O O O gv1 ⟨O,O,T⟩ (fun g11_6=>qE O D O O zB (wL (x:=sB) O)) O<|qM [(139,_)] O O O O gv1 ⟨O,O,T⟩ (fun g11_6=>qN O kV O) O<|qM [(140,_)] O O O O gv1 ⟨O,O,T⟩ (fun g11_6=>zD O kX O zZ O) O<|qM [(141,_)] O O O O gv1 ⟨O,O,T⟩ (fun g11_6=>qE O D O O zB (wL (x:=sB1) O)) O<|qM [(142,_)] O O O O gv1 ⟨O,O,T⟩ (fun g11_6=>qN O kV O) O<|qM [(143,_)] O O O O gv1 ⟨O,O,T⟩ (fun g11_6=>zD O kX O zZ O) O<|qM [(144,_)] O O O O gv1 ⟨O,O,T⟩ (fun g11_6=>qE O D O O zB (wL (x:=sB2) O)) O<|qM [(145,_)] O O O O gv1 ⟨O,O,T⟩ (fun g11_6=>qN O zAp O) O<|qM [(146,_)] O O O O gv1 ⟨O,O,T⟩ (fun g11_6=>zD O one3 O zZ O) O<|qM [(147,_)] O O O O gv1 ⟨O,O,T⟩ (fun g11_6=>yN O O O) O<|mr O (wA O O O (fun h=>h) O)<|mr O (zO O O)<|qM [] O O O O gv1 T (fun g11_20=>zE O zAq O) O<|qM [(151,_)] O O O O gv1 ⟨O,O,T⟩ (fun g11_20=>zD O kX O (J 3 O) O) O<|qM [(152,_)] O O O O gv1 ⟨O,O,T⟩ (fun g11_20=>qE O D O O zB (wL (x:=sC1) O)) O<|qM [(153,_)] O O O O gv1 ⟨O,O,T⟩ (fun g11_20=>qN O zAt O) O<|qM [(154,_)] O O O O gv1 ⟨O,O,T⟩ (fun g11_20=>zD O one3 O zZ O) O<|qM [(155,_)] O O O O gv1 ⟨O,O,T⟩ (fun g11_20=>yN O O O) O<|mr O (wA O O O (fun h=>h) O)<|mr O (zO O O)<|qM [] O O O O gv1 T (fun g11_28=>zE O zAq O) O<|qM [(159,_)] O O O O gv1 ⟨O,O,T⟩ (fun g11_28=>zD O kX O (J 3 O) O) O<|qM [(160,_)] O O O O gv1 ⟨O,O,T⟩ (fun g11_28=>qE O D O O zB (wL (x:=sC2) O)) O<|qM [(161,_)] O O O O gv1 ⟨O,O,T⟩ (fun g11_28=>qN O zAt O) O<|qM [(162,_)] O O O O gv1 ⟨O,O,T⟩ (fun g11_28=>zD O one3 O zZ O) O<|qM [(163,_)] O O O O gv1 ⟨O,O,T⟩ (fun g11_28=>yN O O O) O<|mr O (wA O O O (fun h=>h) O)<|mr O (zO O O)<|qM [] O O O O gv1 T (fun g11_36=>zU O kE O (J 2 O) O) O<|qM [] O O O O gv1 T (fun g11_36=>qG O uB (zCp _ _) (vlr O)) O<|qM [(167,_),(168,_)] O O O O gv1 ⟨O,O,O,O,T⟩ (fun g11_36=>qG O uB (base_Nest (cpy 6 0) (cpy 6 0) (zZh zTc.1)) (vlr O)) O<|mr O (wA O O O (fun h=>h) O)<|mr O (qY O O)<|yQ<|Y<|zF<|zS O ?_
   exact ag vB (by rw [wU rfl];decide+kernel)
end Go.W
end
