/-
  Walks: what functions of the program compute. Printed by wip/gen/mk2.py.
  Walks: what functions of the program compute. Printed by wip/gen/mk2.py.
  Conditions: none.
-/
import Derived.Test.YtkidnhldibjiaaaGreatDoorKD
import Derived.Test.YtkidnhldibjiaaaGreatDoorPlain3
import Derived.Test.YtkidnhldibjiaaaGreatDoorGA
set_option linter.unusedSimpArgs false
set_option linter.unusedVariables false
section
set_option maxRecDepth 10000
namespace Go.W
open Go Go.Eng Go.Proofs Go.L41 Go.Br
attribute [local irreducible] AWP RWP TD finQ
end Go.W
end
section
set_option maxRecDepth 10000
namespace Go.W
open Go Go.Eng Go.Proofs Go.L41 Go.Br
attribute [local irreducible] AWP RWP TD finQ
theorem x1P_sm:x1P.Sm:=⟨by decide,by decide,by decide,by decide,by decide,⟨(fun c hc=>by cases hc),(by decide+kernel),(by decide+kernel)⟩,(by decide+kernel),(by decide+kernel)⟩
theorem x2P_sm:x2P.Sm:=⟨by decide,by decide,by decide,by decide,by decide,⟨(fun c hc=>by cases hc),(by decide+kernel),(by decide+kernel)⟩,(by decide+kernel),(by decide+kernel)⟩
def x1D:Cl:=⟨smX,[],0,2⟩
theorem x1_cnd:(cndP x1P).map Cl.dcells=[x1D].map Cl.dcells:=by
  have h:(repC x1P.Defs).map (fun c=>(c.e,c.n))=[(smX,2)]:=x1_rep
  have h0:cndP x1P=repC x1P.Defs:=if_pos (by decide+kernel)
  rw [h0]
  cases hr:repC x1P.Defs with
  |nil=>rw [hr] at h;cases h
  |cons c r=>
    cases r with
    |cons _ _=>rw [hr] at h;have:=congrArg List.length h;simp at this
    |nil=>
      rw [hr] at h
      simp only [List.map_cons,List.map_nil,List.cons.injEq,Prod.mk.injEq,and_true] at h
      simp only [List.map_cons,List.map_nil,Cl.dcells,h.1,h.2];rfl
theorem fd46_1:fieldT Tryz.prog 46 1=some (13,3):=by kernel_rfl
theorem ok8:callOk Tryz.prog 8=true:=by kernel_rfl
theorem ok9:callOk Tryz.prog 9=true:=by kernel_rfl
theorem ok10:callOk Tryz.prog 10=true:=by kernel_rfl
theorem ok13:callOk Tryz.prog 13=true:=by kernel_rfl
theorem ok18:callOk Tryz.prog 18=true:=by kernel_rfl
theorem ok27:callOk Tryz.prog 27=true:=by kernel_rfl
theorem ok28:callOk Tryz.prog 28=true:=by kernel_rfl
theorem ok29:callOk Tryz.prog 29=true:=by kernel_rfl
theorem pl67:placesT Tryz.prog 67=some [(0,1),(1,5),(6,1)]:=by kernel_rfl
theorem law20_Small (p:Pg) (hf:p.Fit):
    Pur cfg 8 [vPg p] (vB (smlP p)):=by
 refine zQ Tryz.func8 O Tryz.ntmps8 Tryz.results8 O ?_
 intro z hz
 have hN:smD p.Defs 0=smD p.Defs 0:=rfl
 generalize hN0:smD p.Defs 0=N at hN
 have f1:=hf.sizes
 have f2:=hf.wh
 have f3:=hf.params
 have f4:=hf.defs
 have f5:=hf.outs
 refine G O<|zR O O (qG O O) ?_
 rintro _ _ ⟨b1,rfl,rfl⟩
 refine Y O<|W<|zG<|G O<|zE O zBp<|zH zFi (J 0 O) O<|zU O el24<|zT O (yC O O O)<|Y O<|rL0 O (fun g1_4=>zD O yU O) O<|rL1 11 O (fun g1_4=>zK O kY O (J 0 O) O) O<|rL1 12 O (fun g1_4=>qR O el25 O) O<|rL1 13 O (fun g1_4=>yC O O O) O<|r_or O (fun h=>(lzf h))<|Y O<|rL0 O (fun g1_10=>zD O zFh O) O<|rL1 17 O (fun g1_10=>zK O zAy O (J 0 O) O) O<|rL1 18 O (fun g1_10=>qR O r O) O<|rL1 19 O (fun g1_10=>yC O O O) O<|r_or O (fun h=>(lzf h))<|Y O<|rL0 O (fun g1_16=>zD O zCh O) O<|rL1 23 O (fun g1_16=>zK O zAy O (J 0 O) O) O<|rL1 24 O (fun g1_16=>qR O r O) O<|rL1 25 O (fun g1_16=>yC O O O) O<|r_or O (fun h=>(lzf h))<|Y O<|rL0 O (fun g1_22=>zD O zJa O) O<|rL1 29 O (fun g1_22=>zK O one23 O (J 0 O) O) O<|rL1 30 O (fun g1_22=>qR O el23 O) O<|rL1 31 O (fun g1_22=>yC O O O) O<|r_or O (fun h=>(lzf h))<|W<|zF O (fun c1=>?_) (fun c1=>?_)
 ·try simp only [sx] at c1
  refine G O<|Y O<|W<|zJ<|zP O ?_
  rw [show smlP p=false by unfold smlP lensP;simp only [Bool.and_eq_false_iff,Bool.not_eq_false',decide_eq_true_eq,decide_eq_false_iff_not];omega]
 ·try simp only [sx] at c1
  refine zI<|G O<|Y O<|W<|zG<|G O<|Y O<|W<|zN<|zV ⟨[(4,.c _),(3,.c _),(1,.c _)],[_]⟩ (Weak.mk [true] ⟨U,U,U,T⟩ O)<|zZ 2 0 O O (Nat×Nat) (fun ⟨k,n⟩=>[(4,vI k),(3,vI n)]) (fun ⟨k,n⟩=>[]) (fun ⟨k,n⟩=>k<=p.Defs.length/\(N=smD (p.Defs.drop k) n)) (fun ⟨k,n⟩=>p.Defs.length-k) ⟨⟨0,0⟩,⟨by omega,hN0.symm⟩,Weak.mk [true] ⟨U,U,U,T⟩ O⟩ ?_
  rintro ⟨k,n⟩ ⟨hk,hq⟩
  show AWP _ _ _ _ _ ⟨[(4,vI k),(3,vI n)]++_,[]++_⟩
  refine zG<|G O<|Y O<|zE O yU<|zH kY (J 0 O) O<|zU O el25<|qW O<|Y O<|rL0 O (fun g5_5=>zS O O) O<|rL1 40 O (fun g5_5=>kL O O O) O<|yY O (fun h=>h)<|W<|zF O (fun c2=>?_) (fun c2=>?_)
  ·try simp only [sx] at c2
   obtain ⟨d,hd⟩:=qO p.Defs k (by omega)
   obtain ⟨e1,e2,_,_,e5⟩:=hf.ds d (zX hd)
   have e6:=zMq d.Body 1500 e5
   refine zI<|zG<|zN<|zG<|qX 18 mixed (by kernel_rfl) O O<|zM O O (zS O O)<|zM O O (zD O yU O)<|zM O O (zK O kY O (J 0 O) O)<|zM O O (zS O O)<|zM O O (qN O el25 O O (by omega) (getm hd))<|zM O O (qE O zAs O)<|zM O O (zK O kU O qA O)<|zM O O (qR O el61 O)<|zM O O (zD O yU O)<|zM O O (zK O kY O (J 0 O) O)<|zM O O (zS O O)<|zM O O (qN O el25 O O (by omega) (getm hd))<|zM O O (qE O zAh O)<|zM O O (zK O kU O qA O)<|zM O O (qR O el61 O)<|zM O O (zCx O O O ⟨by omega,by omega⟩)<|zM O O (zCx O O O ⟨by omega,by omega⟩)<|zM O O (yV O O)<|yW<|W<|zO O<|Y O<|zE O yU<|zH kY (J 0 O) O<|Y O<|zY O el25 (by omega) (getm hd)<|zT O (qE O zCg O)<|zL qY qA O<|qL O ok26 (base_Weigh d.Body 1500 1500 (hf.ds d (zX hd)).2.2.2.2 (by decide) O) ⟨U,O,U,O,T⟩<|qB O ⟨by omega,by omega⟩<|Y O<|W<|zO O<|Y O<|qB O ⟨by omega,by omega⟩<|Y O<|W ?_
   refine ⟨⟨k+1,n+dWt d⟩,⟨by omega,smD_next hd hq (by omega)⟩,(by show p.Defs.length-(k+1)<p.Defs.length-k;omega),Weak.mk [true] ⟨U,VLe.of_eq ((congrArg vI (by unfold dWt;omega))),U,T⟩ O⟩
  ·try simp only [sx] at c2
   have hn:=smD_end hq (by omega)
   refine qF<|zG<|G O<|Y O<|W<|zN<|zV ⟨[(5,.c _),(3,.c _),(1,.c _)],[_]⟩ (Weak.mk [true] ⟨U,U,U,T⟩ O)<|zZ 2 0 O O (Nat×Nat) (fun ⟨j,m⟩=>[(5,vI j),(3,vI m)]) (fun ⟨j,m⟩=>[]) (fun ⟨j,m⟩=>j<=p.Params.length/\(smP p.Params n=smP (p.Params.drop j) m)) (fun ⟨j,m⟩=>p.Params.length-j) ⟨⟨0,n⟩,⟨by omega,O⟩,Weak.mk [true] ⟨U,U,U,T⟩ O⟩ ?_
   rintro ⟨j,m⟩ ⟨hj,hr⟩
   show AWP _ _ _ _ _ ⟨[(5,vI j),(3,vI m)]++_,[]++_⟩
   refine zG<|G O<|Y O<|zE O zBp<|zH zFi (J 0 O) O<|zU O el24<|qW O<|Y O<|rL0 O (fun g10_5=>zS O O) O<|rL1 77 O (fun g10_5=>kL O O O) O<|yY O (fun h=>h)<|W<|zF O (fun c3=>?_) (fun c3=>?_)
   ·try simp only [sx] at c3
    obtain ⟨y,hy⟩:=qO p.Params j (by omega)
    have e1:=(hf.ps y (zX hy)).1
    refine zI<|zG<|zN<|zO O<|Y O<|zE O zBp<|zH zFi (J 0 O) O<|Y O<|zY O el24 (by omega) (getm hy)<|zT O (qE O zHf O)<|zH zAr qA O<|zU O el65<|qB O ⟨by omega,by omega⟩<|Y O<|W<|zO O<|Y O<|qB O ⟨by omega,by omega⟩<|Y O<|W ?_
    refine ⟨⟨j+1,m+y.Dims.length⟩,⟨by omega,smP_next hy hr (by omega)⟩,(by show p.Params.length-(j+1)<p.Params.length-j;omega),Weak.mk [true] ⟨U,VLe.of_eq ((congrArg vI (by omega))),U,T⟩ O⟩
   ·try simp only [sx] at c3
    have hm:=smP_end hr (by omega)
    refine qF<|G O<|Y O<|zT O (kL O O O)<|Y O<|W<|zJ<|zP O ?_
    rw [show smlP p=decide (m<=1500) by unfold smlP;rw [show lensP p=true by unfold lensP;simp only [Bool.and_eq_true,Bool.not_eq_true',decide_eq_false_iff_not];omega,hN0,hn,hm,Bool.true_and]]
    exact congrArg vB (decide_eq_decide.2 (by omega))
theorem zBh (s i:ByteArray) (hi:isNameB i=true):
    Pur cfg 27 [vS s,vS i] (vE (rdX2 s i)):=by
 refine zQ Tryz.func27 O Tryz.ntmps27 Tryz.results27 O ?_
 intro z hz
 refine G O<|zR O O (qC [none,none,none,none,none,none,none,none,none,none,some 2,some 4,some 13] O zr44 O) ?_
 rintro _ _ ⟨b1,rfl,rfl⟩
 refine W<|G O<|Y O<|Y O<|qL O ok65 (show Pur cfg 65 [vS i] (vLin ⟨0,[⟨i,1⟩]⟩) by have h:=zCo i;rw [show varL i=⟨0,[⟨i,1⟩]⟩ by unfold varL;rw [hi];rfl] at h;exact h) ⟨U,O,T⟩<|zT O (kD [none,none,none,some 2] O zDi pl115 O O)<|qV O D zDi<|zT O (kD [none,none,none,none,none,none,none,none,none,none,some 2,none,some 13] O zr44 pl44 O O)<|N 0 sz44 O<|W<|zJ<|fin1 (qD qY O (J 0 O) O) ?_
 exact O
theorem zIx (l:List Df):
    Pur cfg 28 [.c (.sl 22 (l.map Df.cells))] (vPg (pgX l)):=by
 refine zQ Tryz.func28 O Tryz.ntmps28 Tryz.results28 O ?_
 intro z hz
 refine G O<|zR O O (qC [some 1,some 3,some 7,some 22,some 1] O zr27 O) ?_
 rintro _ _ ⟨b1,rfl,rfl⟩
 refine W<|G O<|yT O zr37 pl37<|zR O O (yA O zr37) ?_
 rintro _ _ ⟨b2,rfl,rfl⟩
 refine N 0 sz37 O<|W<|G O<|qL O ok65 (show Pur cfg 65 [vS (bs [110])] (vLin lnN) by have h:=zCo (bs [110]);rw [show varL (bs [110])=lnN by decide+kernel] at h;exact h) ⟨U,O,T⟩<|qV O el65 zr40<|Y O<|W<|G O<|qV O r zr9<|zL yB (J 0 O) O<|Y O<|yT O zr67 pl67<|zL yB (J 0 O) O<|Y O<|yT O zr67 pl67<|qV O el24 zr67<|Y O<|qV O r zr9<|zT O (kD [none,some 3,none,none,none] O zr27 pl27 O O)<|N 1 sz27 O<|W<|zJ<|fin1 (qD kT O (J 1 O) O) ?_
 exact O
theorem zIy (s i:ByteArray) (x:Ex):
    Pur cfg 29 [vS s,vS i,vE x] (vDf (dfX s i x)):=by
 refine zQ Tryz.func29 O Tryz.ntmps29 Tryz.results29 O ?_
 intro z hz
 refine G O<|zR O O (qG O O) ?_
 rintro _ _ ⟨b1,rfl,rfl⟩
 refine zR O O (qC [none,none,none,none,none,none,some 3,some 3,none,none,none,none,none,none,none,none,none,none,none,some 2,some 4,some 13] O zr63 O) ?_
 rintro _ _ ⟨b2,rfl,rfl⟩
 refine W<|zG<|qX 8 mixed (by kernel_rfl) O O<|zM O O (zS O O)<|zM O O (kO O zr37 pl37 O)<|zM O O (zS O O)<|zM O O (qI O ok65 (show Pur cfg 65 [vS (bs [110])] (vLin lnN) by have h:=zCo (bs [110]);rw [show varL (bs [110])=lnN by decide+kernel] at h;exact h) ⟨U,O,T⟩)<|zM O O (kO O zIc pl111 O)<|zM O O (wJ O el61 zIc O O O O)<|zM O O (zW O qY O (J 1 O) O)<|zM O O (kD [none,none,none,none,none,none,none,some 3,none,none,none,none,none,none,none,none,none,none,none,none,none,none] O zr63 pl63 O O)<|yW<|N 0 sz63 O<|W<|zJ<|fin1 (qD wZ O (J 0 O) O) ?_
 exact O
theorem zDs  :
    Pur cfgI 9 [] (vB true):=by
 refine zQ Tryz.func9 O Tryz.ntmps9 Tryz.results9 O ?_
 intro z hz
 refine G O<|Y O<|W<|G O<|qL O ok27 (upI (zBh (bs [97]) (bs [105]) (by decide))) ⟨U,O,U,O,T⟩<|qL O ok27 (upI (zBh (bs [99]) (bs [105]) (by decide))) ⟨U,O,U,O,T⟩<|qV O el42 zr44<|zT O (kD [none,none,none,none,none,none,none,none,none,none,some 2,some 4,none] O zr44 pl44 O O)<|zR O O (qC [none,none,none,none,none,none,none,none,none,none,some 2,some 4,some 13] O zr44 O) ?_
 rintro _ _ ⟨b1,rfl,rfl⟩
 refine N 0 sz44 O<|W<|G O<|zL qY (J 0 O) O<|zL qY (J 0 O) O<|qV O el42 zr44<|zT O (kD [none,none,none,none,none,none,none,none,none,none,some 2,some 4,none] O zr44 pl44 O O)<|qL O ok29 (upI (zIy (bs [98]) (bs [105]) (ndX 6 [smX,smX]))) ⟨U,O,U,O,U,O,T⟩<|qV O el25 zr63<|qL O ok28 (upI (zIx [dfX (bs [98]) (bs [105]) (ndX 6 [smX,smX])])) ⟨U,O,T⟩<|zR O O (qC [some 1,some 3,some 7,some 22,some 1] O zr27 O) ?_
 rintro _ _ ⟨b2,rfl,rfl⟩
 refine N 0 sz27 O<|W<|G O<|zL kT (J 0 O) O<|qL O ok13 (show Pur cfgI 13 [vPg x1P,vI 5] (.tup [vPg x1Q,vI 1]) by have h:=zPa x1P x1P_sm.xt 5;rw [x1_extract] at h;exact h) ⟨U,O,U,O,T⟩<|zT O (qZ O O)<|zT O (yS O O O)<|zT O (yI O O O)<|zR O O (qC [some 1,some 3,some 7,some 22,some 1] O zr27 O) ?_
 rintro _ _ ⟨b3,rfl,rfl⟩
 refine N 0 sz27 O<|Y O<|W<|G O<|qL O ok27 (upI (zBh (bs [97]) (bs [106]) (by decide))) ⟨U,O,U,O,T⟩<|qV O el42 zr44<|zT O (kD [none,none,none,none,none,none,none,none,none,none,some 2,some 4,none] O zr44 pl44 O O)<|zR O O (qC [none,none,none,none,none,none,none,none,none,none,some 2,some 4,some 13] O zr44 O) ?_
 rintro _ _ ⟨b4,rfl,rfl⟩
 refine N 0 sz44 O<|W<|G O<|qL O ok27 (upI (zBh (bs [117]) (bs [105]) (by decide))) ⟨U,O,U,O,T⟩<|qL O ok27 (upI (zBh (bs [118]) (bs [105]) (by decide))) ⟨U,O,U,O,T⟩<|qV O el42 zr44<|zT O (kD [none,none,none,none,none,none,none,none,none,none,some 2,some 4,none] O zr44 pl44 O O)<|zR O O (qC [none,none,none,none,none,none,none,none,none,none,some 2,some 4,some 13] O zr44 O) ?_
 rintro _ _ ⟨b5,rfl,rfl⟩
 refine N 0 sz44 O<|W<|zG<|wK 16 1 [⟨0,.q []⟩,⟨1,.q []⟩,⟨2,.q []⟩,⟨3,.q []⟩,⟨4,.q [2]⟩,⟨5,.q []⟩,⟨6,.q [1]⟩,⟨7,.q []⟩,⟨8,.q []⟩,⟨9,.q []⟩,⟨10,.q []⟩,⟨11,.q []⟩,⟨12,.q []⟩,⟨13,.q []⟩,⟨14,.e 0 []⟩,⟨15,.e 0 []⟩] mixed (by kernel_rfl) (by kernel_rfl) O O O<|qK O<|qK O<|qK O<|qK O<|qK O<|qK O<|qK O<|qK O<|qK O<|qK O<|qK O<|qK O<|qK O<|qK O<|qK O<|qK O<|zFd<|qQ O (by decide) O O (qI O ok27 (upI (zBh (bs [97]) (bs [105]) (by decide))) ⟨U,O,U,O,T⟩)<|qQ O (by decide) O O (wJ O el42 zr44 O O O O)<|qQ O (by decide) O O (kD [none,none,none,none,none,none,none,none,none,none,some 2,some 4,none] O zr44 pl44 O O)<|qQ O (by decide) O O (qI O ok29 (upI (zIy (bs [117]) (bs [105]) (ngX 105))) ⟨U,O,U,O,U,O,T⟩)<|qQ O (by decide) O O (zW O qY O (J 0 O) O)<|qQ O (by decide) O O (qI O ok29 (upI (zIy (bs [118]) (bs [106]) (ngX 106))) ⟨U,O,U,O,U,O,T⟩)<|qQ O (by decide) O O (zW O qY O (J 0 O) O)<|qQ O (by decide) O O (qI O ok29 (upI (zIy (bs [98]) (bs [105]) (ndX 4 [rdX2 (bs [117]) (bs [105]),rdX2 (bs [118]) (bs [105])]))) ⟨U,O,U,O,U,O,T⟩)<|qQ O (by decide) O O (wJ O el25 zr63 O O O O)<|qQ O (by decide) O O (qI O ok28 (upI (zIx [dfX (bs [117]) (bs [105]) (ngX 105),dfX (bs [118]) (bs [106]) (ngX 106),dfX (bs [98]) (bs [105]) (ndX 4 [rdX2 (bs [117]) (bs [105]),rdX2 (bs [118]) (bs [105])])])) ⟨U,O,T⟩)<|qQ O (by decide) O O (qI O ok18 (show Pur cfgI 18 [vPg x2P] (.tup [vPg x2Q,vI 1]) by have h:=upI (cse_Merge x2P 0 x2P_sm.xt (by decide));rw [x2_merge] at h;exact h) ⟨U,O,T⟩)<|qQ O (by decide) O O (qZ O O)<|qQ O (by decide) O O (yS O O O)<|qQ O (by decide) O O (yI O O O)<|sq_op O O (by decide) O O (qC [some 1,some 3,some 7,some 22,some 1] O zr27 O) ?_
 rintro _ _ ⟨b6,rfl,rfl⟩
 refine ⟨_,O,?_⟩
 refine sq_op0 O O (by decide) O O (kW O sz27 O O O (zGz 0 O O)) ?_
 rintro _ _ ⟨rfl,rfl⟩
 refine ⟨_,O,?_⟩
 refine zEz O<|Y O<|W<|G O<|zL kT (J 4 O) O<|qL O ok10 (OwnR.pur (show OwnR cfgI 10 [vPg x1P] 46 14 ([x1D].map Cl.dcells) by have h:=upI (zHj x1P 0 x1P_sm.xt (by decide));rw [x1_cnd] at h;exact h)) ⟨U,O,T⟩<|Y O<|W<|zG<|G O<|Y O<|yR O<|Y O<|rL0 O (fun g8_2=>zD O yU O) O<|rL1 52 O (fun g8_2=>zK O kY O (J 3 O) O) O<|rL1 53 O (fun g8_2=>qR O el25 O) O<|rL1 54 O (fun g8_2=>wU O O O) O<|r_or O (fun h=>(lzf h))<|Y O<|rL0 O (fun g8_8=>zS O O) O<|rL1 58 O (fun g8_8=>wU O O O) O<|r_or O (fun h=>(lzf h))<|Y O<|rL0 O (fun g8_12=>zD O yU O) O<|rL1 62 O (fun g8_12=>zK O kY O (J 0 O) O) O<|rL1 63 O (fun g8_12=>qR O el25 O) O<|rL1 64 O (fun g8_12=>wU O O O) O<|r_or O (fun h=>(lzf h))<|Y O<|rL0 O (fun g8_18=>zS O O) O<|rL1 68 O (fun g8_18=>qR O el30 O) O<|rL1 69 O (fun g8_18=>wU O O O) O<|r_or O (fun h=>(lzf h))<|Y O<|rL0 O (fun g8_23=>zD O yU O) O<|rL1 73 O (fun g8_23=>zK O kY O (J 3 O) O) O<|rL1 74 O (fun g8_23=>qN O el25 O O (by decide) O) O<|rL1 75 O (fun g8_23=>qE O zCg O) O<|rL1 76 O (fun g8_23=>qE O kI O) O<|rL1 77 O (fun g8_23=>zK O zAf O qA O) O<|rL1 78 O (fun g8_23=>qR O el42 O) O<|rL1 79 O (fun g8_23=>wU O O O) O<|r_or O (fun h=>(lzf h))<|Y O<|rL0 O (fun g8_33=>zD O yU O) O<|rL1 83 O (fun g8_33=>zK O kY O (J 0 O) O) O<|rL1 84 O (fun g8_33=>qN O el25 O O (by decide) O) O<|rL1 85 O (fun g8_33=>qE O zCg O) O<|rL1 86 O (fun g8_33=>qE O kI O) O<|rL1 87 O (fun g8_33=>zK O zAf O qA O) O<|rL1 88 O (fun g8_33=>qR O el42 O) O<|rL1 89 O (fun g8_33=>wU O O O) O<|r_or O (fun h=>(lzf h))<|W<|zF O (fun c1=>?_) (fun c1=>?_)
 ·try simp only [sx] at c1
  exact absurd c1 (by decide+kernel)
 ·try simp only [sx] at c1
  refine zI<|zG<|qX 47 mixed (by kernel_rfl) O O<|zM O O (zS O O)<|zM O O (qN O el30 O O (by decide) O)<|zM O O (qE O fd46_1 O)<|zM O O (zK O one3 O qA O)<|zM O O (yO O O O)<|zM O O (zS O O)<|qJ [] O O O O gv1 T (fun g10_5=>zD O yU O) O<|qJ [(98,_)] O O O O gv1 ⟨O,O,T⟩ (fun g10_5=>zK O kY O (J 3 O) O) O<|qJ [(99,_)] O O O O gv1 ⟨O,O,T⟩ (fun g10_5=>qN O el25 O O (by decide) O) O<|qJ [(100,_)] O O O O gv1 ⟨O,O,T⟩ (fun g10_5=>qE O zFz O) O<|qJ [(101,_)] O O O O gv1 ⟨O,O,T⟩ (fun g10_5=>zK O one9 O qA O) O<|qJ [(102,_)] O O O O gv1 ⟨O,O,T⟩ (fun g10_5=>yH O O O) O<|zM O O (wH O O O (fun h=>h) O)<|zM O O (zS O O)<|qJ [] O O O O gv1 T (fun g10_13=>zD O yU O) O<|qJ [(106,_)] O O O O gv1 ⟨O,O,T⟩ (fun g10_13=>zK O kY O (J 3 O) O) O<|qJ [(107,_)] O O O O gv1 ⟨O,O,T⟩ (fun g10_13=>qN O el25 O O (by decide) O) O<|qJ [(108,_)] O O O O gv1 ⟨O,O,T⟩ (fun g10_13=>qE O zCg O) O<|qJ [(109,_)] O O O O gv1 ⟨O,O,T⟩ (fun g10_13=>zW O qY O qA O) O<|qJ [] O O O O gv1 T (fun g10_13=>zW O qY O (J 5 O) O) O<|qJ [(110,_),(111,_)] O O O O gv1 ⟨O,O,O,O,T⟩ (fun g10_13=>qI O ok12 (upI (zPj smX smX (by decide+kernel))) ⟨U,O,U,O,T⟩) O<|zM O O (wH O O O (fun h=>h) O)<|zM O O (zS O O)<|qJ [] O O O O gv1 T (fun g10_22=>zD O yU O) O<|qJ [(115,_)] O O O O gv1 ⟨O,O,T⟩ (fun g10_22=>zK O kY O (J 3 O) O) O<|qJ [(116,_)] O O O O gv1 ⟨O,O,T⟩ (fun g10_22=>qN O el25 O O (by decide) O) O<|qJ [(117,_)] O O O O gv1 ⟨O,O,T⟩ (fun g10_22=>qE O zCg O) O<|qJ [(118,_)] O O O O gv1 ⟨O,O,T⟩ (fun g10_22=>qE O kI O) O<|qJ [(119,_)] O O O O gv1 ⟨O,O,T⟩ (fun g10_22=>zK O zAf O qA O) O<|qJ [(120,_)] O O O O gv1 ⟨O,O,T⟩ (fun g10_22=>qN O el42 O O (by decide) O) O<|qJ [(121,_)] O O O O gv1 ⟨O,O,T⟩ (fun g10_22=>zW O qY O qA O) O<|qJ [] O O O O gv1 T (fun g10_22=>qI O ok27 (upI (zBh (bs [116,48]) (bs [105]) (by decide))) ⟨U,O,U,O,T⟩) O<|qJ [(122,_),(123,_)] O O O O gv1 ⟨O,O,O,O,T⟩ (fun g10_22=>qI O ok12 (upI (zPj (rdX2 (bs [116,48]) (bs [105])) (rdX2 (bs [116,48]) (bs [105])) (by decide+kernel))) ⟨U,O,U,O,T⟩) O<|zM O O (wH O O O (fun h=>h) O)<|zM O O (zS O O)<|qJ [] O O O O gv1 T (fun g10_34=>zD O yU O) O<|qJ [(127,_)] O O O O gv1 ⟨O,O,T⟩ (fun g10_34=>zK O kY O (J 0 O) O) O<|qJ [(128,_)] O O O O gv1 ⟨O,O,T⟩ (fun g10_34=>qN O el25 O O (by decide) O) O<|qJ [(129,_)] O O O O gv1 ⟨O,O,T⟩ (fun g10_34=>qE O zCg O) O<|qJ [(130,_)] O O O O gv1 ⟨O,O,T⟩ (fun g10_34=>qE O kI O) O<|qJ [(131,_)] O O O O gv1 ⟨O,O,T⟩ (fun g10_34=>zK O zAf O qA O) O<|qJ [(132,_)] O O O O gv1 ⟨O,O,T⟩ (fun g10_34=>qN O el42 O O (by decide) O) O<|qJ [(133,_)] O O O O gv1 ⟨O,O,T⟩ (fun g10_34=>zW O qY O qA O) O<|qJ [] O O O O gv1 T (fun g10_34=>qI O ok27 (upI (zBh (bs [117]) (bs [105]) (by decide))) ⟨U,O,U,O,T⟩) O<|qJ [(134,_),(135,_)] O O O O gv1 ⟨O,O,O,O,T⟩ (fun g10_34=>qI O ok12 (upI (zPj (rdX2 (bs [117]) (bs [105])) (rdX2 (bs [117]) (bs [105])) (by decide+kernel))) ⟨U,O,U,O,T⟩) O<|zM O O (wH O O O (fun h=>h) O)<|zM O O (yV O O)<|yW<|W<|zJ<|zP O ?_
  exact O
theorem law_CseComplete (p:Pg) (hp:p.Fit) (hF:p.Frm):
    Pur cfgI 6 [vPg p] (vB true):=by
 refine zQ Tryz.func6 O Tryz.ntmps6 Tryz.results6 O ?_
 intro z hz
 refine G O<|zR O O (qG O O) ?_
 rintro _ _ ⟨b1,rfl,rfl⟩
 refine Y O<|W<|zG<|G O<|zL kT (J 0 O) O<|qL O ok8 (upI (law20_Small p hp)) ⟨U,O,T⟩<|kX O<|W<|zF O (fun c1=>?_) (fun c1=>?_)
 ·try simp only [sx] at c1
  refine G O<|qL O ok9 zDs T<|Y O<|W<|zJ<|zP O ?_
  exact O
 ·try simp only [sx] at c1
  have hS:=sml_is c1 hF
  have hX:=hS.xt
  have hP:=hX.ok (by decide)
  have hdl:=hX.defs
  have hol:=hX.outs
  obtain ⟨i,hi,hQ⟩:=xtr_xt hX 1000
  have hM:=mrgP_xt hX
  have hpl:=prs_len (mrgP p).1
  have hMl:=hM.defs
  have hQl:=hQ.defs
  refine zI<|zG<|G O<|zL kT (J 0 O) O<|qL O ok20 (upI (ref17_Validate p hP)) ⟨U,O,T⟩<|zT O (qZ O O)<|zT O (yI O O O)<|zT O (yI O O O)<|Y O<|Y O<|W<|G O<|Y O<|yR O<|W<|zF O (fun c2=>?_) (fun c2=>?_)
  ·try simp only [sx] at c2
   rw [←zLz] at c2
   refine G O<|qL O ok9 zDs T<|Y O<|W<|zJ<|zP O ?_
   exact O
  ·try simp only [sx] at c2
   rw [←zLz] at c2
   obtain ⟨hd1,hd2⟩:=xtr_complete c2
   have hcd:=cnd_done hd1
   have hml:=mrgP_len p
   refine zI<|G O<|zL kT (J 0 O) O<|qL O ok13 (zPa _ (by omega) _) ⟨U,O,U,O,T⟩<|zT O (qZ O O)<|zT O (yS O O O)<|zT O (yI O O O)<|zR O O (qC [some 1,some 3,some 7,some 22,some 1] O zr27 O) ?_
   rintro _ _ ⟨b2,rfl,rfl⟩
   refine N 0 sz27 O<|Y O<|W<|zG<|G O<|zL kT (J 0 O) O<|qL O ok10 (OwnR.pur (upI (zHj (xtrP 1000 p).1 i hQ hi))) ⟨U,O,T⟩<|zU O el30<|zT O (yC O O O)<|Y O<|rL0 O (fun g7_4=>zD O yU O) O<|rL1 33 O (fun g7_4=>zK O kY O (J 0 O) O) O<|rL1 34 O (fun g7_4=>qR O el25 O) O<|rL1 35 O (fun g7_4=>zDu O O O) O<|yY O (fun h=>h)<|Y O<|rL0 O (fun g7_10=>zD O yU O) O<|rL1 39 O (fun g7_10=>zK O kY O (J 0 O) O) O<|rL1 40 O (fun g7_10=>qR O el25 O) O<|rL0 O (fun g7_10=>zD O yU O) O<|rL1 42 O (fun g7_10=>zK O kY O (J 1 O) O) O<|rL1 43 O (fun g7_10=>qR O el25 O) O<|rL0 O (fun g7_10=>zS O O) O<|rLz [(44,_),(45,_)] O gv1 ⟨O,O,O,O,T⟩ (fun g7_10=>zCx O O O ⟨by omega,by omega⟩) O<|rLz [(41,_),(46,_)] O gv1 ⟨O,O,O,O,T⟩ (fun g7_10=>wU O O O) O<|r_or O (fun h=>(lzf h))<|W<|zF O (fun c3=>?_) (fun c3=>?_)
   ·exact absurd c3 (by simp only [Lz,cond_true,cond_false,Bool.and_eq_true,Bool.or_eq_true,Bool.not_eq_true',Bool.not_eq_false',Bool.or_eq_false_iff,Bool.and_eq_false_iff,decide_eq_true_eq,decide_eq_false_iff_not,Bool.not_eq_true,Bool.not_eq_false,List.length_map];omega)
   ·refine zI<|G O<|zL kT (J 1 O) O<|qL O ok18 (upI (cse_Merge p 0 hX (by decide))) ⟨U,O,T⟩<|zT O (qZ O O)<|zT O (yS O O O)<|zT O (yI O O O)<|zR O O (qC [some 1,some 3,some 7,some 22,some 1] O zr27 O) ?_
    rintro _ _ ⟨b3,rfl,rfl⟩
    refine N 0 sz27 O<|Y O<|W<|G O<|zL kT (J 0 O) O<|qL O ok16 (OwnR.pur (upI (zHi (mrgP p).1 0 hM (by decide)))) ⟨U,O,T⟩<|Y O<|W<|zG<|G O<|Y O<|W<|zN<|zV ⟨[(10,.c _),(1,.c _),(7,.c _),(8,.c _),(9,.c _)],[_,_]⟩ (Weak.mk [true,false,true] ⟨U,U,U,U,U,T⟩ O)<|zZ 1 0 O O (Nat) (fun k=>[(10,vI k)]) (fun k=>[]) (fun k=>k<=(prsV (mrgP p).1).length) (fun k=>(prsV (mrgP p).1).length-k) ⟨0,(by omega),Weak.mk [true,true] ⟨U,U,U,U,U,T⟩ O⟩ ?_
    rintro k hk
    refine zG<|G O<|Y O<|Y O<|zU O el53<|qW O<|W<|zF O (fun c4=>?_) (fun c4=>?_)
    ·try simp only [sx] at c4
     obtain ⟨q,hq⟩:=qO (prsV (mrgP p).1) k (by omega)
     refine zI<|zG<|zN<|zG<|qX 9 mixed (by kernel_rfl) O O<|zM O O (zD O zFh O)<|zM O O (zK O zAy O (J 0 O) O)<|zM O O (zS O O)<|zM O O (zS O O)<|zM O O (qN O el53 O O (by omega) (getm hq))<|zM O O (zEw O ar55 O O (by decide) (by decide))<|zM O O (zK O one9 O qA O)<|zM O O (qI O ok21 (upI (zGv (mrgP p).1.Outs q.2 (by have:=hM.outs;omega))) ⟨U,O,U,O,T⟩)<|zM O O (wG O O)<|yW<|W<|zF O (fun c5=>?_) (fun c5=>?_)
     ·try simp only [sx] at c5
      exact absurd c5 (by rw [mrgP_outs p q (zX hq)];simp)
     ·try simp only [sx] at c5
      refine zI<|zO O<|Y O<|qB O ⟨by omega,by omega⟩<|Y O<|W ?_
      refine ⟨k+1,(by omega),(by omega),Weak.mk [true,true] ⟨U,U,U,U,U,T⟩ O⟩
    ·try simp only [sx] at c4
     refine qF<|G O<|zE O yU<|zH kY (J 0 O) O<|zU O el25<|zE O yU<|zH kY (J 1 O) O<|zU O el25<|Y O<|zT O (wI O O O ⟨by omega,by omega⟩)<|yD O<|Y O<|rL0 O (fun g16_9=>qI O ok9 zDs T) O<|yY O (fun h=>h)<|Y O<|W<|zJ<|zP O ?_
     exact congrArg vB (by simp;omega)
end Go.W
end
