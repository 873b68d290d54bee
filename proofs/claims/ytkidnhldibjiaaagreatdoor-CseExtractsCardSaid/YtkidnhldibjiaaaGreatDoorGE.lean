/-
  Walks: what functions of the program compute. Printed by wip/gen/mk2.py.
  Walks: what functions of the program compute. Printed by wip/gen/mk2.py.
  Conditions: none.
-/
import Derived.Test.YtkidnhldibjiaaaGreatDoorKD
import Derived.Test.YtkidnhldibjiaaaGreatDoorPlain3
import Derived.Test.YtkidnhldibjiaaaGreatDoorGA
set_option linter.unusedSimpArgs false
set_option linter.unusedVariables false
section
set_option maxRecDepth 10000
namespace Go.W
open Go Go.Eng Go.Proofs Go.L41 Go.Br
attribute [local irreducible] AWP RWP TD finQ
end Go.W
end
section
set_option maxRecDepth 10000
namespace Go.W
open Go Go.Eng Go.Proofs Go.L41 Go.Br
attribute [local irreducible] AWP RWP TD finQ
theorem x1P_sm:x1P.Sm:=⟨by decide,by decide,by decide,by decide,by decide,⟨(fun c hc=>by cases hc),(by decide+kernel),(by decide+kernel)⟩,(by decide+kernel),(by decide+kernel)⟩
theorem x2P_sm:x2P.Sm:=⟨by decide,by decide,by decide,by decide,by decide,⟨(fun c hc=>by cases hc),(by decide+kernel),(by decide+kernel)⟩,(by decide+kernel),(by decide+kernel)⟩
def x1D:Cl:=⟨smX,[],0,2⟩
theorem x1_cnd:(cndP x1P).map Cl.dcells=[x1D].map Cl.dcells:=by
  have h:(repC x1P.Defs).map (fun c=>(c.e,c.n))=[(smX,2)]:=x1_rep
  have h0:cndP x1P=repC x1P.Defs:=if_pos (by decide+kernel)
  rw [h0]
  cases hr:repC x1P.Defs with
  |nil=>rw [hr] at h;cases h
  |cons c r=>
    cases r with
    |cons _ _=>rw [hr] at h;have:=congrArg List.length h;simp at this
    |nil=>
      rw [hr] at h
      simp only [List.map_cons,List.map_nil,List.cons.injEq,Prod.mk.injEq,and_true] at h
      simp only [List.map_cons,List.map_nil,Cl.dcells,h.1,h.2];rfl
theorem fd46_1:fieldT Tryz.prog 46 1=some (13,3):=by kernel_rfl
theorem ok8:callOk Tryz.prog 8=true:=by kernel_rfl
theorem ok9:callOk Tryz.prog 9=true:=by kernel_rfl
theorem ok10:callOk Tryz.prog 10=true:=by kernel_rfl
theorem ok13:callOk Tryz.prog 13=true:=by kernel_rfl
theorem ok14:callOk Tryz.prog 14=true:=by kernel_rfl
theorem ok15:callOk Tryz.prog 15=true:=by kernel_rfl
theorem ok18:callOk Tryz.prog 18=true:=by kernel_rfl
theorem ok27:callOk Tryz.prog 27=true:=by kernel_rfl
theorem ok28:callOk Tryz.prog 28=true:=by kernel_rfl
theorem ok29:callOk Tryz.prog 29=true:=by kernel_rfl
theorem pl67:placesT Tryz.prog 67=some [(0,1),(1,5),(6,1)]:=by kernel_rfl
theorem law20_Small (p:Pg) (hf:p.Fit):
    Pur cfg 8 [vPg p] (vB (smlP p)):=by
 refine zS Tryz.func8 O Tryz.ntmps8 Tryz.results8 O ?_
 intro z hz
 have hN:smD p.Defs 0=smD p.Defs 0:=rfl
 generalize hN0:smD p.Defs 0=N at hN
 have f1:=hf.sizes
 have f2:=hf.wh
 have f3:=hf.params
 have f4:=hf.defs
 have f5:=hf.outs
 refine G O<|zT O O (qI O O) ?_
 rintro _ _ ⟨b1,rfl,rfl⟩
 refine Y O<|W<|zG<|G O<|zE O wS<|zH zCa (J 0 O) O<|zV O el24<|qA O (yI O O O)<|Y O<|rL0 O (fun g1_4=>zD O yK O) O<|rL1 11 O (fun g1_4=>zI O kO O (J 0 O) O) O<|rL1 12 O (fun g1_4=>qU O el25 O) O<|rL1 13 O (fun g1_4=>yI O O O) O<|r_or O (fun h=>(lzf h))<|Y O<|rL0 O (fun g1_10=>zD O zFb O) O<|rL1 17 O (fun g1_10=>zI O zAu O (J 0 O) O) O<|rL1 18 O (fun g1_10=>qU O r O) O<|rL1 19 O (fun g1_10=>yI O O O) O<|r_or O (fun h=>(lzf h))<|Y O<|rL0 O (fun g1_16=>zD O zBw O) O<|rL1 23 O (fun g1_16=>zI O zAu O (J 0 O) O) O<|rL1 24 O (fun g1_16=>qU O r O) O<|rL1 25 O (fun g1_16=>yI O O O) O<|r_or O (fun h=>(lzf h))<|Y O<|rL0 O (fun g1_22=>zD O zGo O) O<|rL1 29 O (fun g1_22=>zI O one23 O (J 0 O) O) O<|rL1 30 O (fun g1_22=>qU O el23 O) O<|rL1 31 O (fun g1_22=>yI O O O) O<|r_or O (fun h=>(lzf h))<|W<|zF O (fun c1=>?_) (fun c1=>?_)
 ·try simp only [sx] at c1
  refine G O<|Y O<|W<|zL<|zP O ?_
  rw [show smlP p=false by unfold smlP lensP;simp only [Bool.and_eq_false_iff,Bool.not_eq_false',decide_eq_true_eq,decide_eq_false_iff_not];omega]
 ·try simp only [sx] at c1
  refine zJ<|G O<|Y O<|W<|zG<|G O<|Y O<|W<|zN<|zU ⟨[(4,.c _),(3,.c _),(1,.c _)],[_]⟩ (Weak.mk [true] ⟨U,U,U,T⟩ O)<|zY 2 0 O O (Nat×Nat) (fun ⟨k,n⟩=>[(4,vI k),(3,vI n)]) (fun ⟨k,n⟩=>[]) (fun ⟨k,n⟩=>k<=p.Defs.length/\(N=smD (p.Defs.drop k) n)) (fun ⟨k,n⟩=>p.Defs.length-k) ⟨⟨0,0⟩,⟨by omega,hN0.symm⟩,Weak.mk [true] ⟨U,U,U,T⟩ O⟩ ?_
  rintro ⟨k,n⟩ ⟨hk,hq⟩
  show AWP _ _ _ _ _ ⟨[(4,vI k),(3,vI n)]++_,[]++_⟩
  refine zG<|G O<|Y O<|zE O yK<|zH kO (J 0 O) O<|zV O el25<|qY O<|Y O<|rL0 O (fun g5_5=>zQ O O) O<|rL1 40 O (fun g5_5=>kT O O O) O<|yY O (fun h=>h)<|W<|zF O (fun c2=>?_) (fun c2=>?_)
  ·try simp only [sx] at c2
   obtain ⟨d,hd⟩:=qP p.Defs k (by omega)
   obtain ⟨e1,e2,_,_,e5⟩:=hf.ds d (zW hd)
   have e6:=zOc d.Body 1500 e5
   refine zJ<|zG<|zN<|zG<|qW 18 mixed (by kernel_rfl) O O<|zM O O (zQ O O)<|zM O O (zD O yK O)<|zM O O (zI O kO O (J 0 O) O)<|zM O O (zQ O O)<|zM O O (qH O el25 O O (by omega) (getm hd))<|zM O O (qN O zAh O)<|zM O O (zI O kM O zX O)<|zM O O (qU O D O)<|zM O O (zD O yK O)<|zM O O (zI O kO O (J 0 O) O)<|zM O O (zQ O O)<|zM O O (qH O el25 O O (by omega) (getm hd))<|zM O O (qN O wY O)<|zM O O (zI O kM O zX O)<|zM O O (qU O D O)<|zM O O (zFd O O O ⟨by omega,by omega⟩)<|zM O O (zFd O O O ⟨by omega,by omega⟩)<|zM O O (kA O O)<|yN<|W<|zO O<|Y O<|zE O yK<|zH kO (J 0 O) O<|Y O<|zZ O el25 (by omega) (getm hd)<|qQ O zAq<|zK qX zX O<|qK O ok26 (base_Weigh d.Body 1500 1500 (hf.ds d (zW hd)).2.2.2.2 (by decide) O) ⟨U,O,U,O,T⟩<|qB O ⟨by omega,by omega⟩<|Y O<|W<|zO O<|Y O<|qB O ⟨by omega,by omega⟩<|Y O<|W ?_
   refine ⟨⟨k+1,n+dWt d⟩,⟨by omega,smD_next hd hq (by omega)⟩,(by show p.Defs.length-(k+1)<p.Defs.length-k;omega),Weak.mk [true] ⟨U,VLe.of_eq ((congrArg vI (by unfold dWt;omega))),U,T⟩ O⟩
  ·try simp only [sx] at c2
   have hn:=smD_end hq (by omega)
   refine qE<|zG<|G O<|Y O<|W<|zN<|zU ⟨[(5,.c _),(3,.c _),(1,.c _)],[_]⟩ (Weak.mk [true] ⟨U,U,U,T⟩ O)<|zY 2 0 O O (Nat×Nat) (fun ⟨j,m⟩=>[(5,vI j),(3,vI m)]) (fun ⟨j,m⟩=>[]) (fun ⟨j,m⟩=>j<=p.Params.length/\(smP p.Params n=smP (p.Params.drop j) m)) (fun ⟨j,m⟩=>p.Params.length-j) ⟨⟨0,n⟩,⟨by omega,O⟩,Weak.mk [true] ⟨U,U,U,T⟩ O⟩ ?_
   rintro ⟨j,m⟩ ⟨hj,hr⟩
   show AWP _ _ _ _ _ ⟨[(5,vI j),(3,vI m)]++_,[]++_⟩
   refine zG<|G O<|Y O<|zE O wS<|zH zCa (J 0 O) O<|zV O el24<|qY O<|Y O<|rL0 O (fun g10_5=>zQ O O) O<|rL1 77 O (fun g10_5=>kT O O O) O<|yY O (fun h=>h)<|W<|zF O (fun c3=>?_) (fun c3=>?_)
   ·try simp only [sx] at c3
    obtain ⟨y,hy⟩:=qP p.Params j (by omega)
    have e1:=(hf.ps y (zW hy)).1
    refine zJ<|zG<|zN<|zO O<|Y O<|zE O wS<|zH zCa (J 0 O) O<|Y O<|zZ O el24 (by omega) (getm hy)<|qQ O zFu<|zH zAr zX O<|zV O el65<|qB O ⟨by omega,by omega⟩<|Y O<|W<|zO O<|Y O<|qB O ⟨by omega,by omega⟩<|Y O<|W ?_
    refine ⟨⟨j+1,m+y.Dims.length⟩,⟨by omega,smP_next hy hr (by omega)⟩,(by show p.Params.length-(j+1)<p.Params.length-j;omega),Weak.mk [true] ⟨U,VLe.of_eq ((congrArg vI (by omega))),U,T⟩ O⟩
   ·try simp only [sx] at c3
    have hm:=smP_end hr (by omega)
    refine qE<|G O<|Y O<|qA O (kT O O O)<|Y O<|W<|zL<|zP O ?_
    rw [show smlP p=decide (m<=1500) by unfold smlP;rw [show lensP p=true by unfold lensP;simp only [Bool.and_eq_true,Bool.not_eq_true',decide_eq_false_iff_not];omega,hN0,hn,hm,Bool.true_and]]
    exact congrArg vB (decide_eq_decide.2 (by omega))
theorem zBt (s i:ByteArray) (hi:isNameB i=true):
    Pur cfg 27 [vS s,vS i] (vE (rdX2 s i)):=by
 refine zS Tryz.func27 O Tryz.ntmps27 Tryz.results27 O ?_
 intro z hz
 refine G O<|zT O O (qD [none,none,none,none,none,none,none,none,none,none,some 2,some 4,some 13] O zr44 O) ?_
 rintro _ _ ⟨b1,rfl,rfl⟩
 refine W<|G O<|Y O<|Y O<|qK O ok65 (show Pur cfg 65 [vS i] (vLin ⟨0,[⟨i,1⟩]⟩) by have h:=zBo i;rw [show varL i=⟨0,[⟨i,1⟩]⟩ by unfold varL;rw [hi];rfl] at h;exact h) ⟨U,O,T⟩<|qA O (kF [none,none,none,some 2] O zDc pl115 O O)<|qZ O el41 zDc<|qA O (kF [none,none,none,none,none,none,none,none,none,none,some 2,none,some 13] O zr44 pl44 O O)<|N 0 sz44 O<|W<|zL<|fin1 (qF qX O (J 0 O) O) ?_
 exact O
theorem zJs (l:List Df):
    Pur cfg 28 [.c (.sl 22 (l.map Df.cells))] (vPg (pgX l)):=by
 refine zS Tryz.func28 O Tryz.ntmps28 Tryz.results28 O ?_
 intro z hz
 refine G O<|zT O O (qD [some 1,some 3,some 7,some 22,some 1] O zr27 O) ?_
 rintro _ _ ⟨b1,rfl,rfl⟩
 refine W<|G O<|yU O zr37 pl37<|zT O O (yD O zr37) ?_
 rintro _ _ ⟨b2,rfl,rfl⟩
 refine N 0 sz37 O<|W<|G O<|qK O ok65 (show Pur cfg 65 [vS (bs [110])] (vLin lnN) by have h:=zBo (bs [110]);rw [show varL (bs [110])=lnN by decide+kernel] at h;exact h) ⟨U,O,T⟩<|qZ O el65 zr40<|Y O<|W<|G O<|qZ O r zr9<|zK yF (J 0 O) O<|Y O<|yU O zr67 pl67<|zK yF (J 0 O) O<|Y O<|yU O zr67 pl67<|qZ O el24 zr67<|Y O<|qZ O r zr9<|qA O (kF [none,some 3,none,none,none] O zr27 pl27 O O)<|N 1 sz27 O<|W<|zL<|fin1 (qF kN O (J 1 O) O) ?_
 exact O
theorem zJt (s i:ByteArray) (x:Ex):
    Pur cfg 29 [vS s,vS i,vE x] (vDf (dfX s i x)):=by
 refine zS Tryz.func29 O Tryz.ntmps29 Tryz.results29 O ?_
 intro z hz
 refine G O<|zT O O (qI O O) ?_
 rintro _ _ ⟨b1,rfl,rfl⟩
 refine zT O O (qD [none,none,none,none,none,none,some 3,some 3,none,none,none,none,none,none,none,none,none,none,none,some 2,some 4,some 13] O zr63 O) ?_
 rintro _ _ ⟨b2,rfl,rfl⟩
 refine W<|zG<|qW 8 mixed (by kernel_rfl) O O<|zM O O (zQ O O)<|zM O O (wB O zr37 pl37 O)<|zM O O (zQ O O)<|zM O O (qG O ok65 (show Pur cfg 65 [vS (bs [110])] (vLin lnN) by have h:=zBo (bs [110]);rw [show varL (bs [110])=lnN by decide+kernel] at h;exact h) ⟨U,O,T⟩)<|zM O O (wB O zHp pl111 O)<|zM O O (wH O D zHp O O O O)<|zM O O (zR O qX O (J 1 O) O)<|zM O O (kF [none,none,none,none,none,none,none,some 3,none,none,none,none,none,none,none,none,none,none,none,none,none,none] O zr63 pl63 O O)<|yN<|N 0 sz63 O<|W<|zL<|fin1 (qF kX O (J 0 O) O) ?_
 exact O
theorem zHv  :
    Pur cfgI 9 [] (vB true):=by
 refine zS Tryz.func9 O Tryz.ntmps9 Tryz.results9 O ?_
 intro z hz
 refine G O<|Y O<|W<|G O<|qK O ok27 (upI (zBt (bs [97]) (bs [105]) (by decide))) ⟨U,O,U,O,T⟩<|qK O ok27 (upI (zBt (bs [99]) (bs [105]) (by decide))) ⟨U,O,U,O,T⟩<|qZ O el42 zr44<|qA O (kF [none,none,none,none,none,none,none,none,none,none,some 2,some 4,none] O zr44 pl44 O O)<|zT O O (qD [none,none,none,none,none,none,none,none,none,none,some 2,some 4,some 13] O zr44 O) ?_
 rintro _ _ ⟨b1,rfl,rfl⟩
 refine N 0 sz44 O<|W<|G O<|zK qX (J 0 O) O<|zK qX (J 0 O) O<|qZ O el42 zr44<|qA O (kF [none,none,none,none,none,none,none,none,none,none,some 2,some 4,none] O zr44 pl44 O O)<|qK O ok29 (upI (zJt (bs [98]) (bs [105]) (ndX 6 [smX,smX]))) ⟨U,O,U,O,U,O,T⟩<|qZ O el25 zr63<|qK O ok28 (upI (zJs [dfX (bs [98]) (bs [105]) (ndX 6 [smX,smX])])) ⟨U,O,T⟩<|zT O O (qD [some 1,some 3,some 7,some 22,some 1] O zr27 O) ?_
 rintro _ _ ⟨b2,rfl,rfl⟩
 refine N 0 sz27 O<|W<|G O<|zK kN (J 0 O) O<|qK O ok13 (show Pur cfgI 13 [vPg x1P,vI 5] (.tup [vPg x1Q,vI 1]) by have h:=zQv x1P x1P_sm.xt 5;rw [x1_extract] at h;exact h) ⟨U,O,U,O,T⟩<|qA O (yC O O)<|qA O (yW O O O)<|qA O (yO O O O)<|zT O O (qD [some 1,some 3,some 7,some 22,some 1] O zr27 O) ?_
 rintro _ _ ⟨b3,rfl,rfl⟩
 refine N 0 sz27 O<|Y O<|W<|G O<|qK O ok27 (upI (zBt (bs [97]) (bs [106]) (by decide))) ⟨U,O,U,O,T⟩<|qZ O el42 zr44<|qA O (kF [none,none,none,none,none,none,none,none,none,none,some 2,some 4,none] O zr44 pl44 O O)<|zT O O (qD [none,none,none,none,none,none,none,none,none,none,some 2,some 4,some 13] O zr44 O) ?_
 rintro _ _ ⟨b4,rfl,rfl⟩
 refine N 0 sz44 O<|W<|G O<|qK O ok27 (upI (zBt (bs [117]) (bs [105]) (by decide))) ⟨U,O,U,O,T⟩<|qK O ok27 (upI (zBt (bs [118]) (bs [105]) (by decide))) ⟨U,O,U,O,T⟩<|qZ O el42 zr44<|qA O (kF [none,none,none,none,none,none,none,none,none,none,some 2,some 4,none] O zr44 pl44 O O)<|zT O O (qD [none,none,none,none,none,none,none,none,none,none,some 2,some 4,some 13] O zr44 O) ?_
 rintro _ _ ⟨b5,rfl,rfl⟩
 refine N 0 sz44 O<|W<|zG<|wI 16 1 [⟨0,.q []⟩,⟨1,.q []⟩,⟨2,.q []⟩,⟨3,.q []⟩,⟨4,.q [2]⟩,⟨5,.q []⟩,⟨6,.q [1]⟩,⟨7,.q []⟩,⟨8,.q []⟩,⟨9,.q []⟩,⟨10,.q []⟩,⟨11,.q []⟩,⟨12,.q []⟩,⟨13,.q []⟩,⟨14,.e 0 []⟩,⟨15,.e 0 []⟩] mixed (by kernel_rfl) (by kernel_rfl) O O O<|qJ O<|qJ O<|qJ O<|qJ O<|qJ O<|qJ O<|qJ O<|qJ O<|qJ O<|qJ O<|qJ O<|qJ O<|qJ O<|qJ O<|qJ O<|qJ O<|zEe<|qR O (by decide) O O (qG O ok27 (upI (zBt (bs [97]) (bs [105]) (by decide))) ⟨U,O,U,O,T⟩)<|qR O (by decide) O O (wH O el42 zr44 O O O O)<|qR O (by decide) O O (kF [none,none,none,none,none,none,none,none,none,none,some 2,some 4,none] O zr44 pl44 O O)<|qR O (by decide) O O (qG O ok29 (upI (zJt (bs [117]) (bs [105]) (ngX 105))) ⟨U,O,U,O,U,O,T⟩)<|qR O (by decide) O O (zR O qX O (J 0 O) O)<|qR O (by decide) O O (qG O ok29 (upI (zJt (bs [118]) (bs [106]) (ngX 106))) ⟨U,O,U,O,U,O,T⟩)<|qR O (by decide) O O (zR O qX O (J 0 O) O)<|qR O (by decide) O O (qG O ok29 (upI (zJt (bs [98]) (bs [105]) (ndX 4 [rdX2 (bs [117]) (bs [105]),rdX2 (bs [118]) (bs [105])]))) ⟨U,O,U,O,U,O,T⟩)<|qR O (by decide) O O (wH O el25 zr63 O O O O)<|qR O (by decide) O O (qG O ok28 (upI (zJs [dfX (bs [117]) (bs [105]) (ngX 105),dfX (bs [118]) (bs [106]) (ngX 106),dfX (bs [98]) (bs [105]) (ndX 4 [rdX2 (bs [117]) (bs [105]),rdX2 (bs [118]) (bs [105])])])) ⟨U,O,T⟩)<|qR O (by decide) O O (qG O ok18 (show Pur cfgI 18 [vPg x2P] (.tup [vPg x2Q,vI 1]) by have h:=upI (cse_Merge x2P 0 x2P_sm.xt (by decide));rw [x2_merge] at h;exact h) ⟨U,O,T⟩)<|qR O (by decide) O O (yC O O)<|qR O (by decide) O O (yW O O O)<|qR O (by decide) O O (yO O O O)<|sq_op O O (by decide) O O (qD [some 1,some 3,some 7,some 22,some 1] O zr27 O) ?_
 rintro _ _ ⟨b6,rfl,rfl⟩
 refine ⟨_,O,?_⟩
 refine zOl O O (by decide) O O (kR O sz27 O O O (zFz 0 O O)) ?_
 rintro _ _ ⟨rfl,rfl⟩
 refine ⟨_,O,?_⟩
 refine zDy O<|Y O<|W<|G O<|zK kN (J 4 O) O<|qK O ok10 (OwnR.pur (show OwnR cfgI 10 [vPg x1P] 46 14 ([x1D].map Cl.dcells) by have h:=upI (cse_Candidates x1P 0 x1P_sm.xt (by decide));rw [x1_cnd] at h;exact h)) ⟨U,O,T⟩<|Y O<|W<|zG<|G O<|Y O<|yP O<|Y O<|rL0 O (fun g8_2=>zD O yK O) O<|rL1 52 O (fun g8_2=>zI O kO O (J 3 O) O) O<|rL1 53 O (fun g8_2=>qU O el25 O) O<|rL1 54 O (fun g8_2=>wX O O O) O<|r_or O (fun h=>(lzf h))<|Y O<|rL0 O (fun g8_8=>zQ O O) O<|rL1 58 O (fun g8_8=>wX O O O) O<|r_or O (fun h=>(lzf h))<|Y O<|rL0 O (fun g8_12=>zD O yK O) O<|rL1 62 O (fun g8_12=>zI O kO O (J 0 O) O) O<|rL1 63 O (fun g8_12=>qU O el25 O) O<|rL1 64 O (fun g8_12=>wX O O O) O<|r_or O (fun h=>(lzf h))<|Y O<|rL0 O (fun g8_18=>zQ O O) O<|rL1 68 O (fun g8_18=>qU O el30 O) O<|rL1 69 O (fun g8_18=>wX O O O) O<|r_or O (fun h=>(lzf h))<|Y O<|rL0 O (fun g8_23=>zD O yK O) O<|rL1 73 O (fun g8_23=>zI O kO O (J 3 O) O) O<|rL1 74 O (fun g8_23=>qH O el25 O O (by decide) O) O<|rL1 75 O (fun g8_23=>qN O zAq O) O<|rL1 76 O (fun g8_23=>qN O kE O) O<|rL1 77 O (fun g8_23=>zI O wR O zX O) O<|rL1 78 O (fun g8_23=>qU O el42 O) O<|rL1 79 O (fun g8_23=>wX O O O) O<|r_or O (fun h=>(lzf h))<|Y O<|rL0 O (fun g8_33=>zD O yK O) O<|rL1 83 O (fun g8_33=>zI O kO O (J 0 O) O) O<|rL1 84 O (fun g8_33=>qH O el25 O O (by decide) O) O<|rL1 85 O (fun g8_33=>qN O zAq O) O<|rL1 86 O (fun g8_33=>qN O kE O) O<|rL1 87 O (fun g8_33=>zI O wR O zX O) O<|rL1 88 O (fun g8_33=>qU O el42 O) O<|rL1 89 O (fun g8_33=>wX O O O) O<|r_or O (fun h=>(lzf h))<|W<|zF O (fun c1=>?_) (fun c1=>?_)
 ·try simp only [sx] at c1
  exact absurd c1 (by decide+kernel)
 ·try simp only [sx] at c1
  refine zJ<|zG<|qW 47 mixed (by kernel_rfl) O O<|zM O O (zQ O O)<|zM O O (qH O el30 O O (by decide) O)<|zM O O (qN O fd46_1 O)<|zM O O (zI O one3 O zX O)<|zM O O (yL O O O)<|zM O O (zQ O O)<|qC [] O O O O gv1 T (fun g10_5=>zD O yK O) O<|qC [(98,_)] O O O O gv1 ⟨O,O,T⟩ (fun g10_5=>zI O kO O (J 3 O) O) O<|qC [(99,_)] O O O O gv1 ⟨O,O,T⟩ (fun g10_5=>qH O el25 O O (by decide) O) O<|qC [(100,_)] O O O O gv1 ⟨O,O,T⟩ (fun g10_5=>qN O zDt O) O<|qC [(101,_)] O O O O gv1 ⟨O,O,T⟩ (fun g10_5=>zI O one9 O zX O) O<|qC [(102,_)] O O O O gv1 ⟨O,O,T⟩ (fun g10_5=>zJw O O O) O<|zM O O (wJ O O O (fun h=>h) O)<|zM O O (zQ O O)<|qC [] O O O O gv1 T (fun g10_13=>zD O yK O) O<|qC [(106,_)] O O O O gv1 ⟨O,O,T⟩ (fun g10_13=>zI O kO O (J 3 O) O) O<|qC [(107,_)] O O O O gv1 ⟨O,O,T⟩ (fun g10_13=>qH O el25 O O (by decide) O) O<|qC [(108,_)] O O O O gv1 ⟨O,O,T⟩ (fun g10_13=>qN O zAq O) O<|qC [(109,_)] O O O O gv1 ⟨O,O,T⟩ (fun g10_13=>zR O qX O zX O) O<|qC [] O O O O gv1 T (fun g10_13=>zR O qX O (J 5 O) O) O<|qC [(110,_),(111,_)] O O O O gv1 ⟨O,O,O,O,T⟩ (fun g10_13=>qG O ok12 (upI (zFe smX smX (by decide+kernel))) ⟨U,O,U,O,T⟩) O<|zM O O (wJ O O O (fun h=>h) O)<|zM O O (zQ O O)<|qC [] O O O O gv1 T (fun g10_22=>zD O yK O) O<|qC [(115,_)] O O O O gv1 ⟨O,O,T⟩ (fun g10_22=>zI O kO O (J 3 O) O) O<|qC [(116,_)] O O O O gv1 ⟨O,O,T⟩ (fun g10_22=>qH O el25 O O (by decide) O) O<|qC [(117,_)] O O O O gv1 ⟨O,O,T⟩ (fun g10_22=>qN O zAq O) O<|qC [(118,_)] O O O O gv1 ⟨O,O,T⟩ (fun g10_22=>qN O kE O) O<|qC [(119,_)] O O O O gv1 ⟨O,O,T⟩ (fun g10_22=>zI O wR O zX O) O<|qC [(120,_)] O O O O gv1 ⟨O,O,T⟩ (fun g10_22=>qH O el42 O O (by decide) O) O<|qC [(121,_)] O O O O gv1 ⟨O,O,T⟩ (fun g10_22=>zR O qX O zX O) O<|qC [] O O O O gv1 T (fun g10_22=>qG O ok27 (upI (zBt (bs [116,48]) (bs [105]) (by decide))) ⟨U,O,U,O,T⟩) O<|qC [(122,_),(123,_)] O O O O gv1 ⟨O,O,O,O,T⟩ (fun g10_22=>qG O ok12 (upI (zFe (rdX2 (bs [116,48]) (bs [105])) (rdX2 (bs [116,48]) (bs [105])) (by decide+kernel))) ⟨U,O,U,O,T⟩) O<|zM O O (wJ O O O (fun h=>h) O)<|zM O O (zQ O O)<|qC [] O O O O gv1 T (fun g10_34=>zD O yK O) O<|qC [(127,_)] O O O O gv1 ⟨O,O,T⟩ (fun g10_34=>zI O kO O (J 0 O) O) O<|qC [(128,_)] O O O O gv1 ⟨O,O,T⟩ (fun g10_34=>qH O el25 O O (by decide) O) O<|qC [(129,_)] O O O O gv1 ⟨O,O,T⟩ (fun g10_34=>qN O zAq O) O<|qC [(130,_)] O O O O gv1 ⟨O,O,T⟩ (fun g10_34=>qN O kE O) O<|qC [(131,_)] O O O O gv1 ⟨O,O,T⟩ (fun g10_34=>zI O wR O zX O) O<|qC [(132,_)] O O O O gv1 ⟨O,O,T⟩ (fun g10_34=>qH O el42 O O (by decide) O) O<|qC [(133,_)] O O O O gv1 ⟨O,O,T⟩ (fun g10_34=>zR O qX O zX O) O<|qC [] O O O O gv1 T (fun g10_34=>qG O ok27 (upI (zBt (bs [117]) (bs [105]) (by decide))) ⟨U,O,U,O,T⟩) O<|qC [(134,_),(135,_)] O O O O gv1 ⟨O,O,O,O,T⟩ (fun g10_34=>qG O ok12 (upI (zFe (rdX2 (bs [117]) (bs [105])) (rdX2 (bs [117]) (bs [105])) (by decide+kernel))) ⟨U,O,U,O,T⟩) O<|zM O O (wJ O O O (fun h=>h) O)<|zM O O (kA O O)<|yN<|W<|zL<|zP O ?_
  exact O
theorem law_CseExtracts (p:Pg) (most:Int) (hp:p.Fit) (hF:p.Frm):
    Pur cfgI 4 [vPg p,vI most] (vB true):=by
 refine zS Tryz.func4 O Tryz.ntmps4 Tryz.results4 O ?_
 intro z hz
 refine G O<|zT O O (qI O O) ?_
 rintro _ _ ⟨b1,rfl,rfl⟩
 refine Y O<|W<|zG<|G O<|zK kN (J 0 O) O<|qK O ok8 (upI (law20_Small p hp)) ⟨U,O,T⟩<|wK O<|W<|zF O (fun c1=>?_) (fun c1=>?_)
 ·try simp only [sx] at c1
  refine G O<|qK O ok9 zHv T<|Y O<|W<|zL<|zP O ?_
  exact O
 ·try simp only [sx] at c1
  have hS:=sml_is c1 hF
  have hX:=hS.xt
  have hP:=hX.ok (by decide)
  have hdl:=hX.defs
  have hol:=hX.outs
  obtain ⟨i,hi,hQ⟩:=xtr_xt hX most
  refine zJ<|G O<|zK kN (J 0 O) O<|Y O<|qK O ok13 (zQv p hX most) ⟨U,O,U,O,T⟩<|qA O (yC O O)<|qA O (yW O O O)<|qA O (yO O O O)<|zT O O (qD [some 1,some 3,some 7,some 22,some 1] O zr27 O) ?_
  rintro _ _ ⟨b2,rfl,rfl⟩
  refine N 0 sz27 O<|Y O<|W<|G O<|zK kN (J 1 O) O<|Y O<|qK O ok14 (r23_Extract p hX (fun h=>ops_valid h) most) ⟨U,O,U,O,T⟩<|qA O (yC O O)<|qA O (yW O O O)<|qA O (yO O O O)<|zT O O (qD [some 1,some 3,some 7,some 22,some 1] O zr27 O) ?_
  rintro _ _ ⟨b3,rfl,rfl⟩
  refine N 0 sz27 O<|Y O<|W<|G O<|zK kN (J 1 O) O<|zK kN (J 0 O) O<|qK O ok15 (upI (base_ProgF (xtrP most p).1 (xtrP most p).1 (hQ.ok hi))) ⟨U,O,U,O,T⟩<|Y O<|rL0 O (fun g5_3=>zQ O O) O<|rL0 O (fun g5_3=>zQ O O) O<|rLz [(29,_),(30,_)] O gv1 ⟨O,O,O,O,T⟩ (fun g5_3=>yL O O O) O<|yY O (fun h=>h)<|Y O<|rL0 O (fun g5_8=>qG O ok9 zHv T) O<|yY O (fun h=>h)<|Y O<|W<|zL<|zP O ?_
  exact congrArg vB (by simp)
end Go.W
end
