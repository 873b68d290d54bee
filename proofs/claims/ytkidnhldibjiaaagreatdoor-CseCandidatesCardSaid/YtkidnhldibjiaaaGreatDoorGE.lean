/-
  Walks: what functions of the program compute. Printed by wip/gen/mk2.py.
  Walks: what functions of the program compute. Printed by wip/gen/mk2.py.
  Conditions: none.
-/
import Derived.Test.YtkidnhldibjiaaaGreatDoorKD
import Derived.Test.YtkidnhldibjiaaaGreatDoorPlain3
import Derived.Test.YtkidnhldibjiaaaGreatDoorGA
set_option linter.unusedSimpArgs false
set_option linter.unusedVariables false
section
set_option maxRecDepth 10000
namespace Go.W
open Go Go.Eng Go.Proofs Go.L41 Go.Br
attribute [local irreducible] AWP RWP TD finQ
end Go.W
end
section
set_option maxRecDepth 10000
namespace Go.W
open Go Go.Eng Go.Proofs Go.L41 Go.Br
attribute [local irreducible] AWP RWP TD finQ
theorem x1P_sm:x1P.Sm:=⟨by decide,by decide,by decide,by decide,by decide,⟨(fun c hc=>by cases hc),(by decide+kernel),(by decide+kernel)⟩,(by decide+kernel),(by decide+kernel)⟩
theorem x2P_sm:x2P.Sm:=⟨by decide,by decide,by decide,by decide,by decide,⟨(fun c hc=>by cases hc),(by decide+kernel),(by decide+kernel)⟩,(by decide+kernel),(by decide+kernel)⟩
def x1D:Cl:=⟨smX,[],0,2⟩
theorem x1_cnd:(cndP x1P).map Cl.dcells=[x1D].map Cl.dcells:=by
  have h:(repC x1P.Defs).map (fun c=>(c.e,c.n))=[(smX,2)]:=x1_rep
  have h0:cndP x1P=repC x1P.Defs:=if_pos (by decide+kernel)
  rw [h0]
  cases hr:repC x1P.Defs with
  |nil=>rw [hr] at h;cases h
  |cons c r=>
    cases r with
    |cons _ _=>rw [hr] at h;have:=congrArg List.length h;simp at this
    |nil=>
      rw [hr] at h
      simp only [List.map_cons,List.map_nil,List.cons.injEq,Prod.mk.injEq,and_true] at h
      simp only [List.map_cons,List.map_nil,Cl.dcells,h.1,h.2];rfl
theorem fd46_0:fieldT Tryz.prog 46 0=some (0,44):=by kernel_rfl
theorem fd46_1:fieldT Tryz.prog 46 1=some (13,3):=by kernel_rfl
theorem ok8:callOk Tryz.prog 8=true:=by kernel_rfl
theorem ok9:callOk Tryz.prog 9=true:=by kernel_rfl
theorem ok10:callOk Tryz.prog 10=true:=by kernel_rfl
theorem ok11:callOk Tryz.prog 11=true:=by kernel_rfl
theorem ok13:callOk Tryz.prog 13=true:=by kernel_rfl
theorem ok18:callOk Tryz.prog 18=true:=by kernel_rfl
theorem ok27:callOk Tryz.prog 27=true:=by kernel_rfl
theorem ok28:callOk Tryz.prog 28=true:=by kernel_rfl
theorem ok29:callOk Tryz.prog 29=true:=by kernel_rfl
theorem pl67:placesT Tryz.prog 67=some [(0,1),(1,5),(6,1)]:=by kernel_rfl
theorem law20_Small (p:Pg) (hf:p.Fit):
    Pur cfg 8 [vPg p] (vB (smlP p)):=by
 refine zR Tryz.func8 O Tryz.ntmps8 Tryz.results8 O ?_
 intro z hz
 have hN:smD p.Defs 0=smD p.Defs 0:=rfl
 generalize hN0:smD p.Defs 0=N at hN
 have f1:=hf.sizes
 have f2:=hf.wh
 have f3:=hf.params
 have f4:=hf.defs
 have f5:=hf.outs
 refine G O<|zS O O (qG O O) ?_
 rintro _ _ ⟨b1,rfl,rfl⟩
 refine Y O<|W<|zG<|G O<|zD O zBu<|zH zFp (J 0 O) O<|zV O el24<|zX O (yF O O O)<|Y O<|rL0 O (fun g1_4=>zF O yZ O) O<|rL1 11 O (fun g1_4=>zK O wL O (J 0 O) O) O<|rL1 12 O (fun g1_4=>qU O el25 O) O<|rL1 13 O (fun g1_4=>yF O O O) O<|r_or O (fun h=>(lzf h))<|Y O<|rL0 O (fun g1_10=>zF O zGg O) O<|rL1 17 O (fun g1_10=>zK O zBq O (J 0 O) O) O<|rL1 18 O (fun g1_10=>qU O r O) O<|rL1 19 O (fun g1_10=>yF O O O) O<|r_or O (fun h=>(lzf h))<|Y O<|rL0 O (fun g1_16=>zF O zCp O) O<|rL1 23 O (fun g1_16=>zK O zBq O (J 0 O) O) O<|rL1 24 O (fun g1_16=>qU O r O) O<|rL1 25 O (fun g1_16=>yF O O O) O<|r_or O (fun h=>(lzf h))<|Y O<|rL0 O (fun g1_22=>zF O zJl O) O<|rL1 29 O (fun g1_22=>zK O one23 O (J 0 O) O) O<|rL1 30 O (fun g1_22=>qU O el23 O) O<|rL1 31 O (fun g1_22=>yF O O O) O<|r_or O (fun h=>(lzf h))<|W<|zE O (fun c1=>?_) (fun c1=>?_)
 ·try simp only [sx] at c1
  refine G O<|Y O<|W<|zJ<|zP O ?_
  rw [show smlP p=false by unfold smlP lensP;simp only [Bool.and_eq_false_iff,Bool.not_eq_false',decide_eq_true_eq,decide_eq_false_iff_not];omega]
 ·try simp only [sx] at c1
  refine zI<|G O<|Y O<|W<|zG<|G O<|Y O<|W<|zN<|zU ⟨[(4,.c _),(3,.c _),(1,.c _)],[_]⟩ (Weak.mk [true] ⟨U,U,U,T⟩ O)<|qA 2 0 O O (Nat×Nat) (fun ⟨k,n⟩=>[(4,vI k),(3,vI n)]) (fun ⟨k,n⟩=>[]) (fun ⟨k,n⟩=>k<=p.Defs.length/\(N=smD (p.Defs.drop k) n)) (fun ⟨k,n⟩=>p.Defs.length-k) ⟨⟨0,0⟩,⟨by omega,hN0.symm⟩,Weak.mk [true] ⟨U,U,U,T⟩ O⟩ ?_
  rintro ⟨k,n⟩ ⟨hk,hq⟩
  show AWP _ _ _ _ _ ⟨[(4,vI k),(3,vI n)]++_,[]++_⟩
  refine zG<|G O<|Y O<|zD O yZ<|zH wL (J 0 O) O<|zV O el25<|qW O<|Y O<|rL0 O (fun g5_5=>zQ O O) O<|rL1 40 O (fun g5_5=>kO O O O) O<|kD O (fun h=>h)<|W<|zE O (fun c2=>?_) (fun c2=>?_)
  ·try simp only [sx] at c2
   obtain ⟨d,hd⟩:=qP p.Defs k (by omega)
   obtain ⟨e1,e2,_,_,e5⟩:=hf.ds d (zW hd)
   have e6:=zNi d.Body 1500 e5
   refine zI<|zG<|zN<|zG<|qY 18 mixed (by kernel_rfl) O O<|zM O O (zQ O O)<|zM O O (zF O yZ O)<|zM O O (zK O wL O (J 0 O) O)<|zM O O (zQ O O)<|zM O O (qJ O el25 O O (by omega) (getm hd))<|zM O O (qQ O zAl O)<|zM O O (zK O kQ O zY O)<|zM O O (qU O D O)<|zM O O (zF O yZ O)<|zM O O (zK O wL O (J 0 O) O)<|zM O O (zQ O O)<|zM O O (qJ O el25 O O (by omega) (getm hd))<|zM O O (qQ O zAc O)<|zM O O (zK O kQ O zY O)<|zM O O (qU O D O)<|zM O O (zEq O O O ⟨by omega,by omega⟩)<|zM O O (zEq O O O ⟨by omega,by omega⟩)<|zM O O (yV O O)<|yT<|W<|zO O<|Y O<|zD O yZ<|zH wL (J 0 O) O<|Y O<|zZ O el25 (by omega) (getm hd)<|qN O zBx<|zL qZ zY O<|qK O ok26 (base_Weigh d.Body 1500 1500 (hf.ds d (zW hd)).2.2.2.2 (by decide) O) ⟨U,O,U,O,T⟩<|qB O ⟨by omega,by omega⟩<|Y O<|W<|zO O<|Y O<|qB O ⟨by omega,by omega⟩<|Y O<|W ?_
   refine ⟨⟨k+1,n+dWt d⟩,⟨by omega,smD_next hd hq (by omega)⟩,(by show p.Defs.length-(k+1)<p.Defs.length-k;omega),Weak.mk [true] ⟨U,VLe.of_eq ((congrArg vI (by unfold dWt;omega))),U,T⟩ O⟩
  ·try simp only [sx] at c2
   have hn:=smD_end hq (by omega)
   refine qE<|zG<|G O<|Y O<|W<|zN<|zU ⟨[(5,.c _),(3,.c _),(1,.c _)],[_]⟩ (Weak.mk [true] ⟨U,U,U,T⟩ O)<|qA 2 0 O O (Nat×Nat) (fun ⟨j,m⟩=>[(5,vI j),(3,vI m)]) (fun ⟨j,m⟩=>[]) (fun ⟨j,m⟩=>j<=p.Params.length/\(smP p.Params n=smP (p.Params.drop j) m)) (fun ⟨j,m⟩=>p.Params.length-j) ⟨⟨0,n⟩,⟨by omega,O⟩,Weak.mk [true] ⟨U,U,U,T⟩ O⟩ ?_
   rintro ⟨j,m⟩ ⟨hj,hr⟩
   show AWP _ _ _ _ _ ⟨[(5,vI j),(3,vI m)]++_,[]++_⟩
   refine zG<|G O<|Y O<|zD O zBu<|zH zFp (J 0 O) O<|zV O el24<|qW O<|Y O<|rL0 O (fun g10_5=>zQ O O) O<|rL1 77 O (fun g10_5=>kO O O O) O<|kD O (fun h=>h)<|W<|zE O (fun c3=>?_) (fun c3=>?_)
   ·try simp only [sx] at c3
    obtain ⟨y,hy⟩:=qP p.Params j (by omega)
    have e1:=(hf.ps y (zW hy)).1
    refine zI<|zG<|zN<|zO O<|Y O<|zD O zBu<|zH zFp (J 0 O) O<|Y O<|zZ O el24 (by omega) (getm hy)<|qN O zHp<|zH zAr zY O<|zV O el65<|qB O ⟨by omega,by omega⟩<|Y O<|W<|zO O<|Y O<|qB O ⟨by omega,by omega⟩<|Y O<|W ?_
    refine ⟨⟨j+1,m+y.Dims.length⟩,⟨by omega,smP_next hy hr (by omega)⟩,(by show p.Params.length-(j+1)<p.Params.length-j;omega),Weak.mk [true] ⟨U,VLe.of_eq ((congrArg vI (by omega))),U,T⟩ O⟩
   ·try simp only [sx] at c3
    have hm:=smP_end hr (by omega)
    refine qE<|G O<|Y O<|zX O (kO O O O)<|Y O<|W<|zJ<|zP O ?_
    rw [show smlP p=decide (m<=1500) by unfold smlP;rw [show lensP p=true by unfold lensP;simp only [Bool.and_eq_true,Bool.not_eq_true',decide_eq_false_iff_not];omega,hN0,hn,hm,Bool.true_and]]
    exact congrArg vB (decide_eq_decide.2 (by omega))
theorem zBl (s i:ByteArray) (hi:isNameB i=true):
    Pur cfg 27 [vS s,vS i] (vE (rdX2 s i)):=by
 refine zR Tryz.func27 O Tryz.ntmps27 Tryz.results27 O ?_
 intro z hz
 refine G O<|zS O O (qD [none,none,none,none,none,none,none,none,none,none,some 2,some 4,some 13] O zr44 O) ?_
 rintro _ _ ⟨b1,rfl,rfl⟩
 refine W<|G O<|Y O<|Y O<|qK O ok65 (show Pur cfg 65 [vS i] (vLin ⟨0,[⟨i,1⟩]⟩) by have h:=zCu i;rw [show varL i=⟨0,[⟨i,1⟩]⟩ by unfold varL;rw [hi];rfl] at h;exact h) ⟨U,O,T⟩<|zX O (kJ [none,none,none,some 2] O zDp pl115 O O)<|qX O el41 zDp<|zX O (kJ [none,none,none,none,none,none,none,none,none,none,some 2,none,some 13] O zr44 pl44 O O)<|N 0 sz44 O<|W<|zJ<|fin1 (qF qZ O (J 0 O) O) ?_
 exact O
theorem zJi (l:List Df):
    Pur cfg 28 [.c (.sl 22 (l.map Df.cells))] (vPg (pgX l)):=by
 refine zR Tryz.func28 O Tryz.ntmps28 Tryz.results28 O ?_
 intro z hz
 refine G O<|zS O O (qD [some 1,some 3,some 7,some 22,some 1] O zr27 O) ?_
 rintro _ _ ⟨b1,rfl,rfl⟩
 refine W<|G O<|yW O zr37 pl37<|zS O O (yB O zr37) ?_
 rintro _ _ ⟨b2,rfl,rfl⟩
 refine N 0 sz37 O<|W<|G O<|qK O ok65 (show Pur cfg 65 [vS (bs [110])] (vLin lnN) by have h:=zCu (bs [110]);rw [show varL (bs [110])=lnN by decide+kernel] at h;exact h) ⟨U,O,T⟩<|qX O el65 zr40<|Y O<|W<|G O<|qX O r zr9<|zL yD (J 0 O) O<|Y O<|yW O zr67 pl67<|zL yD (J 0 O) O<|Y O<|yW O zr67 pl67<|qX O el24 zr67<|Y O<|qX O r zr9<|zX O (kJ [none,some 3,none,none,none] O zr27 pl27 O O)<|N 1 sz27 O<|W<|zJ<|fin1 (qF wC O (J 1 O) O) ?_
 exact O
theorem zJj (s i:ByteArray) (x:Ex):
    Pur cfg 29 [vS s,vS i,vE x] (vDf (dfX s i x)):=by
 refine zR Tryz.func29 O Tryz.ntmps29 Tryz.results29 O ?_
 intro z hz
 refine G O<|zS O O (qG O O) ?_
 rintro _ _ ⟨b1,rfl,rfl⟩
 refine zS O O (qD [none,none,none,none,none,none,some 3,some 3,none,none,none,none,none,none,none,none,none,none,none,some 2,some 4,some 13] O zr63 O) ?_
 rintro _ _ ⟨b2,rfl,rfl⟩
 refine W<|zG<|qY 8 mixed (by kernel_rfl) O O<|zM O O (zQ O O)<|zM O O (kV O zr37 pl37 O)<|zM O O (zQ O O)<|zM O O (qH O ok65 (show Pur cfg 65 [vS (bs [110])] (vLin lnN) by have h:=zCu (bs [110]);rw [show varL (bs [110])=lnN by decide+kernel] at h;exact h) ⟨U,O,T⟩)<|zM O O (kV O zHg pl111 O)<|zM O O (wN O D zHg O O O O)<|zM O O (zT O qZ O (J 1 O) O)<|zM O O (kJ [none,none,none,none,none,none,none,some 3,none,none,none,none,none,none,none,none,none,none,none,none,none,none] O zr63 pl63 O O)<|yT<|N 0 sz63 O<|W<|zJ<|fin1 (qF wM O (J 0 O) O) ?_
 exact O
theorem zHn  :
    Pur cfgI 9 [] (vB true):=by
 refine zR Tryz.func9 O Tryz.ntmps9 Tryz.results9 O ?_
 intro z hz
 refine G O<|Y O<|W<|G O<|qK O ok27 (upI (zBl (bs [97]) (bs [105]) (by decide))) ⟨U,O,U,O,T⟩<|qK O ok27 (upI (zBl (bs [99]) (bs [105]) (by decide))) ⟨U,O,U,O,T⟩<|qX O el42 zr44<|zX O (kJ [none,none,none,none,none,none,none,none,none,none,some 2,some 4,none] O zr44 pl44 O O)<|zS O O (qD [none,none,none,none,none,none,none,none,none,none,some 2,some 4,some 13] O zr44 O) ?_
 rintro _ _ ⟨b1,rfl,rfl⟩
 refine N 0 sz44 O<|W<|G O<|zL qZ (J 0 O) O<|zL qZ (J 0 O) O<|qX O el42 zr44<|zX O (kJ [none,none,none,none,none,none,none,none,none,none,some 2,some 4,none] O zr44 pl44 O O)<|qK O ok29 (upI (zJj (bs [98]) (bs [105]) (ndX 6 [smX,smX]))) ⟨U,O,U,O,U,O,T⟩<|qX O el25 zr63<|qK O ok28 (upI (zJi [dfX (bs [98]) (bs [105]) (ndX 6 [smX,smX])])) ⟨U,O,T⟩<|zS O O (qD [some 1,some 3,some 7,some 22,some 1] O zr27 O) ?_
 rintro _ _ ⟨b2,rfl,rfl⟩
 refine N 0 sz27 O<|W<|G O<|zL wC (J 0 O) O<|qK O ok13 (show Pur cfgI 13 [vPg x1P,vI 5] (.tup [vPg x1Q,vI 1]) by have h:=cse_Extract x1P x1P_sm.xt 5;rw [x1_extract] at h;exact h) ⟨U,O,U,O,T⟩<|zX O (yE O O)<|zX O (kA O O O)<|zX O (yP O O O)<|zS O O (qD [some 1,some 3,some 7,some 22,some 1] O zr27 O) ?_
 rintro _ _ ⟨b3,rfl,rfl⟩
 refine N 0 sz27 O<|Y O<|W<|G O<|qK O ok27 (upI (zBl (bs [97]) (bs [106]) (by decide))) ⟨U,O,U,O,T⟩<|qX O el42 zr44<|zX O (kJ [none,none,none,none,none,none,none,none,none,none,some 2,some 4,none] O zr44 pl44 O O)<|zS O O (qD [none,none,none,none,none,none,none,none,none,none,some 2,some 4,some 13] O zr44 O) ?_
 rintro _ _ ⟨b4,rfl,rfl⟩
 refine N 0 sz44 O<|W<|G O<|qK O ok27 (upI (zBl (bs [117]) (bs [105]) (by decide))) ⟨U,O,U,O,T⟩<|qK O ok27 (upI (zBl (bs [118]) (bs [105]) (by decide))) ⟨U,O,U,O,T⟩<|qX O el42 zr44<|zX O (kJ [none,none,none,none,none,none,none,none,none,none,some 2,some 4,none] O zr44 pl44 O O)<|zS O O (qD [none,none,none,none,none,none,none,none,none,none,some 2,some 4,some 13] O zr44 O) ?_
 rintro _ _ ⟨b5,rfl,rfl⟩
 refine N 0 sz44 O<|W<|zG<|wO 16 1 [⟨0,.q []⟩,⟨1,.q []⟩,⟨2,.q []⟩,⟨3,.q []⟩,⟨4,.q [2]⟩,⟨5,.q []⟩,⟨6,.q [1]⟩,⟨7,.q []⟩,⟨8,.q []⟩,⟨9,.q []⟩,⟨10,.q []⟩,⟨11,.q []⟩,⟨12,.q []⟩,⟨13,.q []⟩,⟨14,.e 0 []⟩,⟨15,.e 0 []⟩] mixed (by kernel_rfl) (by kernel_rfl) O O O<|qL O<|qL O<|qL O<|qL O<|qL O<|qL O<|qL O<|qL O<|qL O<|qL O<|qL O<|qL O<|qL O<|qL O<|qL O<|qL O<|zFl<|qT O (by decide) O O (qH O ok27 (upI (zBl (bs [97]) (bs [105]) (by decide))) ⟨U,O,U,O,T⟩)<|qT O (by decide) O O (wN O el42 zr44 O O O O)<|qT O (by decide) O O (kJ [none,none,none,none,none,none,none,none,none,none,some 2,some 4,none] O zr44 pl44 O O)<|qT O (by decide) O O (qH O ok29 (upI (zJj (bs [117]) (bs [105]) (ngX 105))) ⟨U,O,U,O,U,O,T⟩)<|qT O (by decide) O O (zT O qZ O (J 0 O) O)<|qT O (by decide) O O (qH O ok29 (upI (zJj (bs [118]) (bs [106]) (ngX 106))) ⟨U,O,U,O,U,O,T⟩)<|qT O (by decide) O O (zT O qZ O (J 0 O) O)<|qT O (by decide) O O (qH O ok29 (upI (zJj (bs [98]) (bs [105]) (ndX 4 [rdX2 (bs [117]) (bs [105]),rdX2 (bs [118]) (bs [105])]))) ⟨U,O,U,O,U,O,T⟩)<|qT O (by decide) O O (wN O el25 zr63 O O O O)<|qT O (by decide) O O (qH O ok28 (upI (zJi [dfX (bs [117]) (bs [105]) (ngX 105),dfX (bs [118]) (bs [106]) (ngX 106),dfX (bs [98]) (bs [105]) (ndX 4 [rdX2 (bs [117]) (bs [105]),rdX2 (bs [118]) (bs [105])])])) ⟨U,O,T⟩)<|qT O (by decide) O O (qH O ok18 (show Pur cfgI 18 [vPg x2P] (.tup [vPg x2Q,vI 1]) by have h:=upI (cse_Merge x2P 0 x2P_sm.xt (by decide));rw [x2_merge] at h;exact h) ⟨U,O,T⟩)<|qT O (by decide) O O (yE O O)<|qT O (by decide) O O (kA O O O)<|qT O (by decide) O O (yP O O O)<|sq_op O O (by decide) O O (qD [some 1,some 3,some 7,some 22,some 1] O zr27 O) ?_
 rintro _ _ ⟨b6,rfl,rfl⟩
 refine ⟨_,O,?_⟩
 refine sq_op0 O O (by decide) O O (kU O sz27 O O O (zHi 0 O O)) ?_
 rintro _ _ ⟨rfl,rfl⟩
 refine ⟨_,O,?_⟩
 refine zFh O<|Y O<|W<|G O<|zL wC (J 4 O) O<|qK O ok10 (OwnR.pur (show OwnR cfgI 10 [vPg x1P] 46 14 ([x1D].map Cl.dcells) by have h:=upI (zHs x1P 0 x1P_sm.xt (by decide));rw [x1_cnd] at h;exact h)) ⟨U,O,T⟩<|Y O<|W<|zG<|G O<|Y O<|yR O<|Y O<|rL0 O (fun g8_2=>zF O yZ O) O<|rL1 52 O (fun g8_2=>zK O wL O (J 3 O) O) O<|rL1 53 O (fun g8_2=>qU O el25 O) O<|rL1 54 O (fun g8_2=>wZ O O O) O<|r_or O (fun h=>(lzf h))<|Y O<|rL0 O (fun g8_8=>zQ O O) O<|rL1 58 O (fun g8_8=>wZ O O O) O<|r_or O (fun h=>(lzf h))<|Y O<|rL0 O (fun g8_12=>zF O yZ O) O<|rL1 62 O (fun g8_12=>zK O wL O (J 0 O) O) O<|rL1 63 O (fun g8_12=>qU O el25 O) O<|rL1 64 O (fun g8_12=>wZ O O O) O<|r_or O (fun h=>(lzf h))<|Y O<|rL0 O (fun g8_18=>zQ O O) O<|rL1 68 O (fun g8_18=>qU O el30 O) O<|rL1 69 O (fun g8_18=>wZ O O O) O<|r_or O (fun h=>(lzf h))<|Y O<|rL0 O (fun g8_23=>zF O yZ O) O<|rL1 73 O (fun g8_23=>zK O wL O (J 3 O) O) O<|rL1 74 O (fun g8_23=>qJ O el25 O O (by decide) O) O<|rL1 75 O (fun g8_23=>qQ O zBx O) O<|rL1 76 O (fun g8_23=>qQ O kG O) O<|rL1 77 O (fun g8_23=>zK O wS O zY O) O<|rL1 78 O (fun g8_23=>qU O el42 O) O<|rL1 79 O (fun g8_23=>wZ O O O) O<|r_or O (fun h=>(lzf h))<|Y O<|rL0 O (fun g8_33=>zF O yZ O) O<|rL1 83 O (fun g8_33=>zK O wL O (J 0 O) O) O<|rL1 84 O (fun g8_33=>qJ O el25 O O (by decide) O) O<|rL1 85 O (fun g8_33=>qQ O zBx O) O<|rL1 86 O (fun g8_33=>qQ O kG O) O<|rL1 87 O (fun g8_33=>zK O wS O zY O) O<|rL1 88 O (fun g8_33=>qU O el42 O) O<|rL1 89 O (fun g8_33=>wZ O O O) O<|r_or O (fun h=>(lzf h))<|W<|zE O (fun c1=>?_) (fun c1=>?_)
 ·try simp only [sx] at c1
  exact absurd c1 (by decide+kernel)
 ·try simp only [sx] at c1
  refine zI<|zG<|qY 47 mixed (by kernel_rfl) O O<|zM O O (zQ O O)<|zM O O (qJ O el30 O O (by decide) O)<|zM O O (qQ O fd46_1 O)<|zM O O (zK O one3 O zY O)<|zM O O (yL O O O)<|zM O O (zQ O O)<|qC [] O O O O gv1 T (fun g10_5=>zF O yZ O) O<|qC [(98,_)] O O O O gv1 ⟨O,O,T⟩ (fun g10_5=>zK O wL O (J 3 O) O) O<|qC [(99,_)] O O O O gv1 ⟨O,O,T⟩ (fun g10_5=>qJ O el25 O O (by decide) O) O<|qC [(100,_)] O O O O gv1 ⟨O,O,T⟩ (fun g10_5=>qQ O zGf O) O<|qC [(101,_)] O O O O gv1 ⟨O,O,T⟩ (fun g10_5=>zK O one9 O zY O) O<|qC [(102,_)] O O O O gv1 ⟨O,O,T⟩ (fun g10_5=>yM O O O) O<|zM O O (wF O O O (fun h=>h) O)<|zM O O (zQ O O)<|qC [] O O O O gv1 T (fun g10_13=>zF O yZ O) O<|qC [(106,_)] O O O O gv1 ⟨O,O,T⟩ (fun g10_13=>zK O wL O (J 3 O) O) O<|qC [(107,_)] O O O O gv1 ⟨O,O,T⟩ (fun g10_13=>qJ O el25 O O (by decide) O) O<|qC [(108,_)] O O O O gv1 ⟨O,O,T⟩ (fun g10_13=>qQ O zBx O) O<|qC [(109,_)] O O O O gv1 ⟨O,O,T⟩ (fun g10_13=>zT O qZ O zY O) O<|qC [] O O O O gv1 T (fun g10_13=>zT O qZ O (J 5 O) O) O<|qC [(110,_),(111,_)] O O O O gv1 ⟨O,O,O,O,T⟩ (fun g10_13=>qH O ok12 (upI (zGn smX smX (by decide+kernel))) ⟨U,O,U,O,T⟩) O<|zM O O (wF O O O (fun h=>h) O)<|zM O O (zQ O O)<|qC [] O O O O gv1 T (fun g10_22=>zF O yZ O) O<|qC [(115,_)] O O O O gv1 ⟨O,O,T⟩ (fun g10_22=>zK O wL O (J 3 O) O) O<|qC [(116,_)] O O O O gv1 ⟨O,O,T⟩ (fun g10_22=>qJ O el25 O O (by decide) O) O<|qC [(117,_)] O O O O gv1 ⟨O,O,T⟩ (fun g10_22=>qQ O zBx O) O<|qC [(118,_)] O O O O gv1 ⟨O,O,T⟩ (fun g10_22=>qQ O kG O) O<|qC [(119,_)] O O O O gv1 ⟨O,O,T⟩ (fun g10_22=>zK O wS O zY O) O<|qC [(120,_)] O O O O gv1 ⟨O,O,T⟩ (fun g10_22=>qJ O el42 O O (by decide) O) O<|qC [(121,_)] O O O O gv1 ⟨O,O,T⟩ (fun g10_22=>zT O qZ O zY O) O<|qC [] O O O O gv1 T (fun g10_22=>qH O ok27 (upI (zBl (bs [116,48]) (bs [105]) (by decide))) ⟨U,O,U,O,T⟩) O<|qC [(122,_),(123,_)] O O O O gv1 ⟨O,O,O,O,T⟩ (fun g10_22=>qH O ok12 (upI (zGn (rdX2 (bs [116,48]) (bs [105])) (rdX2 (bs [116,48]) (bs [105])) (by decide+kernel))) ⟨U,O,U,O,T⟩) O<|zM O O (wF O O O (fun h=>h) O)<|zM O O (zQ O O)<|qC [] O O O O gv1 T (fun g10_34=>zF O yZ O) O<|qC [(127,_)] O O O O gv1 ⟨O,O,T⟩ (fun g10_34=>zK O wL O (J 0 O) O) O<|qC [(128,_)] O O O O gv1 ⟨O,O,T⟩ (fun g10_34=>qJ O el25 O O (by decide) O) O<|qC [(129,_)] O O O O gv1 ⟨O,O,T⟩ (fun g10_34=>qQ O zBx O) O<|qC [(130,_)] O O O O gv1 ⟨O,O,T⟩ (fun g10_34=>qQ O kG O) O<|qC [(131,_)] O O O O gv1 ⟨O,O,T⟩ (fun g10_34=>zK O wS O zY O) O<|qC [(132,_)] O O O O gv1 ⟨O,O,T⟩ (fun g10_34=>qJ O el42 O O (by decide) O) O<|qC [(133,_)] O O O O gv1 ⟨O,O,T⟩ (fun g10_34=>zT O qZ O zY O) O<|qC [] O O O O gv1 T (fun g10_34=>qH O ok27 (upI (zBl (bs [117]) (bs [105]) (by decide))) ⟨U,O,U,O,T⟩) O<|qC [(134,_),(135,_)] O O O O gv1 ⟨O,O,O,O,T⟩ (fun g10_34=>qH O ok12 (upI (zGn (rdX2 (bs [117]) (bs [105])) (rdX2 (bs [117]) (bs [105])) (by decide+kernel))) ⟨U,O,U,O,T⟩) O<|zM O O (wF O O O (fun h=>h) O)<|zM O O (yV O O)<|yT<|W<|zJ<|zP O ?_
  exact O
theorem law_CseCandidates (p:Pg) (hp:p.Fit) (hF:p.Frm):
    Pur cfgI 3 [vPg p] (vB true):=by
 refine zR Tryz.func3 O Tryz.ntmps3 Tryz.results3 O ?_
 intro z hz
 refine G O<|zS O O (qG O O) ?_
 rintro _ _ ⟨b1,rfl,rfl⟩
 refine Y O<|W<|zG<|G O<|zL wC (J 0 O) O<|qK O ok8 (upI (law20_Small p hp)) ⟨U,O,T⟩<|wD O<|W<|zE O (fun c1=>?_) (fun c1=>?_)
 ·try simp only [sx] at c1
  refine G O<|qK O ok9 zHn T<|Y O<|W<|zJ<|zP O ?_
  exact O
 ·try simp only [sx] at c1
  have hS:=sml_is c1 hF
  have hX:=hS.xt
  have hP:=hX.ok (by decide)
  have hdl:=hX.defs
  have hol:=hX.outs
  have hcb:∀c,c∈cndP p->c.Bd:=fun c hc=>by unfold cndP at hc;split at hc;exact rep_bd hX (by decide) hc;cases hc
  have hcl:(cndP p).length<=1000000:=by unfold cndP;split;exact rep_len hX (by decide);exact Nat.zero_le _
  refine zI<|zG<|qY 6 mixed (by kernel_rfl) O O<|zM O O (zT O wC O (J 0 O) O)<|zM O O (qH O ok10 (OwnR.pur (upI (zHs p 0 hX (by decide)))) ⟨U,O,T⟩)<|zM O O (zT O wC O (J 0 O) O)<|zM O O (qH O ok11 (OwnR.pur (upI (r23_Candidates p 0 hX (by decide) (fun h=>ops_valid h)))) ⟨U,O,T⟩)<|zM O O (yV O O)<|zM O O (yV O O)<|yT<|W<|zG<|G O<|Y O<|zV O el30<|Y O<|zV O el32<|yR O<|W<|zE O (fun c2=>?_) (fun c2=>?_)
  ·try simp only [sx] at c2
   exact absurd T c2
  ·try simp only [sx] at c2
   refine zI<|zG<|G O<|Y O<|W<|zN<|zU ⟨[(5,.c _),(3,.c _),(4,.c _)],[]⟩ (Weak.mk [false] ⟨U,U,U,T⟩ O)<|qA 1 0 O O (Nat) (fun k=>[(5,vI k)]) (fun k=>[]) (fun k=>k<=(cndP p).length) (fun k=>(cndP p).length-k) ⟨0,(by omega),Weak.mk [] ⟨U,U,U,T⟩ O⟩ ?_
   rintro k hk
   refine zG<|G O<|Y O<|Y O<|zV O el30<|qW O<|W<|zE O (fun c3=>?_) (fun c3=>?_)
   ·try simp only [sx] at c3
    obtain ⟨c,hc⟩:=qP (cndP p) k (by omega)
    refine zI<|zG<|zN<|zG<|qY 25 mixed (by kernel_rfl) O O<|zM O O (zQ O O)<|zM O O (zQ O O)<|zM O O (qJ O el30 O O (by omega) (getm hc))<|zM O O (qQ O fd46_1 O)<|zM O O (zK O one3 O zY O)<|zM O O (zQ O O)<|zM O O (zQ O O)<|zM O O (qJ O el32 O O (by omega) (getm hc))<|zM O O (qQ O fd47_1 O)<|zM O O (zK O one3 O zY O)<|zM O O (wZ O O O)<|zM O O (zQ O O)<|qC [] O O O O gv1 T (fun g9_11=>zQ O O) O<|qC [] O O O O gv1 T (fun g9_11=>zQ O O) O<|qC [(37,_),(38,_)] O O O O gv1 ⟨O,O,O,O,T⟩ (fun g9_11=>qJ O el30 O O (by omega) (getm hc)) O<|qC [(39,_)] O O O O gv1 ⟨O,O,T⟩ (fun g9_11=>qQ O fd46_0 O) O<|qC [(40,_)] O O O O gv1 ⟨O,O,T⟩ (fun g9_11=>zT O qZ O zY O) O<|qC [] O O O O gv1 T (fun g9_11=>zQ O O) O<|qC [] O O O O gv1 T (fun g9_11=>zQ O O) O<|qC [(42,_),(43,_)] O O O O gv1 ⟨O,O,O,O,T⟩ (fun g9_11=>qJ O el32 O O (by omega) (getm hc)) O<|qC [(44,_)] O O O O gv1 ⟨O,O,T⟩ (fun g9_11=>qQ O fd47_0 O) O<|qC [(45,_)] O O O O gv1 ⟨O,O,T⟩ (fun g9_11=>zT O qZ O zY O) O<|qC [(41,_),(46,_)] O O O O gv1 ⟨O,O,O,O,T⟩ (fun g9_11=>qH O ok12 (upI (zGn c.e c.e (by have:=(hcb c (zW hc)).2.1;omega))) ⟨U,O,U,O,T⟩) O<|qC [(47,_)] O O O O gv1 ⟨O,O,T⟩ (fun g9_11=>wB O O) O<|zM O O (zBw O O O O (fun h=>(lzf h)))<|yT<|W<|zE O (fun c4=>?_) (fun c4=>?_)
    ·try simp only [sx] at c4
     exact absurd c4 (by simp)
    ·try simp only [sx] at c4
     refine zI<|zO O<|Y O<|qB O ⟨by omega,by omega⟩<|Y O<|W ?_
     refine ⟨k+1,(by omega),(by omega),Weak.mk [] ⟨U,U,U,T⟩ O⟩
   ·try simp only [sx] at c3
    refine qE<|G O<|qK O ok9 zHn T<|Y O<|W<|zJ<|zP O ?_
    exact O
end Go.W
end
