/-
  What functions compute.
  Conditions: none.
-/
import Derived.Test.YtgfomfnjionbeaaGreatDoorLC
import Derived.Test.YtgfomfnjionbeaaGreatDoorPlainL
set_option linter.unusedSimpArgs false
set_option linter.unusedVariables false
set_option maxRecDepth 10000
namespace Go.W
open Go Go.Eng Go.Proofs Go.L41 Go.Br
attribute [local irreducible] AWP RWP TD fQ
theorem ok7:bA Tryz.prog 7=true:=by kernel_rfl
theorem ok10:bA Tryz.prog 10=true:=by kernel_rfl
theorem ok14:bA Tryz.prog 14=true:=by kernel_rfl
theorem ok17:bA Tryz.prog 17=true:=by kernel_rfl
theorem ok18:bA Tryz.prog 18=true:=by kernel_rfl
theorem ok52:bA Tryz.prog 52=true:=by kernel_rfl
theorem pl70:dL Tryz.prog 70=some [(0,1),(1,5),(6,1),(7,1),(8,1),(9,13)]:=by kernel_rfl
theorem pl74:dL Tryz.prog 74=some [(0,1),(1,5),(6,1)]:=by kernel_rfl
theorem pl99:dL Tryz.prog 99=some [(0,1),(1,2)]:=by kernel_rfl
theorem law20_Small (p:Pg) (hf:p.Fit):
    Pur cfg 10 [vPg p] (vB (vQ p)):=by
 refine zV Tryz.func10 O Tryz.ntmps10 Tryz.results10 O ?_
 intro z hz
 have hN:smD p.Defs 0=smD p.Defs 0:=rfl
 generalize hN0:smD p.Defs 0=N at hN
 have f1:=hf.sizes
 have f2:=hf.wh
 have f3:=hf.params
 have f4:=hf.defs
 have f5:=hf.outs
 refine Y O<|zY O O (qL O O) ?_
 rintro _ _ ⟨b1,rfl,rfl⟩
 refine G O<|zA<|zH<|Y O<|zD O zMy<|zG one27 (J 0 O) O<|qB O el27<|zW O (yF O O O)<|G O<|rL0 O (fun g1_4=>zF O zEe O) O<|rL1 11 O (fun g1_4=>zK O zKr O (J 0 O) O) O<|rL1 12 O (fun g1_4=>qT O el28 O) O<|rL1 13 O (fun g1_4=>yF O O O) O<|r_or O (fun h=>(lzf h))<|G O<|rL0 O (fun g1_10=>zF O fd30_4 O) O<|rL1 17 O (fun g1_10=>zK O zFu O (J 0 O) O) O<|rL1 18 O (fun g1_10=>qT O el25 O) O<|rL1 19 O (fun g1_10=>yF O O O) O<|r_or O (fun h=>(lzf h))<|G O<|rL0 O (fun g1_16=>zF O zTq O) O<|rL1 23 O (fun g1_16=>zK O zFu O (J 0 O) O) O<|rL1 24 O (fun g1_16=>qT O el25 O) O<|rL1 25 O (fun g1_16=>yF O O O) O<|r_or O (fun h=>(lzf h))<|G O<|rL0 O (fun g1_22=>zF O fd30_1 O) O<|rL1 29 O (fun g1_22=>zK O one26 O (J 0 O) O) O<|rL1 30 O (fun g1_22=>qT O el26 O) O<|rL1 31 O (fun g1_22=>yF O O O) O<|r_or O (fun h=>(lzf h))<|zA<|zE O (fun c1=>?_) (fun c1=>?_)
 ·try simp only [sx] at c1
  refine Y O<|G O<|zA<|zJ<|zT O ?_
  rw [show vQ p=false by unfold vQ vD;simp only [Bool.and_eq_false_iff,Bool.not_eq_false',decide_eq_true_eq,decide_eq_false_iff_not];omega]
 ·try simp only [sx] at c1
  refine zI<|Y O<|G O<|zA<|zH<|Y O<|G O<|zA<|zR<|zU ⟨[(4,.c _),(3,.c _),(1,.c _)],[_]⟩ (Weak.mk [true] ⟨zB,zB,zB,T⟩ O)<|qF 2 0 O O (Nat×Nat) (fun ⟨k,n⟩=>[(4,vI k),(3,vI n)]) (fun ⟨k,n⟩=>[]) (fun ⟨k,n⟩=>k<=p.Defs.length/\(N=smD (p.Defs.drop k) n)) (fun ⟨k,n⟩=>p.Defs.length-k) ⟨⟨0,0⟩,⟨zC,hN0.symm⟩,Weak.mk [true] ⟨zB,zB,zB,T⟩ O⟩ ?_
  rintro ⟨k,n⟩ ⟨hk,hq⟩
  show AWP _ _ _ _ _ ⟨[(4,vI k),(3,vI n)]++_,[]++_⟩
  refine zH<|Y O<|G O<|zD O zEe<|zG zKr (J 0 O) O<|qB O el28<|yA O<|G O<|rL0 O (fun g5_5=>zP O O) O<|rL1 40 O (fun g5_5=>wN O O O) O<|kB O (fun h=>h)<|zA<|zE O (fun c2=>?_) (fun c2=>?_)
  ·try simp only [sx] at c2
   obtain ⟨d,hd⟩:=qV p.Defs k zC
   obtain ⟨e1,e2,_,_,e5⟩:=hf.ds d (qC hd)
   have e6:=zRp d.Body 1500 e5
   refine zI<|zH<|zR<|zH<|yE 18 mixed uC O O<|zN O O (zP O O)<|zN O O (zF O zEe O)<|zN O O (zK O zKr O (J 0 O) O)<|zN O O (zP O O)<|zN O O (qN O el28 O O zC (getm hd))<|zN O O (qQ O zKz O)<|zN O O (zK O zDp O qD O)<|zN O O (qT O el68 O)<|zN O O (zF O zEe O)<|zN O O (zK O zKr O (J 0 O) O)<|zN O O (zP O O)<|zN O O (qN O el28 O O zC (getm hd))<|zN O O (qQ O zFo O)<|zN O O (zK O zDp O qD O)<|zN O O (qT O el68 O)<|zN O O (zFa O O O ⟨zC,zC⟩)<|zN O O (zFa O O O ⟨zC,zC⟩)<|zN O O (yL O O)<|kE<|zA<|zO O<|G O<|zD O zEe<|zG zKr (J 0 O) O<|G O<|qE O el28 zC (getm hd)<|qW O fd70_5<|zM yU qD O<|qJ O ok21 (base_Weigh d.Body 1500 1500 (hf.ds d (qC hd)).2.2.2.2 uA O) ⟨zB,O,zB,O,T⟩<|qH O ⟨zC,zC⟩<|G O<|zA<|zO O<|G O<|qH O ⟨zC,zC⟩<|G O<|zA ?_
   refine ⟨⟨k+1,n+dWt d⟩,⟨zC,smD_next hd hq zC⟩,(by show p.Defs.length-(k+1)<p.Defs.length-k;omega),Weak.mk [true] ⟨zB,VLe.of_eq ((congrArg vI (by unfold dWt;omega))),zB,T⟩ O⟩
  ·try simp only [sx] at c2
   have hn:=smD_end hq zC
   refine qM<|zH<|Y O<|G O<|zA<|zR<|zU ⟨[(5,.c _),(3,.c _),(1,.c _)],[_]⟩ (Weak.mk [true] ⟨zB,zB,zB,T⟩ O)<|qF 2 0 O O (Nat×Nat) (fun ⟨j,m⟩=>[(5,vI j),(3,vI m)]) (fun ⟨j,m⟩=>[]) (fun ⟨j,m⟩=>j<=p.Params.length/\(smP p.Params n=smP (p.Params.drop j) m)) (fun ⟨j,m⟩=>p.Params.length-j) ⟨⟨0,n⟩,⟨zC,O⟩,Weak.mk [true] ⟨zB,zB,zB,T⟩ O⟩ ?_
   rintro ⟨j,m⟩ ⟨hj,hr⟩
   show AWP _ _ _ _ _ ⟨[(5,vI j),(3,vI m)]++_,[]++_⟩
   refine zH<|Y O<|G O<|zD O zMy<|zG one27 (J 0 O) O<|qB O el27<|yA O<|G O<|rL0 O (fun g10_5=>zP O O) O<|rL1 77 O (fun g10_5=>wN O O O) O<|kB O (fun h=>h)<|zA<|zE O (fun c3=>?_) (fun c3=>?_)
   ·try simp only [sx] at c3
    obtain ⟨y,hy⟩:=qV p.Params j zC
    have e1:=(hf.ps y (qC hy)).1
    refine zI<|zH<|zR<|zO O<|G O<|zD O zMy<|zG one27 (J 0 O) O<|G O<|qE O el27 zC (getm hy)<|qW O fd74_2<|zG zCg qD O<|qB O el72<|qH O ⟨zC,zC⟩<|G O<|zA<|zO O<|G O<|qH O ⟨zC,zC⟩<|G O<|zA ?_
    refine ⟨⟨j+1,m+y.Dims.length⟩,⟨zC,smP_next hy hr zC⟩,(by show p.Params.length-(j+1)<p.Params.length-j;omega),Weak.mk [true] ⟨zB,VLe.of_eq ((congrArg vI zC)),zB,T⟩ O⟩
   ·try simp only [sx] at c3
    have hm:=smP_end hr zC
    refine qM<|Y O<|G O<|zW O (wN O O O)<|G O<|zA<|zJ<|zT O ?_
    rw [show vQ p=decide (m<=1500) by unfold vQ;rw [show vD p=true by unfold vD;simp only [Bool.and_eq_true,Bool.not_eq_true',decide_eq_false_iff_not];omega,hN0,hn,hm,Bool.true_and]]
    exact congrArg vB (decide_eq_decide.2 zC)
theorem zJm (f:Int):
    Pur cfg 18 [vI f] (vPg (xP f)):=by
 refine zV Tryz.func18 O Tryz.ntmps18 Tryz.results18 O ?_
 intro z hz
 refine Y O<|zY O O (qG [some 1,some 3,some 7,some 22,some 1] O zr30 O) ?_
 rintro _ _ ⟨b1,rfl,rfl⟩
 refine zA<|Y O<|yI O zr56 pl56<|zY O O (yC O zr56) ?_
 rintro _ _ ⟨b2,rfl,rfl⟩
 refine D 0 v O<|zA<|Y O<|qJ O ok52 (zIf (bs [110])) ⟨zB,O,T⟩<|zY O O (qG [none,some 2] O zr59 O) ?_
 rintro _ _ ⟨b3,rfl,rfl⟩
 refine D 0 sz59 O<|zA<|Y O<|qJ O ok52 (zIf (bs [106])) ⟨zB,O,T⟩<|yZ [none,none,none,some 2] O zr93 pl93<|kA O N zr93<|yZ [none,none,none,none,none,none,none,none,none,none,some 2,none,some 13] O zr62 pl62<|zY O O (qG [none,none,none,none,none,none,none,none,none,none,some 2,some 4,some 13] O zr62 O) ?_
 rintro _ _ ⟨b4,rfl,rfl⟩
 refine D 0 sz62 O<|zA<|Y O<|kA O el25 zr9<|zM qZ (J 2 O) O<|zM kD (J 1 O) O<|kA O el72 zr59<|yI O zr74 pl74<|kA O el27 zr74<|zM qZ (J 2 O) O<|zM kD (J 1 O) O<|yI O zr99 pl99<|kA O el68 zr99<|G O<|zM yU (J 0 O) O<|yZ [none,none,none,none,none,none,some 3,none,none,none,none,none,none,none,none,none,none,none,none,none,none,none] O zr70 pl70<|kA O el28 zr70<|kA O el25 zr9<|yZ [none,some 3,none,none,none] O zr30 pl30<|D 3 sz30 O<|zA<|zJ<|fin1 (zZ zEk O (J 3 O) O) ?_
 exact O
theorem zGg  :
    Pur cfg 7 [] (vB true):=by
 refine zV Tryz.func7 O Tryz.ntmps7 Tryz.results7 O ?_
 intro z hz
 refine Y O<|G O<|zA<|Y O<|yI O zr50 pl50<|kA O el31 zr50<|G O<|zA<|Y O<|qJ O ok18 (zJm 1) ⟨zB,O,T⟩<|G O<|qJ O ok14 (show Pur cfg 14 [vPg (xP 1),jT xV] (.tup [vNs (xN xL1),vI 0]) by have h:=zOq (xP 1) xV uA x_env x_sm1.ok x_rng1 x_sm1;rw [x_P1] at h;exact h) ⟨zB,O,zB,O,T⟩<|qU O<|zW O (qY O O O)<|yK O<|zY O O (qG [some 8,some 20] O zr41 O) ?_
 rintro _ _ ⟨b1,rfl,rfl⟩
 refine D 0 sz41 O<|G O<|zA<|Y O<|qJ O ok18 (zJm 4) ⟨zB,O,T⟩<|G O<|qJ O ok14 (show Pur cfg 14 [vPg (xP 4),jT xV] (.tup [vNs (xN xL4),vI 0]) by have h:=zOq (xP 4) xV uA x_env x_sm4.ok x_rng4 x_sm4;rw [x_P4] at h;exact h) ⟨zB,O,zB,O,T⟩<|qU O<|zW O (qY O O O)<|yK O<|zY O O (qG [some 8,some 20] O zr41 O) ?_
 rintro _ _ ⟨b2,rfl,rfl⟩
 refine D 0 sz41 O<|G O<|zA<|zH<|Y O<|G O<|yN O<|G O<|rL0 O (fun g4_2=>zP O O) O<|rL1 25 O (fun g4_2=>wM O O O) O<|r_or O (fun h=>(lzf h))<|G O<|rL0 O (fun g4_6=>zF O zAx O) O<|rL1 29 O (fun g4_6=>zK O zFg O (J 1 O) O) O<|rL1 30 O (fun g4_6=>qT O el39 O) O<|rL1 31 O (fun g4_6=>wM O O O) O<|r_or O (fun h=>(lzf h))<|G O<|rL0 O (fun g4_12=>zF O zBt O) O<|rL1 35 O (fun g4_12=>zK O zBg O (J 1 O) O) O<|rL1 36 O (fun g4_12=>qT O L O) O<|rL1 37 O (fun g4_12=>wM O O O) O<|r_or O (fun h=>(lzf h))<|G O<|rL0 O (fun g4_18=>zF O zBt O) O<|rL1 41 O (fun g4_18=>zK O zBg O (J 0 O) O) O<|rL1 42 O (fun g4_18=>qT O L O) O<|rL1 43 O (fun g4_18=>wM O O O) O<|r_or O (fun h=>(lzf h))<|G O<|rL0 O (fun g4_24=>zF O zBt O) O<|rL1 47 O (fun g4_24=>zK O zBg O (J 1 O) O) O<|rL1 48 O (fun g4_24=>qN O L O O uA (zCq (x:=(pI ⟨sj,3⟩ [jU (xD 1) [] 1 jV])) O)) O<|rL1 49 O (fun g4_24=>qQ O zCy O) O<|rL1 50 O (fun g4_24=>zK O zBg O qD O) O<|rL1 51 O (fun g4_24=>qT O L O) O<|rL1 52 O (fun g4_24=>wM O O O) O<|r_or O (fun h=>(lzf h))<|G O<|rL0 O (fun g4_33=>zF O zBt O) O<|rL1 56 O (fun g4_33=>zK O zBg O (J 0 O) O) O<|rL1 57 O (fun g4_33=>qN O L O O uA (zCq (x:=(pI ⟨sj,3⟩ [lIf (pF ⟨0,[⟨sj,1⟩]⟩) [jU (xD 4) [] 4 jV]])) O)) O<|rL1 58 O (fun g4_33=>qQ O zCy O) O<|rL1 59 O (fun g4_33=>zK O zBg O qD O) O<|rL1 60 O (fun g4_33=>qT O L O) O<|rL1 61 O (fun g4_33=>wM O O O) O<|r_or O (fun h=>(lzf h))<|zA<|zE O (fun c1=>?_) (fun c1=>?_)
 ·try simp only [sx] at c1
  exact absurd c1 (by decide+kernel)
 ·try simp only [sx] at c1
  refine zI<|zH<|yS 17 2 [⟨0,.q []⟩,⟨1,.q [3]⟩,⟨2,.q []⟩,⟨3,.q []⟩,⟨4,.q []⟩,⟨5,.q []⟩,⟨6,.q []⟩,⟨7,.q []⟩,⟨8,.q [2]⟩,⟨9,.q []⟩,⟨10,.q []⟩,⟨11,.q []⟩,⟨12,.q []⟩,⟨13,.q []⟩,⟨14,.f 1⟩,⟨15,.f 0⟩,⟨16,.g 1 []⟩] mixed uC uC O O O<|zQ O<|zQ O<|zQ O<|zQ O<|zQ O<|zQ O<|zQ O<|zQ O<|zQ O<|zQ O<|zQ O<|zQ O<|zQ O<|zQ O<|zHn O O (zAf (qG [none,none,none,none,none,some 4,none,none,none,none,none,none,none,none,none,none,some 2,some 4,some 13,some 20] O zr64 O)) ⟨_,_,0,O,O⟩<|zHn O O (zAf (qG [none,none,none,none,none,some 4,none,none,none,none,none,none,none,none,none,none,some 2,some 4,some 13,some 20] O zr64 O)) ⟨_,_,0,O,O⟩<|zQ O<|wS<|zX O uA O O (zF O zBt O)<|zX O uA O O (zK O zBg O (J 0 O) O)<|zX O uA O O (qN O L O O uA (zCq (x:=(pI ⟨sj,3⟩ [jU (xD 1) [] 1 jV])) O))<|zX O uA O O (qQ O zCy O)<|zX O uA O O (zK O zBg O qD O)<|zX O uA O O (qN O L O O uA (zCq (x:=(jU (xD 1) [] 1 jV)) O))<|zX O uA O O (qA O zLr O qD O)<|zX O uA O O (zF O zBt O)<|zX O uA O O (zK O zBg O (J 0 O) O)<|zX O uA O O (qN O L O O uA (zCq (x:=(pI ⟨sj,3⟩ [lIf (pF ⟨0,[⟨sj,1⟩]⟩) [jU (xD 4) [] 4 jV]])) O))<|zX O uA O O (qQ O zCy O)<|zX O uA O O (zK O zBg O qD O)<|zX O uA O O (qN O L O O uA (zCq (x:=(lIf (pF ⟨0,[⟨sj,1⟩]⟩) [jU (xD 4) [] 4 jV])) O))<|zX O uA O O (qA O zLr O qD O)<|zHc O O ?_
  rintro _ _ ⟨b3,rfl,rfl⟩
  refine zHc O O ?_
  rintro _ _ ⟨b4,rfl,rfl⟩
  refine sq_v0 O O uA O O O (yX O sz64 O O O (zDb 0 O O)) O<|wR O<|D 0 sz64 O<|zA<|Y O<|qJ O ok8 (show Pur cfg 8 [vS (bs [115]),vS (bs [106])] (vS sj) by have h:=zKx (bs [115]) (bs [106]) uA uA;rw [x_ln] at h;exact h) ⟨zB,O,zB,O,T⟩<|wD O<|G O<|rL0 O (fun g7_2=>zF O zAx O) O<|rL1 81 O (fun g7_2=>zK O zFg O (J 3 O) O) O<|rL1 82 O (fun g7_2=>qN O el39 O O uA (getm (x:=(⟨bs [97],xT,[3],1⟩:Bf)) O)) O<|rL1 83 O (fun g7_2=>qQ O zMw O) O<|rL1 84 O (fun g7_2=>zK O one3 O qD O) O<|rL1 85 O (fun g7_2=>yR O O O) O<|kB O (fun h=>h)<|G O<|rL0 O (fun g7_10=>zF O zAx O) O<|rL1 89 O (fun g7_10=>zK O zFg O (J 3 O) O) O<|rL1 90 O (fun g7_10=>qN O el39 O O uA (getm (x:=(⟨bs [115],xT,[],2⟩:Bf)) O)) O<|rL1 91 O (fun g7_10=>qQ O zMw O) O<|rL1 92 O (fun g7_10=>zK O one3 O qD O) O<|rL1 93 O (fun g7_10=>yR O O O) O<|kB O (fun h=>h)<|G O<|rL0 O (fun g7_18=>zF O zBt O) O<|rL1 97 O (fun g7_18=>zK O zBg O (J 3 O) O) O<|rL1 98 O (fun g7_18=>qN O L O O uA (zCq (x:=(nO (xD 1) [] (.mk 1 (bs []) ⟨0,1⟩ xT ⟨0,[]⟩ [] []))) O)) O<|rL1 99 O (fun g7_18=>qQ O zEn O) O<|rL1 100 O (fun g7_18=>qQ O wE O) O<|rL1 101 O (fun g7_18=>zK O one3 O qD O) O<|rL1 102 O (fun g7_18=>yR O O O) O<|kB O (fun h=>h)<|G O<|rL0 O (fun g7_27=>zF O zBt O) O<|rL1 106 O (fun g7_27=>zK O zBg O (J 2 O) O) O<|rL1 107 O (fun g7_27=>qN O L O O uA (zCq (x:=(nO (xD 4) [] (.mk 3 (bs [97]) ⟨0,0⟩ zTy ⟨0,[]⟩ [⟨⟨0,[]⟩,bs [],[]⟩] []))) O)) O<|rL1 108 O (fun g7_27=>qQ O zEn O) O<|rL1 109 O (fun g7_27=>qQ O wE O) O<|rL1 110 O (fun g7_27=>zK O one3 O qD O) O<|rL1 111 O (fun g7_27=>yR O O O) O<|kB O (fun h=>h)<|G O<|rL0 O (fun g7_36=>zF O zBt O) O<|rL1 115 O (fun g7_36=>zK O zBg O (J 3 O) O) O<|rL1 116 O (fun g7_36=>qN O L O O uA (zCq (x:=(pI ⟨sj,3⟩ [jU (xD 1) [] 1 jV])) O)) O<|rL1 117 O (fun g7_36=>qQ O zDg O) O<|rL1 118 O (fun g7_36=>zK O one9 O qD O) O<|rL1 119 O (fun g7_36=>zNd O O O) O<|kB O (fun h=>h)<|G O<|rL0 O (fun g7_44=>zF O zBt O) O<|rL1 123 O (fun g7_44=>zK O zBg O (J 3 O) O) O<|rL1 124 O (fun g7_44=>qN O L O O uA (zCq (x:=(pI ⟨sj,3⟩ [jU (xD 1) [] 1 jV])) O)) O<|rL1 125 O (fun g7_44=>qQ O zQa O) O<|rL1 126 O (fun g7_44=>zK O one3 O qD O) O<|rL1 127 O (fun g7_44=>yR O O O) O<|kB O (fun h=>h)<|G O<|rL0 O (fun g7_52=>zF O zDh O) O<|rL1 131 O (fun g7_52=>zK O one3 O (J 1 O) O) O<|rL1 132 O (fun g7_52=>yR O O O) O ?_
  refine kB O (fun h=>h)<|G O<|rL0 O (fun g7_57=>zF O zPz O) O<|rL1 136 O (fun g7_57=>zK O one3 O (J 1 O) O) O<|rL1 137 O (fun g7_57=>yR O O O) O<|kB O (fun h=>h)<|G O<|rL0 O (fun g7_62=>zF O zDh O) O<|rL1 141 O (fun g7_62=>zK O one3 O (J 0 O) O) O<|rL1 142 O (fun g7_62=>yR O O O) O<|kB O (fun h=>h)<|G O<|rL0 O (fun g7_67=>zF O zCy O) O<|rL1 146 O (fun g7_67=>zK O zBg O (J 0 O) O) O<|rL1 147 O (fun g7_67=>qT O L O) O<|rL1 148 O (fun g7_67=>yR O O O) O<|kB O (fun h=>h)<|G O<|rL0 O (fun g7_73=>zF O zCy O) O<|rL1 152 O (fun g7_73=>zK O zBg O (J 0 O) O) O<|rL1 153 O (fun g7_73=>qN O L O O uA (zCq (x:=(jU (xD 4) [] 4 jV)) O)) O<|rL1 154 O (fun g7_73=>qQ O zPz O) O<|rL1 155 O (fun g7_73=>zK O one3 O qD O) O<|rL1 156 O (fun g7_73=>yR O O O) O<|kB O (fun h=>h)<|G O<|zA<|zJ<|zT O ?_
  exact O
theorem law_LowerValid (p:Pg) (env:List Bd) (hp:p.Fit) (hF:p.Frm) (hR:p.Rng) (hl:env.length<=140737488355328) (her:∀x,x∈env->r64 x.Val):
    Pur cfg 6 [vPg p,jT env] (vB true):=by
 refine zV Tryz.func6 O Tryz.ntmps6 Tryz.results6 O ?_
 intro z hz
 refine Y O<|zY O O (qL O O) ?_
 rintro _ _ ⟨b1,rfl,rfl⟩
 refine G O<|zA<|zH<|Y O<|zM zEk (J 0 O) O<|qJ O ok10 (law20_Small p hp) ⟨zB,O,T⟩<|kZ O<|G O<|rL0 O (fun g1_3=>zP O O) O<|rL1 13 O (fun g1_3=>qT O el31 O) O<|rL1 14 O (fun g1_3=>yF O O O) O<|r_or O (fun h=>(lzf h))<|zA<|zE O (fun c1=>?_) (fun c1=>?_)
 ·refine Y O<|qJ O ok7 zGg T<|G O<|zA<|zJ<|zT O ?_
  exact O
 ·try simp only [sx] at c1
  obtain ⟨c1,c1b⟩:=c1
  have hS:=sml_is c1 hF
  have hq1:=hS.params
  have hq2:=hS.defs
  have hdR:∀d,d∈p.Defs->d.Body.allF Lf.rng:=fun d hd=>(hR.ds d hd).2.2
  refine zI<|Y O<|zM zEk (J 0 O) O<|G O<|qJ O ok14 (zOq p env zC her hS.ok hR hS) ⟨zB,O,zB,O,T⟩<|qU O<|zW O (qY O O O)<|yK O<|zY O O (qG [some 8,some 20] O zr41 O) ?_
  rintro _ _ ⟨b2,rfl,rfl⟩
  refine D 0 sz41 O<|G O<|zA<|zH<|Y O<|G O<|yN O<|zA<|zE O (fun c2=>?_) (fun c2=>?_)
  ·try simp only [sx] at c2
   rw [(low_valid (p:=p) (env:=env)).2 c2]
   refine Y O<|zD O zAx<|zG zFg (J 0 O) O<|qB O el39<|yJ O<|G O<|rL0 O (fun g5_4=>zF O zBt O) O<|rL1 31 O (fun g5_4=>zK O zBg O (J 0 O) O) O<|rL1 32 O (fun g5_4=>qT O L O) O<|rL1 33 O (fun g5_4=>yR O O O) O<|kB O (fun h=>h)<|G O<|rL0 O (fun g5_10=>qS O ok7 zGg T) O<|kB O (fun h=>h)<|G O<|zA<|zJ<|zT O ?_
   rfl
  ·try simp only [sx] at c2
   obtain ⟨hv1,hv2⟩:=(low_valid (p:=p) (env:=env)).1 c2
   have hok:=lowP_ok1 hS hdR c2
   refine zI<|Y O<|zM zBm (J 0 O) O<|qJ O ok17 (ref30_Validate (jJ p env).1 hok.1 hok.2) ⟨zB,O,T⟩<|qU O<|yK O<|yK O<|G O<|G O<|zA<|Y O<|G O<|yJ O<|G O<|rL0 O (fun g7_2=>zF O zAx O) O<|rL1 47 O (fun g7_2=>zK O zFg O (J 0 O) O) O<|rL1 48 O (fun g7_2=>qT O el39 O) O<|rL0 O (fun g7_2=>zF O zMy O) O<|rL1 50 O (fun g7_2=>zK O one27 O (J 1 O) O) O<|rL1 51 O (fun g7_2=>qT O el27 O) O<|rL0 O (fun g7_2=>zF O zEe O) O<|rL1 53 O (fun g7_2=>zK O zKr O (J 1 O) O) O<|rL1 54 O (fun g7_2=>qT O el28 O) O<|rLz [(52,_),(55,_)] O gv1 ⟨O,O,O,O,T⟩ (fun g7_2=>zFa O O O ⟨zC,zC⟩) O<|rLz [(49,_),(56,_)] O gv1 ⟨O,O,O,O,T⟩ (fun g7_2=>yR O O O) O<|kB O (fun h=>h)<|G O<|rL0 O (fun g7_15=>qS O ok7 zGg T) O<|kB O (fun h=>h)<|G O<|zA<|zJ<|zT O ?_
   exact congrArg vB (by rw [hv1,hv2];simp)
end Go.W
