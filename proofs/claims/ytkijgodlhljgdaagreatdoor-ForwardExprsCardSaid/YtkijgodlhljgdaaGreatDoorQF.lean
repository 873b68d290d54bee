/-
  Walks: what functions of the program compute. Printed by wip/gen/mk2.py.
  Conditions: none.
-/
import Derived.Test.YtkijgodlhljgdaaGreatDoorQE
import Derived.Test.YtkijgodlhljgdaaGreatDoorWU
set_option linter.unusedSimpArgs false
set_option linter.unusedVariables false
set_option maxRecDepth 10000
namespace Go.W
open Go Go.Eng Go.Proofs Go.L41 Go.Br
attribute [local irreducible] AWP RWP TD finQ
def tX:Ex:=.mk 3 (dNm (bs [97])) ⟨0,0⟩ ⟨0,0,0,0,0⟩ ⟨0,[]⟩ [⟨vrN 105,bs [],[]⟩] []
def sqX:Ex:=opE 4 [opE 6 [tX,sqA],opE 6 [sqA,tX]]
def dA:Pm:=⟨dNm (bs [97]),frT,[vrN 110]⟩
def dS:Df:=⟨dNm (bs [115]),frT,[],[⟨bs [105],vrN 110⟩],1,sqX⟩
def d0:Df:=⟨bs [115],frT,[],[⟨bs [105],vrN 110⟩],1,sqB⟩
def sqR:Pg:=⟨[bs [110]],[],[⟨bs [97],frT,[vrN 110]⟩,dA],[d0,dS],[bs [115],dNm (bs [115])]⟩
theorem sq_idx:indexT sqB=[bs [105]]:=by
  unfold indexT
  rw [show namesA (nodes sqB)=[bs [105],bs [105]] by decide+kernel,show sortB [bs [105],bs [105]]=[bs [105],bs [105]] by unfold sortB ofB;simp only [List.map_cons,List.map_nil];rw [List.mergeSort_of_pairwise (by simp)];rfl]
  decide+kernel
theorem sq_expr:exprF sqP.en [bs [97]] sqB=(sqX,0):=by unfold exprF;rw [sq_idx];decide+kernel
theorem sq_der:derF sqP.en d0 [bs [97]]=(dS,true,0):=by
  have h:=derF_5 (n:=sqP.en) (A:=[bs [97]]) (d:=d0) (X:=(sqX,0)) (by decide+kernel) (by decide+kernel) (by decide+kernel) sq_expr rfl
  rw [show dDf d0 (sqX,(0:Int)).1=dS by decide+kernel] at h
  exact h
theorem sq_prog:progF sqP [bs [97]]=(sqR,0):=by
  have hR:defG sqP.en [] [bs [97]] sqP.Defs=([d0,dS],[bs [97],bs [115]],0):=by
    show defG sqP.en [] [bs [97]] [d0]=_
    rw [defG,sq_der,if_pos rfl,if_pos rfl,defG];rfl
  exact progF_5 (by decide+kernel) (by decide+kernel) hR O (by decide+kernel)
theorem sq_sm:sqP.Sm:=⟨by decide,by decide,by decide,by decide,by decide,⟨(fun c hc=>by cases hc),(by decide+kernel),(by decide+kernel)⟩,(by decide+kernel),(by decide+kernel)⟩
theorem ok7:callOk Tryz.prog 7=true:=by kernel_rfl
theorem ok9:callOk Tryz.prog 9=true:=by kernel_rfl
theorem ok10:callOk Tryz.prog 10=true:=by kernel_rfl
theorem ok15:callOk Tryz.prog 15=true:=by kernel_rfl
theorem ok26:callOk Tryz.prog 26=true:=by kernel_rfl
theorem law20_Small (p:Pg) (hf:p.Fit):
    Pur cfg 7 [vPg p] (vB (smlP p)):=by
 refine zT Tryz.func7 O Tryz.ntmps7 Tryz.results7 O ?_
 intro z hz
 have hN:smD p.Defs 0=smD p.Defs 0:=rfl
 generalize hN0:smD p.Defs 0=N at hN
 have f1:=hf.sizes
 have f2:=hf.wh
 have f3:=hf.params
 have f4:=hf.defs
 have f5:=hf.outs
 refine B O<|zV O O (qI O O) ?_
 rintro _ _ ⟨b1,rfl,rfl⟩
 refine F O<|H<|W<|B O<|zH O zAx<|zL zFl (K 0 O) O<|zZ O el24<|zX O (yM O O O)<|F O<|w O (fun g1_4=>zE O kW O) O<|R 11 O (fun g1_4=>zG O zBp O (K 0 O) O) O<|R 12 O (fun g1_4=>qZ O el25 O) O<|R 13 O (fun g1_4=>yM O O O) O<|r_or O (fun h=>(lzf h))<|F O<|w O (fun g1_10=>zE O zHi O) O<|R 17 O (fun g1_10=>zG O zDv O (K 0 O) O) O<|R 18 O (fun g1_10=>qZ O el22 O) O<|R 19 O (fun g1_10=>yM O O O) O<|r_or O (fun h=>(lzf h))<|F O<|w O (fun g1_16=>zE O zLe O) O<|R 23 O (fun g1_16=>zG O zDv O (K 0 O) O) O<|R 24 O (fun g1_16=>qZ O el22 O) O<|R 25 O (fun g1_16=>yM O O O) O<|r_or O (fun h=>(lzf h))<|F O<|w O (fun g1_22=>zE O zIy O) O<|R 29 O (fun g1_22=>zG O one23 O (K 0 O) O) O<|R 30 O (fun g1_22=>qZ O el23 O) O<|R 31 O (fun g1_22=>yM O O O) O<|r_or O (fun h=>(lzf h))<|H<|g O (fun c1=>?_) (fun c1=>?_)
 ·try simp only [I] at c1
  refine B O<|F O<|H<|U<|M O ?_
  rw [show smlP p=false by unfold smlP lensP;simp only [Bool.and_eq_false_iff,Bool.not_eq_false',decide_eq_true_eq,decide_eq_false_iff_not];omega]
 ·try simp only [I] at c1
  refine zJ<|B O<|F O<|H<|W<|B O<|F O<|H<|zP<|zW ⟨[(4,.c _),(3,.c _),(1,.c _)],[_]⟩ (Weak.mk [true] ⟨G,G,G,T⟩ O)<|qJ 2 0 O O (Nat×Nat) (fun ⟨k,n⟩=>[(4,vI k),(3,vI n)]) (fun ⟨k,n⟩=>[]) (fun ⟨k,n⟩=>k<=p.Defs.length/\(N=smD (p.Defs.drop k) n)) (fun ⟨k,n⟩=>p.Defs.length-k) ⟨⟨0,0⟩,⟨by omega,hN0.symm⟩,Weak.mk [true] ⟨G,G,G,T⟩ O⟩ ?_
  rintro ⟨k,n⟩ ⟨hk,hq⟩
  show AWP _ _ _ _ _ ⟨[(4,vI k),(3,vI n)]++_,[]++_⟩
  refine W<|B O<|F O<|zH O kW<|zL zBp (K 0 O) O<|zZ O el25<|yD O<|F O<|w O (fun g5_5=>zQ O O) O<|R 40 O (fun g5_5=>kS O O O) O<|yY O (fun h=>h)<|H<|g O (fun c2=>?_) (fun c2=>?_)
  ·try simp only [I] at c2
   obtain ⟨d,hd⟩:=qQ p.Defs k (by omega)
   obtain ⟨e1,e2,_,_,e5⟩:=hf.ds d (qD hd)
   have e6:=zMg d.Body 1500 e5
   refine zJ<|W<|zP<|W<|qP 18 mixed (by kernel_rfl) O O<|Y O O (zQ O O)<|Y O O (zE O kW O)<|Y O O (zG O zBp O (K 0 O) O)<|Y O O (zQ O O)<|Y O O (qA O el25 O O (by omega) (X hd))<|Y O O (qM O zDe O)<|Y O O (zG O zBm O qB O)<|Y O O (qZ O el57 O)<|Y O O (zE O kW O)<|Y O O (zG O zBp O (K 0 O) O)<|Y O O (zQ O O)<|Y O O (qA O el25 O O (by omega) (X hd))<|Y O O (qM O zCf O)<|Y O O (zG O zBm O qB O)<|Y O O (qZ O el57 O)<|Y O O (zEj O O O ⟨by omega,by omega⟩)<|Y O O (zEj O O O ⟨by omega,by omega⟩)<|Y O O (yW O O)<|yK<|H<|zU O<|F O<|zH O kW<|zL zBp (K 0 O) O<|F O<|qH O el25 (by omega) (X hd)<|zX O (qM O zFg O)<|zK Q qB O<|qK O ok8 (base_Weigh d.Body 1500 1500 (hf.ds d (qD hd)).2.2.2.2 (by decide) O) ⟨G,O,G,O,T⟩<|qL O ⟨by omega,by omega⟩<|F O<|H<|zU O<|F O<|qL O ⟨by omega,by omega⟩<|F O<|H ?_
   refine ⟨⟨k+1,n+dWt d⟩,⟨by omega,smD_next hd hq (by omega)⟩,(by show p.Defs.length-(k+1)<p.Defs.length-k;omega),Weak.mk [true] ⟨G,VLe.of_eq ((congrArg vI (by unfold dWt;omega))),G,T⟩ O⟩
  ·try simp only [I] at c2
   have hn:=smD_end hq (by omega)
   refine qN<|W<|B O<|F O<|H<|zP<|zW ⟨[(5,.c _),(3,.c _),(1,.c _)],[_]⟩ (Weak.mk [true] ⟨G,G,G,T⟩ O)<|qJ 2 0 O O (Nat×Nat) (fun ⟨j,m⟩=>[(5,vI j),(3,vI m)]) (fun ⟨j,m⟩=>[]) (fun ⟨j,m⟩=>j<=p.Params.length/\(smP p.Params n=smP (p.Params.drop j) m)) (fun ⟨j,m⟩=>p.Params.length-j) ⟨⟨0,n⟩,⟨by omega,O⟩,Weak.mk [true] ⟨G,G,G,T⟩ O⟩ ?_
   rintro ⟨j,m⟩ ⟨hj,hr⟩
   show AWP _ _ _ _ _ ⟨[(5,vI j),(3,vI m)]++_,[]++_⟩
   refine W<|B O<|F O<|zH O zAx<|zL zFl (K 0 O) O<|zZ O el24<|yD O<|F O<|w O (fun g10_5=>zQ O O) O<|R 77 O (fun g10_5=>kS O O O) O<|yY O (fun h=>h)<|H<|g O (fun c3=>?_) (fun c3=>?_)
   ·try simp only [I] at c3
    obtain ⟨y,hy⟩:=qQ p.Params j (by omega)
    have e1:=(hf.ps y (qD hy)).1
    refine zJ<|W<|zP<|zU O<|F O<|zH O zAx<|zL zFl (K 0 O) O<|F O<|qH O el24 (by omega) (X hy)<|zX O (qM O zHf O)<|zL zBf qB O<|zZ O t<|qL O ⟨by omega,by omega⟩<|F O<|H<|zU O<|F O<|qL O ⟨by omega,by omega⟩<|F O<|H ?_
    refine ⟨⟨j+1,m+y.Dims.length⟩,⟨by omega,smP_next hy hr (by omega)⟩,(by show p.Params.length-(j+1)<p.Params.length-j;omega),Weak.mk [true] ⟨G,VLe.of_eq ((congrArg vI (by omega))),G,T⟩ O⟩
   ·try simp only [I] at c3
    have hm:=smP_end hr (by omega)
    refine qN<|B O<|F O<|zX O (kS O O O)<|F O<|H<|U<|M O ?_
    rw [show smlP p=decide (m<=1500) by unfold smlP;rw [show lensP p=true by unfold lensP;simp only [Bool.and_eq_true,Bool.not_eq_true',decide_eq_false_iff_not];omega,hN0,hn,hm,Bool.true_and]]
    exact congrArg vB (decide_eq_decide.2 (by omega))
theorem law26_few (l:List ByteArray) (hl:l.length<=140737488355328):
    Pur cfg 9 [vSs l] (vB (fewN l)):=by
 refine zT Tryz.func9 O Tryz.ntmps9 Tryz.results9 O ?_
 intro z hz
 refine B O<|F O<|H<|W<|B O<|F O<|zZ O el22<|zX O (yM O O O)<|H<|g O (fun c1=>?_) (fun c1=>?_)
 ·try simp only [I] at c1
  refine B O<|F O<|H<|U<|M O ?_
  rw [show fewN l=false by unfold fewN;rw [decide_eq_true (show 40<l.length by omega)];rfl]
 ·try simp only [I] at c1
  refine zJ<|W<|B O<|F O<|H<|zP<|zW ⟨[(3,.c _),(0,.c _)],[]⟩ (Weak.mk [] ⟨G,G,T⟩ O)<|qJ 1 0 O O (Nat) (fun k=>[(3,vI k)]) (fun k=>[]) (fun k=>k<=l.length/\((l.take k).all (fun s=>decide (s.size<=100))=true)) (fun k=>l.length-k) ⟨0,⟨by omega,O⟩,Weak.mk [] ⟨G,G,T⟩ O⟩ ?_
  rintro k ⟨hk,hp⟩
  refine W<|B O<|F O<|F O<|zZ O el22<|yD O<|H<|g O (fun c2=>?_) (fun c2=>?_)
  ·try simp only [I] at c2
   obtain ⟨x,hx⟩:=qQ l k (by omega)
   refine zJ<|W<|zP<|B O<|F O<|F O<|qH O el22 (by omega) (X hx)<|zL i qB O<|zX O (wX O un9 O)<|zX O (yM O O O)<|H<|g O (fun c3=>?_) (fun c3=>?_)
   ·try simp only [I] at c3
    refine B O<|F O<|H<|U<|M O ?_
    rw [show fewN l=false by unfold fewN;rw [List.all_eq_false.2 ⟨_,qD hx,by simp;omega⟩,Bool.and_false]]
   ·try simp only [I] at c3
    refine zJ<|zU O<|F O<|qL O ⟨by omega,by omega⟩<|F O<|H ?_
    refine ⟨k+1,⟨by omega,(by rw [qS hx,List.all_append,hp];simp;omega)⟩,(by omega),Weak.mk [] ⟨G,G,T⟩ O⟩
  ·try simp only [I] at c2
   refine qN<|B O<|F O<|H<|U<|M O ?_
   rw [qW (l:=l) (k:=k) (by omega)] at hp
   rw [show fewN l=true by unfold fewN;rw [hp,decide_eq_false (show ¬40<l.length by omega)];rfl]
theorem law26_squares  :
    Pur cfg 26 [] (vPg sqP):=by
 refine zT Tryz.func26 O Tryz.ntmps26 Tryz.results26 O ?_
 intro z hz
 refine B O<|zV O O (qG [some 1,some 3,some 7,some 22,some 1] O zr27 O) ?_
 rintro _ _ ⟨b1,rfl,rfl⟩
 refine H<|B O<|yV O zr31 pl31<|zV O O (qX O zr31) ?_
 rintro _ _ ⟨b2,rfl,rfl⟩
 refine N 0 sz31 O<|H<|B O<|qK O ok64 (zFj (bs [110])) ⟨G,O,T⟩<|zV O O (qG [none,some 2] O zr34 O) ?_
 rintro _ _ ⟨b3,rfl,rfl⟩
 refine N 0 sz34 O<|H<|B O<|qK O ok64 (zFj (bs [105])) ⟨G,O,T⟩<|zX O (yA [none,none,none,some 2] O zr67 pl67 O O)<|yB O s zr67<|zX O (yA [none,none,none,none,none,none,none,none,none,none,some 2,none,some 13] O u pl38 O O)<|zV O O (qG [none,none,none,none,none,none,none,none,none,none,some 2,some 4,some 13] O u O) ?_
 rintro _ _ ⟨b4,rfl,rfl⟩
 refine N 0 D O<|H<|B O<|yB O el22 zr9<|zK yC (K 2 O) O<|zK kQ (K 1 O) O<|yB O t zr34<|yV O zr65 pl65<|yB O el24 zr65<|zK yC (K 2 O) O<|zK kQ (K 1 O) O<|yV O zr105 pl105<|yB O el57 zr105<|zK Q (K 0 O) O<|zK Q (K 0 O) O<|yB O A u<|zX O (yA [none,none,none,none,none,none,none,none,none,none,some 2,some 4,none] O u pl38 O O)<|zX O (yA [none,none,none,none,none,none,some 3,none,none,none,none,none,none,none,none,none,none,none,none,none,none,none] O zr59 pl59 O O)<|yB O el25 zr59<|yB O el22 zr9<|zX O (yA [none,some 3,none,none,none] O zr27 pl27 O O)<|N 3 sz27 O<|H<|U<|j (zR kK O (K 3 O) O) ?_
 exact O
theorem zHd  :
    Pur cfg 10 [] (vB true):=by
 refine zT Tryz.func10 O Tryz.ntmps10 Tryz.results10 O ?_
 intro z hz
 refine B O<|F O<|H<|B O<|qK O ok26 law26_squares T<|zV O O (qG [some 1,some 3,some 7,some 22,some 1] O zr27 O) ?_
 rintro _ _ ⟨b1,rfl,rfl⟩
 refine N 0 sz27 O<|H<|B O<|zK kK (K 0 O) O<|yB O el22 zr9<|qK O ok15 (show Pur cfg 15 [vPg sqP,vSs [bs [97]]] (.tup [vPg sqR,vI 0]) by have h:=fwd_Prog sqP sq_sm [bs [97]] (by decide) (by decide+kernel);rw [sq_prog] at h;exact h) ⟨G,O,G,O,T⟩<|zX O (qU O O)<|zX O (yI O O O)<|zX O (yO O O O)<|zV O O (qG [some 1,some 3,some 7,some 22,some 1] O zr27 O) ?_
 rintro _ _ ⟨b2,rfl,rfl⟩
 refine N 0 sz27 O<|F O<|H<|W<|B O<|F O<|yU O<|F O<|w O (fun g3_2=>zE O zAx O) O<|R 16 O (fun g3_2=>zG O zFl O (K 0 O) O) O<|R 17 O (fun g3_2=>qZ O el24 O) O<|R 18 O (fun g3_2=>zAf O O O) O<|r_or O (fun h=>(lzf h))<|F O<|w O (fun g3_8=>zE O kW O) O<|R 22 O (fun g3_8=>zG O zBp O (K 0 O) O) O<|R 23 O (fun g3_8=>qZ O el25 O) O<|R 24 O (fun g3_8=>zAf O O O) O<|r_or O (fun h=>(lzf h))<|F O<|w O (fun g3_14=>zE O zHi O) O<|R 28 O (fun g3_14=>zG O zDv O (K 0 O) O) O<|w O (fun g3_14=>qY O el22 zr9 O O O O) O<|rLz [(29,_),(30,_)] O J ⟨O,O,O,O,T⟩ (fun g3_14=>qF O ok19 (base_Strings [bs [115],dNm (bs [115])] [bs [115],dNm (bs [115])] (by decide)) ⟨G,O,G,O,T⟩) O<|R 31 O (fun g3_14=>wO O O) O<|r_or O (fun h=>(lzf h))<|H<|g O (fun c1=>?_) (fun c1=>?_)
 ·try simp only [I] at c1
  exact absurd c1 (by decide+kernel)
 ·try simp only [I] at c1
  refine zJ<|W<|yF 13 1 [⟨0,.q [2]⟩,⟨1,.q []⟩,⟨2,.q [2]⟩,⟨3,.q []⟩,⟨4,.q []⟩,⟨5,.q []⟩,⟨6,.q []⟩,⟨7,.q []⟩,⟨8,.q []⟩,⟨9,.q []⟩,⟨10,.q []⟩,⟨11,.e 0 []⟩,⟨12,.e 0 []⟩] mixed (by kernel_rfl) (by kernel_rfl) O O O<|L O<|L O<|L O<|L O<|L O<|L O<|L O<|L O<|L O<|L O<|L O<|L O<|L O<|wM<|v O (by decide) O O (zM O kK O (K 0 O) O)<|v O (by decide) O O (zE O kW O)<|v O (by decide) O O (zG O zBp O (K 0 O) O)<|v O (by decide) O O (qA O el25 O O (by decide) (X (x:=d0) O))<|v O (by decide) O O (qM O zFg O)<|v O (by decide) O O (zM O Q O qB O)<|v O (by decide) O O (qY O el22 zr9 O O O O)<|v O (by decide) O O (qF O ok11 (show Pur cfg 11 [vPg sqP,vE sqB,vSs [bs [97]]] (.tup [vE sqX,vI 0]) by have h:=fwd_Expr sqP sq_sm.ok [bs [97]] (by decide) (by decide+kernel) sqB (by decide+kernel);rw [sq_expr] at h;exact h) ⟨G,O,G,O,G,O,T⟩)<|v O (by decide) O O (qU O O)<|v O (by decide) O O (yI O O O)<|v O (by decide) O O (yO O O O)<|sq_op O O (by decide) O O (qG [none,none,none,none,none,none,none,none,none,none,some 2,some 4,some 13] O u O) ?_
  rintro _ _ ⟨b3,rfl,rfl⟩
  refine ⟨_,O,?_⟩
  refine zIm O O (by decide) O O (kX O D O O O (zDz 0 O O)) ?_
  rintro _ _ ⟨rfl,rfl⟩
  refine ⟨_,O,?_⟩
  refine wL O<|F O<|H<|W<|qP 41 mixed (by kernel_rfl) O O<|Y O O (zQ O O)<|Y O O (yG O O O)<|Y O O (zQ O O)<|f [] O O O O J T (fun g6_2=>zE O zAx O) O<|f [(48,_)] O O O O J ⟨O,O,T⟩ (fun g6_2=>zG O zFl O (K 1 O) O) O<|f [(49,_)] O O O O J ⟨O,O,T⟩ (fun g6_2=>qA O el24 O O (by decide) (X (x:=dA) O)) O<|f [(50,_)] O O O O J ⟨O,O,T⟩ (fun g6_2=>qM O fd65_0 O) O<|f [(51,_)] O O O O J ⟨O,O,T⟩ (fun g6_2=>zG O i O qB O) O<|f [(52,_)] O O O O J ⟨O,O,T⟩ (fun g6_2=>yL O O O) O<|Y O O (kI O O O (fun h=>h) O)<|Y O O (zQ O O)<|f [] O O O O J T (fun g6_10=>zE O kW O) O<|f [(56,_)] O O O O J ⟨O,O,T⟩ (fun g6_10=>zG O zBp O (K 1 O) O) O<|f [(57,_)] O O O O J ⟨O,O,T⟩ (fun g6_10=>qA O el25 O O (by decide) (X (x:=dS) O)) O<|f [(58,_)] O O O O J ⟨O,O,T⟩ (fun g6_10=>qM O zOc O) O<|f [(59,_)] O O O O J ⟨O,O,T⟩ (fun g6_10=>zG O i O qB O) O<|f [(60,_)] O O O O J ⟨O,O,T⟩ (fun g6_10=>yL O O O) O<|Y O O (kI O O O (fun h=>h) O)<|Y O O (zQ O O)<|f [] O O O O J T (fun g6_18=>zE O kW O) O<|f [(64,_)] O O O O J ⟨O,O,T⟩ (fun g6_18=>zG O zBp O (K 1 O) O) O<|f [(65,_)] O O O O J ⟨O,O,T⟩ (fun g6_18=>qA O el25 O O (by decide) (X (x:=dS) O)) O<|f [(66,_)] O O O O J ⟨O,O,T⟩ (fun g6_18=>qM O fd59_4 O) O<|f [(67,_)] O O O O J ⟨O,O,T⟩ (fun g6_18=>zG O P O qB O) O<|f [(68,_)] O O O O J ⟨O,O,T⟩ (fun g6_18=>yG O O O) O<|Y O O (kI O O O (fun h=>h) O)<|Y O O (zQ O O)<|f [] O O O O J T (fun g6_26=>zE O yQ O) O<|f [(72,_)] O O O O J ⟨O,O,T⟩ (fun g6_26=>zG O P O (K 0 O) O) O<|f [(73,_)] O O O O J ⟨O,O,T⟩ (fun g6_26=>yG O O O) O<|Y O O (kI O O O (fun h=>h) O)<|Y O O (zQ O O)<|f [] O O O O J T (fun g6_31=>zM O Q O (K 0 O) O) O<|f [] O O O O J T (fun g6_31=>zE O kW O) O<|f [(78,_)] O O O O J ⟨O,O,T⟩ (fun g6_31=>zG O zBp O (K 1 O) O) O<|f [(79,_)] O O O O J ⟨O,O,T⟩ (fun g6_31=>qA O el25 O O (by decide) (X (x:=dS) O)) O<|f [(80,_)] O O O O J ⟨O,O,T⟩ (fun g6_31=>qM O zFg O) O<|f [(81,_)] O O O O J ⟨O,O,T⟩ (fun g6_31=>zM O Q O qB O) O<|f [(77,_),(82,_)] O O O O J ⟨O,O,O,O,T⟩ (fun g6_31=>qF O ok13 (zOv sqX sqX (by decide+kernel)) ⟨G,O,G,O,T⟩) O<|Y O O (kI O O O (fun h=>h) O)<|Y O O (yW O O)<|yK<|H<|U<|M O ?_
  exact O
theorem law_ForwardExprs (p:Pg) (e:Ex) (o_:List ByteArray) (hlo:o_.length<=140737488355328) (hp:p.Fit) (hF:p.Frm) (he:e.fit):
    Pur cfg 3 [vPg p,vE e,vSs o_] (vB true):=by
 refine zT Tryz.func3 O Tryz.ntmps3 Tryz.results3 O ?_
 intro z hz
 refine B O<|zV O O (qI O O) ?_
 rintro _ _ ⟨b1,rfl,rfl⟩
 refine zV O O (qI O O) ?_
 rintro _ _ ⟨b2,rfl,rfl⟩
 refine F O<|H<|W<|B O<|zK kK (K 1 O) O<|qK O ok7 (law20_Small p hp) ⟨G,O,T⟩<|wP O<|F O<|w O (fun g1_3=>zM O Q O (K 0 O) O) O<|R 15 O (fun g1_3=>qF O ok8 (base_Weigh e 200 200 he (by decide) O) ⟨G,O,G,O,T⟩) O<|R 16 O (fun g1_3=>yM O O O) O<|r_or O (fun h=>(lzf h))<|F O<|w O (fun g1_8=>zQ O O) O<|R 20 O (fun g1_8=>qF O ok9 (law26_few o_ hlo) ⟨G,O,T⟩) O<|R 21 O (fun g1_8=>wO O O) O<|r_or O (fun h=>(lzf h))<|H<|g O (fun c1=>?_) (fun c1=>?_)
 ·try simp only [I] at c1
  refine B O<|qK O ok10 zHd T<|F O<|H<|U<|M O ?_
  exact O
 ·try simp only [I] at c1
  obtain ⟨⟨c1a,c1w⟩,c1b⟩:=c1
  have c1:smlP p=true/\fewN o_=true:=⟨c1a,c1b⟩
  have hw:e.wt<=1500:=by have:=zMf e 200 (by omega);omega
  have hS:=sml_is c1.1 hF
  obtain ⟨ho,hs⟩:=few_is c1.2
  have hso:∀s,s∈o_->s.size<=1000000:=fun s h=>Nat.le_trans (hs s h) (by decide)
  have hx:(exprF p.en o_ e).1.wt<=6000000000000:=by have:=expr_wt p.en o_ e;have:=sq_bd hw;omega
  obtain ⟨s0,hs0,hs1⟩:∃s:ByteArray,(0<o_.length->o_[0]? =some s)/\s.size<=1000000:=by cases o_ with|nil=>exact ⟨bs [],(fun h=>absurd h (by decide)),by decide⟩|cons a r=>exact ⟨a,fun _=>rfl,hso a (by simp)⟩
  refine zJ<|B O<|zK kK (K 1 O) O<|zK Q (K 0 O) O<|F O<|qK O ok11 (fwd_Expr p hS.ok o_ (by omega) hso e hw) ⟨G,O,G,O,G,O,T⟩<|zX O (qU O O)<|zX O (yI O O O)<|zX O (yO O O O)<|zV O O (qG [none,none,none,none,none,none,none,none,none,none,some 2,some 4,some 13] O u O) ?_
  rintro _ _ ⟨b3,rfl,rfl⟩
  refine N 0 D O<|F O<|H<|B O<|zK kK (K 2 O) O<|zK Q (K 1 O) O<|F O<|qK O ok12 (r26_Expr p hS.ok o_ (by omega) hso e hw) ⟨G,O,G,O,G,O,T⟩<|zX O (qU O O)<|zX O (yI O O O)<|zX O (yO O O O)<|zV O O (qG [none,none,none,none,none,none,none,none,none,none,some 2,some 4,some 13] O u O) ?_
  rintro _ _ ⟨b4,rfl,rfl⟩
  refine N 0 D O<|F O<|H<|W<|qP 28 mixed (by kernel_rfl) O O<|Y O O (zM O Q O (K 1 O) O)<|Y O O (zM O Q O (K 0 O) O)<|Y O O (qF O ok13 (zOv (exprF p.en o_ e).1 (exprF p.en o_ e).1 hx) ⟨G,O,G,O,T⟩)<|Y O O (zQ O O)<|f [] O O O O J T (fun g5_3=>zQ O O) O<|f [] O O O O J T (fun g5_3=>zQ O O) O<|f [(43,_),(44,_)] O O O O J ⟨O,O,O,O,T⟩ (fun g5_3=>yG O O O) O<|Y O O (kI O O O (fun h=>h) O)<|Y O O (zQ O O)<|f [] O O O O J T (fun g5_8=>zQ O O) O<|f [(48,_)] O O O O J ⟨O,O,T⟩ (fun g5_8=>qZ O el22 O) O<|f [(49,_)] O O O O J ⟨O,O,T⟩ (fun g5_8=>yG O O O) O<|f [(50,_)] O O O O J ⟨O,O,T⟩ (fun g5_8=>zQ O O) O<|f [] O O O O d T (fun g5_12=>zQ O O) O<|f [(52,_)] O O O O d ⟨O,O,T⟩ (fun g5_12=>qA O el22 O O (by simp only [Lz,cond_true,cond_false,Bool.and_eq_true,Bool.or_eq_true,Bool.not_eq_true',Bool.not_eq_false',Bool.or_eq_false_iff,Bool.and_eq_false_iff,decide_eq_true_eq,decide_eq_false_iff_not,Bool.not_eq_true,Bool.not_eq_false] at g5_12;omega) (X (hs0 (by simp only [Lz,cond_true,cond_false,Bool.and_eq_true,Bool.or_eq_true,Bool.not_eq_true',Bool.not_eq_false',Bool.or_eq_false_iff,Bool.and_eq_false_iff,decide_eq_true_eq,decide_eq_false_iff_not,Bool.not_eq_true,Bool.not_eq_false] at g5_12;omega)))) O<|f [(53,_)] O O O O d ⟨O,O,T⟩ (fun g5_12=>zG O i O qB O) O<|f [(54,_)] O O O O d ⟨O,O,T⟩ (fun g5_12=>qF O ok14 (zAa s0 hs1) ⟨G,O,T⟩) O<|f [] O O O O d T (fun g5_12=>zQ O O) O<|f [(56,_)] O O O O d ⟨O,O,T⟩ (fun g5_12=>qA O el22 O O (by simp only [Lz,cond_true,cond_false,Bool.and_eq_true,Bool.or_eq_true,Bool.not_eq_true',Bool.not_eq_false',Bool.or_eq_false_iff,Bool.and_eq_false_iff,decide_eq_true_eq,decide_eq_false_iff_not,Bool.not_eq_true,Bool.not_eq_false] at g5_12;omega) (X (hs0 (by simp only [Lz,cond_true,cond_false,Bool.and_eq_true,Bool.or_eq_true,Bool.not_eq_true',Bool.not_eq_false',Bool.or_eq_false_iff,Bool.and_eq_false_iff,decide_eq_true_eq,decide_eq_false_iff_not,Bool.not_eq_true,Bool.not_eq_false] at g5_12;omega)))) O<|f [(57,_)] O O O O d ⟨O,O,T⟩ (fun g5_12=>zG O i O qB O) O<|f [(58,_)] O O O O d ⟨O,O,T⟩ (fun g5_12=>det_sadd O O O (by have h2:(⟨#[100,95]⟩:ByteArray).size=2:=rfl;omega)) O<|f [(55,_),(59,_)] O O O O d ⟨O,O,O,O,T⟩ (fun g5_12=>yL O O O) O<|f [(51,_)] O O O O J ⟨O,O,T⟩ (fun g5_8=>zBs O O O O (fun h=>kB (by assumption) (lzf h))) O<|Y O O (kI O O O (fun h=>h) O)<|Y O O (zQ O O)<|f [] O O O O J T (fun g5_24=>qF O ok10 zHd T) O<|Y O O (kI O O O (fun h=>h) O)<|Y O O (yW O O)<|yK<|H<|U<|M O ?_
  exact congrArg vB (by simp;exact .inr rfl)
end Go.W
