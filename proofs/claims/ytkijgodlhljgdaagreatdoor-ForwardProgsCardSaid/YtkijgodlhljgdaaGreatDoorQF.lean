/-
  Walks: what functions of the program compute. Printed by wip/gen/mk2.py.
  Conditions: none.
-/
import Derived.Test.YtkijgodlhljgdaaGreatDoorQE
import Derived.Test.YtkijgodlhljgdaaGreatDoorWU
set_option linter.unusedSimpArgs false
set_option linter.unusedVariables false
set_option maxRecDepth 10000
namespace Go.W
open Go Go.Eng Go.Proofs Go.L41 Go.Br
attribute [local irreducible] AWP RWP TD finQ
def tX:Ex:=.mk 3 (dNm (bs [97])) ⟨0,0⟩ ⟨0,0,0,0,0⟩ ⟨0,[]⟩ [⟨vrN 105,bs [],[]⟩] []
def sqX:Ex:=opE 4 [opE 6 [tX,sqA],opE 6 [sqA,tX]]
def dA:Pm:=⟨dNm (bs [97]),frT,[vrN 110]⟩
def dS:Df:=⟨dNm (bs [115]),frT,[],[⟨bs [105],vrN 110⟩],1,sqX⟩
def d0:Df:=⟨bs [115],frT,[],[⟨bs [105],vrN 110⟩],1,sqB⟩
def sqR:Pg:=⟨[bs [110]],[],[⟨bs [97],frT,[vrN 110]⟩,dA],[d0,dS],[bs [115],dNm (bs [115])]⟩
theorem sq_idx:indexT sqB=[bs [105]]:=by
  unfold indexT
  rw [show namesA (nodes sqB)=[bs [105],bs [105]] by decide+kernel,show sortB [bs [105],bs [105]]=[bs [105],bs [105]] by unfold sortB ofB;simp only [List.map_cons,List.map_nil];rw [List.mergeSort_of_pairwise (by simp)];rfl]
  decide+kernel
theorem sq_expr:exprF sqP.en [bs [97]] sqB=(sqX,0):=by unfold exprF;rw [sq_idx];decide+kernel
theorem sq_der:derF sqP.en d0 [bs [97]]=(dS,true,0):=by
  have h:=derF_5 (n:=sqP.en) (A:=[bs [97]]) (d:=d0) (X:=(sqX,0)) (by decide+kernel) (by decide+kernel) (by decide+kernel) sq_expr rfl
  rw [show dDf d0 (sqX,(0:Int)).1=dS by decide+kernel] at h
  exact h
theorem sq_prog:progF sqP [bs [97]]=(sqR,0):=by
  have hR:defG sqP.en [] [bs [97]] sqP.Defs=([d0,dS],[bs [97],bs [115]],0):=by
    show defG sqP.en [] [bs [97]] [d0]=_
    rw [defG,sq_der,if_pos rfl,if_pos rfl,defG];rfl
  exact progF_5 (by decide+kernel) (by decide+kernel) hR O (by decide+kernel)
theorem sq_sm:sqP.Sm:=⟨by decide,by decide,by decide,by decide,by decide,⟨(fun c hc=>by cases hc),(by decide+kernel),(by decide+kernel)⟩,(by decide+kernel),(by decide+kernel)⟩
theorem ok7:callOk Tryz.prog 7=true:=by kernel_rfl
theorem ok9:callOk Tryz.prog 9=true:=by kernel_rfl
theorem ok10:callOk Tryz.prog 10=true:=by kernel_rfl
theorem ok15:callOk Tryz.prog 15=true:=by kernel_rfl
theorem ok16:callOk Tryz.prog 16=true:=by kernel_rfl
theorem ok17:callOk Tryz.prog 17=true:=by kernel_rfl
theorem ok26:callOk Tryz.prog 26=true:=by kernel_rfl
theorem law20_Small (p:Pg) (hf:p.Fit):
    Pur cfg 7 [vPg p] (vB (smlP p)):=by
 refine zV Tryz.func7 O Tryz.ntmps7 Tryz.results7 O ?_
 intro z hz
 have hN:smD p.Defs 0=smD p.Defs 0:=rfl
 generalize hN0:smD p.Defs 0=N at hN
 have f1:=hf.sizes
 have f2:=hf.wh
 have f3:=hf.params
 have f4:=hf.defs
 have f5:=hf.outs
 refine B O<|zW O O (qJ O O) ?_
 rintro _ _ ⟨b1,rfl,rfl⟩
 refine F O<|H<|U<|B O<|zG O kM<|zK zAl (K 0 O) O<|zZ O el24<|qB O (yM O O O)<|F O<|u O (fun g1_4=>zD O kE O) O<|J 11 O (fun g1_4=>zF O zAc O (K 0 O) O) O<|J 12 O (fun g1_4=>qV O el25 O) O<|J 13 O (fun g1_4=>yM O O O) O<|r_or O (fun h=>(lzf h))<|F O<|u O (fun g1_10=>zD O zAt O) O<|J 17 O (fun g1_10=>zF O wT O (K 0 O) O) O<|J 18 O (fun g1_10=>qV O el22 O) O<|J 19 O (fun g1_10=>yM O O O) O<|r_or O (fun h=>(lzf h))<|F O<|u O (fun g1_16=>zD O zBy O) O<|J 23 O (fun g1_16=>zF O wT O (K 0 O) O) O<|J 24 O (fun g1_16=>qV O el22 O) O<|J 25 O (fun g1_16=>yM O O O) O<|r_or O (fun h=>(lzf h))<|F O<|u O (fun g1_22=>zD O zDz O) O<|J 29 O (fun g1_22=>zF O zKv O (K 0 O) O) O<|J 30 O (fun g1_22=>qV O el23 O) O<|J 31 O (fun g1_22=>yM O O O) O<|r_or O (fun h=>(lzf h))<|H<|g O (fun c1=>?_) (fun c1=>?_)
 ·try simp only [I] at c1
  refine B O<|F O<|H<|W<|R O ?_
  rw [show smlP p=false by unfold smlP lensP;simp only [Bool.and_eq_false_iff,Bool.not_eq_false',decide_eq_true_eq,decide_eq_false_iff_not];omega]
 ·try simp only [I] at c1
  refine zJ<|B O<|F O<|H<|U<|B O<|F O<|H<|zP<|zT ⟨[(4,.c _),(3,.c _),(1,.c _)],[_]⟩ (Weak.mk [true] ⟨G,G,G,T⟩ O)<|qG 2 0 O O (Nat×Nat) (fun ⟨k,n⟩=>[(4,vI k),(3,vI n)]) (fun ⟨k,n⟩=>[]) (fun ⟨k,n⟩=>k<=p.Defs.length/\(N=smD (p.Defs.drop k) n)) (fun ⟨k,n⟩=>p.Defs.length-k) ⟨⟨0,0⟩,⟨by omega,hN0.symm⟩,Weak.mk [true] ⟨G,G,G,T⟩ O⟩ ?_
  rintro ⟨k,n⟩ ⟨hk,hq⟩
  show AWP _ _ _ _ _ ⟨[(4,vI k),(3,vI n)]++_,[]++_⟩
  refine U<|B O<|F O<|zG O kE<|zK zAc (K 0 O) O<|zZ O el25<|yB O<|F O<|u O (fun g5_5=>zQ O O) O<|J 40 O (fun g5_5=>wA O O O) O<|yZ O (fun h=>h)<|H<|g O (fun c2=>?_) (fun c2=>?_)
  ·try simp only [I] at c2
   obtain ⟨d,hd⟩:=qP p.Defs k (by omega)
   obtain ⟨e1,e2,_,_,e5⟩:=hf.ds d (qD hd)
   have e6:=zNg d.Body 1500 e5
   refine zJ<|U<|zP<|U<|qO 18 mixed (by kernel_rfl) O O<|Y O O (zQ O O)<|Y O O (zD O kE O)<|Y O O (zF O zAc O (K 0 O) O)<|Y O O (zQ O O)<|Y O O (zY O el25 O O (by omega) (Q hd))<|Y O O (qT O zBi O)<|Y O O (zF O wW O qA O)<|Y O O (qV O el57 O)<|Y O O (zD O kE O)<|Y O O (zF O zAc O (K 0 O) O)<|Y O O (zQ O O)<|Y O O (zY O el25 O O (by omega) (Q hd))<|Y O O (qT O zAx O)<|Y O O (zF O wW O qA O)<|Y O O (qV O el57 O)<|Y O O (zFb O O O ⟨by omega,by omega⟩)<|Y O O (zFb O O O ⟨by omega,by omega⟩)<|Y O O (yX O O)<|yK<|H<|zU O<|F O<|zG O kE<|zK zAc (K 0 O) O<|F O<|qE O el25 (by omega) (Q hd)<|qR O zCg<|zL qH qA O<|qK O ok8 (base_Weigh d.Body 1500 1500 (hf.ds d (qD hd)).2.2.2.2 (by decide) O) ⟨G,O,G,O,T⟩<|qL O ⟨by omega,by omega⟩<|F O<|H<|zU O<|F O<|qL O ⟨by omega,by omega⟩<|F O<|H ?_
   refine ⟨⟨k+1,n+dWt d⟩,⟨by omega,smD_next hd hq (by omega)⟩,(by show p.Defs.length-(k+1)<p.Defs.length-k;omega),Weak.mk [true] ⟨G,VLe.of_eq ((congrArg vI (by unfold dWt;omega))),G,T⟩ O⟩
  ·try simp only [I] at c2
   have hn:=smD_end hq (by omega)
   refine qM<|U<|B O<|F O<|H<|zP<|zT ⟨[(5,.c _),(3,.c _),(1,.c _)],[_]⟩ (Weak.mk [true] ⟨G,G,G,T⟩ O)<|qG 2 0 O O (Nat×Nat) (fun ⟨j,m⟩=>[(5,vI j),(3,vI m)]) (fun ⟨j,m⟩=>[]) (fun ⟨j,m⟩=>j<=p.Params.length/\(smP p.Params n=smP (p.Params.drop j) m)) (fun ⟨j,m⟩=>p.Params.length-j) ⟨⟨0,n⟩,⟨by omega,O⟩,Weak.mk [true] ⟨G,G,G,T⟩ O⟩ ?_
   rintro ⟨j,m⟩ ⟨hj,hr⟩
   show AWP _ _ _ _ _ ⟨[(5,vI j),(3,vI m)]++_,[]++_⟩
   refine U<|B O<|F O<|zG O kM<|zK zAl (K 0 O) O<|zZ O el24<|yB O<|F O<|u O (fun g10_5=>zQ O O) O<|J 77 O (fun g10_5=>wA O O O) O<|yZ O (fun h=>h)<|H<|g O (fun c3=>?_) (fun c3=>?_)
   ·try simp only [I] at c3
    obtain ⟨y,hy⟩:=qP p.Params j (by omega)
    have e1:=(hf.ps y (qD hy)).1
    refine zJ<|U<|zP<|zU O<|F O<|zG O kM<|zK zAl (K 0 O) O<|F O<|qE O el24 (by omega) (Q hy)<|qR O zCy<|zK zAv qA O<|zZ O el63<|qL O ⟨by omega,by omega⟩<|F O<|H<|zU O<|F O<|qL O ⟨by omega,by omega⟩<|F O<|H ?_
    refine ⟨⟨j+1,m+y.Dims.length⟩,⟨by omega,smP_next hy hr (by omega)⟩,(by show p.Params.length-(j+1)<p.Params.length-j;omega),Weak.mk [true] ⟨G,VLe.of_eq ((congrArg vI (by omega))),G,T⟩ O⟩
   ·try simp only [I] at c3
    have hm:=smP_end hr (by omega)
    refine qM<|B O<|F O<|qB O (wA O O O)<|F O<|H<|W<|R O ?_
    rw [show smlP p=decide (m<=1500) by unfold smlP;rw [show lensP p=true by unfold lensP;simp only [Bool.and_eq_true,Bool.not_eq_true',decide_eq_false_iff_not];omega,hN0,hn,hm,Bool.true_and]]
    exact congrArg vB (decide_eq_decide.2 (by omega))
theorem law26_few (l:List ByteArray) (hl:l.length<=140737488355328):
    Pur cfg 9 [vSs l] (vB (fewN l)):=by
 refine zV Tryz.func9 O Tryz.ntmps9 Tryz.results9 O ?_
 intro z hz
 refine B O<|F O<|H<|U<|B O<|F O<|zZ O el22<|qB O (yM O O O)<|H<|g O (fun c1=>?_) (fun c1=>?_)
 ·try simp only [I] at c1
  refine B O<|F O<|H<|W<|R O ?_
  rw [show fewN l=false by unfold fewN;rw [decide_eq_true (show 40<l.length by omega)];rfl]
 ·try simp only [I] at c1
  refine zJ<|U<|B O<|F O<|H<|zP<|zT ⟨[(3,.c _),(0,.c _)],[]⟩ (Weak.mk [] ⟨G,G,T⟩ O)<|qG 1 0 O O (Nat) (fun k=>[(3,vI k)]) (fun k=>[]) (fun k=>k<=l.length/\((l.take k).all (fun s=>decide (s.size<=100))=true)) (fun k=>l.length-k) ⟨0,⟨by omega,O⟩,Weak.mk [] ⟨G,G,T⟩ O⟩ ?_
  rintro k ⟨hk,hp⟩
  refine U<|B O<|F O<|F O<|zZ O el22<|yB O<|H<|g O (fun c2=>?_) (fun c2=>?_)
  ·try simp only [I] at c2
   obtain ⟨x,hx⟩:=qP l k (by omega)
   refine zJ<|U<|zP<|B O<|F O<|F O<|qE O el22 (by omega) (Q hx)<|zK i qA O<|qB O (zAg O un9 O)<|qB O (yM O O O)<|H<|g O (fun c3=>?_) (fun c3=>?_)
   ·try simp only [I] at c3
    refine B O<|F O<|H<|W<|R O ?_
    rw [show fewN l=false by unfold fewN;rw [List.all_eq_false.2 ⟨_,qD hx,by simp;omega⟩,Bool.and_false]]
   ·try simp only [I] at c3
    refine zJ<|zU O<|F O<|qL O ⟨by omega,by omega⟩<|F O<|H ?_
    refine ⟨k+1,⟨by omega,(by rw [qQ hx,List.all_append,hp];simp;omega)⟩,(by omega),Weak.mk [] ⟨G,G,T⟩ O⟩
  ·try simp only [I] at c2
   refine qM<|B O<|F O<|H<|W<|R O ?_
   rw [qY (l:=l) (k:=k) (by omega)] at hp
   rw [show fewN l=true by unfold fewN;rw [hp,decide_eq_false (show ¬40<l.length by omega)];rfl]
theorem law26_squares  :
    Pur cfg 26 [] (vPg sqP):=by
 refine zV Tryz.func26 O Tryz.ntmps26 Tryz.results26 O ?_
 intro z hz
 refine B O<|zW O O (qI [some 1,some 3,some 7,some 22,some 1] O zr27 O) ?_
 rintro _ _ ⟨b1,rfl,rfl⟩
 refine H<|B O<|kA O zr31 pl31<|zW O O (yA O zr31) ?_
 rintro _ _ ⟨b2,rfl,rfl⟩
 refine N 0 sz31 O<|H<|B O<|qK O ok64 (zFy (bs [110])) ⟨G,O,T⟩<|zW O O (qI [none,some 2] O zr34 O) ?_
 rintro _ _ ⟨b3,rfl,rfl⟩
 refine N 0 sz34 O<|H<|B O<|qK O ok64 (zFy (bs [105])) ⟨G,O,T⟩<|yR [none,none,none,some 2] O zr67 pl67<|qZ O d zr67<|yR [none,none,none,none,none,none,none,none,none,none,some 2,none,some 13] O zr38 pl38<|zW O O (qI [none,none,none,none,none,none,none,none,none,none,some 2,some 4,some 13] O zr38 O) ?_
 rintro _ _ ⟨b4,rfl,rfl⟩
 refine N 0 v O<|H<|B O<|qZ O el22 zr9<|zL yF (K 2 O) O<|zL kP (K 1 O) O<|qZ O el63 zr34<|kA O zr65 pl65<|qZ O el24 zr65<|zL yF (K 2 O) O<|zL kP (K 1 O) O<|kA O zr105 pl105<|qZ O el57 zr105<|zL qH (K 0 O) O<|zL qH (K 0 O) O<|qZ O A zr38<|yR [none,none,none,none,none,none,none,none,none,none,some 2,some 4,none] O zr38 pl38<|yR [none,none,none,none,none,none,some 3,none,none,none,none,none,none,none,none,none,none,none,none,none,none,none] O zr59 pl59<|qZ O el25 zr59<|qZ O el22 zr9<|yR [none,some 3,none,none,none] O zr27 pl27<|N 3 sz27 O<|H<|W<|X (zS kC O (K 3 O) O) ?_
 exact O
theorem zHw  :
    Pur cfg 10 [] (vB true):=by
 refine zV Tryz.func10 O Tryz.ntmps10 Tryz.results10 O ?_
 intro z hz
 refine B O<|F O<|H<|B O<|qK O ok26 law26_squares T<|zW O O (qI [some 1,some 3,some 7,some 22,some 1] O zr27 O) ?_
 rintro _ _ ⟨b1,rfl,rfl⟩
 refine N 0 sz27 O<|H<|B O<|zL kC (K 0 O) O<|qZ O el22 zr9<|qK O ok15 (show Pur cfg 15 [vPg sqP,vSs [bs [97]]] (.tup [vPg sqR,vI 0]) by have h:=fwd_Prog sqP sq_sm [bs [97]] (by decide) (by decide+kernel);rw [sq_prog] at h;exact h) ⟨G,O,G,O,T⟩<|qB O (qU O O)<|qB O (yN O O O)<|qB O (yG O O O)<|zW O O (qI [some 1,some 3,some 7,some 22,some 1] O zr27 O) ?_
 rintro _ _ ⟨b2,rfl,rfl⟩
 refine N 0 sz27 O<|F O<|H<|U<|B O<|F O<|yP O<|F O<|u O (fun g3_2=>zD O kM O) O<|J 16 O (fun g3_2=>zF O zAl O (K 0 O) O) O<|J 17 O (fun g3_2=>qV O el24 O) O<|J 18 O (fun g3_2=>zAf O O O) O<|r_or O (fun h=>(lzf h))<|F O<|u O (fun g3_8=>zD O kE O) O<|J 22 O (fun g3_8=>zF O zAc O (K 0 O) O) O<|J 23 O (fun g3_8=>qV O el25 O) O<|J 24 O (fun g3_8=>zAf O O O) O<|r_or O (fun h=>(lzf h))<|F O<|u O (fun g3_14=>zD O zAt O) O<|J 28 O (fun g3_14=>zF O wT O (K 0 O) O) O<|u O (fun g3_14=>yD O el22 zr9 O O O O) O<|rLz [(29,_),(30,_)] O P ⟨O,O,O,O,T⟩ (fun g3_14=>qF O ok19 (zGt [bs [115],dNm (bs [115])] [bs [115],dNm (bs [115])] (by decide)) ⟨G,O,G,O,T⟩) O<|J 31 O (fun g3_14=>kU O O) O<|r_or O (fun h=>(lzf h))<|H<|g O (fun c1=>?_) (fun c1=>?_)
 ·try simp only [I] at c1
  exact absurd c1 (by decide+kernel)
 ·try simp only [I] at c1
  refine zJ<|U<|yH 13 1 [⟨0,.q [2]⟩,⟨1,.q []⟩,⟨2,.q [2]⟩,⟨3,.q []⟩,⟨4,.q []⟩,⟨5,.q []⟩,⟨6,.q []⟩,⟨7,.q []⟩,⟨8,.q []⟩,⟨9,.q []⟩,⟨10,.q []⟩,⟨11,.e 0 []⟩,⟨12,.e 0 []⟩] mixed (by kernel_rfl) (by kernel_rfl) O O O<|D O<|D O<|D O<|D O<|D O<|D O<|D O<|D O<|D O<|D O<|D O<|D O<|D O<|wG<|M O (by decide) O O (zN O kC O (K 0 O) O)<|M O (by decide) O O (zD O kE O)<|M O (by decide) O O (zF O zAc O (K 0 O) O)<|M O (by decide) O O (zY O el25 O O (by decide) (Q (x:=d0) O))<|M O (by decide) O O (qT O zCg O)<|M O (by decide) O O (zN O qH O qA O)<|M O (by decide) O O (yD O el22 zr9 O O O O)<|M O (by decide) O O (qF O ok11 (show Pur cfg 11 [vPg sqP,vE sqB,vSs [bs [97]]] (.tup [vE sqX,vI 0]) by have h:=fwd_Expr sqP sq_sm.ok [bs [97]] (by decide) (by decide+kernel) sqB (by decide+kernel);rw [sq_expr] at h;exact h) ⟨G,O,G,O,G,O,T⟩)<|M O (by decide) O O (qU O O)<|M O (by decide) O O (yN O O O)<|M O (by decide) O O (yG O O O)<|zKl O O (by decide) O O (qI [none,none,none,none,none,none,none,none,none,none,some 2,some 4,some 13] O zr38 O) ?_
  rintro _ _ ⟨b3,rfl,rfl⟩
  refine ⟨_,O,?_⟩
  refine zGb O O (by decide) O O (kT O v O O O (zDo 0 O O)) ?_
  rintro _ _ ⟨rfl,rfl⟩
  refine ⟨_,O,?_⟩
  refine wF O<|F O<|H<|U<|qO 41 mixed (by kernel_rfl) O O<|Y O O (zQ O O)<|Y O O (yL O O O)<|Y O O (zQ O O)<|f [] O O O O P T (fun g6_2=>zD O kM O) O<|f [(48,_)] O O O O P ⟨O,O,T⟩ (fun g6_2=>zF O zAl O (K 1 O) O) O<|f [(49,_)] O O O O P ⟨O,O,T⟩ (fun g6_2=>zY O el24 O O (by decide) (Q (x:=dA) O)) O<|f [(50,_)] O O O O P ⟨O,O,T⟩ (fun g6_2=>qT O zHy O) O<|f [(51,_)] O O O O P ⟨O,O,T⟩ (fun g6_2=>zF O i O qA O) O<|f [(52,_)] O O O O P ⟨O,O,T⟩ (fun g6_2=>yQ O O O) O<|Y O O (kR O O O (fun h=>h) O)<|Y O O (zQ O O)<|f [] O O O O P T (fun g6_10=>zD O kE O) O<|f [(56,_)] O O O O P ⟨O,O,T⟩ (fun g6_10=>zF O zAc O (K 1 O) O) O<|f [(57,_)] O O O O P ⟨O,O,T⟩ (fun g6_10=>zY O el25 O O (by decide) (Q (x:=dS) O)) O<|f [(58,_)] O O O O P ⟨O,O,T⟩ (fun g6_10=>qT O zEk O) O<|f [(59,_)] O O O O P ⟨O,O,T⟩ (fun g6_10=>zF O i O qA O) O<|f [(60,_)] O O O O P ⟨O,O,T⟩ (fun g6_10=>yQ O O O) O<|Y O O (kR O O O (fun h=>h) O)<|Y O O (zQ O O)<|f [] O O O O P T (fun g6_18=>zD O kE O) O<|f [(64,_)] O O O O P ⟨O,O,T⟩ (fun g6_18=>zF O zAc O (K 1 O) O) O<|f [(65,_)] O O O O P ⟨O,O,T⟩ (fun g6_18=>zY O el25 O O (by decide) (Q (x:=dS) O)) O<|f [(66,_)] O O O O P ⟨O,O,T⟩ (fun g6_18=>qT O zDx O) O<|f [(67,_)] O O O O P ⟨O,O,T⟩ (fun g6_18=>zF O w O qA O) O<|f [(68,_)] O O O O P ⟨O,O,T⟩ (fun g6_18=>yL O O O) O<|Y O O (kR O O O (fun h=>h) O)<|Y O O (zQ O O)<|f [] O O O O P T (fun g6_26=>zD O yT O) O<|f [(72,_)] O O O O P ⟨O,O,T⟩ (fun g6_26=>zF O w O (K 0 O) O) O<|f [(73,_)] O O O O P ⟨O,O,T⟩ (fun g6_26=>yL O O O) O<|Y O O (kR O O O (fun h=>h) O)<|Y O O (zQ O O)<|f [] O O O O P T (fun g6_31=>zN O qH O (K 0 O) O) O<|f [] O O O O P T (fun g6_31=>zD O kE O) O<|f [(78,_)] O O O O P ⟨O,O,T⟩ (fun g6_31=>zF O zAc O (K 1 O) O) O<|f [(79,_)] O O O O P ⟨O,O,T⟩ (fun g6_31=>zY O el25 O O (by decide) (Q (x:=dS) O)) O<|f [(80,_)] O O O O P ⟨O,O,T⟩ (fun g6_31=>qT O zCg O) O<|f [(81,_)] O O O O P ⟨O,O,T⟩ (fun g6_31=>zN O qH O qA O) O<|f [(77,_),(82,_)] O O O O P ⟨O,O,O,O,T⟩ (fun g6_31=>qF O ok13 (zPw sqX sqX (by decide+kernel)) ⟨G,O,G,O,T⟩) O<|Y O O (kR O O O (fun h=>h) O)<|Y O O (yX O O)<|yK<|H<|W<|R O ?_
  exact O
theorem law_ForwardProgs (p:Pg) (o_:List ByteArray) (hlo:o_.length<=140737488355328) (hp:p.Fit) (hF:p.Frm):
    Pur cfg 4 [vPg p,vSs o_] (vB true):=by
 refine zV Tryz.func4 O Tryz.ntmps4 Tryz.results4 O ?_
 intro z hz
 refine B O<|zW O O (qJ O O) ?_
 rintro _ _ ⟨b1,rfl,rfl⟩
 refine F O<|H<|U<|B O<|zL kC (K 0 O) O<|qK O ok7 (law20_Small p hp) ⟨G,O,T⟩<|wI O<|F O<|u O (fun g1_3=>zQ O O) O<|J 13 O (fun g1_3=>qF O ok9 (law26_few o_ hlo) ⟨G,O,T⟩) O<|J 14 O (fun g1_3=>kU O O) O<|r_or O (fun h=>(lzf h))<|H<|g O (fun c1=>?_) (fun c1=>?_)
 ·try simp only [I] at c1
  refine B O<|qK O ok10 zHw T<|F O<|H<|W<|R O ?_
  exact O
 ·try simp only [I] at c1
  have c1:smlP p=true/\fewN o_=true:=c1
  have hS:=sml_is c1.1 hF
  obtain ⟨ho,hs⟩:=few_is c1.2
  have hso:∀s,s∈o_->s.size<=1000000:=fun s h=>Nat.le_trans (hs s h) (by decide)
  refine zJ<|B O<|zL kC (K 0 O) O<|F O<|qK O ok15 (fwd_Prog p hS o_ ho hs) ⟨G,O,G,O,T⟩<|qB O (qU O O)<|qB O (yN O O O)<|qB O (yG O O O)<|zW O O (qI [some 1,some 3,some 7,some 22,some 1] O zr27 O) ?_
  rintro _ _ ⟨b2,rfl,rfl⟩
  refine N 0 sz27 O<|F O<|H<|B O<|zL kC (K 1 O) O<|F O<|qK O ok16 (r26_Prog p hS o_ ho hs) ⟨G,O,G,O,T⟩<|qB O (qU O O)<|qB O (yN O O O)<|qB O (yG O O O)<|zW O O (qI [some 1,some 3,some 7,some 22,some 1] O zr27 O) ?_
  rintro _ _ ⟨b3,rfl,rfl⟩
  refine N 0 sz27 O<|F O<|H<|B O<|zL kC (K 1 O) O<|zL kC (K 0 O) O<|qK O ok17 (base_ProgF (progF p o_).1 (progF p o_).1 (progF_sm hS (by omega))) ⟨G,O,G,O,T⟩<|F O<|u O (fun g5_3=>zQ O O) O<|u O (fun g5_3=>zQ O O) O<|rLz [(34,_),(35,_)] O P ⟨O,O,O,O,T⟩ (fun g5_3=>yL O O O) O<|yZ O (fun h=>h)<|F O<|u O (fun g5_8=>qF O ok10 zHw T) O<|yZ O (fun h=>h)<|F O<|H<|W<|R O ?_
  exact congrArg vB (by simp)
end Go.W
