/-
  Walks: what functions of the program compute. Printed by wip/gen/mk2.py.
  Conditions: none.
-/
import Derived.Test.YtkijgodlhljgdaaGreatDoorQE
import Derived.Test.YtkijgodlhljgdaaGreatDoorWU
set_option linter.unusedSimpArgs false
set_option linter.unusedVariables false
set_option maxRecDepth 10000
namespace Go.W
open Go Go.Eng Go.Proofs Go.L41 Go.Br
attribute [local irreducible] AWP RWP TD finQ
def tX:Ex:=.mk 3 (dNm (bs [97])) ⟨0,0⟩ ⟨0,0,0,0,0⟩ ⟨0,[]⟩ [⟨vrN 105,bs [],[]⟩] []
def sqX:Ex:=opE 4 [opE 6 [tX,sqA],opE 6 [sqA,tX]]
def dA:Pm:=⟨dNm (bs [97]),frT,[vrN 110]⟩
def dS:Df:=⟨dNm (bs [115]),frT,[],[⟨bs [105],vrN 110⟩],1,sqX⟩
def d0:Df:=⟨bs [115],frT,[],[⟨bs [105],vrN 110⟩],1,sqB⟩
def sqR:Pg:=⟨[bs [110]],[],[⟨bs [97],frT,[vrN 110]⟩,dA],[d0,dS],[bs [115],dNm (bs [115])]⟩
theorem sq_idx:indexT sqB=[bs [105]]:=by
  unfold indexT
  rw [show namesA (nodes sqB)=[bs [105],bs [105]] by decide+kernel,show sortB [bs [105],bs [105]]=[bs [105],bs [105]] by unfold sortB ofB;simp only [List.map_cons,List.map_nil];rw [List.mergeSort_of_pairwise (by simp)];rfl]
  decide+kernel
theorem sq_expr:exprF sqP.en [bs [97]] sqB=(sqX,0):=by unfold exprF;rw [sq_idx];decide+kernel
theorem sq_der:derF sqP.en d0 [bs [97]]=(dS,true,0):=by
  have h:=derF_5 (n:=sqP.en) (A:=[bs [97]]) (d:=d0) (X:=(sqX,0)) (by decide+kernel) (by decide+kernel) (by decide+kernel) sq_expr rfl
  rw [show dDf d0 (sqX,(0:Int)).1=dS by decide+kernel] at h
  exact h
theorem sq_prog:progF sqP [bs [97]]=(sqR,0):=by
  have hR:defG sqP.en [] [bs [97]] sqP.Defs=([d0,dS],[bs [97],bs [115]],0):=by
    show defG sqP.en [] [bs [97]] [d0]=_
    rw [defG,sq_der,if_pos rfl,if_pos rfl,defG];rfl
  exact progF_5 (by decide+kernel) (by decide+kernel) hR O (by decide+kernel)
theorem sq_sm:sqP.Sm:=⟨by decide,by decide,by decide,by decide,by decide,⟨(fun c hc=>by cases hc),(by decide+kernel),(by decide+kernel)⟩,(by decide+kernel),(by decide+kernel)⟩
theorem ok7:callOk Tryz.prog 7=true:=by kernel_rfl
theorem ok9:callOk Tryz.prog 9=true:=by kernel_rfl
theorem ok10:callOk Tryz.prog 10=true:=by kernel_rfl
theorem ok15:callOk Tryz.prog 15=true:=by kernel_rfl
theorem ok20:callOk Tryz.prog 20=true:=by kernel_rfl
theorem ok26:callOk Tryz.prog 26=true:=by kernel_rfl
theorem law20_Small (p:Pg) (hf:p.Fit):
    Pur cfg 7 [vPg p] (vB (smlP p)):=by
 refine zT Tryz.func7 O Tryz.ntmps7 Tryz.results7 O ?_
 intro z hz
 have hN:smD p.Defs 0=smD p.Defs 0:=rfl
 generalize hN0:smD p.Defs 0=N at hN
 have f1:=hf.sizes
 have f2:=hf.wh
 have f3:=hf.params
 have f4:=hf.defs
 have f5:=hf.outs
 refine B O<|zZ O O (qI O O) ?_
 rintro _ _ ⟨b1,rfl,rfl⟩
 refine G O<|U<|zI<|B O<|zG O wN<|zK zCk (J 0 O) O<|zY O el24<|zX O (yD O O O)<|G O<|rL0 O (fun g1_4=>zD O kE O) O<|rL1 11 O (fun g1_4=>zF O wX O (J 0 O) O) O<|rL1 12 O (fun g1_4=>qP O el25 O) O<|rL1 13 O (fun g1_4=>yD O O O) O<|r_or O (fun h=>(lzf h))<|G O<|rL0 O (fun g1_10=>zD O zBb O) O<|rL1 17 O (fun g1_10=>zF O wY O (J 0 O) O) O<|rL1 18 O (fun g1_10=>qP O el22 O) O<|rL1 19 O (fun g1_10=>yD O O O) O<|r_or O (fun h=>(lzf h))<|G O<|rL0 O (fun g1_16=>zD O zCm O) O<|rL1 23 O (fun g1_16=>zF O wY O (J 0 O) O) O<|rL1 24 O (fun g1_16=>qP O el22 O) O<|rL1 25 O (fun g1_16=>yD O O O) O<|r_or O (fun h=>(lzf h))<|G O<|rL0 O (fun g1_22=>zD O zFg O) O<|rL1 29 O (fun g1_22=>zF O one23 O (J 0 O) O) O<|rL1 30 O (fun g1_22=>qP O el23 O) O<|rL1 31 O (fun g1_22=>yD O O O) O<|r_or O (fun h=>(lzf h))<|U<|zE O (fun c1=>?_) (fun c1=>?_)
 ·try simp only [W] at c1
  refine B O<|G O<|U<|zH<|zQ O ?_
  rw [show smlP p=false by unfold smlP lensP;simp only [Bool.and_eq_false_iff,Bool.not_eq_false',decide_eq_true_eq,decide_eq_false_iff_not];omega]
 ·try simp only [W] at c1
  refine zJ<|B O<|G O<|U<|zI<|B O<|G O<|U<|zP<|zU ⟨[(4,.c _),(3,.c _),(1,.c _)],[_]⟩ (Weak.mk [true] ⟨Y,Y,Y,T⟩ O)<|qF 2 0 O O (Nat×Nat) (fun ⟨k,n⟩=>[(4,vI k),(3,vI n)]) (fun ⟨k,n⟩=>[]) (fun ⟨k,n⟩=>k<=p.Defs.length/\(N=smD (p.Defs.drop k) n)) (fun ⟨k,n⟩=>p.Defs.length-k) ⟨⟨0,0⟩,⟨by omega,hN0.symm⟩,Weak.mk [true] ⟨Y,Y,Y,T⟩ O⟩ ?_
  rintro ⟨k,n⟩ ⟨hk,hq⟩
  show AWP _ _ _ _ _ ⟨[(4,vI k),(3,vI n)]++_,[]++_⟩
  refine zI<|B O<|G O<|zG O kE<|zK wX (J 0 O) O<|zY O el25<|yA O<|G O<|rL0 O (fun g5_5=>zR O O) O<|rL1 40 O (fun g5_5=>kQ O O O) O<|yW O (fun h=>h)<|U<|zE O (fun c2=>?_) (fun c2=>?_)
  ·try simp only [W] at c2
   obtain ⟨d,hd⟩:=qQ p.Defs k (by omega)
   obtain ⟨e1,e2,_,_,e5⟩:=hf.ds d (qD hd)
   have e6:=zLx d.Body 1500 e5
   refine zJ<|zI<|zP<|zI<|qT 18 mixed (by kernel_rfl) O O<|zM O O (zR O O)<|zM O O (zD O kE O)<|zM O O (zF O wX O (J 0 O) O)<|zM O O (zR O O)<|zM O O (qA O el25 O O (by omega) (getm hd))<|zM O O (qL O zAv O)<|zM O O (zF O wK O qB O)<|zM O O (qP O el57 O)<|zM O O (zD O kE O)<|zM O O (zF O wX O (J 0 O) O)<|zM O O (zR O O)<|zM O O (qA O el25 O O (by omega) (getm hd))<|zM O O (qL O zAm O)<|zM O O (zF O wK O qB O)<|zM O O (qP O el57 O)<|zM O O (zDe O O O ⟨by omega,by omega⟩)<|zM O O (zDe O O O ⟨by omega,by omega⟩)<|zM O O (yQ O O)<|yM<|U<|zS O<|G O<|zG O kE<|zK wX (J 0 O) O<|G O<|qE O el25 (by omega) (getm hd)<|zX O (qL O zDl O)<|zL qN qB O<|qK O ok8 (base_Weigh d.Body 1500 1500 (hf.ds d (qD hd)).2.2.2.2 (by decide) O) ⟨Y,O,Y,O,T⟩<|qJ O ⟨by omega,by omega⟩<|G O<|U<|zS O<|G O<|qJ O ⟨by omega,by omega⟩<|G O<|U ?_
   refine ⟨⟨k+1,n+dWt d⟩,⟨by omega,smD_next hd hq (by omega)⟩,(by show p.Defs.length-(k+1)<p.Defs.length-k;omega),Weak.mk [true] ⟨Y,VLe.of_eq ((congrArg vI (by unfold dWt;omega))),Y,T⟩ O⟩
  ·try simp only [W] at c2
   have hn:=smD_end hq (by omega)
   refine qO<|zI<|B O<|G O<|U<|zP<|zU ⟨[(5,.c _),(3,.c _),(1,.c _)],[_]⟩ (Weak.mk [true] ⟨Y,Y,Y,T⟩ O)<|qF 2 0 O O (Nat×Nat) (fun ⟨j,m⟩=>[(5,vI j),(3,vI m)]) (fun ⟨j,m⟩=>[]) (fun ⟨j,m⟩=>j<=p.Params.length/\(smP p.Params n=smP (p.Params.drop j) m)) (fun ⟨j,m⟩=>p.Params.length-j) ⟨⟨0,n⟩,⟨by omega,O⟩,Weak.mk [true] ⟨Y,Y,Y,T⟩ O⟩ ?_
   rintro ⟨j,m⟩ ⟨hj,hr⟩
   show AWP _ _ _ _ _ ⟨[(5,vI j),(3,vI m)]++_,[]++_⟩
   refine zI<|B O<|G O<|zG O wN<|zK zCk (J 0 O) O<|zY O el24<|yA O<|G O<|rL0 O (fun g10_5=>zR O O) O<|rL1 77 O (fun g10_5=>kQ O O O) O<|yW O (fun h=>h)<|U<|zE O (fun c3=>?_) (fun c3=>?_)
   ·try simp only [W] at c3
    obtain ⟨y,hy⟩:=qQ p.Params j (by omega)
    have e1:=(hf.ps y (qD hy)).1
    refine zJ<|zI<|zP<|zS O<|G O<|zG O wN<|zK zCk (J 0 O) O<|G O<|qE O el24 (by omega) (getm hy)<|zX O (qL O zEm O)<|zK zBa qB O<|zY O el63<|qJ O ⟨by omega,by omega⟩<|G O<|U<|zS O<|G O<|qJ O ⟨by omega,by omega⟩<|G O<|U ?_
    refine ⟨⟨j+1,m+y.Dims.length⟩,⟨by omega,smP_next hy hr (by omega)⟩,(by show p.Params.length-(j+1)<p.Params.length-j;omega),Weak.mk [true] ⟨Y,VLe.of_eq ((congrArg vI (by omega))),Y,T⟩ O⟩
   ·try simp only [W] at c3
    have hm:=smP_end hr (by omega)
    refine qO<|B O<|G O<|zX O (kQ O O O)<|G O<|U<|zH<|zQ O ?_
    rw [show smlP p=decide (m<=1500) by unfold smlP;rw [show lensP p=true by unfold lensP;simp only [Bool.and_eq_true,Bool.not_eq_true',decide_eq_false_iff_not];omega,hN0,hn,hm,Bool.true_and]]
    exact congrArg vB (decide_eq_decide.2 (by omega))
theorem law26_few (l:List ByteArray) (hl:l.length<=140737488355328):
    Pur cfg 9 [vSs l] (vB (fewN l)):=by
 refine zT Tryz.func9 O Tryz.ntmps9 Tryz.results9 O ?_
 intro z hz
 refine B O<|G O<|U<|zI<|B O<|G O<|zY O el22<|zX O (yD O O O)<|U<|zE O (fun c1=>?_) (fun c1=>?_)
 ·try simp only [W] at c1
  refine B O<|G O<|U<|zH<|zQ O ?_
  rw [show fewN l=false by unfold fewN;rw [decide_eq_true (show 40<l.length by omega)];rfl]
 ·try simp only [W] at c1
  refine zJ<|zI<|B O<|G O<|U<|zP<|zU ⟨[(3,.c _),(0,.c _)],[]⟩ (Weak.mk [] ⟨Y,Y,T⟩ O)<|qF 1 0 O O (Nat) (fun k=>[(3,vI k)]) (fun k=>[]) (fun k=>k<=l.length/\((l.take k).all (fun s=>decide (s.size<=100))=true)) (fun k=>l.length-k) ⟨0,⟨by omega,O⟩,Weak.mk [] ⟨Y,Y,T⟩ O⟩ ?_
  rintro k ⟨hk,hp⟩
  refine zI<|B O<|G O<|G O<|zY O el22<|yA O<|U<|zE O (fun c2=>?_) (fun c2=>?_)
  ·try simp only [W] at c2
   obtain ⟨x,hx⟩:=qQ l k (by omega)
   refine zJ<|zI<|zP<|B O<|G O<|G O<|qE O el22 (by omega) (getm hx)<|zK one9 qB O<|zX O (wT O un9 O)<|zX O (yD O O O)<|U<|zE O (fun c3=>?_) (fun c3=>?_)
   ·try simp only [W] at c3
    refine B O<|G O<|U<|zH<|zQ O ?_
    rw [show fewN l=false by unfold fewN;rw [List.all_eq_false.2 ⟨_,qD hx,by simp;omega⟩,Bool.and_false]]
   ·try simp only [W] at c3
    refine zJ<|zS O<|G O<|qJ O ⟨by omega,by omega⟩<|G O<|U ?_
    refine ⟨k+1,⟨by omega,(by rw [qR hx,List.all_append,hp];simp;omega)⟩,(by omega),Weak.mk [] ⟨Y,Y,T⟩ O⟩
  ·try simp only [W] at c2
   refine qO<|B O<|G O<|U<|zH<|zQ O ?_
   rw [qX (l:=l) (k:=k) (by omega)] at hp
   rw [show fewN l=true by unfold fewN;rw [hp,decide_eq_false (show ¬40<l.length by omega)];rfl]
theorem law26_squares  :
    Pur cfg 26 [] (vPg sqP):=by
 refine zT Tryz.func26 O Tryz.ntmps26 Tryz.results26 O ?_
 intro z hz
 refine B O<|zZ O O (qH [some 1,some 3,some 7,some 22,some 1] O zr27 O) ?_
 rintro _ _ ⟨b1,rfl,rfl⟩
 refine U<|B O<|yV O zr31 pl31<|zZ O O (yB O zr31) ?_
 rintro _ _ ⟨b2,rfl,rfl⟩
 refine N 0 sz31 O<|U<|B O<|qK O ok64 (zFi (bs [110])) ⟨Y,O,T⟩<|zZ O O (qH [none,some 2] O zr34 O) ?_
 rintro _ _ ⟨b3,rfl,rfl⟩
 refine N 0 sz34 O<|U<|B O<|qK O ok64 (zFi (bs [105])) ⟨Y,O,T⟩<|zX O (yK [none,none,none,some 2] O zr67 pl67 O O)<|yE O el35 zr67<|zX O (yK [none,none,none,none,none,none,none,none,none,none,some 2,none,some 13] O zr38 pl38 O O)<|zZ O O (qH [none,none,none,none,none,none,none,none,none,none,some 2,some 4,some 13] O zr38 O) ?_
 rintro _ _ ⟨b4,rfl,rfl⟩
 refine N 0 sz38 O<|U<|B O<|yE O el22 zr9<|zL qZ (J 2 O) O<|zL kK (J 1 O) O<|yE O el63 zr34<|yV O zr65 pl65<|yE O el24 zr65<|zL qZ (J 2 O) O<|zL kK (J 1 O) O<|yV O zr105 pl105<|yE O el57 zr105<|zL qN (J 0 O) O<|zL qN (J 0 O) O<|yE O D zr38<|zX O (yK [none,none,none,none,none,none,none,none,none,none,some 2,some 4,none] O zr38 pl38 O O)<|zX O (yK [none,none,none,none,none,none,some 3,none,none,none,none,none,none,none,none,none,none,none,none,none,none,none] O zr59 pl59 O O)<|yE O el25 zr59<|yE O el22 zr9<|zX O (yK [none,some 3,none,none,none] O zr27 pl27 O O)<|N 3 sz27 O<|U<|zH<|fin1 (zV kO O (J 3 O) O) ?_
 exact O
theorem zEb  :
    Pur cfg 10 [] (vB true):=by
 refine zT Tryz.func10 O Tryz.ntmps10 Tryz.results10 O ?_
 intro z hz
 refine B O<|G O<|U<|B O<|qK O ok26 law26_squares T<|zZ O O (qH [some 1,some 3,some 7,some 22,some 1] O zr27 O) ?_
 rintro _ _ ⟨b1,rfl,rfl⟩
 refine N 0 sz27 O<|U<|B O<|zL kO (J 0 O) O<|yE O el22 zr9<|qK O ok15 (show Pur cfg 15 [vPg sqP,vSs [bs [97]]] (.tup [vPg sqR,vI 0]) by have h:=fwd_Prog sqP sq_sm [bs [97]] (by decide) (by decide+kernel);rw [sq_prog] at h;exact h) ⟨Y,O,Y,O,T⟩<|zX O (qV O O)<|zX O (yJ O O O)<|zX O (yI O O O)<|zZ O O (qH [some 1,some 3,some 7,some 22,some 1] O zr27 O) ?_
 rintro _ _ ⟨b2,rfl,rfl⟩
 refine N 0 sz27 O<|G O<|U<|zI<|B O<|G O<|yN O<|G O<|rL0 O (fun g3_2=>zD O wN O) O<|rL1 16 O (fun g3_2=>zF O zCk O (J 0 O) O) O<|rL1 17 O (fun g3_2=>qP O el24 O) O<|rL1 18 O (fun g3_2=>zAk O O O) O<|r_or O (fun h=>(lzf h))<|G O<|rL0 O (fun g3_8=>zD O kE O) O<|rL1 22 O (fun g3_8=>zF O wX O (J 0 O) O) O<|rL1 23 O (fun g3_8=>qP O el25 O) O<|rL1 24 O (fun g3_8=>zAk O O O) O<|r_or O (fun h=>(lzf h))<|G O<|rL0 O (fun g3_14=>zD O zBb O) O<|rL1 28 O (fun g3_14=>zF O wY O (J 0 O) O) O<|rL0 O (fun g3_14=>yT O el22 zr9 O O O O) O<|rLz [(29,_),(30,_)] O gv1 ⟨O,O,O,O,T⟩ (fun g3_14=>qG O ok19 (zKx [bs [115],dNm (bs [115])] [bs [115],dNm (bs [115])] (by decide)) ⟨Y,O,Y,O,T⟩) O<|rL1 31 O (fun g3_14=>wA O O) O<|r_or O (fun h=>(lzf h))<|U<|zE O (fun c1=>?_) (fun c1=>?_)
 ·try simp only [W] at c1
  exact absurd c1 (by decide+kernel)
 ·try simp only [W] at c1
  refine zJ<|zI<|yH 13 1 [⟨0,.q [2]⟩,⟨1,.q []⟩,⟨2,.q [2]⟩,⟨3,.q []⟩,⟨4,.q []⟩,⟨5,.q []⟩,⟨6,.q []⟩,⟨7,.q []⟩,⟨8,.q []⟩,⟨9,.q []⟩,⟨10,.q []⟩,⟨11,.e 0 []⟩,⟨12,.e 0 []⟩] mixed (by kernel_rfl) (by kernel_rfl) O O O<|zO O<|zO O<|zO O<|zO O<|zO O<|zO O<|zO O<|zO O<|zO O<|zO O<|zO O<|zO O<|zO O<|wM<|zW O (by decide) O O (zN O kO O (J 0 O) O)<|zW O (by decide) O O (zD O kE O)<|zW O (by decide) O O (zF O wX O (J 0 O) O)<|zW O (by decide) O O (qA O el25 O O (by decide) (getm (x:=d0) O))<|zW O (by decide) O O (qL O zDl O)<|zW O (by decide) O O (zN O qN O qB O)<|zW O (by decide) O O (yT O el22 zr9 O O O O)<|zW O (by decide) O O (qG O ok11 (show Pur cfg 11 [vPg sqP,vE sqB,vSs [bs [97]]] (.tup [vE sqX,vI 0]) by have h:=fwd_Expr sqP sq_sm.ok [bs [97]] (by decide) (by decide+kernel) sqB (by decide+kernel);rw [sq_expr] at h;exact h) ⟨Y,O,Y,O,Y,O,T⟩)<|zW O (by decide) O O (qV O O)<|zW O (by decide) O O (yJ O O O)<|zW O (by decide) O O (yI O O O)<|zMh O O (by decide) O O (qH [none,none,none,none,none,none,none,none,none,none,some 2,some 4,some 13] O zr38 O) ?_
  rintro _ _ ⟨b3,rfl,rfl⟩
  refine ⟨_,O,?_⟩
  refine zIc O O (by decide) O O (kW O sz38 O O O (zEe 0 O O)) ?_
  rintro _ _ ⟨rfl,rfl⟩
  refine ⟨_,O,?_⟩
  refine wJ O<|G O<|U<|zI<|qT 41 mixed (by kernel_rfl) O O<|zM O O (zR O O)<|zM O O (yF O O O)<|zM O O (zR O O)<|qC [] O O O O gv1 T (fun g6_2=>zD O wN O) O<|qC [(48,_)] O O O O gv1 ⟨O,O,T⟩ (fun g6_2=>zF O zCk O (J 1 O) O) O<|qC [(49,_)] O O O O gv1 ⟨O,O,T⟩ (fun g6_2=>qA O el24 O O (by decide) (getm (x:=dA) O)) O<|qC [(50,_)] O O O O gv1 ⟨O,O,T⟩ (fun g6_2=>qL O zNp O) O<|qC [(51,_)] O O O O gv1 ⟨O,O,T⟩ (fun g6_2=>zF O one9 O qB O) O<|qC [(52,_)] O O O O gv1 ⟨O,O,T⟩ (fun g6_2=>yL O O O) O<|zM O O (kR O O O (fun h=>h) O)<|zM O O (zR O O)<|qC [] O O O O gv1 T (fun g6_10=>zD O kE O) O<|qC [(56,_)] O O O O gv1 ⟨O,O,T⟩ (fun g6_10=>zF O wX O (J 1 O) O) O<|qC [(57,_)] O O O O gv1 ⟨O,O,T⟩ (fun g6_10=>qA O el25 O O (by decide) (getm (x:=dS) O)) O<|qC [(58,_)] O O O O gv1 ⟨O,O,T⟩ (fun g6_10=>qL O zEn O) O<|qC [(59,_)] O O O O gv1 ⟨O,O,T⟩ (fun g6_10=>zF O one9 O qB O) O<|qC [(60,_)] O O O O gv1 ⟨O,O,T⟩ (fun g6_10=>yL O O O) O<|zM O O (kR O O O (fun h=>h) O)<|zM O O (zR O O)<|qC [] O O O O gv1 T (fun g6_18=>zD O kE O) O<|qC [(64,_)] O O O O gv1 ⟨O,O,T⟩ (fun g6_18=>zF O wX O (J 1 O) O) O<|qC [(65,_)] O O O O gv1 ⟨O,O,T⟩ (fun g6_18=>qA O el25 O O (by decide) (getm (x:=dS) O)) O<|qC [(66,_)] O O O O gv1 ⟨O,O,T⟩ (fun g6_18=>qL O zFe O) O<|qC [(67,_)] O O O O gv1 ⟨O,O,T⟩ (fun g6_18=>zF O one3 O qB O) O<|qC [(68,_)] O O O O gv1 ⟨O,O,T⟩ (fun g6_18=>yF O O O) O<|zM O O (kR O O O (fun h=>h) O)<|zM O O (zR O O)<|qC [] O O O O gv1 T (fun g6_26=>zD O yS O) O<|qC [(72,_)] O O O O gv1 ⟨O,O,T⟩ (fun g6_26=>zF O one3 O (J 0 O) O) O<|qC [(73,_)] O O O O gv1 ⟨O,O,T⟩ (fun g6_26=>yF O O O) O<|zM O O (kR O O O (fun h=>h) O)<|zM O O (zR O O)<|qC [] O O O O gv1 T (fun g6_31=>zN O qN O (J 0 O) O) O<|qC [] O O O O gv1 T (fun g6_31=>zD O kE O) O<|qC [(78,_)] O O O O gv1 ⟨O,O,T⟩ (fun g6_31=>zF O wX O (J 1 O) O) O<|qC [(79,_)] O O O O gv1 ⟨O,O,T⟩ (fun g6_31=>qA O el25 O O (by decide) (getm (x:=dS) O)) O<|qC [(80,_)] O O O O gv1 ⟨O,O,T⟩ (fun g6_31=>qL O zDl O) O<|qC [(81,_)] O O O O gv1 ⟨O,O,T⟩ (fun g6_31=>zN O qN O qB O) O<|qC [(77,_),(82,_)] O O O O gv1 ⟨O,O,O,O,T⟩ (fun g6_31=>qG O ok13 (base_Expr sqX sqX (by decide+kernel)) ⟨Y,O,Y,O,T⟩) O<|zM O O (kR O O O (fun h=>h) O)<|zM O O (yQ O O)<|yM<|U<|zH<|zQ O ?_
  exact O
theorem law_ForwardValid (p:Pg) (o_:List ByteArray) (hlo:o_.length<=140737488355328) (hp:p.Fit) (hF:p.Frm):
    Pur cfg 5 [vPg p,vSs o_] (vB true):=by
 refine zT Tryz.func5 O Tryz.ntmps5 Tryz.results5 O ?_
 intro z hz
 refine B O<|zZ O O (qI O O) ?_
 rintro _ _ ⟨b1,rfl,rfl⟩
 refine G O<|U<|zI<|B O<|zL kO (J 0 O) O<|qK O ok7 (law20_Small p hp) ⟨Y,O,T⟩<|wB O<|G O<|rL0 O (fun g1_3=>zR O O) O<|rL1 15 O (fun g1_3=>qG O ok9 (law26_few o_ hlo) ⟨Y,O,T⟩) O<|rL1 16 O (fun g1_3=>wA O O) O<|r_or O (fun h=>(lzf h))<|U<|zE O (fun c1=>?_) (fun c1=>?_)
 ·try simp only [W] at c1
  refine B O<|qK O ok10 zEb T<|G O<|U<|zH<|zQ O ?_
  exact O
 ·try simp only [W] at c1
  have c1:smlP p=true/\fewN o_=true:=c1
  have hS:=sml_is c1.1 hF
  obtain ⟨ho,hs⟩:=few_is c1.2
  have hso:∀s,s∈o_->s.size<=1000000:=fun s h=>Nat.le_trans (hs s h) (by decide)
  have hPo:=progF_sm (l:=o_) hS (by omega)
  have hPe:=progF_err (p:=p) (o_:=o_)
  have hPk:=progF_ok (p:=p) (o_:=o_)
  generalize hP:progF p o_=P at hPo hPe hPk
  refine zJ<|B O<|zL kO (J 0 O) O<|G O<|qK O ok15 (show Pur cfg 15 [vPg p,vSs o_] (.tup [vPg P.1,vI P.2]) by rw [←hP];exact fwd_Prog p hS o_ ho hs) ⟨Y,O,Y,O,T⟩<|zX O (qV O O)<|zX O (yJ O O O)<|zX O (yI O O O)<|zZ O O (qH [some 1,some 3,some 7,some 22,some 1] O zr27 O) ?_
  rintro _ _ ⟨b2,rfl,rfl⟩
  refine N 0 sz27 O<|G O<|U<|zI<|B O<|G O<|yN O<|U<|zE O (fun c2=>?_) (fun c2=>?_)
  ·try simp only [W] at c2
   rw [hPe c2]
   refine B O<|zG O wN<|zK zCk (J 0 O) O<|zY O el24<|L O<|G O<|rL0 O (fun g5_4=>zD O kE O) O<|rL1 33 O (fun g5_4=>zF O wX O (J 0 O) O) O<|rL1 34 O (fun g5_4=>qP O el25 O) O<|rL1 35 O (fun g5_4=>yF O O O) O<|yW O (fun h=>h)<|G O<|rL0 O (fun g5_10=>zD O zBb O) O<|rL1 39 O (fun g5_10=>zF O wY O (J 0 O) O) O<|rL1 40 O (fun g5_10=>qP O el22 O) O<|rL1 41 O (fun g5_10=>yF O O O) O<|yW O (fun h=>h)<|G O<|rL0 O (fun g5_16=>qG O ok10 zEb T) O<|yW O (fun h=>h)<|G O<|U<|zH<|zQ O ?_
   exact O
  ·try simp only [W] at c2
   obtain ⟨hv,hpl,⟨X,hX⟩,hdk⟩:=hPk (by omega)
   rw [validM_R] at hv
   have hpd:=hPo.defs
   have hpp:=hS.params
   have hpf:=hS.defs
   refine zJ<|B O<|zL kO (J 0 O) O<|qK O ok18 (ref17_Validate P.1 hPo) ⟨Y,O,T⟩<|zX O (qV O O)<|zX O (yI O O O)<|zX O (yI O O O)<|G O<|G O<|U<|zI<|zI<|qT 35 mixed (by kernel_rfl) O O<|zM O O (zR O O)<|zM O O (zAk O O O)<|zM O O (zR O O)<|qC [] O O O O gv1 T (fun g7_2=>zD O wN O) O<|qC [(55,_)] O O O O gv1 ⟨O,O,T⟩ (fun g7_2=>zF O zCk O (J 0 O) O) O<|qC [(56,_)] O O O O gv1 ⟨O,O,T⟩ (fun g7_2=>qP O el24 O) O<|qC [] O O O O gv1 T (fun g7_2=>zD O wN O) O<|qC [(58,_)] O O O O gv1 ⟨O,O,T⟩ (fun g7_2=>zF O zCk O (J 1 O) O) O<|qC [(59,_)] O O O O gv1 ⟨O,O,T⟩ (fun g7_2=>qP O el24 O) O<|qC [] O O O O gv1 T (fun g7_2=>zR O O) O<|qC [(61,_)] O O O O gv1 ⟨O,O,T⟩ (fun g7_2=>qP O el22 O) O<|qC [(60,_),(62,_)] O O O O gv1 ⟨O,O,O,O,T⟩ (fun g7_2=>zDe O O O ⟨by omega,by omega⟩) O<|qC [(57,_),(63,_)] O O O O gv1 ⟨O,O,O,O,T⟩ (fun g7_2=>zAk O O O) O<|zM O O (zAw O O O O (fun h=>(lzf h)))<|zM O O (zR O O)<|qC [] O O O O gv1 T (fun g7_14=>zD O zBb O) O<|qC [(67,_)] O O O O gv1 ⟨O,O,T⟩ (fun g7_14=>zF O wY O (J 0 O) O) O<|qC [(68,_)] O O O O gv1 ⟨O,O,T⟩ (fun g7_14=>qP O el22 O) O<|qC [] O O O O gv1 T (fun g7_14=>zD O zBb O) O<|qC [(70,_)] O O O O gv1 ⟨O,O,T⟩ (fun g7_14=>zF O wY O (J 1 O) O) O<|qC [(71,_)] O O O O gv1 ⟨O,O,T⟩ (fun g7_14=>qP O el22 O) O<|qC [(69,_),(72,_)] O O O O gv1 ⟨O,O,O,O,T⟩ (fun g7_14=>zEc O O O) O<|zM O O (zAw O O O O (fun h=>(lzf h)))<|zM O O (zR O O)<|qC [] O O O O gv1 T (fun g7_23=>zD O zBb O) O<|qC [(76,_)] O O O O gv1 ⟨O,O,T⟩ (fun g7_23=>zF O wY O (J 0 O) O) O<|qC [] O O O O gv1 T (fun g7_23=>zD O zBb O) O<|qC [(78,_)] O O O O gv1 ⟨O,O,T⟩ (fun g7_23=>zF O wY O (J 1 O) O) O<|qC [(79,_)] O O O O gv1 ⟨O,O,T⟩ (fun g7_23=>qP O el22 O) O<|qC [(77,_),(80,_)] O O O O gv1 ⟨O,O,O,O,T⟩ (fun g7_23=>zAr (k:=p.Outs.length) O el22 O O (by rw [hX,List.length_append];omega)) O<|qC [] O O O O gv1 T (fun g7_23=>zD O zBb O) O<|qC [(82,_)] O O O O gv1 ⟨O,O,T⟩ (fun g7_23=>zF O wY O (J 1 O) O) O<|qC [(81,_),(83,_)] O O O O gv1 ⟨O,O,O,O,T⟩ (fun g7_23=>qG O ok19 (zKx (P.1.Outs.take p.Outs.length) p.Outs (by rw [List.length_take];have:=hPo.outs;omega)) ⟨Y,O,Y,O,T⟩) O<|qC [(84,_)] O O O O gv1 ⟨O,O,T⟩ (fun g7_23=>wA O O) O<|zM O O (zAw O O O O (fun h=>(lzf h)))<|yM<|U<|zE O (fun c3=>?_) (fun c3=>?_)
   ·try simp only [W] at c3
    refine B O<|G O<|U<|zH<|zQ O ?_
    have h8:P.1.Outs.length=p.Outs.length+X.length:=by rw [hX,List.length_append]
    have h9:P.1.Outs.take p.Outs.length=p.Outs:=by rw [hX];simp
    exact absurd c3 (by simp only [h9,hv,not_true_eq_false,or_false,false_or];omega)
   ·try simp only [W] at c3
    refine zJ<|zI<|B O<|G O<|U<|zP<|zU ⟨[(9,.c _),(2,.c _),(5,.c _)],[_,_]⟩ (Weak.mk [true,true] ⟨Y,Y,Y,T⟩ O)<|qF 1 0 O O (Nat) (fun k=>[(9,vI k)]) (fun k=>[]) (fun k=>k<=p.Defs.length) (fun k=>p.Defs.length-k) ⟨0,(by omega),Weak.mk [true,true] ⟨Y,Y,Y,T⟩ O⟩ ?_
    rintro k hk
    refine zI<|B O<|G O<|zG O kE<|zK wX (J 1 O) O<|zY O el25<|yA O<|U<|zE O (fun c4=>?_) (fun c4=>?_)
    ·try simp only [W] at c4
     obtain ⟨d,hd⟩:=qQ p.Defs k (by omega)
     obtain ⟨i,hi,hdi⟩:=hdk d (qD hd)
     obtain ⟨h1,h2,h3,h4,h5⟩:=hS.df (qD hd)
     refine zJ<|zI<|zP<|zI<|qT 9 mixed (by kernel_rfl) O O<|zM O O (zN O kO O (J 0 O) O)<|zM O O (zD O kE O)<|zM O O (zF O wX O (J 1 O) O)<|zM O O (zR O O)<|zM O O (qA O el25 O O (by omega) (getm hd))<|zM O O (qL O zEn O)<|zM O O (zF O one9 O qB O)<|zM O O (qG O ok20 (show Pur cfg 20 [vPg P.1,vS d.Name] (vI (i:Nat)) by rw [←hi];exact ref17_IndexOf P.1 d.Name hPo.defs) ⟨Y,O,Y,O,T⟩)<|zM O O (yQ O O)<|yM<|U<|zI<|qT 16 mixed (by kernel_rfl) O O<|zM O O (zR O O)<|zM O O (zEc O O O)<|zM O O (zR O O)<|qC [] O O O O gv1 T (fun g13_2=>zD O kE O) O<|qC [(105,_)] O O O O gv1 ⟨O,O,T⟩ (fun g13_2=>zF O wX O (J 0 O) O) O<|qC [] O O O O gv1 T (fun g13_2=>zR O O) O<|qC [(106,_),(107,_)] O O O O gv1 ⟨O,O,O,O,T⟩ (fun g13_2=>qA O el25 O O (by omega) (getm hdi)) O<|qC [(108,_)] O O O O gv1 ⟨O,O,T⟩ (fun g13_2=>zN O zCv O qB O) O<|qC [] O O O O gv1 T (fun g13_2=>zD O kE O) O<|qC [(110,_)] O O O O gv1 ⟨O,O,T⟩ (fun g13_2=>zF O wX O (J 1 O) O) O<|qC [] O O O O gv1 T (fun g13_2=>zR O O) O<|qC [(111,_),(112,_)] O O O O gv1 ⟨O,O,O,O,T⟩ (fun g13_2=>qA O el25 O O (by omega) (getm hd)) O<|qC [(113,_)] O O O O gv1 ⟨O,O,T⟩ (fun g13_2=>zN O zCv O qB O) O<|qC [(109,_),(114,_)] O O O O gv1 ⟨O,O,O,O,T⟩ (fun g13_2=>qG O ok21 (base_Def d d (by omega) (by omega) (fun x hx=>Nat.le_trans (h3 x hx) (by decide)) (fun x hx=>Nat.le_trans (h4 x hx) (by decide)) (by omega)) ⟨Y,O,Y,O,T⟩) O<|qC [(115,_)] O O O O gv1 ⟨O,O,T⟩ (fun g13_2=>wA O O) O<|zM O O (zAw O O O O (fun h=>(lzf h)))<|yM<|U<|zE O (fun c5=>?_) (fun c5=>?_)
     ·try simp only [W] at c5
      refine B O<|G O<|U<|zH<|zQ O ?_
      exact absurd c5 (by simp only [not_true_eq_false,or_false];omega)
     ·try simp only [W] at c5
      refine zJ<|zS O<|G O<|qJ O ⟨by omega,by omega⟩<|G O<|U ?_
      refine ⟨k+1,(by omega),(by omega),Weak.mk [true,true] ⟨Y,Y,Y,T⟩ O⟩
    ·try simp only [W] at c4
     refine qO<|B O<|qK O ok10 zEb T<|G O<|U<|zH<|zQ O ?_
     exact O
end Go.W
