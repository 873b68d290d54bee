/-
  Walks: what functions of the program compute. Printed by wip/gen/mk2.py.
  Conditions: none.
-/
import Derived.Test.YtkidnhldibjiaaaGreatDoorKB
import Derived.Test.YtkidnhldibjiaaaGreatDoorPlain3
import Derived.Test.YtkidnhldibjiaaaGreatDoorOpenX
set_option linter.unusedSimpArgs false
set_option linter.unusedVariables false
set_option maxRecDepth 10000
namespace Go.W
open Go Go.Eng Go.Proofs Go.L41 Go.Br
attribute [local irreducible] AWP RWP TD finQ
theorem pgOkC {p:Pg} (h:p.Ok):p.OkC:=
  ⟨h.sizes,h.wh,h.params,h.defs,h.outs,h.whs,h.ps,fun d hd=>⟨(h.ds d hd).1,(h.ds d hd).2.1,(h.ds d hd).2.2.1,(h.ds d hd).2.2.2.1,allF_wt (Nat.le_trans (h.ds d hd).2.2.2.2 (by decide)),Nat.le_trans (Ex.cnt_le d.Body) (h.ds d hd).2.2.2.2⟩⟩
theorem fd74_2:fieldT Tryz.prog 74 2=some (14,3):=by kernel_rfl
theorem ok38:callOk Tryz.prog 38=true:=by kernel_rfl
theorem ok39:callOk Tryz.prog 39=true:=by kernel_rfl
theorem ok90:callOk Tryz.prog 90=true:=by kernel_rfl
theorem ok95:callOk Tryz.prog 95=true:=by kernel_rfl
theorem cse_fresh (p:Pg) (j:Nat) (hX:p.Xt j) (hj:j<=64):
    Pur cfgI 90 [vPg p] (vS (frsT p)):=by
 refine zS Tryz.func90 O Tryz.ntmps90 Tryz.results90 O ?_
 intro z hz
 have hdl:=hX.defs
 have h1:=hX.sizes
 have h2:=hX.params
 have hul:=usedL_len hX hj
 refine G O<|zU O O (qI O O) ?_
 rintro _ _ ⟨b1,rfl,rfl⟩
 refine Y O<|W<|G O<|zE O zCa<|zI zAu (J 0 O) O<|zU O O (zCt O ok83 (upI (zCx p.Sizes (by omega))) ⟨U,O,T⟩) ?_
 rintro _ _ ⟨sv2,rfl,rfl⟩
 refine Y O<|W<|zH<|G O<|zE O wZ<|zI zCf (J 1 O) O<|zT O el24<|Y O<|W<|zN<|zV ⟨[(16,.c _),(3,.c _),(1,.c _),(14,.c _),(15,.c _)],[_,_]⟩ (Weak.mk [true,true] ⟨U,U,U,U,U,T⟩ O)<|zY 2 1 O O (Nat×Value) (fun ⟨k,sv⟩=>[(16,vI k),(3,.c (.lit sv))]) (fun ⟨k,sv⟩=>[E.vec sv 9 1 ((p.Sizes++(p.Params.take k).map Pm.Name).map fun s=>[cS s])]) (fun ⟨k,sv⟩=>k<=p.Params.length) (fun ⟨k,sv⟩=>p.Params.length-k) ⟨⟨0,_⟩,(by omega),Weak.mk [true,true] ⟨U,U,U,U,U,T⟩ (by exact kL (by simp))⟩ ?_
 rintro ⟨k,sv⟩ hk
 show AWP _ _ _ _ _ ⟨[(16,vI k),(3,.c (.lit sv))]++_,[E.vec sv 9 1 ((p.Sizes++(p.Params.take k).map Pm.Name).map fun s=>[cS s])]++_⟩
 refine G O<|qW O<|W<|zH<|zF O (fun c1=>?_) (fun c1=>?_)
 ·try simp only [sx] at c1
  obtain ⟨x,hx⟩:=qO p.Params k (by omega)
  refine zJ<|zH<|zN<|G O<|zZ O el24 (by omega) (getm hx)<|zL agg67 zX O<|zU O O (qD [none,none,none,none,none,none,some 2] O zr67 O) ?_
  rintro _ _ ⟨b3,rfl,rfl⟩
  refine N 0 sz67 O<|W<|zO O<|Y O<|zE O zMb<|zI one9 (J 0 O) O<|qX O r zr9<|zU O O (qQ 1 O r O O O (by simp only [List.length_map,List.length_append,List.length_cons,List.length_nil,List.length_take,List.length_drop];omega) (by simp only [List.length_map,List.length_append,List.length_cons,List.length_nil,List.length_take,List.length_drop];omega)) ?_
  rintro _ _ ⟨sv4,rfl,rfl⟩
  refine Y O<|W<|zO O<|qB O ⟨by omega,by omega⟩<|Y O<|W ?_
  refine ⟨⟨k+1,sv4⟩,(by omega),(by show p.Params.length-(k+1)<p.Params.length-k;omega),Weak.mk [false,true,true] ⟨U,U,U,U,U,T⟩ (by exact kL (by rw [qM hx];simp))⟩
 ·try simp only [sx] at c1
  rw [qT (l:=p.Params) (k:=k) (by omega)]
  refine qF<|zH<|G O<|zE O yK<|zI kU (J 1 O) O<|zT O el25<|Y O<|W<|zN<|zV ⟨[(29,.c _),(3,.c _),(27,.c _),(28,.c _)],[_]⟩ (Weak.mk [true,false] ⟨U,U,U,U,T⟩ O)<|zY 2 1 O O (Nat×Value) (fun ⟨i,sw⟩=>[(29,vI i),(3,.c (.lit sw))]) (fun ⟨i,sw⟩=>[E.vec sw 9 1 ((usedK p i).map fun s=>[cS s])]) (fun ⟨i,sw⟩=>i<=p.Defs.length) (fun ⟨i,sw⟩=>p.Defs.length-i) ⟨⟨0,_⟩,(by omega),Weak.mk [true] ⟨U,U,U,U,T⟩ (by exact kL (by unfold usedK;simp))⟩ ?_
  rintro ⟨i,sw⟩ hi
  show AWP _ _ _ _ _ ⟨[(29,vI i),(3,.c (.lit sw))]++_,[E.vec sw 9 1 ((usedK p i).map fun s=>[cS s])]++_⟩
  refine G O<|qW O<|W<|zH<|zF O (fun c2=>?_) (fun c2=>?_)
  ·try simp only [sx] at c2
   obtain ⟨d,hd⟩:=qO p.Defs i (by omega)
   have hkl:=usedK_len hX (show i<=p.Defs.length by omega)
   have hnd:=wJ d
   have hxd:=hX.ds d (zW hd)
   have hx1:=hxd.dims
   have hx2:=hxd.red
   have hk3:3001*i<=3001*104:=Nat.mul_le_mul_left _ (by omega)
   refine zJ<|zH<|zN<|G O<|zZ O el25 (by omega) (getm hd)<|zL wP zX O<|zU O O (qD [none,none,none,none,none,none,some 3,some 3,none,none,none,none,none,none,none,none,none,none,none,some 2,some 4,some 13] O zr63 O) ?_
   rintro _ _ ⟨b5,rfl,rfl⟩
   refine N 0 sz63 O<|W<|G O<|Y O<|zE O zDd<|zI one9 (J 0 O) O<|qX O r zr9<|zU O O (qQ 1 O r O O O (by simp only [List.length_map,List.length_append,List.length_cons,List.length_nil,List.length_take,List.length_drop];omega) (by simp only [List.length_map,List.length_append,List.length_cons,List.length_nil,List.length_take,List.length_drop];omega)) ?_
   rintro _ _ ⟨sv6,rfl,rfl⟩
   refine Y O<|W<|zO O<|Y O<|zL wP (J 0 O) O<|qK O ok89 (OwnR.pur (upI (wS d (by have:=(hX.ds d (zW hd)).dims;omega) (by have:=(hX.ds d (zW hd)).red;omega)))) ⟨U,O,T⟩<|zU O O (qQ 1 O r O O O (by simp only [List.length_map,List.length_append,List.length_cons,List.length_nil,List.length_take,List.length_drop];omega) (by simp only [List.length_map,List.length_append,List.length_cons,List.length_nil,List.length_take,List.length_drop];omega)) ?_
   rintro _ _ ⟨sv7,rfl,rfl⟩
   refine Y O<|W<|zO O<|qB O ⟨by omega,by omega⟩<|Y O<|W ?_
   refine ⟨⟨i+1,sv7⟩,(by omega),(by show p.Defs.length-(i+1)<p.Defs.length-i;omega),Weak.mk [false,true] ⟨U,U,U,U,T⟩ (by exact kL (by rw [usedK_next hd,List.map_append,List.map_append];rfl))⟩
  ·try simp only [sx] at c2
   rw [usedK_end (p:=p) (k:=i) (by omega)]
   refine qF<|G O<|Y O<|W<|zN<|zV ⟨[(8,.c _),(3,.c _)],[_]⟩ (Weak.mk [true] ⟨U,U,T⟩ O)<|zY 1 0 O O (Nat) (fun j_=>[(8,vI j_)]) (fun j_=>[]) (fun j_=>j_<=(usedL p).length/\∀i,i<j_->hasB (usedL p) (tNm i)=true) (fun j_=>(usedL p).length+1-j_) ⟨0,⟨by omega,fun i hi=>by omega⟩,Weak.mk [true] ⟨U,U,T⟩ O⟩ ?_
   rintro j_ ⟨hjl,hp⟩
   refine zH<|zN<|G O<|Y O<|qK O ok95 (strconv_Itoa j_ (by omega)) ⟨U,O,T⟩<|qC O (det_sadd O O O (by have:=decB_size (n:=j_) (by omega);have h9:(ByteArray.mk #[116]).size=1:=(by decide);omega))<|Y O<|W<|G O<|Y O<|Y O<|qC O (zBb 0 O ok52 O (upI (wL (usedL p) (tNm j_) (by omega))) O ⟨.inl ⟨O,O⟩,.inr ⟨U,O⟩,T⟩)<|wF O<|W<|zF O (fun c3=>?_) (fun c3=>?_)
   ·try simp only [sx] at c3
    have c3:hasB (usedL p) (tNm j_)=false:=by simpa using c3
    refine G O<|Y O<|Y O<|W<|zK<|zP O ?_
    exact congrArg vS (show tNm j_=frsT p by unfold frsT;rw [frs_end hp c3])
   ·try simp only [sx] at c3
    have c3:hasB (usedL p) (tNm j_)=true:=by simpa using c3
    have hnx:=tNm_up hp c3
    have hlt:=tNm_lt hnx
    refine zJ<|zO O<|Y O<|qB O ⟨by omega,by omega⟩<|Y O<|W ?_
    refine ⟨j_+1,⟨hlt,hnx⟩,(by omega),Weak.mk [true] ⟨U,U,T⟩ O⟩
theorem cse_best (p:Pg) (j:Nat) (hX:p.Xt j) (hj:j<=64):
    Pur cfg 38 [vPg p] (.tup [vCl (bstP (clsP p.Defs)).1,vB (decide (0<(bstP (clsP p.Defs)).2))]):=by
 refine zS Tryz.func38 O Tryz.ntmps38 Tryz.results38 O ?_
 intro z hz
 have hcl:=cls_len hX hj
 refine G O<|zU O O (qI O O) ?_
 rintro _ _ ⟨b1,rfl,rfl⟩
 refine zU O O (qD [none,none,none,none,none,none,none,none,none,none,some 2,some 4,some 13,some 3,none,none] O zr74 O) ?_
 rintro _ _ ⟨b2,rfl,rfl⟩
 refine Y O<|W<|G O<|qC O (kG [none,none,none,none,none,none,none,none,none,none,some 2,some 4,some 13,some 3,none,none] O zr74 pl74 O O)<|zU O O (qD [none,none,none,none,none,none,none,none,none,none,some 2,some 4,some 13,some 3,none,none] O zr74 O) ?_
 rintro _ _ ⟨b3,rfl,rfl⟩
 refine N 0 sz74 O<|Y O<|W<|zH<|G O<|zL kT (J 2 O) O<|qK O ok31 (OwnR.pur (zPw p j hX hj)) ⟨U,O,T⟩<|zT O el71<|Y O<|W<|zN<|zV ⟨[(13,.c _),(5,.c _),(2,.c _),(4,.c _),(11,.c _),(12,.c _)],[_,_]⟩ (Weak.mk [true,true,false] ⟨U,U,U,U,U,U,T⟩ O)<|zY 2 1 O O (Nat×Cl×Nat) (fun ⟨k,b⟩=>[(13,vI k),(5,vI b.2)]) (fun ⟨k,b⟩=>[E.row b3 74 b.1.cells]) (fun ⟨k,b⟩=>k<=(clsP p.Defs).length/\(bstP (clsP p.Defs)=((clsP p.Defs).drop k).foldl bstS b)) (fun ⟨k,b⟩=>(clsP p.Defs).length-k) ⟨⟨0,(zCl,0)⟩,⟨by omega,O⟩,Weak.mk [true,true] ⟨U,U,U,U,U,U,T⟩ O⟩ ?_
 rintro ⟨k,b⟩ ⟨hk,hp⟩
 show AWP _ _ _ _ _ ⟨[(13,vI k),(5,vI b.2)]++_,[E.row b3 74 b.1.cells]++_⟩
 refine G O<|qW O<|W<|zH<|zF O (fun c1=>?_) (fun c1=>?_)
 ·try simp only [sx] at c1
  obtain ⟨c,hc⟩:=qO (clsP p.Defs) k (by omega)
  refine zJ<|zH<|zN<|G O<|zZ O el71 (by omega) (getm hc)<|zL agg74 zX O<|zU O O (qD [none,none,none,none,none,none,none,none,none,none,some 2,some 4,some 13,some 3,none,none] O zr74 O) ?_
  rintro _ _ ⟨b4,rfl,rfl⟩
  refine N 0 sz74 O<|W<|G O<|zE O fd74_0<|zL qZ (J 0 O) O<|qK O ok87 (expr_Size c.e (by have:=(cls_bd hX hj c (zW hc)).2.1;omega)) ⟨U,O,T⟩<|Y O<|W<|G O<|zE O zPh<|zI one3 (J 0 O) O<|qC O (kQ O O O)<|Y O<|rL0 O (fun g6_3=>zQ O O) O<|rL0 O (fun g6_3=>zQ O O) O<|rLz [(24,_),(25,_)] O gv1 ⟨O,O,O,O,T⟩ (fun g6_3=>yG O O O) O<|yZ O (fun h=>h)<|W<|zF O (fun c2=>?_) (fun c2=>?_)
  ·have hB:bstS b c=(c,szT c.e):=if_pos (by simp only [Lz,cond_true,cond_false,Bool.and_eq_true,Bool.or_eq_true,Bool.not_eq_true',Bool.not_eq_false',Bool.or_eq_false_iff,Bool.and_eq_false_iff,decide_eq_true_eq,decide_eq_false_iff_not,Bool.not_eq_true,Bool.not_eq_false,List.length_map] at c2;omega)
   have hB:=hB.symm
   refine zO O<|zL agg74 (J 0 O) O<|Y O<|N 1 sz74 O<|Y O<|W<|zO O<|qB O ⟨by omega,by omega⟩<|Y O<|W ?_
   refine ⟨⟨k+1,bstS b c⟩,⟨by omega,bst_next hc hp⟩,(by show (clsP p.Defs).length-(k+1)<(clsP p.Defs).length-k;omega),Weak.mk [false,true,true] ⟨U,VLe.of_eq (congrArg (fun q:Cl×Nat=>vI q.2) hB),U,U,U,U,T⟩ (by rw [←hB];rfl)⟩
  ·have hB:bstS b c=b:=if_neg (by simp only [Lz,cond_true,cond_false,Bool.and_eq_true,Bool.or_eq_true,Bool.not_eq_true',Bool.not_eq_false',Bool.or_eq_false_iff,Bool.and_eq_false_iff,decide_eq_true_eq,decide_eq_false_iff_not,Bool.not_eq_true,Bool.not_eq_false,List.length_map] at c2;omega)
   have hB:=hB.symm
   refine zJ<|zO O<|qB O ⟨by omega,by omega⟩<|Y O<|W ?_
   refine ⟨⟨k+1,bstS b c⟩,⟨by omega,bst_next hc hp⟩,(by show (clsP p.Defs).length-(k+1)<(clsP p.Defs).length-k;omega),Weak.mk [false,true,true] ⟨U,VLe.of_eq (congrArg (fun q:Cl×Nat=>vI q.2) hB),U,U,U,U,T⟩ (by rw [←hB];rfl)⟩
 ·try simp only [sx] at c1
  have hE:=bst_end hp (by omega)
  have hE:bstP (clsP p.Defs)=b:=hE
  rw [hE]
  refine qF<|G O<|zL agg74 (J 0 O) O<|Y O<|qC O (yG O O O)<|N 1 sz74 O<|Y O<|W<|zK<|fin2 (qH agg74 O (J 1 O) O) (v O) ?_
  exact congrArg (fun q=>V.tup [vCl b.1,vB q]) (decide_eq_decide.2 (by omega))
theorem cse_extract (p:Pg) (j:Nat) (hX:p.Xt j) (hj:j<=63) (c:Cl) (hc:c∈clsP p.Defs):
    Pur cfgI 39 [vPg p,vCl c] (vPg (extP p c)):=by
 refine zS Tryz.func39 O Tryz.ntmps39 Tryz.results39 O ?_
 intro z hz
 have hP:=hX.ok (by omega)
 have hdrl:(p.Defs.drop c.first).length=p.Defs.length-c.first:=List.length_drop
 have hdl:=hX.defs
 have hfl:=cl_first hc
 have hd0:=dfG hfl
 have hx0:=hX.ds _ (zW hd0)
 have hx1:=hx0.dims
 have hx2:=hx0.red
 have hok:=clsP_ok _ c hc
 have hcb:=cls_bd hX (by omega) c hc
 have hnl:=wJ (p.Defs.getD c.first ⟨bs [],zTy,[],[],0,zEx⟩)
 have hax:=hok.axes
 have hew:=hcb.2.1
 refine G O<|zU O O (qI O O) ?_
 rintro _ _ ⟨b1,rfl,rfl⟩
 refine zU O O (qI O O) ?_
 rintro _ _ ⟨b2,rfl,rfl⟩
 refine zU O O (qD [some 1,some 3,some 7,some 22,some 1] O zr27 O) ?_
 rintro _ _ ⟨b3,rfl,rfl⟩
 refine W<|G O<|zE O yK<|zI kU (J 2 O) O<|zE O fd74_2<|zI one3 (J 1 O) O<|zZ O el25 (by omega) (getm hd0)<|zL wP zX O<|zU O O (qD [none,none,none,none,none,none,some 3,some 3,none,none,none,none,none,none,none,none,none,none,none,some 2,some 4,some 13] O zr63 O) ?_
 rintro _ _ ⟨b4,rfl,rfl⟩
 refine N 0 sz63 O<|W<|zH<|wR 11 1 [⟨0,.q [4]⟩,⟨1,.q [1]⟩,⟨2,.q []⟩,⟨3,.q []⟩,⟨4,.q [3]⟩,⟨5,.q []⟩,⟨6,.q []⟩,⟨7,.q []⟩,⟨8,.q []⟩,⟨9,.e 0 []⟩,⟨10,.e 0 []⟩] mixed (by kernel_rfl) (by kernel_rfl) O O O<|qL O<|qL O<|qL O<|qL O<|qL O<|qL O<|qL O<|qL O<|qL O<|qL O<|qL O<|zFn<|qR O (by decide) O O (zR O kT O (J 0 O) O)<|qR O (by decide) O O (zR O wP O (J 0 O) O)<|qR O (by decide) O O (qG O ok89 (OwnR.pur (upI (wS (p.Defs.getD c.first ⟨bs [],zTy,[],[],0,zEx⟩) (by omega) (by omega)))) ⟨U,O,T⟩)<|qR O (by decide) O O (zD O fd74_0 O)<|qR O (by decide) O O (zR O qZ O (J 0 O) O)<|qR O (by decide) O O (qG O ok88 (upI (zHq p (namesD (p.Defs.getD c.first ⟨bs [],zTy,[],[],0,zEx⟩)) c.e hP (by omega) (by omega))) ⟨U,O,U,O,U,O,T⟩)<|qR O (by decide) O O (yD O O)<|qR O (by decide) O O (yW O O O)<|qR O (by decide) O O (yL O O O)<|sq_op O O (by decide) O O (yE O zr37) ?_
 rintro _ _ ⟨b5,rfl,rfl⟩
 refine ⟨_,O,?_⟩
 refine sq_op0 O O (by decide) O O (wG O sz37 O O O (zHm 0 O O)) ?_
 rintro _ _ ⟨rfl,rfl⟩
 refine ⟨_,O,?_⟩
 refine zFj O<|Y O<|W<|zH<|wR 9 1 [⟨0,.q [5]⟩,⟨1,.q []⟩,⟨2,.q [1]⟩,⟨3,.q []⟩,⟨4,.q [4]⟩,⟨5,.q []⟩,⟨6,.q [4]⟩,⟨7,.q []⟩,⟨8,.f 0⟩] mixed (by kernel_rfl) (by kernel_rfl) O O O<|qL O<|qL O<|qL O<|qL O<|qL O<|qL O<|qL O<|qL O<|fx_fresh O O (zBt (qD [none,none,none,none,none,none,some 3,some 3,none,none,none,none,none,none,none,none,none,none,none,some 2,some 4,some 13] O zr63 O)) ⟨_,_,0,O,O⟩<|zFn<|qR O (by decide) O O (zR O kT O (J 0 O) O)<|qR O (by decide) O O (qG O ok90 (cse_fresh p j hX (by omega)) ⟨U,O,T⟩)<|qR O (by decide) O O (zR O yB O (J 0 O) O)<|qR O (by decide) O O (zD O fd74_1 O)<|qR O (by decide) O O (zG O kP O (J 0 O) O)<|qR O (by decide) O O (zD O fd74_0 O)<|qR O (by decide) O O (zR O qZ O (J 0 O) O)<|qR O (by decide) O O (kG [none,none,none,none,none,none,none,some 3,none,none,none,none,none,none,none,none,none,none,none,none,none,none] O zr63 pl63 O O)<|sq_fresh O O ?_
 rintro _ _ ⟨b6,rfl,rfl⟩
 refine zFj O<|N 0 sz63 O<|W<|G O<|zE O zDd<|zI one9 (J 0 O) O<|yX O zr44 pl44<|zU O O (yE O zr44) ?_
 rintro _ _ ⟨b7,rfl,rfl⟩
 refine N 0 sz44 O<|W<|zH<|G O<|qV _ (yF 107 2)<|qV _ (yF 115 4)<|qV _ (yF 44 13)<|qV _ (yC 2 O (regs':=[]) (μ':=[_,_,_,_,_,_,_,_,_]) T ⟨EFle.refl _,EFle.refl _,EFle.row (ds:=[_,_,_,_,_,_,_,_,_,_,_,_,_]) ⟨.inl O,.inl O,.inl O,.inl O,.inl O,.inl O,.inl O,.inl O,.inl O,.inl O,.inr ⟨O,O⟩,.inl O,.inl O,T⟩,EFle.refl _,EFle.refl _,EFle.refl _,EFle.refl _,EFle.refl _,EFle.refl _,T⟩)<|qV _ (yC 0 O (regs':=[]) (μ':=[_,_,_,_,_,_,_,_]) T ⟨EFle.refl _,EFle.row (ds:=[_,_,_,_,_,_,_,_,_,_,_,_,_]) ⟨.inl O,.inl O,.inl O,.inl O,.inl O,.inl O,.inl O,.inl O,.inl O,.inl O,.inl O,.inl O,.inr ⟨O,O⟩,T⟩,EFle.refl _,EFle.refl _,EFle.refl _,EFle.refl _,EFle.refl _,EFle.refl _,T⟩)<|zE O fd74_1<|zI kP (J 6 O) O<|qC O (zAp O el61 O)<|Y O<|W<|zN<|zV ⟨[(44,.c _),(2,.c _),(3,.c _),(4,.c _),(8,.c _),(9,.c _),(42,.c _),(43,.c _)],[_,_,_,_,_,_]⟩ (Weak.mk [true,true,true,false,false,true,true,true] ⟨U,U,U,U,U,U,U,U,T⟩ O)<|zY 1 2 O O (Nat×Value) (fun ⟨k,sv⟩=>[(44,vI k)]) (fun ⟨k,sv⟩=>[E.vec sv 115 4 (((c.axes.take k).map fun a=>(⟨varL a.Name,bs [],[]⟩:Ix)).map Ix.cells),E.row b7 44 [cI 3,cS (frsT p),cI 0,cI 0,cI 0,cI 0,cI 0,cI 0,cI 0,cI 0,.sl 2 [],.lit sv,.sl 13 []]]) (fun ⟨k,sv⟩=>k<=c.axes.length) (fun ⟨k,sv⟩=>c.axes.length-k) ⟨⟨0,(.slice none 0 0)⟩,(by omega),Weak.mk [true,true,true,true,true,true] ⟨U,U,U,U,U,U,U,U,T⟩ O⟩ ?_
 rintro ⟨k,sv⟩ hk
 show AWP _ _ _ _ _ ⟨[(44,vI k)]++_,[E.vec sv 115 4 (((c.axes.take k).map fun a=>(⟨varL a.Name,bs [],[]⟩:Ix)).map Ix.cells),E.row b7 44 [cI 3,cS (frsT p),cI 0,cI 0,cI 0,cI 0,cI 0,cI 0,cI 0,cI 0,.sl 2 [],.lit sv,.sl 13 []]]++_⟩
 refine G O<|qW O<|W<|zH<|zF O (fun c1=>?_) (fun c1=>?_)
 ·try simp only [sx] at c1
  obtain ⟨a,ha⟩:=qO c.axes k (by omega)
  refine zJ<|zH<|zN<|G O<|zZ O el61 (by omega) (getm ha)<|zL zGr zX O<|zU O O (qD [none,none,some 2] O zIr O) ?_
  rintro _ _ ⟨b8,rfl,rfl⟩
  refine N 0 sz111 O<|W<|qS 7 mixed (by kernel_rfl) O O<|zM O O (zD O yV O)<|zM O O (zG O wE O (J 2 O) O)<|zM O O (zD O zBe O)<|zM O O (zG O one9 O (J 0 O) O)<|zM O O (qG O ok91 (upI (lin_Var a.Name)) ⟨U,O,T⟩)<|zM O O (kG [none,none,none,some 2] O zBx pl115 O O)<|zM O O (wK O D zBx O O O O)<|yJ<|zU O O (qQ 1 O D O O O (by simp only [List.length_map,List.length_append,List.length_cons,List.length_nil,List.length_take,List.length_drop];omega) (by simp only [List.length_map,List.length_append,List.length_cons,List.length_nil,List.length_take,List.length_drop];omega)) ?_
  rintro _ _ ⟨sv9,rfl,rfl⟩
  refine zE O yV<|N 2 sz41 O<|W<|zO O<|qB O ⟨by omega,by omega⟩<|Y O<|W ?_
  refine ⟨⟨k+1,sv9⟩,(by omega),(by show c.axes.length-(k+1)<c.axes.length-k;omega),Weak.mk [false,true,true,true,true,true,true] ⟨U,U,U,U,U,U,U,U,T⟩ (by exact zDh (by rw [qM ha,List.map_append,List.map_append];rfl))⟩
 ·try simp only [sx] at c1
  rw [qT (l:=c.axes) (k:=k) (by omega)]
  refine zV _ (yC 0 O (regs':=[]) (μ':=[_,_,_,_,_]) T ⟨EFle.row (ds:=[_,_,_,_,_,_,_,_,_,_,_,_,_]) ⟨.inl O,.inl O,.inl O,.inl O,.inl O,.inl O,.inl O,.inl O,.inl O,.inl O,.inl O,.inr ⟨O,O⟩,.inl O,T⟩,EFle.refl _,EFle.refl _,EFle.refl _,EFle.refl _,T⟩)<|qF<|G O<|zL kT (J 4 O) O<|zU O O (qD [some 1,some 3,some 7,some 22,some 1] O zr27 O) ?_
  rintro _ _ ⟨b10,rfl,rfl⟩
  refine N 0 sz27 O<|W<|G O<|zE O yK<|zI kU (J 5 O) O<|zE O fd74_2<|zI one3 (J 4 O) O<|qC O (zAy (k:=c.first) O el25 O O (by omega))<|qV _ (yF 63 22)<|zU O O (qQ 0 O el25 O O O (by simp only [List.length_map,List.length_append,List.length_cons,List.length_nil,List.length_take,List.length_drop];omega) (by simp only [List.length_map,List.length_append,List.length_cons,List.length_nil,List.length_take,List.length_drop];omega)) ?_
  rintro _ _ ⟨sv11,rfl,rfl⟩
  refine zE O yK<|N 1 sz25 O<|W<|G O<|zE O yK<|zI kU (J 1 O) O<|zL wP (J 3 O) O<|qX O el25 zr63<|zU O O (qQ 0 O el25 O O O (by simp only [List.length_map,List.length_append,List.length_cons,List.length_nil,List.length_take,List.length_drop];omega) (by simp only [List.length_map,List.length_append,List.length_cons,List.length_nil,List.length_take,List.length_drop];omega)) ?_
  rintro _ _ ⟨sv12,rfl,rfl⟩
  refine zE O yK<|N 1 sz25 O<|W<|zH<|G O<|zE O yK<|zI kU (J 6 O) O<|zE O fd74_2<|zI one3 (J 5 O) O<|qC O (det_cut_drop (k:=c.first) O el25 O O (by omega))<|qC O (zAp O el25 O)<|Y O<|W<|zN<|zV ⟨[(78,.c _),(3,.c _),(4,.c _),(9,.c _),(12,.c _),(76,.c _),(77,.c _)],[_,_,_,_,_]⟩ (Weak.mk [true,true,true,false,true,true,false] ⟨U,U,U,U,U,U,U,T⟩ O)<|zY 1 2 O O (Nat×Value) (fun ⟨i,sw⟩=>[(78,vI i)]) (fun ⟨i,sw⟩=>[E.vec sw 63 22 ((exdP p c i).map Df.cells),E.row b10 27 [.sl 1 ((p.Sizes).map fun s=>[cS s]),.sl 3 (p.Where.map Cn.cells),.sl 7 (p.Params.map Pm.cells),.lit sw,.sl 1 ((p.Outs).map fun s=>[cS s])]]) (fun ⟨i,sw⟩=>i<=(p.Defs.drop c.first).length) (fun ⟨i,sw⟩=>(p.Defs.drop c.first).length-i) ⟨⟨0,_⟩,(by omega),Weak.mk [true,true,true,true,true] ⟨U,U,U,U,U,U,U,T⟩ (by exact zDh (by unfold exdP;simp;rfl))⟩ ?_
  rintro ⟨i,sw⟩ hi
  show AWP _ _ _ _ _ ⟨[(78,vI i)]++_,[E.vec sw 63 22 ((exdP p c i).map Df.cells),E.row b10 27 [.sl 1 ((p.Sizes).map fun s=>[cS s]),.sl 3 (p.Where.map Cn.cells),.sl 7 (p.Params.map Pm.cells),.lit sw,.sl 1 ((p.Outs).map fun s=>[cS s])]]++_⟩
  refine G O<|qW O<|W<|zH<|zF O (fun c2=>?_) (fun c2=>?_)
  ·try simp only [sx] at c2
   obtain ⟨d,hd⟩:=qO (p.Defs.drop c.first) i (by omega)
   have hdm:=List.mem_of_mem_drop (zW hd)
   have hel:=exdP_len p c i
   refine zJ<|zH<|zN<|G O<|zZ O el25 (by omega) (getm hd)<|zL wP zX O<|zU O O (qD [none,none,none,none,none,none,some 3,some 3,none,none,none,none,none,none,none,none,none,none,none,some 2,some 4,some 13] O zr63 O) ?_
   rintro _ _ ⟨b13,rfl,rfl⟩
   refine N 0 sz63 O<|W<|G O<|zL wP (J 0 O) O<|zE O zAw<|zL qZ (J 0 O) O<|zL agg74 (J 5 O) O<|zL qZ (J 3 O) O<|qK O ok92 (upI (cse_replace d c (newR p c) p.Defs hok hcb (by have:=(hX.ds d hdm).dims;omega) (by have:=(hX.ds d hdm).red;omega) (hX.ds d hdm).fd (hX.ds d hdm).fr d.Body (by have:=(hX.ds d hdm).wt;omega))) ⟨U,O,U,O,U,O,U,O,T⟩<|zE O zAw<|N 0 sz44 O<|W<|zO O<|zE O yK<|zI kU (J 2 O) O<|zL wP (J 0 O) O<|qX O el25 zr63<|zU O O (qQ 1 O el25 O O O (by simp only [List.length_map,List.length_append,List.length_cons,List.length_nil,List.length_take,List.length_drop];omega) (by simp only [List.length_map,List.length_append,List.length_cons,List.length_nil,List.length_take,List.length_drop];omega)) ?_
   rintro _ _ ⟨sv14,rfl,rfl⟩
   refine zE O yK<|N 2 sz25 O<|W<|zO O<|qB O ⟨by omega,by omega⟩<|Y O<|W ?_
   refine ⟨⟨i+1,sv14⟩,(by omega),(by show (p.Defs.drop c.first).length-(i+1)<(p.Defs.drop c.first).length-i;omega),Weak.mk [false,true,true,true,true,true] ⟨U,U,U,U,U,U,U,T⟩ (by exact zDh (by rw [exdP_next hd,List.map_append];rfl))⟩
  ·try simp only [sx] at c2
   rw [exdP_end (p:=p) (c:=c) (k:=i) (by omega)]
   refine zV _ (yC 0 O (regs':=[]) (μ':=[_,_,_,_]) T ⟨EFle.row (ds:=[_,_,_,_,_]) ⟨.inl O,.inl O,.inl O,.inr ⟨O,O⟩,.inl O,T⟩,EFle.refl _,EFle.refl _,EFle.refl _,T⟩)<|qF<|G O<|zL kT (J 0 O) O<|N 2 sz27 O<|W<|zK<|fin1 (qH kT O (J 2 O) O) ?_
   rfl
theorem cse_Extract (p:Pg) (hX:p.Xt 0) (most:Int):
    Pur cfgI 13 [vPg p,vI most] (.tup [vPg (xtrP most p).1,vI ((xtrP most p).2:Nat)]):=by
 refine zS Tryz.func13 O Tryz.ntmps13 Tryz.results13 O ?_
 intro z hz
 have hP:=hX.ok (by decide)
 have hdl:=hX.defs
 refine G O<|zU O O (qI O O) ?_
 rintro _ _ ⟨b1,rfl,rfl⟩
 refine zU O O (qD [some 1,some 3,some 7,some 22,some 1] O zr27 O) ?_
 rintro _ _ ⟨b2,rfl,rfl⟩
 refine Y O<|W<|G O<|zL kT (J 1 O) O<|qK O ok37 (upI (zCs p (pgOkC hP))) ⟨U,O,T⟩<|zU O O (qD [some 1,some 3,some 7,some 22,some 1] O zr27 O) ?_
 rintro _ _ ⟨b3,rfl,rfl⟩
 refine N 0 sz27 O<|W<|zH<|G O<|zL kT (J 2 O) O<|qK O ok30 (upI (zCz p hP)) ⟨U,O,T⟩<|qC O (yD O O)<|qC O (yL O O O)<|qC O (yL O O O)<|Y O<|Y O<|W<|G O<|Y O<|yO O<|W<|zF O (fun c1=>?_) (fun c1=>?_)
 ·try simp only [sx] at c1
  refine G O<|zL kT (J 0 O) O<|N 1 sz27 O<|Y O<|W<|zK<|fin2 (qH kT O (J 1 O) O) (v O) ?_
  rw [xtr_no c1];rfl
 ·try simp only [sx] at c1
  have hx:=xtr_ok (most:=most) c1
  refine zJ<|G O<|Y O<|W<|zH<|zN<|zV ⟨[(9,.c _),(1,.c _),(4,.c _),(6,.c _)],[_,_]⟩ (Weak.mk [true,true,false] ⟨U,U,U,U,T⟩ O)<|zY 1 1 O O (Nat×Pg) (fun ⟨n,q⟩=>[(9,vI n)]) (fun ⟨n,q⟩=>[E.row b3 27 q.cells]) (fun ⟨n,q⟩=>q.Xt n/\n<=64/\((exG (most.toNat-0) p).1,(exG (most.toNat-0) p).2+0)=((exG (most.toNat-n) q).1,(exG (most.toNat-n) q).2+n)/\q.Defs.length=p.Defs.length+n) (fun ⟨n,q⟩=>64-q.Defs.length) ⟨⟨0,p⟩,⟨hX,by omega,O,O⟩,Weak.mk [true,true] ⟨U,U,U,U,T⟩ O⟩ ?_
  rintro ⟨n,q⟩ ⟨hXq,hn,hq,hql⟩
  refine zH<|G O<|Y O<|Y O<|qW O<|Y O<|rL0 O (fun g6_3=>zD O yK O) O<|rL1 26 O (fun g6_3=>zG O kU O (J 0 O) O) O<|rL1 27 O (fun g6_3=>qP O el25 O) O<|rL1 28 O (fun g6_3=>zDu O O O) O<|yZ O (fun h=>h)<|W<|zF O (fun c2=>?_) (fun c2=>?_)
  ·try simp only [sx] at c2
   refine zJ<|zN<|G O<|zL kT (J 0 O) O<|qK O ok38 (upI (cse_best q n hXq hn)) ⟨U,O,T⟩<|qC O (yD O O)<|qC O (yW O O O)<|qC O (yL O O O)<|zU O O (qD [none,none,none,none,none,none,none,none,none,none,some 2,some 4,some 13,some 3,none,none] O zr74 O) ?_
   rintro _ _ ⟨b4,rfl,rfl⟩
   refine N 0 sz74 O<|Y O<|W<|zH<|G O<|Y O<|wF O<|W<|zF O (fun c3=>?_) (fun c3=>?_)
   ·try simp only [sx] at c3
    have hE:=exG_stop2 hq (bst_none (by simpa using c3))
    rw [←hx] at hE
    refine qF<|G O<|zL kT (J 1 O) O<|qK O ok37 (upI (zCs q (pgOkC (hXq.ok hn)))) ⟨U,O,T⟩<|Y O<|N 2 sz27 O<|Y O<|W<|zK<|fin2 (qH kT O (J 2 O) O) (v O) ?_
    rw [hE];rfl
   ·try simp only [sx] at c3
    obtain ⟨hne,hmem⟩:=bst_some (D:=q.Defs) (by simpa using c3)
    refine zJ<|G O<|zL kT (J 1 O) O<|zL agg74 (J 0 O) O<|qK O ok39 (cse_extract q n hXq (by omega) (bstP (clsP q.Defs)).1 hmem) ⟨U,O,U,O,T⟩<|N 1 sz27 O<|W<|zO O<|Y O<|qB O ⟨by omega,by omega⟩<|Y O<|W ?_
    refine ⟨⟨n+1,extP q (bstP (clsP q.Defs)).1⟩,⟨hXq.step hmem,by omega,exG_go hq c2.1 (by omega) hne,by rw [extP_len];omega⟩,(by show 64-(extP q _).Defs.length<64-q.Defs.length;rw [extP_len];omega),Weak.mk [false,true,true] ⟨U,U,U,U,T⟩ O⟩
  ·try simp only [sx] at c2
   have hE:=exG_stop hq (by omega)
   rw [←hx] at hE
   refine qF<|G O<|zL kT (J 0 O) O<|qK O ok37 (upI (zCs q (pgOkC (hXq.ok hn)))) ⟨U,O,T⟩<|Y O<|N 1 sz27 O<|Y O<|W<|zK<|fin2 (qH kT O (J 1 O) O) (v O) ?_
   rw [hE];rfl
end Go.W
