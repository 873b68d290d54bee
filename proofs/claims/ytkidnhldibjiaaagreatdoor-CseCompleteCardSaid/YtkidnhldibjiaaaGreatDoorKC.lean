/-
  Walks: what functions of the program compute. Printed by wip/gen/mk2.py.
  Conditions: none.
-/
import Derived.Test.YtkidnhldibjiaaaGreatDoorKB
import Derived.Test.YtkidnhldibjiaaaGreatDoorPlain3
import Derived.Test.YtkidnhldibjiaaaGreatDoorOpenX
set_option linter.unusedSimpArgs false
set_option linter.unusedVariables false
set_option maxRecDepth 10000
namespace Go.W
open Go Go.Eng Go.Proofs Go.L41 Go.Br
attribute [local irreducible] AWP RWP TD finQ
theorem pgOkC {p:Pg} (h:p.Ok):p.OkC:=
  ⟨h.sizes,h.wh,h.params,h.defs,h.outs,h.whs,h.ps,fun d hd=>⟨(h.ds d hd).1,(h.ds d hd).2.1,(h.ds d hd).2.2.1,(h.ds d hd).2.2.2.1,allF_wt (Nat.le_trans (h.ds d hd).2.2.2.2 (by decide)),Nat.le_trans (Ex.cnt_le d.Body) (h.ds d hd).2.2.2.2⟩⟩
theorem fd74_2:fieldT Tryz.prog 74 2=some (14,3):=by kernel_rfl
theorem ok38:callOk Tryz.prog 38=true:=by kernel_rfl
theorem ok39:callOk Tryz.prog 39=true:=by kernel_rfl
theorem ok90:callOk Tryz.prog 90=true:=by kernel_rfl
theorem ok95:callOk Tryz.prog 95=true:=by kernel_rfl
theorem cse_fresh (p:Pg) (j:Nat) (hX:p.Xt j) (hj:j<=64):
    Pur cfgI 90 [vPg p] (vS (frsT p)):=by
 refine zQ Tryz.func90 O Tryz.ntmps90 Tryz.results90 O ?_
 intro z hz
 have hdl:=hX.defs
 have h1:=hX.sizes
 have h2:=hX.params
 have hul:=usedL_len hX hj
 refine G O<|zR O O (qG O O) ?_
 rintro _ _ ⟨b1,rfl,rfl⟩
 refine Y O<|W<|G O<|zE O zCh<|zH zAy (J 0 O) O<|zR O O (zCe O ok83 (upI (zCk p.Sizes (by omega))) ⟨U,O,T⟩) ?_
 rintro _ _ ⟨sv2,rfl,rfl⟩
 refine Y O<|W<|zG<|G O<|zE O zBp<|zH zFi (J 1 O) O<|zU O el24<|Y O<|W<|zN<|zV ⟨[(16,.c _),(3,.c _),(1,.c _),(14,.c _),(15,.c _)],[_,_]⟩ (Weak.mk [true,true] ⟨U,U,U,U,U,T⟩ O)<|zZ 2 1 O O (Nat×Value) (fun ⟨k,sv⟩=>[(16,vI k),(3,.c (.lit sv))]) (fun ⟨k,sv⟩=>[E.vec sv 9 1 ((p.Sizes++(p.Params.take k).map Pm.Name).map fun s=>[cS s])]) (fun ⟨k,sv⟩=>k<=p.Params.length) (fun ⟨k,sv⟩=>p.Params.length-k) ⟨⟨0,_⟩,(by omega),Weak.mk [true,true] ⟨U,U,U,U,U,T⟩ (by exact kZ (by simp))⟩ ?_
 rintro ⟨k,sv⟩ hk
 show AWP _ _ _ _ _ ⟨[(16,vI k),(3,.c (.lit sv))]++_,[E.vec sv 9 1 ((p.Sizes++(p.Params.take k).map Pm.Name).map fun s=>[cS s])]++_⟩
 refine G O<|qW O<|W<|zG<|zF O (fun c1=>?_) (fun c1=>?_)
 ·try simp only [sx] at c1
  obtain ⟨x,hx⟩:=qO p.Params k (by omega)
  refine zI<|zG<|zN<|G O<|zY O el24 (by omega) (getm hx)<|zL agg67 qA O<|zR O O (qC [none,none,none,none,none,none,some 2] O zr67 O) ?_
  rintro _ _ ⟨b3,rfl,rfl⟩
  refine N 0 sz67 O<|W<|zO O<|Y O<|zE O fd67_0<|zH one9 (J 0 O) O<|qV O r zr9<|zR O O (qP 1 O r O O O (by simp only [List.length_map,List.length_append,List.length_cons,List.length_nil,List.length_take,List.length_drop];omega) (by simp only [List.length_map,List.length_append,List.length_cons,List.length_nil,List.length_take,List.length_drop];omega)) ?_
  rintro _ _ ⟨sv4,rfl,rfl⟩
  refine Y O<|W<|zO O<|qB O ⟨by omega,by omega⟩<|Y O<|W ?_
  refine ⟨⟨k+1,sv4⟩,(by omega),(by show p.Params.length-(k+1)<p.Params.length-k;omega),Weak.mk [false,true,true] ⟨U,U,U,U,U,T⟩ (by exact kZ (by rw [qM hx];simp))⟩
 ·try simp only [sx] at c1
  rw [qS (l:=p.Params) (k:=k) (by omega)]
  refine qF<|zG<|G O<|zE O yU<|zH kY (J 1 O) O<|zU O el25<|Y O<|W<|zN<|zV ⟨[(29,.c _),(3,.c _),(27,.c _),(28,.c _)],[_]⟩ (Weak.mk [true,false] ⟨U,U,U,U,T⟩ O)<|zZ 2 1 O O (Nat×Value) (fun ⟨i,sw⟩=>[(29,vI i),(3,.c (.lit sw))]) (fun ⟨i,sw⟩=>[E.vec sw 9 1 ((usedK p i).map fun s=>[cS s])]) (fun ⟨i,sw⟩=>i<=p.Defs.length) (fun ⟨i,sw⟩=>p.Defs.length-i) ⟨⟨0,_⟩,(by omega),Weak.mk [true] ⟨U,U,U,U,T⟩ (by exact kZ (by unfold usedK;simp))⟩ ?_
  rintro ⟨i,sw⟩ hi
  show AWP _ _ _ _ _ ⟨[(29,vI i),(3,.c (.lit sw))]++_,[E.vec sw 9 1 ((usedK p i).map fun s=>[cS s])]++_⟩
  refine G O<|qW O<|W<|zG<|zF O (fun c2=>?_) (fun c2=>?_)
  ·try simp only [sx] at c2
   obtain ⟨d,hd⟩:=qO p.Defs i (by omega)
   have hkl:=usedK_len hX (show i<=p.Defs.length by omega)
   have hnd:=zAl d
   have hxd:=hX.ds d (zX hd)
   have hx1:=hxd.dims
   have hx2:=hxd.red
   have hk3:3001*i<=3001*104:=Nat.mul_le_mul_left _ (by omega)
   refine zI<|zG<|zN<|G O<|zY O el25 (by omega) (getm hd)<|zL wZ qA O<|zR O O (qC [none,none,none,none,none,none,some 3,some 3,none,none,none,none,none,none,none,none,none,none,none,some 2,some 4,some 13] O zr63 O) ?_
   rintro _ _ ⟨b5,rfl,rfl⟩
   refine N 0 sz63 O<|W<|G O<|Y O<|zE O zFz<|zH one9 (J 0 O) O<|qV O r zr9<|zR O O (qP 1 O r O O O (by simp only [List.length_map,List.length_append,List.length_cons,List.length_nil,List.length_take,List.length_drop];omega) (by simp only [List.length_map,List.length_append,List.length_cons,List.length_nil,List.length_take,List.length_drop];omega)) ?_
   rintro _ _ ⟨sv6,rfl,rfl⟩
   refine Y O<|W<|zO O<|Y O<|zL wZ (J 0 O) O<|qL O ok89 (OwnR.pur (upI (wL d (by have:=(hX.ds d (zX hd)).dims;omega) (by have:=(hX.ds d (zX hd)).red;omega)))) ⟨U,O,T⟩<|zR O O (qP 1 O r O O O (by simp only [List.length_map,List.length_append,List.length_cons,List.length_nil,List.length_take,List.length_drop];omega) (by simp only [List.length_map,List.length_append,List.length_cons,List.length_nil,List.length_take,List.length_drop];omega)) ?_
   rintro _ _ ⟨sv7,rfl,rfl⟩
   refine Y O<|W<|zO O<|qB O ⟨by omega,by omega⟩<|Y O<|W ?_
   refine ⟨⟨i+1,sv7⟩,(by omega),(by show p.Defs.length-(i+1)<p.Defs.length-i;omega),Weak.mk [false,true] ⟨U,U,U,U,T⟩ (by exact kZ (by rw [usedK_next hd,List.map_append,List.map_append];rfl))⟩
  ·try simp only [sx] at c2
   rw [usedK_end (p:=p) (k:=i) (by omega)]
   refine qF<|G O<|Y O<|W<|zN<|zV ⟨[(8,.c _),(3,.c _)],[_]⟩ (Weak.mk [true] ⟨U,U,T⟩ O)<|zZ 1 0 O O (Nat) (fun j_=>[(8,vI j_)]) (fun j_=>[]) (fun j_=>j_<=(usedL p).length/\∀i,i<j_->hasB (usedL p) (tNm i)=true) (fun j_=>(usedL p).length+1-j_) ⟨0,⟨by omega,fun i hi=>by omega⟩,Weak.mk [true] ⟨U,U,T⟩ O⟩ ?_
   rintro j_ ⟨hjl,hp⟩
   refine zG<|zN<|G O<|Y O<|qL O ok95 (strconv_Itoa j_ (by omega)) ⟨U,O,T⟩<|zT O (det_sadd O O O (by have:=decB_size (n:=j_) (by omega);have h9:(ByteArray.mk #[116]).size=1:=(by decide);omega))<|Y O<|W<|G O<|Y O<|Y O<|zT O (zAn 0 O ok52 O (upI (wC (usedL p) (tNm j_) (by omega))) O ⟨.inl ⟨O,O⟩,.inr ⟨U,O⟩,T⟩)<|kX O<|W<|zF O (fun c3=>?_) (fun c3=>?_)
   ·try simp only [sx] at c3
    have c3:hasB (usedL p) (tNm j_)=false:=by simpa using c3
    refine G O<|Y O<|Y O<|W<|zJ<|zP O ?_
    exact congrArg vS (show tNm j_=frsT p by unfold frsT;rw [frs_end hp c3])
   ·try simp only [sx] at c3
    have c3:hasB (usedL p) (tNm j_)=true:=by simpa using c3
    have hnx:=tNm_up hp c3
    have hlt:=tNm_lt hnx
    refine zI<|zO O<|Y O<|qB O ⟨by omega,by omega⟩<|Y O<|W ?_
    refine ⟨j_+1,⟨hlt,hnx⟩,(by omega),Weak.mk [true] ⟨U,U,T⟩ O⟩
theorem cse_best (p:Pg) (j:Nat) (hX:p.Xt j) (hj:j<=64):
    Pur cfg 38 [vPg p] (.tup [vCl (bstP (clsP p.Defs)).1,vB (decide (0<(bstP (clsP p.Defs)).2))]):=by
 refine zQ Tryz.func38 O Tryz.ntmps38 Tryz.results38 O ?_
 intro z hz
 have hcl:=cls_len hX hj
 refine G O<|zR O O (qG O O) ?_
 rintro _ _ ⟨b1,rfl,rfl⟩
 refine zR O O (qC [none,none,none,none,none,none,none,none,none,none,some 2,some 4,some 13,some 3,none,none] O zr74 O) ?_
 rintro _ _ ⟨b2,rfl,rfl⟩
 refine Y O<|W<|G O<|zT O (kD [none,none,none,none,none,none,none,none,none,none,some 2,some 4,some 13,some 3,none,none] O zr74 pl74 O O)<|zR O O (qC [none,none,none,none,none,none,none,none,none,none,some 2,some 4,some 13,some 3,none,none] O zr74 O) ?_
 rintro _ _ ⟨b3,rfl,rfl⟩
 refine N 0 sz74 O<|Y O<|W<|zG<|G O<|zL kT (J 2 O) O<|qL O ok31 (OwnR.pur (zOz p j hX hj)) ⟨U,O,T⟩<|zU O el71<|Y O<|W<|zN<|zV ⟨[(13,.c _),(5,.c _),(2,.c _),(4,.c _),(11,.c _),(12,.c _)],[_,_]⟩ (Weak.mk [true,true,false] ⟨U,U,U,U,U,U,T⟩ O)<|zZ 2 1 O O (Nat×Cl×Nat) (fun ⟨k,b⟩=>[(13,vI k),(5,vI b.2)]) (fun ⟨k,b⟩=>[E.row b3 74 b.1.cells]) (fun ⟨k,b⟩=>k<=(clsP p.Defs).length/\(bstP (clsP p.Defs)=((clsP p.Defs).drop k).foldl bstS b)) (fun ⟨k,b⟩=>(clsP p.Defs).length-k) ⟨⟨0,(zCl,0)⟩,⟨by omega,O⟩,Weak.mk [true,true] ⟨U,U,U,U,U,U,T⟩ O⟩ ?_
 rintro ⟨k,b⟩ ⟨hk,hp⟩
 show AWP _ _ _ _ _ ⟨[(13,vI k),(5,vI b.2)]++_,[E.row b3 74 b.1.cells]++_⟩
 refine G O<|qW O<|W<|zG<|zF O (fun c1=>?_) (fun c1=>?_)
 ·try simp only [sx] at c1
  obtain ⟨c,hc⟩:=qO (clsP p.Defs) k (by omega)
  refine zI<|zG<|zN<|G O<|zY O el71 (by omega) (getm hc)<|zL agg74 qA O<|zR O O (qC [none,none,none,none,none,none,none,none,none,none,some 2,some 4,some 13,some 3,none,none] O zr74 O) ?_
  rintro _ _ ⟨b4,rfl,rfl⟩
  refine N 0 sz74 O<|W<|G O<|zE O fd74_0<|zL qY (J 0 O) O<|qL O ok87 (expr_Size c.e (by have:=(cls_bd hX hj c (zX hc)).2.1;omega)) ⟨U,O,T⟩<|Y O<|W<|G O<|zE O zOk<|zH one3 (J 0 O) O<|zT O (kP O O O)<|Y O<|rL0 O (fun g6_3=>zS O O) O<|rL0 O (fun g6_3=>zS O O) O<|rLz [(24,_),(25,_)] O gv1 ⟨O,O,O,O,T⟩ (fun g6_3=>yC O O O) O<|yY O (fun h=>h)<|W<|zF O (fun c2=>?_) (fun c2=>?_)
  ·have hB:bstS b c=(c,szT c.e):=if_pos (by simp only [Lz,cond_true,cond_false,Bool.and_eq_true,Bool.or_eq_true,Bool.not_eq_true',Bool.not_eq_false',Bool.or_eq_false_iff,Bool.and_eq_false_iff,decide_eq_true_eq,decide_eq_false_iff_not,Bool.not_eq_true,Bool.not_eq_false,List.length_map] at c2;omega)
   have hB:=hB.symm
   refine zO O<|zL agg74 (J 0 O) O<|Y O<|N 1 sz74 O<|Y O<|W<|zO O<|qB O ⟨by omega,by omega⟩<|Y O<|W ?_
   refine ⟨⟨k+1,bstS b c⟩,⟨by omega,bst_next hc hp⟩,(by show (clsP p.Defs).length-(k+1)<(clsP p.Defs).length-k;omega),Weak.mk [false,true,true] ⟨U,VLe.of_eq (congrArg (fun q:Cl×Nat=>vI q.2) hB),U,U,U,U,T⟩ (by rw [←hB];rfl)⟩
  ·have hB:bstS b c=b:=if_neg (by simp only [Lz,cond_true,cond_false,Bool.and_eq_true,Bool.or_eq_true,Bool.not_eq_true',Bool.not_eq_false',Bool.or_eq_false_iff,Bool.and_eq_false_iff,decide_eq_true_eq,decide_eq_false_iff_not,Bool.not_eq_true,Bool.not_eq_false,List.length_map] at c2;omega)
   have hB:=hB.symm
   refine zI<|zO O<|qB O ⟨by omega,by omega⟩<|Y O<|W ?_
   refine ⟨⟨k+1,bstS b c⟩,⟨by omega,bst_next hc hp⟩,(by show (clsP p.Defs).length-(k+1)<(clsP p.Defs).length-k;omega),Weak.mk [false,true,true] ⟨U,VLe.of_eq (congrArg (fun q:Cl×Nat=>vI q.2) hB),U,U,U,U,T⟩ (by rw [←hB];rfl)⟩
 ·try simp only [sx] at c1
  have hE:=bst_end hp (by omega)
  have hE:bstP (clsP p.Defs)=b:=hE
  rw [hE]
  refine qF<|G O<|zL agg74 (J 0 O) O<|Y O<|zT O (yC O O O)<|N 1 sz74 O<|Y O<|W<|zJ<|fin2 (qD agg74 O (J 1 O) O) (v O) ?_
  exact congrArg (fun q=>V.tup [vCl b.1,vB q]) (decide_eq_decide.2 (by omega))
theorem cse_extract (p:Pg) (j:Nat) (hX:p.Xt j) (hj:j<=63) (c:Cl) (hc:c∈clsP p.Defs):
    Pur cfgI 39 [vPg p,vCl c] (vPg (extP p c)):=by
 refine zQ Tryz.func39 O Tryz.ntmps39 Tryz.results39 O ?_
 intro z hz
 have hP:=hX.ok (by omega)
 have hdrl:(p.Defs.drop c.first).length=p.Defs.length-c.first:=List.length_drop
 have hdl:=hX.defs
 have hfl:=cl_first hc
 have hd0:=dfG hfl
 have hx0:=hX.ds _ (zX hd0)
 have hx1:=hx0.dims
 have hx2:=hx0.red
 have hok:=clsP_ok _ c hc
 have hcb:=cls_bd hX (by omega) c hc
 have hnl:=zAl (p.Defs.getD c.first ⟨bs [],zTy,[],[],0,zEx⟩)
 have hax:=hok.axes
 have hew:=hcb.2.1
 refine G O<|zR O O (qG O O) ?_
 rintro _ _ ⟨b1,rfl,rfl⟩
 refine zR O O (qG O O) ?_
 rintro _ _ ⟨b2,rfl,rfl⟩
 refine zR O O (qC [some 1,some 3,some 7,some 22,some 1] O zr27 O) ?_
 rintro _ _ ⟨b3,rfl,rfl⟩
 refine W<|G O<|zE O yU<|zH kY (J 2 O) O<|zE O fd74_2<|zH one3 (J 1 O) O<|zY O el25 (by omega) (getm hd0)<|zL wZ qA O<|zR O O (qC [none,none,none,none,none,none,some 3,some 3,none,none,none,none,none,none,none,none,none,none,none,some 2,some 4,some 13] O zr63 O) ?_
 rintro _ _ ⟨b4,rfl,rfl⟩
 refine N 0 sz63 O<|W<|zG<|wK 11 1 [⟨0,.q [4]⟩,⟨1,.q [1]⟩,⟨2,.q []⟩,⟨3,.q []⟩,⟨4,.q [3]⟩,⟨5,.q []⟩,⟨6,.q []⟩,⟨7,.q []⟩,⟨8,.q []⟩,⟨9,.e 0 []⟩,⟨10,.e 0 []⟩] mixed (by kernel_rfl) (by kernel_rfl) O O O<|qK O<|qK O<|qK O<|qK O<|qK O<|qK O<|qK O<|qK O<|qK O<|qK O<|qK O<|zFd<|qQ O (by decide) O O (zW O kT O (J 0 O) O)<|qQ O (by decide) O O (zW O wZ O (J 0 O) O)<|qQ O (by decide) O O (qI O ok89 (OwnR.pur (upI (wL (p.Defs.getD c.first ⟨bs [],zTy,[],[],0,zEx⟩) (by omega) (by omega)))) ⟨U,O,T⟩)<|qQ O (by decide) O O (zD O fd74_0 O)<|qQ O (by decide) O O (zW O qY O (J 0 O) O)<|qQ O (by decide) O O (qI O ok88 (upI (zHc p (namesD (p.Defs.getD c.first ⟨bs [],zTy,[],[],0,zEx⟩)) c.e hP (by omega) (by omega))) ⟨U,O,U,O,U,O,T⟩)<|qQ O (by decide) O O (qZ O O)<|qQ O (by decide) O O (yS O O O)<|qQ O (by decide) O O (yI O O O)<|sq_op O O (by decide) O O (yA O zr37) ?_
 rintro _ _ ⟨b5,rfl,rfl⟩
 refine ⟨_,O,?_⟩
 refine sq_op0 O O (by decide) O O (kW O sz37 O O O (zGz 0 O O)) ?_
 rintro _ _ ⟨rfl,rfl⟩
 refine ⟨_,O,?_⟩
 refine zEz O<|Y O<|W<|zG<|wK 9 1 [⟨0,.q [5]⟩,⟨1,.q []⟩,⟨2,.q [1]⟩,⟨3,.q []⟩,⟨4,.q [4]⟩,⟨5,.q []⟩,⟨6,.q [4]⟩,⟨7,.q []⟩,⟨8,.f 0⟩] mixed (by kernel_rfl) (by kernel_rfl) O O O<|qK O<|qK O<|qK O<|qK O<|qK O<|qK O<|qK O<|qK O<|fx_fresh O O (zBk (qC [none,none,none,none,none,none,some 3,some 3,none,none,none,none,none,none,none,none,none,none,none,some 2,some 4,some 13] O zr63 O)) ⟨_,_,0,O,O⟩<|zFd<|qQ O (by decide) O O (zW O kT O (J 0 O) O)<|qQ O (by decide) O O (qI O ok90 (cse_fresh p j hX (by omega)) ⟨U,O,T⟩)<|qQ O (by decide) O O (zW O yB O (J 0 O) O)<|qQ O (by decide) O O (zD O fd74_1 O)<|qQ O (by decide) O O (zK O kU O (J 0 O) O)<|qQ O (by decide) O O (zD O fd74_0 O)<|qQ O (by decide) O O (zW O qY O (J 0 O) O)<|qQ O (by decide) O O (kD [none,none,none,none,none,none,none,some 3,none,none,none,none,none,none,none,none,none,none,none,none,none,none] O zr63 pl63 O O)<|sq_fresh O O ?_
 rintro _ _ ⟨b6,rfl,rfl⟩
 refine zEz O<|N 0 sz63 O<|W<|G O<|zE O zFz<|zH one9 (J 0 O) O<|yT O zr44 pl44<|zR O O (yA O zr44) ?_
 rintro _ _ ⟨b7,rfl,rfl⟩
 refine N 0 sz44 O<|W<|zG<|G O<|qU _ (yJ 107 2)<|qU _ (yJ 115 4)<|qU _ (yJ 44 13)<|qU _ (yG 2 O (regs':=[]) (μ':=[_,_,_,_,_,_,_,_,_]) T ⟨EFle.refl _,EFle.refl _,EFle.row (ds:=[_,_,_,_,_,_,_,_,_,_,_,_,_]) ⟨.inl O,.inl O,.inl O,.inl O,.inl O,.inl O,.inl O,.inl O,.inl O,.inl O,.inr ⟨O,O⟩,.inl O,.inl O,T⟩,EFle.refl _,EFle.refl _,EFle.refl _,EFle.refl _,EFle.refl _,EFle.refl _,T⟩)<|qU _ (yG 0 O (regs':=[]) (μ':=[_,_,_,_,_,_,_,_]) T ⟨EFle.refl _,EFle.row (ds:=[_,_,_,_,_,_,_,_,_,_,_,_,_]) ⟨.inl O,.inl O,.inl O,.inl O,.inl O,.inl O,.inl O,.inl O,.inl O,.inl O,.inl O,.inl O,.inr ⟨O,O⟩,T⟩,EFle.refl _,EFle.refl _,EFle.refl _,EFle.refl _,EFle.refl _,EFle.refl _,T⟩)<|zE O fd74_1<|zH kU (J 6 O) O<|zT O (zAa O el61 O)<|Y O<|W<|zN<|zV ⟨[(44,.c _),(2,.c _),(3,.c _),(4,.c _),(8,.c _),(9,.c _),(42,.c _),(43,.c _)],[_,_,_,_,_,_]⟩ (Weak.mk [true,true,true,false,false,true,true,true] ⟨U,U,U,U,U,U,U,U,T⟩ O)<|zZ 1 2 O O (Nat×Value) (fun ⟨k,sv⟩=>[(44,vI k)]) (fun ⟨k,sv⟩=>[E.vec sv 115 4 (((c.axes.take k).map fun a=>(⟨varL a.Name,bs [],[]⟩:Ix)).map Ix.cells),E.row b7 44 [cI 3,cS (frsT p),cI 0,cI 0,cI 0,cI 0,cI 0,cI 0,cI 0,cI 0,.sl 2 [],.lit sv,.sl 13 []]]) (fun ⟨k,sv⟩=>k<=c.axes.length) (fun ⟨k,sv⟩=>c.axes.length-k) ⟨⟨0,(.slice none 0 0)⟩,(by omega),Weak.mk [true,true,true,true,true,true] ⟨U,U,U,U,U,U,U,U,T⟩ O⟩ ?_
 rintro ⟨k,sv⟩ hk
 show AWP _ _ _ _ _ ⟨[(44,vI k)]++_,[E.vec sv 115 4 (((c.axes.take k).map fun a=>(⟨varL a.Name,bs [],[]⟩:Ix)).map Ix.cells),E.row b7 44 [cI 3,cS (frsT p),cI 0,cI 0,cI 0,cI 0,cI 0,cI 0,cI 0,cI 0,.sl 2 [],.lit sv,.sl 13 []]]++_⟩
 refine G O<|qW O<|W<|zG<|zF O (fun c1=>?_) (fun c1=>?_)
 ·try simp only [sx] at c1
  obtain ⟨a,ha⟩:=qO c.axes k (by omega)
  refine zI<|zG<|zN<|G O<|zY O el61 (by omega) (getm ha)<|zL zGg qA O<|zR O O (qC [none,none,some 2] O zIc O) ?_
  rintro _ _ ⟨b8,rfl,rfl⟩
  refine N 0 sz111 O<|W<|qX 7 mixed (by kernel_rfl) O O<|zM O O (zD O yZ O)<|zM O O (zK O wO O (J 2 O) O)<|zM O O (zD O zBq O)<|zM O O (zK O one9 O (J 0 O) O)<|zM O O (qI O ok91 (upI (lin_Var a.Name)) ⟨U,O,T⟩)<|zM O O (kD [none,none,none,some 2] O zDi pl115 O O)<|zM O O (wJ O D zDi O O O O)<|yW<|zR O O (qP 1 O D O O O (by simp only [List.length_map,List.length_append,List.length_cons,List.length_nil,List.length_take,List.length_drop];omega) (by simp only [List.length_map,List.length_append,List.length_cons,List.length_nil,List.length_take,List.length_drop];omega)) ?_
  rintro _ _ ⟨sv9,rfl,rfl⟩
  refine zE O yZ<|N 2 sz41 O<|W<|zO O<|qB O ⟨by omega,by omega⟩<|Y O<|W ?_
  refine ⟨⟨k+1,sv9⟩,(by omega),(by show c.axes.length-(k+1)<c.axes.length-k;omega),Weak.mk [false,true,true,true,true,true,true] ⟨U,U,U,U,U,U,U,U,T⟩ (by exact zEp (by rw [qM ha,List.map_append,List.map_append];rfl))⟩
 ·try simp only [sx] at c1
  rw [qS (l:=c.axes) (k:=k) (by omega)]
  refine zV _ (yG 0 O (regs':=[]) (μ':=[_,_,_,_,_]) T ⟨EFle.row (ds:=[_,_,_,_,_,_,_,_,_,_,_,_,_]) ⟨.inl O,.inl O,.inl O,.inl O,.inl O,.inl O,.inl O,.inl O,.inl O,.inl O,.inl O,.inr ⟨O,O⟩,.inl O,T⟩,EFle.refl _,EFle.refl _,EFle.refl _,EFle.refl _,T⟩)<|qF<|G O<|zL kT (J 4 O) O<|zR O O (qC [some 1,some 3,some 7,some 22,some 1] O zr27 O) ?_
  rintro _ _ ⟨b10,rfl,rfl⟩
  refine N 0 sz27 O<|W<|G O<|zE O yU<|zH kY (J 5 O) O<|zE O fd74_2<|zH one3 (J 4 O) O<|zT O (zAj (k:=c.first) O el25 O O (by omega))<|qU _ (yJ 63 22)<|zR O O (qP 0 O el25 O O O (by simp only [List.length_map,List.length_append,List.length_cons,List.length_nil,List.length_take,List.length_drop];omega) (by simp only [List.length_map,List.length_append,List.length_cons,List.length_nil,List.length_take,List.length_drop];omega)) ?_
  rintro _ _ ⟨sv11,rfl,rfl⟩
  refine zE O yU<|N 1 sz25 O<|W<|G O<|zE O yU<|zH kY (J 1 O) O<|zL wZ (J 3 O) O<|qV O el25 zr63<|zR O O (qP 0 O el25 O O O (by simp only [List.length_map,List.length_append,List.length_cons,List.length_nil,List.length_take,List.length_drop];omega) (by simp only [List.length_map,List.length_append,List.length_cons,List.length_nil,List.length_take,List.length_drop];omega)) ?_
  rintro _ _ ⟨sv12,rfl,rfl⟩
  refine zE O yU<|N 1 sz25 O<|W<|zG<|G O<|zE O yU<|zH kY (J 6 O) O<|zE O fd74_2<|zH one3 (J 5 O) O<|zT O (det_cut_drop (k:=c.first) O el25 O O (by omega))<|zT O (zAa O el25 O)<|Y O<|W<|zN<|zV ⟨[(78,.c _),(3,.c _),(4,.c _),(9,.c _),(12,.c _),(76,.c _),(77,.c _)],[_,_,_,_,_]⟩ (Weak.mk [true,true,true,false,true,true,false] ⟨U,U,U,U,U,U,U,T⟩ O)<|zZ 1 2 O O (Nat×Value) (fun ⟨i,sw⟩=>[(78,vI i)]) (fun ⟨i,sw⟩=>[E.vec sw 63 22 ((exdP p c i).map Df.cells),E.row b10 27 [.sl 1 ((p.Sizes).map fun s=>[cS s]),.sl 3 (p.Where.map Cn.cells),.sl 7 (p.Params.map Pm.cells),.lit sw,.sl 1 ((p.Outs).map fun s=>[cS s])]]) (fun ⟨i,sw⟩=>i<=(p.Defs.drop c.first).length) (fun ⟨i,sw⟩=>(p.Defs.drop c.first).length-i) ⟨⟨0,_⟩,(by omega),Weak.mk [true,true,true,true,true] ⟨U,U,U,U,U,U,U,T⟩ (by exact zEp (by unfold exdP;simp;rfl))⟩ ?_
  rintro ⟨i,sw⟩ hi
  show AWP _ _ _ _ _ ⟨[(78,vI i)]++_,[E.vec sw 63 22 ((exdP p c i).map Df.cells),E.row b10 27 [.sl 1 ((p.Sizes).map fun s=>[cS s]),.sl 3 (p.Where.map Cn.cells),.sl 7 (p.Params.map Pm.cells),.lit sw,.sl 1 ((p.Outs).map fun s=>[cS s])]]++_⟩
  refine G O<|qW O<|W<|zG<|zF O (fun c2=>?_) (fun c2=>?_)
  ·try simp only [sx] at c2
   obtain ⟨d,hd⟩:=qO (p.Defs.drop c.first) i (by omega)
   have hdm:=List.mem_of_mem_drop (zX hd)
   have hel:=exdP_len p c i
   refine zI<|zG<|zN<|G O<|zY O el25 (by omega) (getm hd)<|zL wZ qA O<|zR O O (qC [none,none,none,none,none,none,some 3,some 3,none,none,none,none,none,none,none,none,none,none,none,some 2,some 4,some 13] O zr63 O) ?_
   rintro _ _ ⟨b13,rfl,rfl⟩
   refine N 0 sz63 O<|W<|G O<|zL wZ (J 0 O) O<|zE O zCg<|zL qY (J 0 O) O<|zL agg74 (J 5 O) O<|zL qY (J 3 O) O<|qL O ok92 (upI (cse_replace d c (newR p c) p.Defs hok hcb (by have:=(hX.ds d hdm).dims;omega) (by have:=(hX.ds d hdm).red;omega) (hX.ds d hdm).fd (hX.ds d hdm).fr d.Body (by have:=(hX.ds d hdm).wt;omega))) ⟨U,O,U,O,U,O,U,O,T⟩<|zE O zCg<|N 0 sz44 O<|W<|zO O<|zE O yU<|zH kY (J 2 O) O<|zL wZ (J 0 O) O<|qV O el25 zr63<|zR O O (qP 1 O el25 O O O (by simp only [List.length_map,List.length_append,List.length_cons,List.length_nil,List.length_take,List.length_drop];omega) (by simp only [List.length_map,List.length_append,List.length_cons,List.length_nil,List.length_take,List.length_drop];omega)) ?_
   rintro _ _ ⟨sv14,rfl,rfl⟩
   refine zE O yU<|N 2 sz25 O<|W<|zO O<|qB O ⟨by omega,by omega⟩<|Y O<|W ?_
   refine ⟨⟨i+1,sv14⟩,(by omega),(by show (p.Defs.drop c.first).length-(i+1)<(p.Defs.drop c.first).length-i;omega),Weak.mk [false,true,true,true,true,true] ⟨U,U,U,U,U,U,U,T⟩ (by exact zEp (by rw [exdP_next hd,List.map_append];rfl))⟩
  ·try simp only [sx] at c2
   rw [exdP_end (p:=p) (c:=c) (k:=i) (by omega)]
   refine zV _ (yG 0 O (regs':=[]) (μ':=[_,_,_,_]) T ⟨EFle.row (ds:=[_,_,_,_,_]) ⟨.inl O,.inl O,.inl O,.inr ⟨O,O⟩,.inl O,T⟩,EFle.refl _,EFle.refl _,EFle.refl _,T⟩)<|qF<|G O<|zL kT (J 0 O) O<|N 2 sz27 O<|W<|zJ<|fin1 (qD kT O (J 2 O) O) ?_
   rfl
theorem zPa (p:Pg) (hX:p.Xt 0) (most:Int):
    Pur cfgI 13 [vPg p,vI most] (.tup [vPg (xtrP most p).1,vI ((xtrP most p).2:Nat)]):=by
 refine zQ Tryz.func13 O Tryz.ntmps13 Tryz.results13 O ?_
 intro z hz
 have hP:=hX.ok (by decide)
 have hdl:=hX.defs
 refine G O<|zR O O (qG O O) ?_
 rintro _ _ ⟨b1,rfl,rfl⟩
 refine zR O O (qC [some 1,some 3,some 7,some 22,some 1] O zr27 O) ?_
 rintro _ _ ⟨b2,rfl,rfl⟩
 refine Y O<|W<|G O<|zL kT (J 1 O) O<|qL O ok37 (upI (zCd p (pgOkC hP))) ⟨U,O,T⟩<|zR O O (qC [some 1,some 3,some 7,some 22,some 1] O zr27 O) ?_
 rintro _ _ ⟨b3,rfl,rfl⟩
 refine N 0 sz27 O<|W<|zG<|G O<|zL kT (J 2 O) O<|qL O ok30 (upI (zCm p hP)) ⟨U,O,T⟩<|zT O (qZ O O)<|zT O (yI O O O)<|zT O (yI O O O)<|Y O<|Y O<|W<|G O<|Y O<|yR O<|W<|zF O (fun c1=>?_) (fun c1=>?_)
 ·try simp only [sx] at c1
  refine G O<|zL kT (J 0 O) O<|N 1 sz27 O<|Y O<|W<|zJ<|fin2 (qD kT O (J 1 O) O) (v O) ?_
  rw [xtr_no c1];rfl
 ·try simp only [sx] at c1
  have hx:=xtr_ok (most:=most) c1
  refine zI<|G O<|Y O<|W<|zG<|zN<|zV ⟨[(9,.c _),(1,.c _),(4,.c _),(6,.c _)],[_,_]⟩ (Weak.mk [true,true,false] ⟨U,U,U,U,T⟩ O)<|zZ 1 1 O O (Nat×Pg) (fun ⟨n,q⟩=>[(9,vI n)]) (fun ⟨n,q⟩=>[E.row b3 27 q.cells]) (fun ⟨n,q⟩=>q.Xt n/\n<=64/\((exG (most.toNat-0) p).1,(exG (most.toNat-0) p).2+0)=((exG (most.toNat-n) q).1,(exG (most.toNat-n) q).2+n)/\q.Defs.length=p.Defs.length+n) (fun ⟨n,q⟩=>64-q.Defs.length) ⟨⟨0,p⟩,⟨hX,by omega,O,O⟩,Weak.mk [true,true] ⟨U,U,U,U,T⟩ O⟩ ?_
  rintro ⟨n,q⟩ ⟨hXq,hn,hq,hql⟩
  refine zG<|G O<|Y O<|Y O<|qW O<|Y O<|rL0 O (fun g6_3=>zD O yU O) O<|rL1 26 O (fun g6_3=>zK O kY O (J 0 O) O) O<|rL1 27 O (fun g6_3=>qR O el25 O) O<|rL1 28 O (fun g6_3=>zDu O O O) O<|yY O (fun h=>h)<|W<|zF O (fun c2=>?_) (fun c2=>?_)
  ·try simp only [sx] at c2
   refine zI<|zN<|G O<|zL kT (J 0 O) O<|qL O ok38 (upI (cse_best q n hXq hn)) ⟨U,O,T⟩<|zT O (qZ O O)<|zT O (yS O O O)<|zT O (yI O O O)<|zR O O (qC [none,none,none,none,none,none,none,none,none,none,some 2,some 4,some 13,some 3,none,none] O zr74 O) ?_
   rintro _ _ ⟨b4,rfl,rfl⟩
   refine N 0 sz74 O<|Y O<|W<|zG<|G O<|Y O<|kX O<|W<|zF O (fun c3=>?_) (fun c3=>?_)
   ·try simp only [sx] at c3
    have hE:=exG_stop2 hq (bst_none (by simpa using c3))
    rw [←hx] at hE
    refine qF<|G O<|zL kT (J 1 O) O<|qL O ok37 (upI (zCd q (pgOkC (hXq.ok hn)))) ⟨U,O,T⟩<|Y O<|N 2 sz27 O<|Y O<|W<|zJ<|fin2 (qD kT O (J 2 O) O) (v O) ?_
    rw [hE];rfl
   ·try simp only [sx] at c3
    obtain ⟨hne,hmem⟩:=bst_some (D:=q.Defs) (by simpa using c3)
    refine zI<|G O<|zL kT (J 1 O) O<|zL agg74 (J 0 O) O<|qL O ok39 (cse_extract q n hXq (by omega) (bstP (clsP q.Defs)).1 hmem) ⟨U,O,U,O,T⟩<|N 1 sz27 O<|W<|zO O<|Y O<|qB O ⟨by omega,by omega⟩<|Y O<|W ?_
    refine ⟨⟨n+1,extP q (bstP (clsP q.Defs)).1⟩,⟨hXq.step hmem,by omega,exG_go hq c2.1 (by omega) hne,by rw [zGs];omega⟩,(by show 64-(extP q _).Defs.length<64-q.Defs.length;rw [zGs];omega),Weak.mk [false,true,true] ⟨U,U,U,U,T⟩ O⟩
  ·try simp only [sx] at c2
   have hE:=exG_stop hq (by omega)
   rw [←hx] at hE
   refine qF<|G O<|zL kT (J 0 O) O<|qL O ok37 (upI (zCd q (pgOkC (hXq.ok hn)))) ⟨U,O,T⟩<|Y O<|N 1 sz27 O<|Y O<|W<|zJ<|fin2 (qD kT O (J 1 O) O) (v O) ?_
   rw [hE];rfl
end Go.W
