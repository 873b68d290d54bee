/-
  Walks: what functions of the program compute. Printed by wip/gen/mk2.py.
  Conditions: none.
-/
import Derived.Test.YtkidnhldibjiaaaGreatDoorKB
import Derived.Test.YtkidnhldibjiaaaGreatDoorPlain3
import Derived.Test.YtkidnhldibjiaaaGreatDoorOpenX
set_option linter.unusedSimpArgs false
set_option linter.unusedVariables false
set_option maxRecDepth 10000
namespace Go.W
open Go Go.Eng Go.Proofs Go.L41 Go.Br
attribute [local irreducible] AWP RWP TD finQ
theorem pgOkC {p:Pg} (h:p.Ok):p.OkC:=
  ⟨h.sizes,h.wh,h.params,h.defs,h.outs,h.whs,h.ps,fun d hd=>⟨(h.ds d hd).1,(h.ds d hd).2.1,(h.ds d hd).2.2.1,(h.ds d hd).2.2.2.1,allF_wt (Nat.le_trans (h.ds d hd).2.2.2.2 (by decide)),Nat.le_trans (Ex.cnt_le d.Body) (h.ds d hd).2.2.2.2⟩⟩
theorem fd74_2:fieldT Tryz.prog 74 2=some (14,3):=by kernel_rfl
theorem ok38:callOk Tryz.prog 38=true:=by kernel_rfl
theorem ok39:callOk Tryz.prog 39=true:=by kernel_rfl
theorem ok90:callOk Tryz.prog 90=true:=by kernel_rfl
theorem ok95:callOk Tryz.prog 95=true:=by kernel_rfl
theorem cse_fresh (p:Pg) (j:Nat) (hX:p.Xt j) (hj:j<=64):
    Pur cfgI 90 [vPg p] (vS (frsT p)):=by
 refine zR Tryz.func90 O Tryz.ntmps90 Tryz.results90 O ?_
 intro z hz
 have hdl:=hX.defs
 have h1:=hX.sizes
 have h2:=hX.params
 have hul:=usedL_len hX hj
 refine G O<|zS O O (qG O O) ?_
 rintro _ _ ⟨b1,rfl,rfl⟩
 refine Y O<|W<|G O<|zD O zCp<|zH zBq (J 0 O) O<|zS O O (zCm O ok83 (upI (zCr p.Sizes (by omega))) ⟨U,O,T⟩) ?_
 rintro _ _ ⟨sv2,rfl,rfl⟩
 refine Y O<|W<|zG<|G O<|zD O zBu<|zH zFp (J 1 O) O<|zV O el24<|Y O<|W<|zN<|zU ⟨[(16,.c _),(3,.c _),(1,.c _),(14,.c _),(15,.c _)],[_,_]⟩ (Weak.mk [true,true] ⟨U,U,U,U,U,T⟩ O)<|qA 2 1 O O (Nat×Value) (fun ⟨k,sv⟩=>[(16,vI k),(3,.c (.lit sv))]) (fun ⟨k,sv⟩=>[E.vec sv 9 1 ((p.Sizes++(p.Params.take k).map Pm.Name).map fun s=>[cS s])]) (fun ⟨k,sv⟩=>k<=p.Params.length) (fun ⟨k,sv⟩=>p.Params.length-k) ⟨⟨0,_⟩,(by omega),Weak.mk [true,true] ⟨U,U,U,U,U,T⟩ (by exact yX (by simp))⟩ ?_
 rintro ⟨k,sv⟩ hk
 show AWP _ _ _ _ _ ⟨[(16,vI k),(3,.c (.lit sv))]++_,[E.vec sv 9 1 ((p.Sizes++(p.Params.take k).map Pm.Name).map fun s=>[cS s])]++_⟩
 refine G O<|qW O<|W<|zG<|zE O (fun c1=>?_) (fun c1=>?_)
 ·try simp only [sx] at c1
  obtain ⟨x,hx⟩:=qP p.Params k (by omega)
  refine zI<|zG<|zN<|G O<|zZ O el24 (by omega) (getm hx)<|zL agg67 zY O<|zS O O (qD [none,none,none,none,none,none,some 2] O zr67 O) ?_
  rintro _ _ ⟨b3,rfl,rfl⟩
  refine N 0 sz67 O<|W<|zO O<|Y O<|zD O fd67_0<|zH one9 (J 0 O) O<|qX O r zr9<|zS O O (qO 1 O r O O O (by simp only [List.length_map,List.length_append,List.length_cons,List.length_nil,List.length_take,List.length_drop];omega) (by simp only [List.length_map,List.length_append,List.length_cons,List.length_nil,List.length_take,List.length_drop];omega)) ?_
  rintro _ _ ⟨sv4,rfl,rfl⟩
  refine Y O<|W<|zO O<|qB O ⟨by omega,by omega⟩<|Y O<|W ?_
  refine ⟨⟨k+1,sv4⟩,(by omega),(by show p.Params.length-(k+1)<p.Params.length-k;omega),Weak.mk [false,true,true] ⟨U,U,U,U,U,T⟩ (by exact yX (by rw [qM hx];simp))⟩
 ·try simp only [sx] at c1
  rw [qS (l:=p.Params) (k:=k) (by omega)]
  refine qE<|zG<|G O<|zD O yZ<|zH wL (J 1 O) O<|zV O el25<|Y O<|W<|zN<|zU ⟨[(29,.c _),(3,.c _),(27,.c _),(28,.c _)],[_]⟩ (Weak.mk [true,false] ⟨U,U,U,U,T⟩ O)<|qA 2 1 O O (Nat×Value) (fun ⟨i,sw⟩=>[(29,vI i),(3,.c (.lit sw))]) (fun ⟨i,sw⟩=>[E.vec sw 9 1 ((usedK p i).map fun s=>[cS s])]) (fun ⟨i,sw⟩=>i<=p.Defs.length) (fun ⟨i,sw⟩=>p.Defs.length-i) ⟨⟨0,_⟩,(by omega),Weak.mk [true] ⟨U,U,U,U,T⟩ (by exact yX (by unfold usedK;simp))⟩ ?_
  rintro ⟨i,sw⟩ hi
  show AWP _ _ _ _ _ ⟨[(29,vI i),(3,.c (.lit sw))]++_,[E.vec sw 9 1 ((usedK p i).map fun s=>[cS s])]++_⟩
  refine G O<|qW O<|W<|zG<|zE O (fun c2=>?_) (fun c2=>?_)
  ·try simp only [sx] at c2
   obtain ⟨d,hd⟩:=qP p.Defs i (by omega)
   have hkl:=usedK_len hX (show i<=p.Defs.length by omega)
   have hnd:=zAs d
   have hxd:=hX.ds d (zW hd)
   have hx1:=hxd.dims
   have hx2:=hxd.red
   have hk3:3001*i<=3001*104:=Nat.mul_le_mul_left _ (by omega)
   refine zI<|zG<|zN<|G O<|zZ O el25 (by omega) (getm hd)<|zL wM zY O<|zS O O (qD [none,none,none,none,none,none,some 3,some 3,none,none,none,none,none,none,none,none,none,none,none,some 2,some 4,some 13] O zr63 O) ?_
   rintro _ _ ⟨b5,rfl,rfl⟩
   refine N 0 sz63 O<|W<|G O<|Y O<|zD O zGf<|zH one9 (J 0 O) O<|qX O r zr9<|zS O O (qO 1 O r O O O (by simp only [List.length_map,List.length_append,List.length_cons,List.length_nil,List.length_take,List.length_drop];omega) (by simp only [List.length_map,List.length_append,List.length_cons,List.length_nil,List.length_take,List.length_drop];omega)) ?_
   rintro _ _ ⟨sv6,rfl,rfl⟩
   refine Y O<|W<|zO O<|Y O<|zL wM (J 0 O) O<|qK O ok89 (OwnR.pur (upI (wP d (by have:=(hX.ds d (zW hd)).dims;omega) (by have:=(hX.ds d (zW hd)).red;omega)))) ⟨U,O,T⟩<|zS O O (qO 1 O r O O O (by simp only [List.length_map,List.length_append,List.length_cons,List.length_nil,List.length_take,List.length_drop];omega) (by simp only [List.length_map,List.length_append,List.length_cons,List.length_nil,List.length_take,List.length_drop];omega)) ?_
   rintro _ _ ⟨sv7,rfl,rfl⟩
   refine Y O<|W<|zO O<|qB O ⟨by omega,by omega⟩<|Y O<|W ?_
   refine ⟨⟨i+1,sv7⟩,(by omega),(by show p.Defs.length-(i+1)<p.Defs.length-i;omega),Weak.mk [false,true] ⟨U,U,U,U,T⟩ (by exact yX (by rw [usedK_next hd,List.map_append,List.map_append];rfl))⟩
  ·try simp only [sx] at c2
   rw [usedK_end (p:=p) (k:=i) (by omega)]
   refine qE<|G O<|Y O<|W<|zN<|zU ⟨[(8,.c _),(3,.c _)],[_]⟩ (Weak.mk [true] ⟨U,U,T⟩ O)<|qA 1 0 O O (Nat) (fun j_=>[(8,vI j_)]) (fun j_=>[]) (fun j_=>j_<=(usedL p).length/\∀i,i<j_->hasB (usedL p) (tNm i)=true) (fun j_=>(usedL p).length+1-j_) ⟨0,⟨by omega,fun i hi=>by omega⟩,Weak.mk [true] ⟨U,U,T⟩ O⟩ ?_
   rintro j_ ⟨hjl,hp⟩
   refine zG<|zN<|G O<|Y O<|qK O ok95 (strconv_Itoa j_ (by omega)) ⟨U,O,T⟩<|zX O (det_sadd O O O (by have:=decB_size (n:=j_) (by omega);have h9:(ByteArray.mk #[116]).size=1:=(by decide);omega))<|Y O<|W<|G O<|Y O<|Y O<|zX O (zAv 0 O ok52 O (upI (wH (usedL p) (tNm j_) (by omega))) O ⟨.inl ⟨O,O⟩,.inr ⟨U,O⟩,T⟩)<|wD O<|W<|zE O (fun c3=>?_) (fun c3=>?_)
   ·try simp only [sx] at c3
    have c3:hasB (usedL p) (tNm j_)=false:=by simpa using c3
    refine G O<|Y O<|Y O<|W<|zJ<|zP O ?_
    exact congrArg vS (show tNm j_=frsT p by unfold frsT;rw [frs_end hp c3])
   ·try simp only [sx] at c3
    have c3:hasB (usedL p) (tNm j_)=true:=by simpa using c3
    have hnx:=tNm_up hp c3
    have hlt:=tNm_lt hnx
    refine zI<|zO O<|Y O<|qB O ⟨by omega,by omega⟩<|Y O<|W ?_
    refine ⟨j_+1,⟨hlt,hnx⟩,(by omega),Weak.mk [true] ⟨U,U,T⟩ O⟩
theorem cse_best (p:Pg) (j:Nat) (hX:p.Xt j) (hj:j<=64):
    Pur cfg 38 [vPg p] (.tup [vCl (bstP (clsP p.Defs)).1,vB (decide (0<(bstP (clsP p.Defs)).2))]):=by
 refine zR Tryz.func38 O Tryz.ntmps38 Tryz.results38 O ?_
 intro z hz
 have hcl:=cls_len hX hj
 refine G O<|zS O O (qG O O) ?_
 rintro _ _ ⟨b1,rfl,rfl⟩
 refine zS O O (qD [none,none,none,none,none,none,none,none,none,none,some 2,some 4,some 13,some 3,none,none] O zr74 O) ?_
 rintro _ _ ⟨b2,rfl,rfl⟩
 refine Y O<|W<|G O<|zX O (kJ [none,none,none,none,none,none,none,none,none,none,some 2,some 4,some 13,some 3,none,none] O zr74 pl74 O O)<|zS O O (qD [none,none,none,none,none,none,none,none,none,none,some 2,some 4,some 13,some 3,none,none] O zr74 O) ?_
 rintro _ _ ⟨b3,rfl,rfl⟩
 refine N 0 sz74 O<|Y O<|W<|zG<|G O<|zL wC (J 2 O) O<|qK O ok31 (OwnR.pur (zPy p j hX hj)) ⟨U,O,T⟩<|zV O el71<|Y O<|W<|zN<|zU ⟨[(13,.c _),(5,.c _),(2,.c _),(4,.c _),(11,.c _),(12,.c _)],[_,_]⟩ (Weak.mk [true,true,false] ⟨U,U,U,U,U,U,T⟩ O)<|qA 2 1 O O (Nat×Cl×Nat) (fun ⟨k,b⟩=>[(13,vI k),(5,vI b.2)]) (fun ⟨k,b⟩=>[E.row b3 74 b.1.cells]) (fun ⟨k,b⟩=>k<=(clsP p.Defs).length/\(bstP (clsP p.Defs)=((clsP p.Defs).drop k).foldl bstS b)) (fun ⟨k,b⟩=>(clsP p.Defs).length-k) ⟨⟨0,(zCl,0)⟩,⟨by omega,O⟩,Weak.mk [true,true] ⟨U,U,U,U,U,U,T⟩ O⟩ ?_
 rintro ⟨k,b⟩ ⟨hk,hp⟩
 show AWP _ _ _ _ _ ⟨[(13,vI k),(5,vI b.2)]++_,[E.row b3 74 b.1.cells]++_⟩
 refine G O<|qW O<|W<|zG<|zE O (fun c1=>?_) (fun c1=>?_)
 ·try simp only [sx] at c1
  obtain ⟨c,hc⟩:=qP (clsP p.Defs) k (by omega)
  refine zI<|zG<|zN<|G O<|zZ O el71 (by omega) (getm hc)<|zL agg74 zY O<|zS O O (qD [none,none,none,none,none,none,none,none,none,none,some 2,some 4,some 13,some 3,none,none] O zr74 O) ?_
  rintro _ _ ⟨b4,rfl,rfl⟩
  refine N 0 sz74 O<|W<|G O<|zD O fd74_0<|zL qZ (J 0 O) O<|qK O ok87 (expr_Size c.e (by have:=(cls_bd hX hj c (zW hc)).2.1;omega)) ⟨U,O,T⟩<|Y O<|W<|G O<|zD O zPj<|zH one3 (J 0 O) O<|zX O (kX O O O)<|Y O<|rL0 O (fun g6_3=>zQ O O) O<|rL0 O (fun g6_3=>zQ O O) O<|rLz [(24,_),(25,_)] O gv1 ⟨O,O,O,O,T⟩ (fun g6_3=>yF O O O) O<|kD O (fun h=>h)<|W<|zE O (fun c2=>?_) (fun c2=>?_)
  ·have hB:bstS b c=(c,szT c.e):=if_pos (by simp only [Lz,cond_true,cond_false,Bool.and_eq_true,Bool.or_eq_true,Bool.not_eq_true',Bool.not_eq_false',Bool.or_eq_false_iff,Bool.and_eq_false_iff,decide_eq_true_eq,decide_eq_false_iff_not,Bool.not_eq_true,Bool.not_eq_false,List.length_map] at c2;omega)
   have hB:=hB.symm
   refine zO O<|zL agg74 (J 0 O) O<|Y O<|N 1 sz74 O<|Y O<|W<|zO O<|qB O ⟨by omega,by omega⟩<|Y O<|W ?_
   refine ⟨⟨k+1,bstS b c⟩,⟨by omega,bst_next hc hp⟩,(by show (clsP p.Defs).length-(k+1)<(clsP p.Defs).length-k;omega),Weak.mk [false,true,true] ⟨U,VLe.of_eq (congrArg (fun q:Cl×Nat=>vI q.2) hB),U,U,U,U,T⟩ (by rw [←hB];rfl)⟩
  ·have hB:bstS b c=b:=if_neg (by simp only [Lz,cond_true,cond_false,Bool.and_eq_true,Bool.or_eq_true,Bool.not_eq_true',Bool.not_eq_false',Bool.or_eq_false_iff,Bool.and_eq_false_iff,decide_eq_true_eq,decide_eq_false_iff_not,Bool.not_eq_true,Bool.not_eq_false,List.length_map] at c2;omega)
   have hB:=hB.symm
   refine zI<|zO O<|qB O ⟨by omega,by omega⟩<|Y O<|W ?_
   refine ⟨⟨k+1,bstS b c⟩,⟨by omega,bst_next hc hp⟩,(by show (clsP p.Defs).length-(k+1)<(clsP p.Defs).length-k;omega),Weak.mk [false,true,true] ⟨U,VLe.of_eq (congrArg (fun q:Cl×Nat=>vI q.2) hB),U,U,U,U,T⟩ (by rw [←hB];rfl)⟩
 ·try simp only [sx] at c1
  have hE:=bst_end hp (by omega)
  have hE:bstP (clsP p.Defs)=b:=hE
  rw [hE]
  refine qE<|G O<|zL agg74 (J 0 O) O<|Y O<|zX O (yF O O O)<|N 1 sz74 O<|Y O<|W<|zJ<|fin2 (qF agg74 O (J 1 O) O) (v O) ?_
  exact congrArg (fun q=>V.tup [vCl b.1,vB q]) (decide_eq_decide.2 (by omega))
theorem cse_extract (p:Pg) (j:Nat) (hX:p.Xt j) (hj:j<=63) (c:Cl) (hc:c∈clsP p.Defs):
    Pur cfgI 39 [vPg p,vCl c] (vPg (extP p c)):=by
 refine zR Tryz.func39 O Tryz.ntmps39 Tryz.results39 O ?_
 intro z hz
 have hP:=hX.ok (by omega)
 have hdrl:(p.Defs.drop c.first).length=p.Defs.length-c.first:=List.length_drop
 have hdl:=hX.defs
 have hfl:=cl_first hc
 have hd0:=dfG hfl
 have hx0:=hX.ds _ (zW hd0)
 have hx1:=hx0.dims
 have hx2:=hx0.red
 have hok:=clsP_ok _ c hc
 have hcb:=cls_bd hX (by omega) c hc
 have hnl:=zAs (p.Defs.getD c.first ⟨bs [],zTy,[],[],0,zEx⟩)
 have hax:=hok.axes
 have hew:=hcb.2.1
 refine G O<|zS O O (qG O O) ?_
 rintro _ _ ⟨b1,rfl,rfl⟩
 refine zS O O (qG O O) ?_
 rintro _ _ ⟨b2,rfl,rfl⟩
 refine zS O O (qD [some 1,some 3,some 7,some 22,some 1] O zr27 O) ?_
 rintro _ _ ⟨b3,rfl,rfl⟩
 refine W<|G O<|zD O yZ<|zH wL (J 2 O) O<|zD O fd74_2<|zH one3 (J 1 O) O<|zZ O el25 (by omega) (getm hd0)<|zL wM zY O<|zS O O (qD [none,none,none,none,none,none,some 3,some 3,none,none,none,none,none,none,none,none,none,none,none,some 2,some 4,some 13] O zr63 O) ?_
 rintro _ _ ⟨b4,rfl,rfl⟩
 refine N 0 sz63 O<|W<|zG<|wO 11 1 [⟨0,.q [4]⟩,⟨1,.q [1]⟩,⟨2,.q []⟩,⟨3,.q []⟩,⟨4,.q [3]⟩,⟨5,.q []⟩,⟨6,.q []⟩,⟨7,.q []⟩,⟨8,.q []⟩,⟨9,.e 0 []⟩,⟨10,.e 0 []⟩] mixed (by kernel_rfl) (by kernel_rfl) O O O<|qL O<|qL O<|qL O<|qL O<|qL O<|qL O<|qL O<|qL O<|qL O<|qL O<|qL O<|zFl<|qT O (by decide) O O (zT O wC O (J 0 O) O)<|qT O (by decide) O O (zT O wM O (J 0 O) O)<|qT O (by decide) O O (qH O ok89 (OwnR.pur (upI (wP (p.Defs.getD c.first ⟨bs [],zTy,[],[],0,zEx⟩) (by omega) (by omega)))) ⟨U,O,T⟩)<|qT O (by decide) O O (zF O fd74_0 O)<|qT O (by decide) O O (zT O qZ O (J 0 O) O)<|qT O (by decide) O O (qH O ok88 (upI (zHl p (namesD (p.Defs.getD c.first ⟨bs [],zTy,[],[],0,zEx⟩)) c.e hP (by omega) (by omega))) ⟨U,O,U,O,U,O,T⟩)<|qT O (by decide) O O (yE O O)<|qT O (by decide) O O (kA O O O)<|qT O (by decide) O O (yP O O O)<|sq_op O O (by decide) O O (yB O zr37) ?_
 rintro _ _ ⟨b5,rfl,rfl⟩
 refine ⟨_,O,?_⟩
 refine sq_op0 O O (by decide) O O (kU O sz37 O O O (zHi 0 O O)) ?_
 rintro _ _ ⟨rfl,rfl⟩
 refine ⟨_,O,?_⟩
 refine zFh O<|Y O<|W<|zG<|wO 9 1 [⟨0,.q [5]⟩,⟨1,.q []⟩,⟨2,.q [1]⟩,⟨3,.q []⟩,⟨4,.q [4]⟩,⟨5,.q []⟩,⟨6,.q [4]⟩,⟨7,.q []⟩,⟨8,.f 0⟩] mixed (by kernel_rfl) (by kernel_rfl) O O O<|qL O<|qL O<|qL O<|qL O<|qL O<|qL O<|qL O<|qL O<|fx_fresh O O (zBo (qD [none,none,none,none,none,none,some 3,some 3,none,none,none,none,none,none,none,none,none,none,none,some 2,some 4,some 13] O zr63 O)) ⟨_,_,0,O,O⟩<|zFl<|qT O (by decide) O O (zT O wC O (J 0 O) O)<|qT O (by decide) O O (qH O ok90 (cse_fresh p j hX (by omega)) ⟨U,O,T⟩)<|qT O (by decide) O O (zT O yD O (J 0 O) O)<|qT O (by decide) O O (zF O fd74_1 O)<|qT O (by decide) O O (zK O kQ O (J 0 O) O)<|qT O (by decide) O O (zF O fd74_0 O)<|qT O (by decide) O O (zT O qZ O (J 0 O) O)<|qT O (by decide) O O (kJ [none,none,none,none,none,none,none,some 3,none,none,none,none,none,none,none,none,none,none,none,none,none,none] O zr63 pl63 O O)<|sq_fresh O O ?_
 rintro _ _ ⟨b6,rfl,rfl⟩
 refine zFh O<|N 0 sz63 O<|W<|G O<|zD O zGf<|zH one9 (J 0 O) O<|yW O zr44 pl44<|zS O O (yB O zr44) ?_
 rintro _ _ ⟨b7,rfl,rfl⟩
 refine N 0 sz44 O<|W<|zG<|G O<|qV _ (yH 107 2)<|qV _ (yH 115 4)<|qV _ (yH 44 13)<|qV _ (yJ 2 O (regs':=[]) (μ':=[_,_,_,_,_,_,_,_,_]) T ⟨EFle.refl _,EFle.refl _,EFle.row (ds:=[_,_,_,_,_,_,_,_,_,_,_,_,_]) ⟨.inl O,.inl O,.inl O,.inl O,.inl O,.inl O,.inl O,.inl O,.inl O,.inl O,.inr ⟨O,O⟩,.inl O,.inl O,T⟩,EFle.refl _,EFle.refl _,EFle.refl _,EFle.refl _,EFle.refl _,EFle.refl _,T⟩)<|qV _ (yJ 0 O (regs':=[]) (μ':=[_,_,_,_,_,_,_,_]) T ⟨EFle.refl _,EFle.row (ds:=[_,_,_,_,_,_,_,_,_,_,_,_,_]) ⟨.inl O,.inl O,.inl O,.inl O,.inl O,.inl O,.inl O,.inl O,.inl O,.inl O,.inl O,.inl O,.inr ⟨O,O⟩,T⟩,EFle.refl _,EFle.refl _,EFle.refl _,EFle.refl _,EFle.refl _,EFle.refl _,T⟩)<|zD O fd74_1<|zH kQ (J 6 O) O<|zX O (wG O D O)<|Y O<|W<|zN<|zU ⟨[(44,.c _),(2,.c _),(3,.c _),(4,.c _),(8,.c _),(9,.c _),(42,.c _),(43,.c _)],[_,_,_,_,_,_]⟩ (Weak.mk [true,true,true,false,false,true,true,true] ⟨U,U,U,U,U,U,U,U,T⟩ O)<|qA 1 2 O O (Nat×Value) (fun ⟨k,sv⟩=>[(44,vI k)]) (fun ⟨k,sv⟩=>[E.vec sv 115 4 (((c.axes.take k).map fun a=>(⟨varL a.Name,bs [],[]⟩:Ix)).map Ix.cells),E.row b7 44 [cI 3,cS (frsT p),cI 0,cI 0,cI 0,cI 0,cI 0,cI 0,cI 0,cI 0,.sl 2 [],.lit sv,.sl 13 []]]) (fun ⟨k,sv⟩=>k<=c.axes.length) (fun ⟨k,sv⟩=>c.axes.length-k) ⟨⟨0,(.slice none 0 0)⟩,(by omega),Weak.mk [true,true,true,true,true,true] ⟨U,U,U,U,U,U,U,U,T⟩ O⟩ ?_
 rintro ⟨k,sv⟩ hk
 show AWP _ _ _ _ _ ⟨[(44,vI k)]++_,[E.vec sv 115 4 (((c.axes.take k).map fun a=>(⟨varL a.Name,bs [],[]⟩:Ix)).map Ix.cells),E.row b7 44 [cI 3,cS (frsT p),cI 0,cI 0,cI 0,cI 0,cI 0,cI 0,cI 0,cI 0,.sl 2 [],.lit sv,.sl 13 []]]++_⟩
 refine G O<|qW O<|W<|zG<|zE O (fun c1=>?_) (fun c1=>?_)
 ·try simp only [sx] at c1
  obtain ⟨a,ha⟩:=qP c.axes k (by omega)
  refine zI<|zG<|zN<|G O<|zZ O D (by omega) (getm ha)<|zL zEr zY O<|zS O O (qD [none,none,some 2] O zHg O) ?_
  rintro _ _ ⟨b8,rfl,rfl⟩
  refine N 0 sz111 O<|W<|qY 7 mixed (by kernel_rfl) O O<|zM O O (zF O kC O)<|zM O O (zK O wK O (J 2 O) O)<|zM O O (zF O zAj O)<|zM O O (zK O one9 O (J 0 O) O)<|zM O O (qH O ok91 (upI (lin_Var a.Name)) ⟨U,O,T⟩)<|zM O O (kJ [none,none,none,some 2] O zDp pl115 O O)<|zM O O (wN O el41 zDp O O O O)<|yT<|zS O O (qO 1 O el41 O O O (by simp only [List.length_map,List.length_append,List.length_cons,List.length_nil,List.length_take,List.length_drop];omega) (by simp only [List.length_map,List.length_append,List.length_cons,List.length_nil,List.length_take,List.length_drop];omega)) ?_
  rintro _ _ ⟨sv9,rfl,rfl⟩
  refine zD O kC<|N 2 sz41 O<|W<|zO O<|qB O ⟨by omega,by omega⟩<|Y O<|W ?_
  refine ⟨⟨k+1,sv9⟩,(by omega),(by show c.axes.length-(k+1)<c.axes.length-k;omega),Weak.mk [false,true,true,true,true,true,true] ⟨U,U,U,U,U,U,U,U,T⟩ (by exact zEy (by rw [qM ha,List.map_append,List.map_append];rfl))⟩
 ·try simp only [sx] at c1
  rw [qS (l:=c.axes) (k:=k) (by omega)]
  refine zU _ (yJ 0 O (regs':=[]) (μ':=[_,_,_,_,_]) T ⟨EFle.row (ds:=[_,_,_,_,_,_,_,_,_,_,_,_,_]) ⟨.inl O,.inl O,.inl O,.inl O,.inl O,.inl O,.inl O,.inl O,.inl O,.inl O,.inl O,.inr ⟨O,O⟩,.inl O,T⟩,EFle.refl _,EFle.refl _,EFle.refl _,EFle.refl _,T⟩)<|qE<|G O<|zL wC (J 4 O) O<|zS O O (qD [some 1,some 3,some 7,some 22,some 1] O zr27 O) ?_
  rintro _ _ ⟨b10,rfl,rfl⟩
  refine N 0 sz27 O<|W<|G O<|zD O yZ<|zH wL (J 5 O) O<|zD O fd74_2<|zH one3 (J 4 O) O<|zX O (zAd (k:=c.first) O el25 O O (by omega))<|qV _ (yH 63 22)<|zS O O (qO 0 O el25 O O O (by simp only [List.length_map,List.length_append,List.length_cons,List.length_nil,List.length_take,List.length_drop];omega) (by simp only [List.length_map,List.length_append,List.length_cons,List.length_nil,List.length_take,List.length_drop];omega)) ?_
  rintro _ _ ⟨sv11,rfl,rfl⟩
  refine zD O yZ<|N 1 sz25 O<|W<|G O<|zD O yZ<|zH wL (J 1 O) O<|zL wM (J 3 O) O<|qX O el25 zr63<|zS O O (qO 0 O el25 O O O (by simp only [List.length_map,List.length_append,List.length_cons,List.length_nil,List.length_take,List.length_drop];omega) (by simp only [List.length_map,List.length_append,List.length_cons,List.length_nil,List.length_take,List.length_drop];omega)) ?_
  rintro _ _ ⟨sv12,rfl,rfl⟩
  refine zD O yZ<|N 1 sz25 O<|W<|zG<|G O<|zD O yZ<|zH wL (J 6 O) O<|zD O fd74_2<|zH one3 (J 5 O) O<|zX O (zLz (k:=c.first) O el25 O O (by omega))<|zX O (wG O el25 O)<|Y O<|W<|zN<|zU ⟨[(78,.c _),(3,.c _),(4,.c _),(9,.c _),(12,.c _),(76,.c _),(77,.c _)],[_,_,_,_,_]⟩ (Weak.mk [true,true,true,false,true,true,false] ⟨U,U,U,U,U,U,U,T⟩ O)<|qA 1 2 O O (Nat×Value) (fun ⟨i,sw⟩=>[(78,vI i)]) (fun ⟨i,sw⟩=>[E.vec sw 63 22 ((exdP p c i).map Df.cells),E.row b10 27 [.sl 1 ((p.Sizes).map fun s=>[cS s]),.sl 3 (p.Where.map Cn.cells),.sl 7 (p.Params.map Pm.cells),.lit sw,.sl 1 ((p.Outs).map fun s=>[cS s])]]) (fun ⟨i,sw⟩=>i<=(p.Defs.drop c.first).length) (fun ⟨i,sw⟩=>(p.Defs.drop c.first).length-i) ⟨⟨0,_⟩,(by omega),Weak.mk [true,true,true,true,true] ⟨U,U,U,U,U,U,U,T⟩ (by exact zEy (by unfold exdP;simp;rfl))⟩ ?_
  rintro ⟨i,sw⟩ hi
  show AWP _ _ _ _ _ ⟨[(78,vI i)]++_,[E.vec sw 63 22 ((exdP p c i).map Df.cells),E.row b10 27 [.sl 1 ((p.Sizes).map fun s=>[cS s]),.sl 3 (p.Where.map Cn.cells),.sl 7 (p.Params.map Pm.cells),.lit sw,.sl 1 ((p.Outs).map fun s=>[cS s])]]++_⟩
  refine G O<|qW O<|W<|zG<|zE O (fun c2=>?_) (fun c2=>?_)
  ·try simp only [sx] at c2
   obtain ⟨d,hd⟩:=qP (p.Defs.drop c.first) i (by omega)
   have hdm:=List.mem_of_mem_drop (zW hd)
   have hel:=exdP_len p c i
   refine zI<|zG<|zN<|G O<|zZ O el25 (by omega) (getm hd)<|zL wM zY O<|zS O O (qD [none,none,none,none,none,none,some 3,some 3,none,none,none,none,none,none,none,none,none,none,none,some 2,some 4,some 13] O zr63 O) ?_
   rintro _ _ ⟨b13,rfl,rfl⟩
   refine N 0 sz63 O<|W<|G O<|zL wM (J 0 O) O<|zD O zBx<|zL qZ (J 0 O) O<|zL agg74 (J 5 O) O<|zL qZ (J 3 O) O<|qK O ok92 (upI (cse_replace d c (newR p c) p.Defs hok hcb (by have:=(hX.ds d hdm).dims;omega) (by have:=(hX.ds d hdm).red;omega) (hX.ds d hdm).fd (hX.ds d hdm).fr d.Body (by have:=(hX.ds d hdm).wt;omega))) ⟨U,O,U,O,U,O,U,O,T⟩<|zD O zBx<|N 0 sz44 O<|W<|zO O<|zD O yZ<|zH wL (J 2 O) O<|zL wM (J 0 O) O<|qX O el25 zr63<|zS O O (qO 1 O el25 O O O (by simp only [List.length_map,List.length_append,List.length_cons,List.length_nil,List.length_take,List.length_drop];omega) (by simp only [List.length_map,List.length_append,List.length_cons,List.length_nil,List.length_take,List.length_drop];omega)) ?_
   rintro _ _ ⟨sv14,rfl,rfl⟩
   refine zD O yZ<|N 2 sz25 O<|W<|zO O<|qB O ⟨by omega,by omega⟩<|Y O<|W ?_
   refine ⟨⟨i+1,sv14⟩,(by omega),(by show (p.Defs.drop c.first).length-(i+1)<(p.Defs.drop c.first).length-i;omega),Weak.mk [false,true,true,true,true,true] ⟨U,U,U,U,U,U,U,T⟩ (by exact zEy (by rw [exdP_next hd,List.map_append];rfl))⟩
  ·try simp only [sx] at c2
   rw [exdP_end (p:=p) (c:=c) (k:=i) (by omega)]
   refine zU _ (yJ 0 O (regs':=[]) (μ':=[_,_,_,_]) T ⟨EFle.row (ds:=[_,_,_,_,_]) ⟨.inl O,.inl O,.inl O,.inr ⟨O,O⟩,.inl O,T⟩,EFle.refl _,EFle.refl _,EFle.refl _,T⟩)<|qE<|G O<|zL wC (J 0 O) O<|N 2 sz27 O<|W<|zJ<|fin1 (qF wC O (J 2 O) O) ?_
   rfl
theorem cse_Extract (p:Pg) (hX:p.Xt 0) (most:Int):
    Pur cfgI 13 [vPg p,vI most] (.tup [vPg (xtrP most p).1,vI ((xtrP most p).2:Nat)]):=by
 refine zR Tryz.func13 O Tryz.ntmps13 Tryz.results13 O ?_
 intro z hz
 have hP:=hX.ok (by decide)
 have hdl:=hX.defs
 refine G O<|zS O O (qG O O) ?_
 rintro _ _ ⟨b1,rfl,rfl⟩
 refine zS O O (qD [some 1,some 3,some 7,some 22,some 1] O zr27 O) ?_
 rintro _ _ ⟨b2,rfl,rfl⟩
 refine Y O<|W<|G O<|zL wC (J 1 O) O<|qK O ok37 (upI (zCk p (pgOkC hP))) ⟨U,O,T⟩<|zS O O (qD [some 1,some 3,some 7,some 22,some 1] O zr27 O) ?_
 rintro _ _ ⟨b3,rfl,rfl⟩
 refine N 0 sz27 O<|W<|zG<|G O<|zL wC (J 2 O) O<|qK O ok30 (upI (zCs p hP)) ⟨U,O,T⟩<|zX O (yE O O)<|zX O (yP O O O)<|zX O (yP O O O)<|Y O<|Y O<|W<|G O<|Y O<|yR O<|W<|zE O (fun c1=>?_) (fun c1=>?_)
 ·try simp only [sx] at c1
  refine G O<|zL wC (J 0 O) O<|N 1 sz27 O<|Y O<|W<|zJ<|fin2 (qF wC O (J 1 O) O) (v O) ?_
  rw [xtr_no c1];rfl
 ·try simp only [sx] at c1
  have hx:=xtr_ok (most:=most) c1
  refine zI<|G O<|Y O<|W<|zG<|zN<|zU ⟨[(9,.c _),(1,.c _),(4,.c _),(6,.c _)],[_,_]⟩ (Weak.mk [true,true,false] ⟨U,U,U,U,T⟩ O)<|qA 1 1 O O (Nat×Pg) (fun ⟨n,q⟩=>[(9,vI n)]) (fun ⟨n,q⟩=>[E.row b3 27 q.cells]) (fun ⟨n,q⟩=>q.Xt n/\n<=64/\((exG (most.toNat-0) p).1,(exG (most.toNat-0) p).2+0)=((exG (most.toNat-n) q).1,(exG (most.toNat-n) q).2+n)/\q.Defs.length=p.Defs.length+n) (fun ⟨n,q⟩=>64-q.Defs.length) ⟨⟨0,p⟩,⟨hX,by omega,O,O⟩,Weak.mk [true,true] ⟨U,U,U,U,T⟩ O⟩ ?_
  rintro ⟨n,q⟩ ⟨hXq,hn,hq,hql⟩
  refine zG<|G O<|Y O<|Y O<|qW O<|Y O<|rL0 O (fun g6_3=>zF O yZ O) O<|rL1 26 O (fun g6_3=>zK O wL O (J 0 O) O) O<|rL1 27 O (fun g6_3=>qU O el25 O) O<|rL1 28 O (fun g6_3=>zDy O O O) O<|kD O (fun h=>h)<|W<|zE O (fun c2=>?_) (fun c2=>?_)
  ·try simp only [sx] at c2
   refine zI<|zN<|G O<|zL wC (J 0 O) O<|qK O ok38 (upI (cse_best q n hXq hn)) ⟨U,O,T⟩<|zX O (yE O O)<|zX O (kA O O O)<|zX O (yP O O O)<|zS O O (qD [none,none,none,none,none,none,none,none,none,none,some 2,some 4,some 13,some 3,none,none] O zr74 O) ?_
   rintro _ _ ⟨b4,rfl,rfl⟩
   refine N 0 sz74 O<|Y O<|W<|zG<|G O<|Y O<|wD O<|W<|zE O (fun c3=>?_) (fun c3=>?_)
   ·try simp only [sx] at c3
    have hE:=exG_stop2 hq (bst_none (by simpa using c3))
    rw [←hx] at hE
    refine qE<|G O<|zL wC (J 1 O) O<|qK O ok37 (upI (zCk q (pgOkC (hXq.ok hn)))) ⟨U,O,T⟩<|Y O<|N 2 sz27 O<|Y O<|W<|zJ<|fin2 (qF wC O (J 2 O) O) (v O) ?_
    rw [hE];rfl
   ·try simp only [sx] at c3
    obtain ⟨hne,hmem⟩:=bst_some (D:=q.Defs) (by simpa using c3)
    refine zI<|G O<|zL wC (J 1 O) O<|zL agg74 (J 0 O) O<|qK O ok39 (cse_extract q n hXq (by omega) (bstP (clsP q.Defs)).1 hmem) ⟨U,O,U,O,T⟩<|N 1 sz27 O<|W<|zO O<|Y O<|qB O ⟨by omega,by omega⟩<|Y O<|W ?_
    refine ⟨⟨n+1,extP q (bstP (clsP q.Defs)).1⟩,⟨hXq.step hmem,by omega,exG_go hq c2.1 (by omega) hne,by rw [extP_len];omega⟩,(by show 64-(extP q _).Defs.length<64-q.Defs.length;rw [extP_len];omega),Weak.mk [false,true,true] ⟨U,U,U,U,T⟩ O⟩
  ·try simp only [sx] at c2
   have hE:=exG_stop hq (by omega)
   rw [←hx] at hE
   refine qE<|G O<|zL wC (J 0 O) O<|qK O ok37 (upI (zCk q (pgOkC (hXq.ok hn)))) ⟨U,O,T⟩<|Y O<|N 1 sz27 O<|Y O<|W<|zJ<|fin2 (qF wC O (J 1 O) O) (v O) ?_
   rw [hE];rfl
end Go.W
