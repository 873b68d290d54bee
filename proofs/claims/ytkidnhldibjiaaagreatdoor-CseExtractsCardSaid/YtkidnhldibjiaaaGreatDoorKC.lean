/-
  Walks: what functions of the program compute. Printed by wip/gen/mk2.py.
  Conditions: none.
-/
import Derived.Test.YtkidnhldibjiaaaGreatDoorKB
import Derived.Test.YtkidnhldibjiaaaGreatDoorPlain3
import Derived.Test.YtkidnhldibjiaaaGreatDoorOpenX
set_option linter.unusedSimpArgs false
set_option linter.unusedVariables false
set_option maxRecDepth 10000
namespace Go.W
open Go Go.Eng Go.Proofs Go.L41 Go.Br
attribute [local irreducible] AWP RWP TD finQ
theorem pgOkC {p:Pg} (h:p.Ok):p.OkC:=
  ⟨h.sizes,h.wh,h.params,h.defs,h.outs,h.whs,h.ps,fun d hd=>⟨(h.ds d hd).1,(h.ds d hd).2.1,(h.ds d hd).2.2.1,(h.ds d hd).2.2.2.1,allF_wt (Nat.le_trans (h.ds d hd).2.2.2.2 (by decide)),Nat.le_trans (Ex.cnt_le d.Body) (h.ds d hd).2.2.2.2⟩⟩
theorem fd74_2:fieldT Tryz.prog 74 2=some (14,3):=by kernel_rfl
theorem fd79_1:fieldT Tryz.prog 79 1=some (14,3):=by kernel_rfl
theorem ok38:callOk Tryz.prog 38=true:=by kernel_rfl
theorem ok39:callOk Tryz.prog 39=true:=by kernel_rfl
theorem ok41:callOk Tryz.prog 41=true:=by kernel_rfl
theorem ok90:callOk Tryz.prog 90=true:=by kernel_rfl
theorem ok94:callOk Tryz.prog 94=true:=by kernel_rfl
theorem ok95:callOk Tryz.prog 95=true:=by kernel_rfl
theorem cse_fresh (p:Pg) (j:Nat) (hX:p.Xt j) (hj:j<=64):
    Pur cfgI 90 [vPg p] (vS (frsT p)):=by
 refine zS Tryz.func90 O Tryz.ntmps90 Tryz.results90 O ?_
 intro z hz
 have hdl:=hX.defs
 have h1:=hX.sizes
 have h2:=hX.params
 have hul:=usedL_len hX hj
 refine G O<|zT O O (qI O O) ?_
 rintro _ _ ⟨b1,rfl,rfl⟩
 refine Y O<|W<|G O<|zE O zBw<|zH zAu (J 0 O) O<|zT O O (zCt O ok83 (upI (zCx p.Sizes (by omega))) ⟨U,O,T⟩) ?_
 rintro _ _ ⟨sv2,rfl,rfl⟩
 refine Y O<|W<|zG<|G O<|zE O wS<|zH zCa (J 1 O) O<|zV O el24<|Y O<|W<|zN<|zU ⟨[(16,.c _),(3,.c _),(1,.c _),(14,.c _),(15,.c _)],[_,_]⟩ (Weak.mk [true,true] ⟨U,U,U,U,U,T⟩ O)<|zY 2 1 O O (Nat×Value) (fun ⟨k,sv⟩=>[(16,vI k),(3,.c (.lit sv))]) (fun ⟨k,sv⟩=>[E.vec sv 9 1 ((p.Sizes++(p.Params.take k).map Pm.Name).map fun s=>[cS s])]) (fun ⟨k,sv⟩=>k<=p.Params.length) (fun ⟨k,sv⟩=>p.Params.length-k) ⟨⟨0,_⟩,(by omega),Weak.mk [true,true] ⟨U,U,U,U,U,T⟩ (by exact yX (by simp))⟩ ?_
 rintro ⟨k,sv⟩ hk
 show AWP _ _ _ _ _ ⟨[(16,vI k),(3,.c (.lit sv))]++_,[E.vec sv 9 1 ((p.Sizes++(p.Params.take k).map Pm.Name).map fun s=>[cS s])]++_⟩
 refine G O<|qY O<|W<|zG<|zF O (fun c1=>?_) (fun c1=>?_)
 ·try simp only [sx] at c1
  obtain ⟨x,hx⟩:=qP p.Params k (by omega)
  refine zJ<|zG<|zN<|G O<|zZ O el24 (by omega) (getm hx)<|zK agg67 zX O<|zT O O (qD [none,none,none,none,none,none,some 2] O zr67 O) ?_
  rintro _ _ ⟨b3,rfl,rfl⟩
  refine N 0 sz67 O<|W<|zO O<|Y O<|zE O zJv<|zH one9 (J 0 O) O<|qZ O r zr9<|zT O O (qO 1 O r O O O (by simp only [List.length_map,List.length_append,List.length_cons,List.length_nil,List.length_take,List.length_drop];omega) (by simp only [List.length_map,List.length_append,List.length_cons,List.length_nil,List.length_take,List.length_drop];omega)) ?_
  rintro _ _ ⟨sv4,rfl,rfl⟩
  refine Y O<|W<|zO O<|qB O ⟨by omega,by omega⟩<|Y O<|W ?_
  refine ⟨⟨k+1,sv4⟩,(by omega),(by show p.Params.length-(k+1)<p.Params.length-k;omega),Weak.mk [false,true,true] ⟨U,U,U,U,U,T⟩ (by exact yX (by rw [qM hx];simp))⟩
 ·try simp only [sx] at c1
  rw [qT (l:=p.Params) (k:=k) (by omega)]
  refine qE<|zG<|G O<|zE O yK<|zH kO (J 1 O) O<|zV O el25<|Y O<|W<|zN<|zU ⟨[(29,.c _),(3,.c _),(27,.c _),(28,.c _)],[_]⟩ (Weak.mk [true,false] ⟨U,U,U,U,T⟩ O)<|zY 2 1 O O (Nat×Value) (fun ⟨i,sw⟩=>[(29,vI i),(3,.c (.lit sw))]) (fun ⟨i,sw⟩=>[E.vec sw 9 1 ((usedK p i).map fun s=>[cS s])]) (fun ⟨i,sw⟩=>i<=p.Defs.length) (fun ⟨i,sw⟩=>p.Defs.length-i) ⟨⟨0,_⟩,(by omega),Weak.mk [true] ⟨U,U,U,U,T⟩ (by exact yX (by unfold usedK;simp))⟩ ?_
  rintro ⟨i,sw⟩ hi
  show AWP _ _ _ _ _ ⟨[(29,vI i),(3,.c (.lit sw))]++_,[E.vec sw 9 1 ((usedK p i).map fun s=>[cS s])]++_⟩
  refine G O<|qY O<|W<|zG<|zF O (fun c2=>?_) (fun c2=>?_)
  ·try simp only [sx] at c2
   obtain ⟨d,hd⟩:=qP p.Defs i (by omega)
   have hkl:=usedK_len hX (show i<=p.Defs.length by omega)
   have hnd:=zAb d
   have hxd:=hX.ds d (zW hd)
   have hx1:=hxd.dims
   have hx2:=hxd.red
   have hk3:3001*i<=3001*104:=Nat.mul_le_mul_left _ (by omega)
   refine zJ<|zG<|zN<|G O<|zZ O el25 (by omega) (getm hd)<|zK kX zX O<|zT O O (qD [none,none,none,none,none,none,some 3,some 3,none,none,none,none,none,none,none,none,none,none,none,some 2,some 4,some 13] O zr63 O) ?_
   rintro _ _ ⟨b5,rfl,rfl⟩
   refine N 0 sz63 O<|W<|G O<|Y O<|zE O zDt<|zH one9 (J 0 O) O<|qZ O r zr9<|zT O O (qO 1 O r O O O (by simp only [List.length_map,List.length_append,List.length_cons,List.length_nil,List.length_take,List.length_drop];omega) (by simp only [List.length_map,List.length_append,List.length_cons,List.length_nil,List.length_take,List.length_drop];omega)) ?_
   rintro _ _ ⟨sv6,rfl,rfl⟩
   refine Y O<|W<|zO O<|Y O<|zK kX (J 0 O) O<|qK O ok89 (OwnR.pur (upI (wT d (by have:=(hX.ds d (zW hd)).dims;omega) (by have:=(hX.ds d (zW hd)).red;omega)))) ⟨U,O,T⟩<|zT O O (qO 1 O r O O O (by simp only [List.length_map,List.length_append,List.length_cons,List.length_nil,List.length_take,List.length_drop];omega) (by simp only [List.length_map,List.length_append,List.length_cons,List.length_nil,List.length_take,List.length_drop];omega)) ?_
   rintro _ _ ⟨sv7,rfl,rfl⟩
   refine Y O<|W<|zO O<|qB O ⟨by omega,by omega⟩<|Y O<|W ?_
   refine ⟨⟨i+1,sv7⟩,(by omega),(by show p.Defs.length-(i+1)<p.Defs.length-i;omega),Weak.mk [false,true] ⟨U,U,U,U,T⟩ (by exact yX (by rw [usedK_next hd,List.map_append,List.map_append];rfl))⟩
  ·try simp only [sx] at c2
   rw [usedK_end (p:=p) (k:=i) (by omega)]
   refine qE<|G O<|Y O<|W<|zN<|zU ⟨[(8,.c _),(3,.c _)],[_]⟩ (Weak.mk [true] ⟨U,U,T⟩ O)<|zY 1 0 O O (Nat) (fun j_=>[(8,vI j_)]) (fun j_=>[]) (fun j_=>j_<=(usedL p).length/\∀i,i<j_->hasB (usedL p) (tNm i)=true) (fun j_=>(usedL p).length+1-j_) ⟨0,⟨by omega,fun i hi=>by omega⟩,Weak.mk [true] ⟨U,U,T⟩ O⟩ ?_
   rintro j_ ⟨hjl,hp⟩
   refine zG<|zN<|G O<|Y O<|qK O ok95 (strconv_Itoa j_ (by omega)) ⟨U,O,T⟩<|qA O (det_sadd O O O (by have:=zQr (n:=j_) (by omega);have h9:(ByteArray.mk #[116]).size=1:=(by decide);omega))<|Y O<|W<|G O<|Y O<|Y O<|qA O (zBc 0 O ok52 O (upI (wO (usedL p) (tNm j_) (by omega))) O ⟨.inl ⟨O,O⟩,.inr ⟨U,O⟩,T⟩)<|wK O<|W<|zF O (fun c3=>?_) (fun c3=>?_)
   ·try simp only [sx] at c3
    have c3:hasB (usedL p) (tNm j_)=false:=by simpa using c3
    refine G O<|Y O<|Y O<|W<|zL<|zP O ?_
    exact congrArg vS (show tNm j_=frsT p by unfold frsT;rw [frs_end hp c3])
   ·try simp only [sx] at c3
    have c3:hasB (usedL p) (tNm j_)=true:=by simpa using c3
    have hnx:=tNm_up hp c3
    have hlt:=tNm_lt hnx
    refine zJ<|zO O<|Y O<|qB O ⟨by omega,by omega⟩<|Y O<|W ?_
    refine ⟨j_+1,⟨hlt,hnx⟩,(by omega),Weak.mk [true] ⟨U,U,T⟩ O⟩
theorem r23_used (p:Pg) (j:Nat) (hX:p.Xt j) (hj:j<=64) (s:ByteArray):
    Pur cfg 94 [vPg p,vS s] (vB (hasB (usedL p) s)):=by
 refine zS Tryz.func94 O Tryz.ntmps94 Tryz.results94 O ?_
 intro z hz
 have hdl:=hX.defs
 have h1:=hX.sizes
 have h2:=hX.params
 refine G O<|zT O O (qI O O) ?_
 rintro _ _ ⟨b1,rfl,rfl⟩
 refine Y O<|W<|zG<|G O<|zE O zBw<|zH zAu (J 0 O) O<|Y O<|qK O ok21 (zDi p.Sizes s (by omega)) ⟨U,O,U,O,T⟩<|W<|zF O (fun c1=>?_) (fun c1=>?_)
 ·try simp only [sx] at c1
  refine G O<|Y O<|W<|zL<|zP O ?_
  exact congrArg vB (by rw [used_eq,c1];rfl)
 ·try simp only [sx] at c1
  have c1:hasB p.Sizes s=false:=by simpa using c1
  refine zJ<|zG<|G O<|Y O<|W<|zN<|zU ⟨[(5,.c _),(1,.c _),(2,.c _)],[_]⟩ (Weak.mk [true] ⟨U,U,U,T⟩ O)<|zY 1 0 O O (Nat) (fun k=>[(5,vI k)]) (fun k=>[]) (fun k=>k<=p.Params.length/\((p.Params.take k).any (useP s)=false)) (fun k=>p.Params.length-k) ⟨0,⟨by omega,O⟩,Weak.mk [true] ⟨U,U,U,T⟩ O⟩ ?_
  rintro k ⟨hk,hp⟩
  refine zG<|G O<|Y O<|zE O wS<|zH zCa (J 0 O) O<|zV O el24<|qY O<|W<|zF O (fun c2=>?_) (fun c2=>?_)
  ·try simp only [sx] at c2
   obtain ⟨x,hx⟩:=qP p.Params k (by omega)
   refine zJ<|zG<|zN<|G O<|zE O wS<|zH zCa (J 0 O) O<|Y O<|zZ O el24 (by omega) (getm hx)<|qQ O zJv<|zH one9 zX O<|Y O<|kP O<|W<|zF O (fun c3=>?_) (fun c3=>?_)
   ·try simp only [sx] at c3
    refine G O<|Y O<|W<|zL<|zP O ?_
    exact congrArg vB (by rw [used_eq,any_g hx (show useP s x=true from decide_eq_true c3)];simp)
   ·try simp only [sx] at c3
    have c3:useP s x=false:=decide_eq_false c3
    refine zJ<|zO O<|Y O<|qB O ⟨by omega,by omega⟩<|Y O<|W ?_
    refine ⟨k+1,⟨by omega,zEh hx hp c3⟩,(by omega),Weak.mk [true] ⟨U,U,U,T⟩ O⟩
  ·try simp only [sx] at c2
   rw [qT (l:=p.Params) (k:=k) (by omega)] at hp
   refine qE<|zG<|G O<|Y O<|W<|zN<|zU ⟨[(6,.c _),(1,.c _),(2,.c _)],[_]⟩ (Weak.mk [true] ⟨U,U,U,T⟩ O)<|zY 1 0 O O (Nat) (fun i=>[(6,vI i)]) (fun i=>[]) (fun i=>i<=p.Defs.length/\(p.Defs.take i).any (useD s)=false) (fun i=>p.Defs.length-i) ⟨0,⟨by omega,O⟩,Weak.mk [true] ⟨U,U,U,T⟩ O⟩ ?_
   rintro i ⟨hi,hq⟩
   refine zG<|G O<|Y O<|zE O yK<|zH kO (J 0 O) O<|zV O el25<|qY O<|W<|zF O (fun c4=>?_) (fun c4=>?_)
   ·try simp only [sx] at c4
    have hd:p.Defs[i]? =some (p.Defs.getD i ⟨bs [],zTy,[],[],0,zEx⟩):=dfG (by omega)
    have hxd:=hX.ds _ (zW hd)
    refine zJ<|zG<|zN<|G O<|zE O yK<|zH kO (J 0 O) O<|Y O<|zZ O el25 (by omega) (getm hd)<|qQ O zDt<|zH one9 zX O<|Y O<|kP O<|Y O<|rL0 O (fun g11_8=>zD O yK O) O<|rL1 42 O (fun g11_8=>zI O kO O (J 0 O) O) O<|rL0 O (fun g11_8=>zQ O O) O<|rLz [(43,_),(44,_)] O gv1 ⟨O,O,O,O,T⟩ (fun g11_8=>qH O el25 O O (by omega) (getm hd)) O<|rL1 45 O (fun g11_8=>zR O kX O zX O) O<|rL1 46 O (fun g11_8=>qG O ok97 (OwnR.pur (zCy (p.Defs.getD i ⟨bs [],zTy,[],[],0,zEx⟩) (by have:=hxd.dims;omega) (by have:=hxd.red;omega))) ⟨U,O,T⟩) O<|rL0 O (fun g11_8=>zQ O O) O<|rLz [(47,_),(48,_)] O gv1 ⟨O,O,O,O,T⟩ (fun g11_8=>qG O ok21 (zDi (namesD (p.Defs.getD i ⟨bs [],zTy,[],[],0,zEx⟩)) s (by have:=hxd.dims;have:=hxd.red;have:=zAb (p.Defs.getD i ⟨bs [],zTy,[],[],0,zEx⟩);omega)) ⟨U,O,U,O,T⟩) O<|r_or O (fun h=>(lzf h))<|W<|zF O (fun c5=>?_) (fun c5=>?_)
    ·refine G O<|Y O<|W<|zL<|zP O ?_
     exact congrArg vB (by rw [used_eq,any_g hd (show useD s _=true from c5)];simp)
    ·refine zJ<|zO O<|Y O<|qB O ⟨by omega,by omega⟩<|Y O<|W ?_
     refine ⟨i+1,⟨by omega,zEh hd hq c5⟩,(by omega),Weak.mk [true] ⟨U,U,U,T⟩ O⟩
   ·try simp only [sx] at c4
    rw [qT (l:=p.Defs) (k:=i) (by omega)] at hq
    refine qE<|G O<|Y O<|W<|zL<|zP O ?_
    exact congrArg vB (by rw [used_eq,c1,hp,hq];rfl)
theorem cse_best (p:Pg) (j:Nat) (hX:p.Xt j) (hj:j<=64):
    Pur cfg 38 [vPg p] (.tup [vCl (bstP (clsP p.Defs)).1,vB (decide (0<(bstP (clsP p.Defs)).2))]):=by
 refine zS Tryz.func38 O Tryz.ntmps38 Tryz.results38 O ?_
 intro z hz
 have hcl:=cls_len hX hj
 refine G O<|zT O O (qI O O) ?_
 rintro _ _ ⟨b1,rfl,rfl⟩
 refine zT O O (qD [none,none,none,none,none,none,none,none,none,none,some 2,some 4,some 13,some 3,none,none] O zr74 O) ?_
 rintro _ _ ⟨b2,rfl,rfl⟩
 refine Y O<|W<|G O<|qA O (kF [none,none,none,none,none,none,none,none,none,none,some 2,some 4,some 13,some 3,none,none] O zr74 pl74 O O)<|zT O O (qD [none,none,none,none,none,none,none,none,none,none,some 2,some 4,some 13,some 3,none,none] O zr74 O) ?_
 rintro _ _ ⟨b3,rfl,rfl⟩
 refine N 0 sz74 O<|Y O<|W<|zG<|G O<|zK kN (J 2 O) O<|qK O ok31 (OwnR.pur (zQu p j hX hj)) ⟨U,O,T⟩<|zV O el71<|Y O<|W<|zN<|zU ⟨[(13,.c _),(5,.c _),(2,.c _),(4,.c _),(11,.c _),(12,.c _)],[_,_]⟩ (Weak.mk [true,true,false] ⟨U,U,U,U,U,U,T⟩ O)<|zY 2 1 O O (Nat×Cl×Nat) (fun ⟨k,b⟩=>[(13,vI k),(5,vI b.2)]) (fun ⟨k,b⟩=>[E.row b3 74 b.1.cells]) (fun ⟨k,b⟩=>k<=(clsP p.Defs).length/\(bstP (clsP p.Defs)=((clsP p.Defs).drop k).foldl bstS b)) (fun ⟨k,b⟩=>(clsP p.Defs).length-k) ⟨⟨0,(zCl,0)⟩,⟨by omega,O⟩,Weak.mk [true,true] ⟨U,U,U,U,U,U,T⟩ O⟩ ?_
 rintro ⟨k,b⟩ ⟨hk,hp⟩
 show AWP _ _ _ _ _ ⟨[(13,vI k),(5,vI b.2)]++_,[E.row b3 74 b.1.cells]++_⟩
 refine G O<|qY O<|W<|zG<|zF O (fun c1=>?_) (fun c1=>?_)
 ·try simp only [sx] at c1
  obtain ⟨c,hc⟩:=qP (clsP p.Defs) k (by omega)
  refine zJ<|zG<|zN<|G O<|zZ O el71 (by omega) (getm hc)<|zK agg74 zX O<|zT O O (qD [none,none,none,none,none,none,none,none,none,none,some 2,some 4,some 13,some 3,none,none] O zr74 O) ?_
  rintro _ _ ⟨b4,rfl,rfl⟩
  refine N 0 sz74 O<|W<|G O<|zE O fd74_0<|zK qX (J 0 O) O<|qK O ok87 (expr_Size c.e (by have:=(cls_bd hX hj c (zW hc)).2.1;omega)) ⟨U,O,T⟩<|Y O<|W<|G O<|zE O zQe<|zH one3 (J 0 O) O<|qA O (wE O O O)<|Y O<|rL0 O (fun g6_3=>zQ O O) O<|rL0 O (fun g6_3=>zQ O O) O<|rLz [(24,_),(25,_)] O gv1 ⟨O,O,O,O,T⟩ (fun g6_3=>yI O O O) O<|yY O (fun h=>h)<|W<|zF O (fun c2=>?_) (fun c2=>?_)
  ·have hB:bstS b c=(c,szT c.e):=if_pos (by simp only [Lz,cond_true,cond_false,Bool.and_eq_true,Bool.or_eq_true,Bool.not_eq_true',Bool.not_eq_false',Bool.or_eq_false_iff,Bool.and_eq_false_iff,decide_eq_true_eq,decide_eq_false_iff_not,Bool.not_eq_true,Bool.not_eq_false,List.length_map] at c2;omega)
   have hB:=hB.symm
   refine zO O<|zK agg74 (J 0 O) O<|Y O<|N 1 sz74 O<|Y O<|W<|zO O<|qB O ⟨by omega,by omega⟩<|Y O<|W ?_
   refine ⟨⟨k+1,bstS b c⟩,⟨by omega,bst_next hc hp⟩,(by show (clsP p.Defs).length-(k+1)<(clsP p.Defs).length-k;omega),Weak.mk [false,true,true] ⟨U,VLe.of_eq (congrArg (fun q:Cl×Nat=>vI q.2) hB),U,U,U,U,T⟩ (by rw [←hB];rfl)⟩
  ·have hB:bstS b c=b:=if_neg (by simp only [Lz,cond_true,cond_false,Bool.and_eq_true,Bool.or_eq_true,Bool.not_eq_true',Bool.not_eq_false',Bool.or_eq_false_iff,Bool.and_eq_false_iff,decide_eq_true_eq,decide_eq_false_iff_not,Bool.not_eq_true,Bool.not_eq_false,List.length_map] at c2;omega)
   have hB:=hB.symm
   refine zJ<|zO O<|qB O ⟨by omega,by omega⟩<|Y O<|W ?_
   refine ⟨⟨k+1,bstS b c⟩,⟨by omega,bst_next hc hp⟩,(by show (clsP p.Defs).length-(k+1)<(clsP p.Defs).length-k;omega),Weak.mk [false,true,true] ⟨U,VLe.of_eq (congrArg (fun q:Cl×Nat=>vI q.2) hB),U,U,U,U,T⟩ (by rw [←hB];rfl)⟩
 ·try simp only [sx] at c1
  have hE:=bst_end hp (by omega)
  have hE:bstP (clsP p.Defs)=b:=hE
  rw [hE]
  refine qE<|G O<|zK agg74 (J 0 O) O<|Y O<|qA O (yI O O O)<|N 1 sz74 O<|Y O<|W<|zL<|fin2 (qF agg74 O (J 1 O) O) (v O) ?_
  exact congrArg (fun q=>V.tup [vCl b.1,vB q]) (decide_eq_decide.2 (by omega))
theorem cse_extract (p:Pg) (j:Nat) (hX:p.Xt j) (hj:j<=63) (c:Cl) (hc:c∈clsP p.Defs):
    Pur cfgI 39 [vPg p,vCl c] (vPg (extP p c)):=by
 refine zS Tryz.func39 O Tryz.ntmps39 Tryz.results39 O ?_
 intro z hz
 have hP:=hX.ok (by omega)
 have hdrl:(p.Defs.drop c.first).length=p.Defs.length-c.first:=List.length_drop
 have hdl:=hX.defs
 have hfl:=cl_first hc
 have hd0:=dfG hfl
 have hx0:=hX.ds _ (zW hd0)
 have hx1:=hx0.dims
 have hx2:=hx0.red
 have hok:=zGt _ c hc
 have hcb:=cls_bd hX (by omega) c hc
 have hnl:=zAb (p.Defs.getD c.first ⟨bs [],zTy,[],[],0,zEx⟩)
 have hax:=hok.axes
 have hew:=hcb.2.1
 refine G O<|zT O O (qI O O) ?_
 rintro _ _ ⟨b1,rfl,rfl⟩
 refine zT O O (qI O O) ?_
 rintro _ _ ⟨b2,rfl,rfl⟩
 refine zT O O (qD [some 1,some 3,some 7,some 22,some 1] O zr27 O) ?_
 rintro _ _ ⟨b3,rfl,rfl⟩
 refine W<|G O<|zE O yK<|zH kO (J 2 O) O<|zE O fd74_2<|zH one3 (J 1 O) O<|zZ O el25 (by omega) (getm hd0)<|zK kX zX O<|zT O O (qD [none,none,none,none,none,none,some 3,some 3,none,none,none,none,none,none,none,none,none,none,none,some 2,some 4,some 13] O zr63 O) ?_
 rintro _ _ ⟨b4,rfl,rfl⟩
 refine N 0 sz63 O<|W<|zG<|wI 11 1 [⟨0,.q [4]⟩,⟨1,.q [1]⟩,⟨2,.q []⟩,⟨3,.q []⟩,⟨4,.q [3]⟩,⟨5,.q []⟩,⟨6,.q []⟩,⟨7,.q []⟩,⟨8,.q []⟩,⟨9,.e 0 []⟩,⟨10,.e 0 []⟩] mixed (by kernel_rfl) (by kernel_rfl) O O O<|qJ O<|qJ O<|qJ O<|qJ O<|qJ O<|qJ O<|qJ O<|qJ O<|qJ O<|qJ O<|qJ O<|zEe<|qR O (by decide) O O (zR O kN O (J 0 O) O)<|qR O (by decide) O O (zR O kX O (J 0 O) O)<|qR O (by decide) O O (qG O ok89 (OwnR.pur (upI (wT (p.Defs.getD c.first ⟨bs [],zTy,[],[],0,zEx⟩) (by omega) (by omega)))) ⟨U,O,T⟩)<|qR O (by decide) O O (zD O fd74_0 O)<|qR O (by decide) O O (zR O qX O (J 0 O) O)<|qR O (by decide) O O (qG O ok88 (upI (zHt p (namesD (p.Defs.getD c.first ⟨bs [],zTy,[],[],0,zEx⟩)) c.e hP (by omega) (by omega))) ⟨U,O,U,O,U,O,T⟩)<|qR O (by decide) O O (yC O O)<|qR O (by decide) O O (yW O O O)<|qR O (by decide) O O (yO O O O)<|sq_op O O (by decide) O O (yD O zr37) ?_
 rintro _ _ ⟨b5,rfl,rfl⟩
 refine ⟨_,O,?_⟩
 refine zOl O O (by decide) O O (kR O sz37 O O O (zFz 0 O O)) ?_
 rintro _ _ ⟨rfl,rfl⟩
 refine ⟨_,O,?_⟩
 refine zDy O<|Y O<|W<|zG<|wI 9 1 [⟨0,.q [5]⟩,⟨1,.q []⟩,⟨2,.q [1]⟩,⟨3,.q []⟩,⟨4,.q [4]⟩,⟨5,.q []⟩,⟨6,.q [4]⟩,⟨7,.q []⟩,⟨8,.f 0⟩] mixed (by kernel_rfl) (by kernel_rfl) O O O<|qJ O<|qJ O<|qJ O<|qJ O<|qJ O<|qJ O<|qJ O<|qJ O<|zNr O O (zAx (qD [none,none,none,none,none,none,some 3,some 3,none,none,none,none,none,none,none,none,none,none,none,some 2,some 4,some 13] O zr63 O)) ⟨_,_,0,O,O⟩<|zEe<|qR O (by decide) O O (zR O kN O (J 0 O) O)<|qR O (by decide) O O (qG O ok90 (cse_fresh p j hX (by omega)) ⟨U,O,T⟩)<|qR O (by decide) O O (zR O yF O (J 0 O) O)<|qR O (by decide) O O (zD O fd74_1 O)<|qR O (by decide) O O (zI O kM O (J 0 O) O)<|qR O (by decide) O O (zD O fd74_0 O)<|qR O (by decide) O O (zR O qX O (J 0 O) O)<|qR O (by decide) O O (kF [none,none,none,none,none,none,none,some 3,none,none,none,none,none,none,none,none,none,none,none,none,none,none] O zr63 pl63 O O)<|zNl O O ?_
 rintro _ _ ⟨b6,rfl,rfl⟩
 refine zDy O<|N 0 sz63 O<|W<|G O<|zE O zDt<|zH one9 (J 0 O) O<|yU O zr44 pl44<|zT O O (yD O zr44) ?_
 rintro _ _ ⟨b7,rfl,rfl⟩
 refine N 0 sz44 O<|W<|zG<|G O<|qV _ (yG 107 2)<|qV _ (yG 115 4)<|qV _ (yG 44 13)<|qV _ (yB 2 O (regs':=[]) (μ':=[_,_,_,_,_,_,_,_,_]) T ⟨EFle.refl _,EFle.refl _,EFle.row (ds:=[_,_,_,_,_,_,_,_,_,_,_,_,_]) ⟨.inl O,.inl O,.inl O,.inl O,.inl O,.inl O,.inl O,.inl O,.inl O,.inl O,.inr ⟨O,O⟩,.inl O,.inl O,T⟩,EFle.refl _,EFle.refl _,EFle.refl _,EFle.refl _,EFle.refl _,EFle.refl _,T⟩)<|qV _ (yB 0 O (regs':=[]) (μ':=[_,_,_,_,_,_,_,_]) T ⟨EFle.refl _,EFle.row (ds:=[_,_,_,_,_,_,_,_,_,_,_,_,_]) ⟨.inl O,.inl O,.inl O,.inl O,.inl O,.inl O,.inl O,.inl O,.inl O,.inl O,.inl O,.inl O,.inr ⟨O,O⟩,T⟩,EFle.refl _,EFle.refl _,EFle.refl _,EFle.refl _,EFle.refl _,EFle.refl _,T⟩)<|zE O fd74_1<|zH kM (J 6 O) O<|qA O (kW O D O)<|Y O<|W<|zN<|zU ⟨[(44,.c _),(2,.c _),(3,.c _),(4,.c _),(8,.c _),(9,.c _),(42,.c _),(43,.c _)],[_,_,_,_,_,_]⟩ (Weak.mk [true,true,true,false,false,true,true,true] ⟨U,U,U,U,U,U,U,U,T⟩ O)<|zY 1 2 O O (Nat×Value) (fun ⟨k,sv⟩=>[(44,vI k)]) (fun ⟨k,sv⟩=>[E.vec sv 115 4 (((c.axes.take k).map fun a=>(⟨varL a.Name,bs [],[]⟩:Ix)).map Ix.cells),E.row b7 44 [cI 3,cS (frsT p),cI 0,cI 0,cI 0,cI 0,cI 0,cI 0,cI 0,cI 0,.sl 2 [],.lit sv,.sl 13 []]]) (fun ⟨k,sv⟩=>k<=c.axes.length) (fun ⟨k,sv⟩=>c.axes.length-k) ⟨⟨0,(.slice none 0 0)⟩,(by omega),Weak.mk [true,true,true,true,true,true] ⟨U,U,U,U,U,U,U,U,T⟩ O⟩ ?_
 rintro ⟨k,sv⟩ hk
 show AWP _ _ _ _ _ ⟨[(44,vI k)]++_,[E.vec sv 115 4 (((c.axes.take k).map fun a=>(⟨varL a.Name,bs [],[]⟩:Ix)).map Ix.cells),E.row b7 44 [cI 3,cS (frsT p),cI 0,cI 0,cI 0,cI 0,cI 0,cI 0,cI 0,cI 0,.sl 2 [],.lit sv,.sl 13 []]]++_⟩
 refine G O<|qY O<|W<|zG<|zF O (fun c1=>?_) (fun c1=>?_)
 ·try simp only [sx] at c1
  obtain ⟨a,ha⟩:=qP c.axes k (by omega)
  refine zJ<|zG<|zN<|G O<|zZ O D (by omega) (getm ha)<|zK zFf zX O<|zT O O (qD [none,none,some 2] O zHp O) ?_
  rintro _ _ ⟨b8,rfl,rfl⟩
  refine N 0 sz111 O<|W<|qW 7 mixed (by kernel_rfl) O O<|zM O O (zD O kC O)<|zM O O (zI O wN O (J 2 O) O)<|zM O O (zD O zAj O)<|zM O O (zI O one9 O (J 0 O) O)<|zM O O (qG O ok91 (upI (lin_Var a.Name)) ⟨U,O,T⟩)<|zM O O (kF [none,none,none,some 2] O zDc pl115 O O)<|zM O O (wH O el41 zDc O O O O)<|yN<|zT O O (qO 1 O el41 O O O (by simp only [List.length_map,List.length_append,List.length_cons,List.length_nil,List.length_take,List.length_drop];omega) (by simp only [List.length_map,List.length_append,List.length_cons,List.length_nil,List.length_take,List.length_drop];omega)) ?_
  rintro _ _ ⟨sv9,rfl,rfl⟩
  refine zE O kC<|N 2 sz41 O<|W<|zO O<|qB O ⟨by omega,by omega⟩<|Y O<|W ?_
  refine ⟨⟨k+1,sv9⟩,(by omega),(by show c.axes.length-(k+1)<c.axes.length-k;omega),Weak.mk [false,true,true,true,true,true,true] ⟨U,U,U,U,U,U,U,U,T⟩ (by exact zCn (by rw [qM ha,List.map_append,List.map_append];rfl))⟩
 ·try simp only [sx] at c1
  rw [qT (l:=c.axes) (k:=k) (by omega)]
  refine zU _ (yB 0 O (regs':=[]) (μ':=[_,_,_,_,_]) T ⟨EFle.row (ds:=[_,_,_,_,_,_,_,_,_,_,_,_,_]) ⟨.inl O,.inl O,.inl O,.inl O,.inl O,.inl O,.inl O,.inl O,.inl O,.inl O,.inl O,.inr ⟨O,O⟩,.inl O,T⟩,EFle.refl _,EFle.refl _,EFle.refl _,EFle.refl _,T⟩)<|qE<|G O<|zK kN (J 4 O) O<|zT O O (qD [some 1,some 3,some 7,some 22,some 1] O zr27 O) ?_
  rintro _ _ ⟨b10,rfl,rfl⟩
  refine N 0 sz27 O<|W<|G O<|zE O yK<|zH kO (J 5 O) O<|zE O fd74_2<|zH one3 (J 4 O) O<|qA O (zAi (k:=c.first) O el25 O O (by omega))<|qV _ (yG 63 22)<|zT O O (qO 0 O el25 O O O (by simp only [List.length_map,List.length_append,List.length_cons,List.length_nil,List.length_take,List.length_drop];omega) (by simp only [List.length_map,List.length_append,List.length_cons,List.length_nil,List.length_take,List.length_drop];omega)) ?_
  rintro _ _ ⟨sv11,rfl,rfl⟩
  refine zE O yK<|N 1 sz25 O<|W<|G O<|zE O yK<|zH kO (J 1 O) O<|zK kX (J 3 O) O<|qZ O el25 zr63<|zT O O (qO 0 O el25 O O O (by simp only [List.length_map,List.length_append,List.length_cons,List.length_nil,List.length_take,List.length_drop];omega) (by simp only [List.length_map,List.length_append,List.length_cons,List.length_nil,List.length_take,List.length_drop];omega)) ?_
  rintro _ _ ⟨sv12,rfl,rfl⟩
  refine zE O yK<|N 1 sz25 O<|W<|zG<|G O<|zE O yK<|zH kO (J 6 O) O<|zE O fd74_2<|zH one3 (J 5 O) O<|qA O (zMr (k:=c.first) O el25 O O (by omega))<|qA O (kW O el25 O)<|Y O<|W<|zN<|zU ⟨[(78,.c _),(3,.c _),(4,.c _),(9,.c _),(12,.c _),(76,.c _),(77,.c _)],[_,_,_,_,_]⟩ (Weak.mk [true,true,true,false,true,true,false] ⟨U,U,U,U,U,U,U,T⟩ O)<|zY 1 2 O O (Nat×Value) (fun ⟨i,sw⟩=>[(78,vI i)]) (fun ⟨i,sw⟩=>[E.vec sw 63 22 ((exdP p c i).map Df.cells),E.row b10 27 [.sl 1 ((p.Sizes).map fun s=>[cS s]),.sl 3 (p.Where.map Cn.cells),.sl 7 (p.Params.map Pm.cells),.lit sw,.sl 1 ((p.Outs).map fun s=>[cS s])]]) (fun ⟨i,sw⟩=>i<=(p.Defs.drop c.first).length) (fun ⟨i,sw⟩=>(p.Defs.drop c.first).length-i) ⟨⟨0,_⟩,(by omega),Weak.mk [true,true,true,true,true] ⟨U,U,U,U,U,U,U,T⟩ (by exact zCn (by unfold exdP;simp;rfl))⟩ ?_
  rintro ⟨i,sw⟩ hi
  show AWP _ _ _ _ _ ⟨[(78,vI i)]++_,[E.vec sw 63 22 ((exdP p c i).map Df.cells),E.row b10 27 [.sl 1 ((p.Sizes).map fun s=>[cS s]),.sl 3 (p.Where.map Cn.cells),.sl 7 (p.Params.map Pm.cells),.lit sw,.sl 1 ((p.Outs).map fun s=>[cS s])]]++_⟩
  refine G O<|qY O<|W<|zG<|zF O (fun c2=>?_) (fun c2=>?_)
  ·try simp only [sx] at c2
   obtain ⟨d,hd⟩:=qP (p.Defs.drop c.first) i (by omega)
   have hdm:=List.mem_of_mem_drop (zW hd)
   have hel:=exdP_len p c i
   refine zJ<|zG<|zN<|G O<|zZ O el25 (by omega) (getm hd)<|zK kX zX O<|zT O O (qD [none,none,none,none,none,none,some 3,some 3,none,none,none,none,none,none,none,none,none,none,none,some 2,some 4,some 13] O zr63 O) ?_
   rintro _ _ ⟨b13,rfl,rfl⟩
   refine N 0 sz63 O<|W<|G O<|zK kX (J 0 O) O<|zE O zAq<|zK qX (J 0 O) O<|zK agg74 (J 5 O) O<|zK qX (J 3 O) O<|qK O ok92 (upI (cse_replace d c (newR p c) p.Defs hok hcb (by have:=(hX.ds d hdm).dims;omega) (by have:=(hX.ds d hdm).red;omega) (hX.ds d hdm).fd (hX.ds d hdm).fr d.Body (by have:=(hX.ds d hdm).wt;omega))) ⟨U,O,U,O,U,O,U,O,T⟩<|zE O zAq<|N 0 sz44 O<|W<|zO O<|zE O yK<|zH kO (J 2 O) O<|zK kX (J 0 O) O<|qZ O el25 zr63<|zT O O (qO 1 O el25 O O O (by simp only [List.length_map,List.length_append,List.length_cons,List.length_nil,List.length_take,List.length_drop];omega) (by simp only [List.length_map,List.length_append,List.length_cons,List.length_nil,List.length_take,List.length_drop];omega)) ?_
   rintro _ _ ⟨sv14,rfl,rfl⟩
   refine zE O yK<|N 2 sz25 O<|W<|zO O<|qB O ⟨by omega,by omega⟩<|Y O<|W ?_
   refine ⟨⟨i+1,sv14⟩,(by omega),(by show (p.Defs.drop c.first).length-(i+1)<(p.Defs.drop c.first).length-i;omega),Weak.mk [false,true,true,true,true,true] ⟨U,U,U,U,U,U,U,T⟩ (by exact zCn (by rw [exdP_next hd,List.map_append];rfl))⟩
  ·try simp only [sx] at c2
   rw [exdP_end (p:=p) (c:=c) (k:=i) (by omega)]
   refine zU _ (yB 0 O (regs':=[]) (μ':=[_,_,_,_]) T ⟨EFle.row (ds:=[_,_,_,_,_]) ⟨.inl O,.inl O,.inl O,.inr ⟨O,O⟩,.inl O,T⟩,EFle.refl _,EFle.refl _,EFle.refl _,T⟩)<|qE<|G O<|zK kN (J 0 O) O<|N 2 sz27 O<|W<|zL<|fin1 (qF kN O (J 2 O) O) ?_
   rfl
theorem r23_extract (p:Pg) (j:Nat) (hX:p.Xt j) (hj:j<=63) (c:Cl) (hc:c∈clsP p.Defs):
    Pur cfgI 41 [vPg p,vClR c] (vPg (extP p c)):=by
 refine zS Tryz.func41 O Tryz.ntmps41 Tryz.results41 O ?_
 intro z hz
 have hP:=hX.ok (by omega)
 have hdrl:(p.Defs.drop c.first).length=p.Defs.length-c.first:=List.length_drop
 have hdl:=hX.defs
 have hfl:=cl_first hc
 have hd0:=dfG hfl
 have hx0:=hX.ds _ (zW hd0)
 have hx1:=hx0.dims
 have hx2:=hx0.red
 have hok:=zGt _ c hc
 have hcb:=cls_bd hX (by omega) c hc
 have hnl:=zAb (p.Defs.getD c.first ⟨bs [],zTy,[],[],0,zEx⟩)
 have hax:=hok.axes
 have hew:=hcb.2.1
 have hul:=usedL_len hX (by omega)
 refine G O<|zT O O (qI O O) ?_
 rintro _ _ ⟨b1,rfl,rfl⟩
 refine zT O O (qI O O) ?_
 rintro _ _ ⟨b2,rfl,rfl⟩
 refine zT O O (qD [some 1,some 3,some 7,some 22,some 1] O zr27 O) ?_
 rintro _ _ ⟨b3,rfl,rfl⟩
 refine W<|G O<|Y O<|W<|zG<|zN<|zU ⟨[(5,.c _),(2,.c _),(3,.c _),(4,.c _)],[_,_,_]⟩ (Weak.mk [true,true,true] ⟨U,U,U,U,T⟩ O)<|zY 1 0 O O (Nat) (fun n_=>[(5,vI n_)]) (fun n_=>[]) (fun n_=>n_<=(usedL p).length/\∀i,i<n_->hasB (usedL p) (tNm i)=true) (fun n_=>(usedL p).length+1-n_) ⟨0,⟨by omega,fun i hi=>by omega⟩,Weak.mk [true,true,true] ⟨U,U,U,U,T⟩ O⟩ ?_
 rintro n_ ⟨hjl,hq⟩
 refine zG<|zG<|qW 5 mixed (by kernel_rfl) O O<|zM O O (zR O kN O (J 2 O) O)<|zM O O (zQ O O)<|zM O O (qG O ok95 (strconv_Itoa n_ (by omega)) ⟨U,O,T⟩)<|zM O O (det_sadd O O O (by have:=zQr (n:=n_) (by omega);have h9:(ByteArray.mk #[116]).size=1:=(by decide);omega))<|zM O O (qG O ok94 (upI (r23_used p j hX (by omega) (tNm n_))) ⟨U,O,U,O,T⟩)<|yN<|W<|zF O (fun c1=>?_) (fun c1=>?_)
 ·try simp only [sx] at c1
  have c1:hasB (usedL p) (tNm n_)=true:=c1
  have hnx:=tNm_up hq c1
  have hlt:=tNm_lt hnx
  refine zJ<|zN<|zO O<|Y O<|qB O ⟨by omega,by omega⟩<|Y O<|W ?_
  refine ⟨n_+1,⟨hlt,hnx⟩,(by omega),Weak.mk [true,true,true] ⟨U,U,U,U,T⟩ O⟩
 ·try simp only [sx] at c1
  have c1:hasB (usedL p) (tNm n_)=false:=by simpa using c1
  have hfr:tNm n_=frsT p:=by unfold frsT;rw [frs_end hq c1]
  refine qE<|zG<|wI 17 1 [⟨0,.q [3]⟩,⟨1,.q []⟩,⟨2,.q [3]⟩,⟨3,.q []⟩,⟨4,.q [2]⟩,⟨5,.q []⟩,⟨6,.q []⟩,⟨7,.q []⟩,⟨8,.q []⟩,⟨9,.q []⟩,⟨10,.q [2]⟩,⟨11,.q []⟩,⟨12,.q []⟩,⟨13,.q []⟩,⟨14,.q []⟩,⟨15,.e 0 []⟩,⟨16,.e 0 []⟩] mixed (by kernel_rfl) (by kernel_rfl) O O O<|qJ O<|qJ O<|qJ O<|qJ O<|qJ O<|qJ O<|qJ O<|qJ O<|qJ O<|qJ O<|qJ O<|qJ O<|qJ O<|qJ O<|qJ O<|qJ O<|qJ O<|zEe<|qR O (by decide) O O (zR O kN O (J 0 O) O)<|qR O (by decide) O O (zD O yK O)<|qR O (by decide) O O (zI O kO O (J 0 O) O)<|qR O (by decide) O O (zD O fd79_1 O)<|qR O (by decide) O O (zI O one3 O (J 0 O) O)<|qR O (by decide) O O (qH O el25 O O (by omega) (getm hd0))<|qR O (by decide) O O (zR O kX O zX O)<|qR O (by decide) O O (qG O ok97 (OwnR.pur (upI (zCy (p.Defs.getD c.first ⟨bs [],zTy,[],[],0,zEx⟩) (by omega) (by omega)))) ⟨U,O,T⟩)<|qR O (by decide) O O (zD O zGn O)<|qR O (by decide) O O (zD O fd47_0 O)<|qR O (by decide) O O (zR O qX O (J 0 O) O)<|qR O (by decide) O O (qG O ok96 (show Pur cfgI 96 [vPg p,vSs (namesD (p.Defs.getD c.first ⟨bs [],zTy,[],[],0,zEx⟩)),vE c.e] (.tup [vTy (typeT p.en (namesD (p.Defs.getD c.first ⟨bs [],zTy,[],[],0,zEx⟩)) c.e).1,vI (typeT p.en (namesD (p.Defs.getD c.first ⟨bs [],zTy,[],[],0,zEx⟩)) c.e).2]) by rw [typeT_R];exact upI (zMk p (namesD (p.Defs.getD c.first ⟨bs [],zTy,[],[],0,zEx⟩)) c.e hP (by omega) (by omega))) ⟨U,O,U,O,U,O,T⟩)<|qR O (by decide) O O (yC O O)<|qR O (by decide) O O (yW O O O)<|qR O (by decide) O O (yO O O O)<|sq_op O O (by decide) O O (yD O zr37) ?_
  rintro _ _ ⟨b4,rfl,rfl⟩
  refine ⟨_,O,?_⟩
  refine zOl O O (by decide) O O (kR O sz37 O O O (zFz 0 O O)) ?_
  rintro _ _ ⟨rfl,rfl⟩
  refine ⟨_,O,?_⟩
  refine zDy O<|Y O<|W<|zG<|wI 11 1 [⟨0,.q []⟩,⟨1,.q []⟩,⟨2,.q []⟩,⟨3,.q [1]⟩,⟨4,.q []⟩,⟨5,.q [3]⟩,⟨6,.q []⟩,⟨7,.q []⟩,⟨8,.q [3]⟩,⟨9,.q []⟩,⟨10,.f 0⟩] mixed (by kernel_rfl) (by kernel_rfl) O O O<|qJ O<|qJ O<|qJ O<|qJ O<|qJ O<|qJ O<|qJ O<|qJ O<|qJ O<|qJ O<|zNr O O (zAx (qD [none,none,none,none,none,none,some 3,some 3,none,none,none,none,none,none,none,none,none,none,none,some 2,some 4,some 13] O zr63 O)) ⟨_,_,0,O,O⟩<|zEe<|qR O (by decide) O O (zQ O O)<|qR O (by decide) O O (qG O ok95 (strconv_Itoa n_ (by omega)) ⟨U,O,T⟩)<|qR O (by decide) O O (det_sadd O O O (by have:=zQr (n:=n_) (by omega);have h9:(ByteArray.mk #[116]).size=1:=(by decide);omega)) ?_
  rw [show (ByteArray.mk #[116]++decB n_)=frsT p from hfr]
  refine qR O (by decide) O O (zR O yF O (J 0 O) O)<|qR O (by decide) O O (zD O fd79_2 O)<|qR O (by decide) O O (zI O kM O (J 0 O) O)<|qR O (by decide) O O (zD O zGn O)<|qR O (by decide) O O (zD O fd47_0 O)<|qR O (by decide) O O (zR O qX O (J 0 O) O)<|qR O (by decide) O O (kF [none,none,none,none,none,none,none,some 3,none,none,none,none,none,none,none,none,none,none,none,none,none,none] O zr63 pl63 O O)<|zNl O O ?_
  rintro _ _ ⟨b5,rfl,rfl⟩
  refine zDy O<|N 0 sz63 O<|W<|G O<|zE O zDt<|zH one9 (J 0 O) O<|yU O zr44 pl44<|zT O O (yD O zr44) ?_
  rintro _ _ ⟨b6,rfl,rfl⟩
  refine N 0 sz44 O<|W<|zG<|G O<|qV _ (yG 107 2)<|qV _ (yG 115 4)<|qV _ (yG 44 13)<|qV _ (yB 2 O (regs':=[]) (μ':=[_,_,_,_,_,_,_,_]) T ⟨EFle.refl _,EFle.refl _,EFle.row (ds:=[_,_,_,_,_,_,_,_,_,_,_,_,_]) ⟨.inl O,.inl O,.inl O,.inl O,.inl O,.inl O,.inl O,.inl O,.inl O,.inl O,.inr ⟨O,O⟩,.inl O,.inl O,T⟩,EFle.refl _,EFle.refl _,EFle.refl _,EFle.refl _,EFle.refl _,T⟩)<|qV _ (yB 0 O (regs':=[]) (μ':=[_,_,_,_,_,_,_]) T ⟨EFle.refl _,EFle.row (ds:=[_,_,_,_,_,_,_,_,_,_,_,_,_]) ⟨.inl O,.inl O,.inl O,.inl O,.inl O,.inl O,.inl O,.inl O,.inl O,.inl O,.inl O,.inl O,.inr ⟨O,O⟩,T⟩,EFle.refl _,EFle.refl _,EFle.refl _,EFle.refl _,EFle.refl _,T⟩)<|Y O<|W<|zN<|zU ⟨[(10,.c _),(2,.c _),(3,.c _),(4,.c _),(8,.c _),(9,.c _)],[_,_,_,_,_,_]⟩ (Weak.mk [true,true,true,false,true,true,true] ⟨U,U,U,U,U,U,T⟩ O)<|zY 1 2 O O (Nat×Value) (fun ⟨k,sv⟩=>[(10,vI k)]) (fun ⟨k,sv⟩=>[E.vec sv 115 4 (((c.axes.take k).map fun a=>(⟨varL a.Name,bs [],[]⟩:Ix)).map Ix.cells),E.row b6 44 [cI 3,cS (frsT p),cI 0,cI 0,cI 0,cI 0,cI 0,cI 0,cI 0,cI 0,.sl 2 [],.lit sv,.sl 13 []]]) (fun ⟨k,sv⟩=>k<=c.axes.length) (fun ⟨k,sv⟩=>c.axes.length-k) ⟨⟨0,(.slice none 0 0)⟩,(by omega),Weak.mk [true,true,true,true,true,true] ⟨U,U,U,U,U,U,T⟩ O⟩ ?_
  rintro ⟨k,sv⟩ hk
  show AWP _ _ _ _ _ ⟨[(10,vI k)]++_,[E.vec sv 115 4 (((c.axes.take k).map fun a=>(⟨varL a.Name,bs [],[]⟩:Ix)).map Ix.cells),E.row b6 44 [cI 3,cS (frsT p),cI 0,cI 0,cI 0,cI 0,cI 0,cI 0,cI 0,cI 0,.sl 2 [],.lit sv,.sl 13 []]]++_⟩
  refine zG<|G O<|Y O<|zE O fd79_2<|zH kM (J 4 O) O<|qA O (kW O D O)<|qY O<|W<|zF O (fun c2=>?_) (fun c2=>?_)
  ·try simp only [sx] at c2
   obtain ⟨a,ha⟩:=qP c.axes k (by omega)
   refine zJ<|zG<|zN<|qW 11 mixed (by kernel_rfl) O O<|zM O O (zD O kC O)<|zM O O (zI O wN O (J 1 O) O)<|zM O O (zD O fd79_2 O)<|zM O O (zI O kM O (J 4 O) O)<|zM O O (zQ O O)<|zM O O (qH O D O O (by omega) (getm ha))<|zM O O (qN O zAj O)<|zM O O (zI O one9 O zX O)<|zM O O (qG O ok65 (upI (zBo a.Name)) ⟨U,O,T⟩)<|zM O O (kF [none,none,none,some 2] O zDc pl115 O O)<|zM O O (wH O el41 zDc O O O O)<|yN<|zT O O (qO 0 O el41 O O O (by simp only [List.length_map,List.length_append,List.length_cons,List.length_nil,List.length_take,List.length_drop];omega) (by simp only [List.length_map,List.length_append,List.length_cons,List.length_nil,List.length_take,List.length_drop];omega)) ?_
   rintro _ _ ⟨sv7,rfl,rfl⟩
   refine zE O kC<|N 1 sz41 O<|W<|zO O<|Y O<|qB O ⟨by omega,by omega⟩<|Y O<|W ?_
   refine ⟨⟨k+1,sv7⟩,(by omega),(by show c.axes.length-(k+1)<c.axes.length-k;omega),Weak.mk [true,true,true,true,true,true] ⟨U,U,U,U,U,U,T⟩ (by exact zCn (by rw [qM ha,List.map_append,List.map_append];rfl))⟩
  ·try simp only [sx] at c2
   rw [qT (l:=c.axes) (k:=k) (by omega)]
   refine zU _ (yB 0 O (regs':=[]) (μ':=[_,_,_,_,_]) T ⟨EFle.row (ds:=[_,_,_,_,_,_,_,_,_,_,_,_,_]) ⟨.inl O,.inl O,.inl O,.inl O,.inl O,.inl O,.inl O,.inl O,.inl O,.inl O,.inl O,.inr ⟨O,O⟩,.inl O,T⟩,EFle.refl _,EFle.refl _,EFle.refl _,EFle.refl _,T⟩)<|qE<|G O<|zK kN (J 4 O) O<|zT O O (qD [some 1,some 3,some 7,some 22,some 1] O zr27 O) ?_
   rintro _ _ ⟨b8,rfl,rfl⟩
   refine N 0 sz27 O<|W<|G O<|zE O yK<|N 0 sz25 O<|W<|zG<|G O<|qV _ (yG 63 22)<|Y O<|W<|zN<|zU ⟨[(12,.c _),(2,.c _),(3,.c _),(4,.c _),(8,.c _),(9,.c _),(11,.c _)],[_,_,_,_,_,_,_]⟩ (Weak.mk [true,true,true,true,true,true,true] ⟨U,U,U,U,U,U,U,T⟩ O)<|zY 1 2 O O (Nat×Value) (fun ⟨i,sw⟩=>[(12,vI i)]) (fun ⟨i,sw⟩=>[E.vec sw 63 22 ((exR p c i).map Df.cells),E.row b8 27 [.sl 1 ((p.Sizes).map fun s=>[cS s]),.sl 3 (p.Where.map Cn.cells),.sl 7 (p.Params.map Pm.cells),.lit sw,.sl 1 ((p.Outs).map fun s=>[cS s])]]) (fun ⟨i,sw⟩=>i<=p.Defs.length) (fun ⟨i,sw⟩=>p.Defs.length-i) ⟨⟨0,(.slice none 0 0)⟩,(by omega),Weak.mk [true,true,true,true,true,true,true] ⟨U,U,U,U,U,U,U,T⟩ O⟩ ?_
   rintro ⟨i,sw⟩ hi
   show AWP _ _ _ _ _ ⟨[(12,vI i)]++_,[E.vec sw 63 22 ((exR p c i).map Df.cells),E.row b8 27 [.sl 1 ((p.Sizes).map fun s=>[cS s]),.sl 3 (p.Where.map Cn.cells),.sl 7 (p.Params.map Pm.cells),.lit sw,.sl 1 ((p.Outs).map fun s=>[cS s])]]++_⟩
   refine zG<|G O<|Y O<|zE O yK<|zH kO (J 6 O) O<|qA O (kW O el25 O)<|qY O<|W<|zF O (fun c3=>?_) (fun c3=>?_)
   ·try simp only [sx] at c3
    obtain ⟨d,hd⟩:=qP p.Defs i (by omega)
    have hdm:=zW hd
    have hel:=exR_len p c i
    refine zJ<|zG<|zN<|zG<|G O<|Y O<|zE O fd79_1<|zH one3 (J 5 O) O<|yJ O<|W<|zF O (fun c4=>?_) (fun c4=>?_)
    ·try simp only [sx] at c4
     have hE:=exR_yes (c:=c) hd c4
     have hE:=hE.symm
     refine zO O<|zE O yK<|zH kO (J 1 O) O<|zK kX (J 3 O) O<|qZ O el25 zr63<|zT O O (qO 0 O el25 O O O (by simp only [List.length_map,List.length_append,List.length_cons,List.length_nil,List.length_take,List.length_drop];omega) (by simp only [List.length_map,List.length_append,List.length_cons,List.length_nil,List.length_take,List.length_drop];omega)) ?_
     rintro _ _ ⟨sv9,rfl,rfl⟩
     refine zE O yK<|N 1 sz25 O<|W<|G O<|zE O yK<|zH kO (J 6 O) O<|Y O<|zZ O el25 (by omega) (getm hd)<|zK kX zX O<|zT O O (qD [none,none,none,none,none,none,some 3,some 3,none,none,none,none,none,none,none,none,none,none,none,some 2,some 4,some 13] O zr63 O) ?_
     rintro _ _ ⟨b10,rfl,rfl⟩
     refine N 0 sz63 O<|W<|G O<|zK agg79 (J 6 O) O<|zK kX (J 0 O) O<|zE O zAq<|zK qX (J 0 O) O<|zK qX (J 3 O) O<|qK O ok98 (upI (zPa d c (newR p c) p.Defs hok hcb (by have:=(hX.ds d hdm).dims;omega) (by have:=(hX.ds d hdm).red;omega) (hX.ds d hdm).fd (hX.ds d hdm).fr d.Body (by have:=(hX.ds d hdm).wt;omega))) ⟨U,O,U,O,U,O,U,O,T⟩<|zE O zAq<|N 0 sz44 O<|W<|zO O<|zE O yK<|zH kO (J 2 O) O<|zK kX (J 0 O) O<|qZ O el25 zr63<|zT O O (qO 1 O el25 O O O (by simp only [List.length_map,List.length_append,List.length_cons,List.length_nil,List.length_take,List.length_drop];omega) (by simp only [List.length_map,List.length_append,List.length_cons,List.length_nil,List.length_take,List.length_drop];omega)) ?_
     rintro _ _ ⟨sv11,rfl,rfl⟩
     refine zE O yK<|N 2 sz25 O<|W<|zO O<|Y O<|qB O ⟨by omega,by omega⟩<|Y O<|W ?_
     refine ⟨⟨i+1,sv11⟩,(by omega),(by show p.Defs.length-(i+1)<p.Defs.length-i;omega),Weak.mk [false,true,true,true,true,true,true,true] ⟨U,U,U,U,U,U,U,T⟩ (by exact zCn (by rw [←hE,List.map_append];(try rw [List.map_append]);rfl))⟩
    ·try simp only [sx] at c4
     have hE:=exR_no (c:=c) hd c4
     have hE:=hE.symm
     refine zJ<|G O<|zE O yK<|zH kO (J 6 O) O<|Y O<|zZ O el25 (by omega) (getm hd)<|zK kX zX O<|zT O O (qD [none,none,none,none,none,none,some 3,some 3,none,none,none,none,none,none,none,none,none,none,none,some 2,some 4,some 13] O zr63 O) ?_
     rintro _ _ ⟨b12,rfl,rfl⟩
     refine N 0 sz63 O<|W<|G O<|zK agg79 (J 6 O) O<|zK kX (J 0 O) O<|zE O zAq<|zK qX (J 0 O) O<|zK qX (J 3 O) O<|qK O ok98 (upI (zPa d c (newR p c) p.Defs hok hcb (by have:=(hX.ds d hdm).dims;omega) (by have:=(hX.ds d hdm).red;omega) (hX.ds d hdm).fd (hX.ds d hdm).fr d.Body (by have:=(hX.ds d hdm).wt;omega))) ⟨U,O,U,O,U,O,U,O,T⟩<|zE O zAq<|N 0 sz44 O<|W<|zO O<|zE O yK<|zH kO (J 2 O) O<|zK kX (J 0 O) O<|qZ O el25 zr63<|zT O O (qO 1 O el25 O O O (by simp only [List.length_map,List.length_append,List.length_cons,List.length_nil,List.length_take,List.length_drop];omega) (by simp only [List.length_map,List.length_append,List.length_cons,List.length_nil,List.length_take,List.length_drop];omega)) ?_
     rintro _ _ ⟨sv13,rfl,rfl⟩
     refine zE O yK<|N 2 sz25 O<|W<|zO O<|Y O<|qB O ⟨by omega,by omega⟩<|Y O<|W ?_
     refine ⟨⟨i+1,sv13⟩,(by omega),(by show p.Defs.length-(i+1)<p.Defs.length-i;omega),Weak.mk [false,true,true,true,true,true,true,true] ⟨U,U,U,U,U,U,U,T⟩ (by exact zCn (by rw [←hE,List.map_append];(try rw [List.map_append]);rfl))⟩
   ·try simp only [sx] at c3
    rw [exR_end (k:=i) hc (by omega) hi]
    refine zU _ (yB 0 O (regs':=[]) (μ':=[_,_,_,_,_,_]) T ⟨EFle.row (ds:=[_,_,_,_,_]) ⟨.inl O,.inl O,.inl O,.inr ⟨O,O⟩,.inl O,T⟩,EFle.refl _,EFle.refl _,EFle.refl _,EFle.refl _,EFle.refl _,T⟩)<|qE<|G O<|zK kN (J 0 O) O<|N 3 sz27 O<|W<|zL<|fin1 (qF kN O (J 3 O) O) ?_
    rfl
theorem zQv (p:Pg) (hX:p.Xt 0) (most:Int):
    Pur cfgI 13 [vPg p,vI most] (.tup [vPg (xtrP most p).1,vI ((xtrP most p).2:Nat)]):=by
 refine zS Tryz.func13 O Tryz.ntmps13 Tryz.results13 O ?_
 intro z hz
 have hP:=hX.ok (by decide)
 have hdl:=hX.defs
 refine G O<|zT O O (qI O O) ?_
 rintro _ _ ⟨b1,rfl,rfl⟩
 refine zT O O (qD [some 1,some 3,some 7,some 22,some 1] O zr27 O) ?_
 rintro _ _ ⟨b2,rfl,rfl⟩
 refine Y O<|W<|G O<|zK kN (J 1 O) O<|qK O ok37 (upI (zCs p (pgOkC hP))) ⟨U,O,T⟩<|zT O O (qD [some 1,some 3,some 7,some 22,some 1] O zr27 O) ?_
 rintro _ _ ⟨b3,rfl,rfl⟩
 refine N 0 sz27 O<|W<|zG<|G O<|zK kN (J 2 O) O<|qK O ok30 (upI (zCz p hP)) ⟨U,O,T⟩<|qA O (yC O O)<|qA O (yO O O O)<|qA O (yO O O O)<|Y O<|Y O<|W<|G O<|Y O<|yP O<|W<|zF O (fun c1=>?_) (fun c1=>?_)
 ·try simp only [sx] at c1
  refine G O<|zK kN (J 0 O) O<|N 1 sz27 O<|Y O<|W<|zL<|fin2 (qF kN O (J 1 O) O) (v O) ?_
  rw [xtr_no c1];rfl
 ·try simp only [sx] at c1
  have hx:=xtr_ok (most:=most) c1
  refine zJ<|G O<|Y O<|W<|zG<|zN<|zU ⟨[(9,.c _),(1,.c _),(4,.c _),(6,.c _)],[_,_]⟩ (Weak.mk [true,true,false] ⟨U,U,U,U,T⟩ O)<|zY 1 1 O O (Nat×Pg) (fun ⟨n,q⟩=>[(9,vI n)]) (fun ⟨n,q⟩=>[E.row b3 27 q.cells]) (fun ⟨n,q⟩=>q.Xt n/\n<=64/\((exG (most.toNat-0) p).1,(exG (most.toNat-0) p).2+0)=((exG (most.toNat-n) q).1,(exG (most.toNat-n) q).2+n)/\q.Defs.length=p.Defs.length+n) (fun ⟨n,q⟩=>64-q.Defs.length) ⟨⟨0,p⟩,⟨hX,by omega,O,O⟩,Weak.mk [true,true] ⟨U,U,U,U,T⟩ O⟩ ?_
  rintro ⟨n,q⟩ ⟨hXq,hn,hq,hql⟩
  refine zG<|G O<|Y O<|Y O<|qY O<|Y O<|rL0 O (fun g6_3=>zD O yK O) O<|rL1 26 O (fun g6_3=>zI O kO O (J 0 O) O) O<|rL1 27 O (fun g6_3=>qU O el25 O) O<|rL1 28 O (fun g6_3=>zDv O O O) O<|yY O (fun h=>h)<|W<|zF O (fun c2=>?_) (fun c2=>?_)
  ·try simp only [sx] at c2
   refine zJ<|zN<|G O<|zK kN (J 0 O) O<|qK O ok38 (upI (cse_best q n hXq hn)) ⟨U,O,T⟩<|qA O (yC O O)<|qA O (yW O O O)<|qA O (yO O O O)<|zT O O (qD [none,none,none,none,none,none,none,none,none,none,some 2,some 4,some 13,some 3,none,none] O zr74 O) ?_
   rintro _ _ ⟨b4,rfl,rfl⟩
   refine N 0 sz74 O<|Y O<|W<|zG<|G O<|Y O<|wK O<|W<|zF O (fun c3=>?_) (fun c3=>?_)
   ·try simp only [sx] at c3
    have hE:=exG_stop2 hq (bst_none (by simpa using c3))
    rw [←hx] at hE
    refine qE<|G O<|zK kN (J 1 O) O<|qK O ok37 (upI (zCs q (pgOkC (hXq.ok hn)))) ⟨U,O,T⟩<|Y O<|N 2 sz27 O<|Y O<|W<|zL<|fin2 (qF kN O (J 2 O) O) (v O) ?_
    rw [hE];rfl
   ·try simp only [sx] at c3
    obtain ⟨hne,hmem⟩:=bst_some (D:=q.Defs) (by simpa using c3)
    refine zJ<|G O<|zK kN (J 1 O) O<|zK agg74 (J 0 O) O<|qK O ok39 (cse_extract q n hXq (by omega) (bstP (clsP q.Defs)).1 hmem) ⟨U,O,U,O,T⟩<|N 1 sz27 O<|W<|zO O<|Y O<|qB O ⟨by omega,by omega⟩<|Y O<|W ?_
    refine ⟨⟨n+1,extP q (bstP (clsP q.Defs)).1⟩,⟨hXq.step hmem,by omega,exG_go hq c2.1 (by omega) hne,by rw [zHk];omega⟩,(by show 64-(extP q _).Defs.length<64-q.Defs.length;rw [zHk];omega),Weak.mk [false,true,true] ⟨U,U,U,U,T⟩ O⟩
  ·try simp only [sx] at c2
   have hE:=exG_stop hq (by omega)
   rw [←hx] at hE
   refine qE<|G O<|zK kN (J 0 O) O<|qK O ok37 (upI (zCs q (pgOkC (hXq.ok hn)))) ⟨U,O,T⟩<|Y O<|N 1 sz27 O<|Y O<|W<|zL<|fin2 (qF kN O (J 1 O) O) (v O) ?_
   rw [hE];rfl
theorem r23_Extract (p:Pg) (hX:p.Xt 0) (hO:(validM p).2=0->∀d,d∈p.Defs->d.Body.ops) (most:Int):
    Pur cfgI 14 [vPg p,vI most] (.tup [vPg (xtrP most p).1,vI ((xtrP most p).2:Nat)]):=by
 refine zS Tryz.func14 O Tryz.ntmps14 Tryz.results14 O ?_
 intro z hz
 have hP:=hX.ok (by decide)
 have hdl:=hX.defs
 refine G O<|zT O O (qI O O) ?_
 rintro _ _ ⟨b1,rfl,rfl⟩
 refine zT O O (qD [some 1,some 3,some 7,some 22,some 1] O zr27 O) ?_
 rintro _ _ ⟨b2,rfl,rfl⟩
 refine Y O<|W<|zG<|G O<|zK kN (J 1 O) O<|qK O ok20 (upI (ref17_Validate p hP)) ⟨U,O,T⟩<|qA O (yC O O)<|qA O (yO O O O)<|qA O (yO O O O)<|Y O<|Y O<|W<|G O<|Y O<|yP O<|W<|zF O (fun c1=>?_) (fun c1=>?_)
 ·try simp only [sx] at c1
  rw [←zNg] at c1
  refine G O<|zK kN (J 1 O) O<|N 0 sz27 O<|Y O<|W<|zL<|fin2 (qF kN O (J 0 O) O) (v O) ?_
  rw [xtr_no c1];rfl
 ·try simp only [sx] at c1
  rw [←zNg] at c1
  have hx:=xtr_ok (most:=most) c1
  refine zJ<|G O<|Y O<|W<|zG<|zN<|zU ⟨[(8,.c _),(1,.c _),(2,.c _),(4,.c _)],[_,_]⟩ (Weak.mk [true,true] ⟨U,U,U,U,T⟩ O)<|zY 1 2 O O (Nat×Pg) (fun ⟨n,q⟩=>[(8,vI n)]) (fun ⟨n,q⟩=>[E.row b2 27 [.sl 1 [],.sl 3 [],.sl 7 [],.sl 22 [],.sl 1 []],E.row b1 27 q.cells]) (fun ⟨n,q⟩=>q.Xt n/\n<=64/\((exG (most.toNat-0) p).1,(exG (most.toNat-0) p).2+0)=((exG (most.toNat-n) q).1,(exG (most.toNat-n) q).2+n)/\q.Defs.length=p.Defs.length+n/\∀d,d∈q.Defs->d.Body.ops) (fun ⟨n,q⟩=>64-q.Defs.length) ⟨⟨0,p⟩,⟨hX,by omega,O,O,hO c1⟩,Weak.mk [true,true] ⟨U,U,U,U,T⟩ O⟩ ?_
  rintro ⟨n,q⟩ ⟨hXq,hn,hq,hql,hOq⟩
  refine zG<|G O<|Y O<|Y O<|qY O<|Y O<|rL0 O (fun g5_3=>zD O yK O) O<|rL1 24 O (fun g5_3=>zI O kO O (J 1 O) O) O<|rL1 25 O (fun g5_3=>qU O el25 O) O<|rL1 26 O (fun g5_3=>zDv O O O) O<|yY O (fun h=>h)<|W<|zF O (fun c2=>?_) (fun c2=>?_)
  ·try simp only [sx] at c2
   refine zJ<|zN<|G O<|zK kN (J 1 O) O<|qK O ok33 (OwnR.pur (upI (r23_classes q n hXq hn hOq))) ⟨U,O,T⟩<|Y O<|W<|zG<|G O<|Y O<|zV O el76<|yJ O<|W<|zF O (fun c3=>?_) (fun c3=>?_)
   ·try simp only [sx] at c3
    have hE:=exG_stop2 hq (List.eq_nil_of_length_eq_zero (by omega))
    rw [←hx] at hE
    refine G O<|zK kN (J 1 O) O<|Y O<|N 0 sz27 O<|Y O<|W<|zL<|fin2 (qF kN O (J 0 O) O) (v O) ?_
    rw [hE];rfl
   ·try simp only [sx] at c3
    have hne:¬repC q.Defs=[]:=fun h=>c3 (by rw [h];rfl)
    have hrl:=rep_len hXq hn
    have hr0:0<(repC q.Defs).length:=List.length_pos_iff.2 hne
    refine zJ<|G O<|Y O<|W<|zG<|G O<|Y O<|W<|zN<|zU ⟨[(11,.c _),(10,.c _),(1,.c _),(2,.c _),(4,.c _),(8,.c _),(9,.c _)],[_,_]⟩ (Weak.mk [true,true] ⟨U,U,U,U,U,U,U,T⟩ O)<|zY 2 0 O O (Nat×Nat) (fun ⟨i,b⟩=>[(11,vI i),(10,vI b)]) (fun ⟨i,b⟩=>[]) (fun ⟨i,b⟩=>i<=(repC q.Defs).length/\(b<(repC q.Defs).length)/\(((repC q.Defs).take i).foldl bstR ((repC q.Defs).getD 0 zCl)=(repC q.Defs).getD b zCl)) (fun ⟨i,b⟩=>(repC q.Defs).length-i) ⟨⟨0,0⟩,⟨by omega,hr0,O⟩,Weak.mk [true,true] ⟨U,U,U,U,U,U,U,T⟩ O⟩ ?_
    rintro ⟨i,b⟩ ⟨hi,hb,hf⟩
    show AWP _ _ _ _ _ ⟨[(11,vI i),(10,vI b)]++_,[]++_⟩
    refine zG<|G O<|Y O<|Y O<|zV O el76<|qY O<|W<|zF O (fun c4=>?_) (fun c4=>?_)
    ·try simp only [sx] at c4
     obtain ⟨c,hc⟩:=qP (repC q.Defs) i (by omega)
     refine zJ<|zG<|zN<|zG<|qW 15 mixed (by kernel_rfl) O O<|zM O O (zQ O O)<|zM O O (zQ O O)<|zM O O (qH O el76 O O (by omega) (getm hc))<|zM O O (qN O zGn O)<|zM O O (qN O fd47_0 O)<|zM O O (zR O qX O zX O)<|zM O O (qG O ok40 (upI (zLb c.e (by have:=(rep_bd hXq hn (zW hc)).2.1;omega))) ⟨U,O,T⟩)<|zM O O (zQ O O)<|zM O O (zQ O O)<|zM O O (qH O el76 O O (by omega) (getm (clG hb)))<|zM O O (qN O zGn O)<|zM O O (qN O fd47_0 O)<|zM O O (zR O qX O zX O)<|zM O O (qG O ok40 (upI (zLb ((repC q.Defs).getD b zCl).e (by have:=(rep_bd hXq hn (clG_mem hb)).2.1;omega))) ⟨U,O,T⟩)<|zM O O (yI O O O)<|yN<|W<|zF O (fun c5=>?_) (fun c5=>?_)
     ·try simp only [sx] at c5
      refine zO O<|Y O<|Y O<|W<|zO O<|Y O<|qB O ⟨by omega,by omega⟩<|Y O<|W ?_
      refine ⟨⟨i+1,i⟩,⟨by omega,by omega,bstI_yes hc hf (by omega)⟩,(by show (repC q.Defs).length-(i+1)<(repC q.Defs).length-i;omega),Weak.mk [true,true] ⟨U,U,U,U,U,U,U,T⟩ O⟩
     ·try simp only [sx] at c5
      refine zJ<|zO O<|Y O<|qB O ⟨by omega,by omega⟩<|Y O<|W ?_
      refine ⟨⟨i+1,b⟩,⟨by omega,hb,bstI_no hc hf (by omega)⟩,(by show (repC q.Defs).length-(i+1)<(repC q.Defs).length-i;omega),Weak.mk [true,true] ⟨U,U,U,U,U,U,U,T⟩ O⟩
    ·try simp only [sx] at c4
     have hB:=bstI_end (k:=i) (by omega) hf hne
     have hmem:=bst_mem hne
     refine qE<|zG<|qW 6 mixed (by kernel_rfl) O O<|zM O O (zR O kN O (J 1 O) O)<|zM O O (zQ O O)<|zM O O (zQ O O)<|zM O O (qH O el76 O O (by omega) (getm (clG hb)))<|zM O O (zR O agg79 O zX O)<|zM O O (qG O ok41 (show Pur cfgI 41 [vPg q,vClR ((repC q.Defs).getD b zCl)] (vPg (extP q (bstP (clsP q.Defs)).1)) by rw [hB];exact r23_extract q n hXq (by omega) _ hmem) ⟨U,O,U,O,T⟩)<|yN<|N 1 sz27 O<|W<|zO O<|Y O<|qB O ⟨by omega,by omega⟩<|Y O<|W ?_
     refine ⟨⟨n+1,extP q (bstP (clsP q.Defs)).1⟩,⟨hXq.step hmem,by omega,exG_go hq c2.1 (by omega) hne,by rw [zHk];omega,ext_ops hOq hmem⟩,(by show 64-(extP q _).Defs.length<64-q.Defs.length;rw [zHk];omega),Weak.mk [true,true] ⟨U,U,U,U,T⟩ O⟩
  ·try simp only [sx] at c2
   have hE:=exG_stop hq (by omega)
   rw [←hx] at hE
   refine qE<|G O<|zK kN (J 1 O) O<|Y O<|N 0 sz27 O<|Y O<|W<|zL<|fin2 (qF kN O (J 0 O) O) (v O) ?_
   rw [hE];rfl
end Go.W
