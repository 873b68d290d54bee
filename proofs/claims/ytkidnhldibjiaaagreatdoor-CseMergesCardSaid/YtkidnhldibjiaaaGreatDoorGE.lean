/-
  Walks: what functions of the program compute. Printed by wip/gen/mk2.py.
  Walks: what functions of the program compute. Printed by wip/gen/mk2.py.
  Conditions: none.
-/
import Derived.Test.YtkidnhldibjiaaaGreatDoorKD
import Derived.Test.YtkidnhldibjiaaaGreatDoorPlain3
import Derived.Test.YtkidnhldibjiaaaGreatDoorGA
set_option linter.unusedSimpArgs false
set_option linter.unusedVariables false
section
set_option maxRecDepth 10000
namespace Go.W
open Go Go.Eng Go.Proofs Go.L41 Go.Br
attribute [local irreducible] AWP RWP TD finQ
theorem ok17:callOk Tryz.prog 17=true:=by kernel_rfl
theorem ok49:callOk Tryz.prog 49=true:=by kernel_rfl
theorem ok54:callOk Tryz.prog 54=true:=by kernel_rfl
theorem ok103:callOk Tryz.prog 103=true:=by kernel_rfl
theorem ok104:callOk Tryz.prog 104=true:=by kernel_rfl
theorem ok165:callOk Tryz.prog 165=true:=by kernel_rfl
theorem ok219:callOk Tryz.prog 219=true:=by kernel_rfl
theorem r23_index (l:List ByteArray) (s:ByteArray) (hl:l.length<=4000000):
    Pur cfg 219 [vSs l,vS s] (vI (ixB l s)):=by
 refine zS Tryz.func219 O Tryz.ntmps219 Tryz.results219 O ?_
 intro z hz
 refine G O<|Y O<|W<|zH<|G O<|Y O<|W<|zN<|zV ⟨[(5,.c _),(0,.c _),(1,.c _)],[]⟩ (Weak.mk [] ⟨U,U,U,T⟩ O)<|zY 1 0 O O (Nat) (fun k=>[(5,vI k)]) (fun k=>[]) (fun k=>k<=l.length/\((l.take k).any (fun x=>decide (x=s))=false)) (fun k=>l.length-k) ⟨0,⟨by omega,O⟩,Weak.mk [] ⟨U,U,U,T⟩ O⟩ ?_
 rintro k ⟨hk,hp⟩
 refine zH<|G O<|Y O<|Y O<|zT O r<|qW O<|W<|zF O (fun c1=>?_) (fun c1=>?_)
 ·try simp only [sx] at c1
  obtain ⟨x,hx⟩:=qO l k (by omega)
  refine zJ<|zH<|zN<|G O<|Y O<|Y O<|zZ O r (by omega) (getm hx)<|zI one9 zX O<|Y O<|kM O<|W<|zF O (fun c2=>?_) (fun c2=>?_)
  ·try simp only [sx] at c2
   refine G O<|Y O<|Y O<|W<|zK<|zP O ?_
   exact congrArg vI (zCn hx (decide_eq_true c2) hp).symm
  ·try simp only [sx] at c2
   refine zJ<|zO O<|Y O<|qB O ⟨by omega,by omega⟩<|Y O<|W ?_
   refine ⟨k+1,⟨by omega,zEf hx hp (decide_eq_false c2)⟩,(by omega),Weak.mk [] ⟨U,U,U,T⟩ O⟩
 ·try simp only [sx] at c1
  refine qF<|G O<|Y O<|W<|zK<|zP O ?_
  exact congrArg vI (zAz (by rw [qT (by omega)] at hp;exact hp)).symm
theorem zIf (f g:Lf) (A Bn:List ByteArray) (hA:A.length<=4000000) (hAB:A.length=Bn.length) (hf:f.L.length<=2000000) (hg:g.L.length<=2000000):
    Pur cfg 165 [vLin f,vLin g,vSs A,vSs Bn] (vB (mtcF f g A Bn)):=by
 refine zS Tryz.func165 O Tryz.ntmps165 Tryz.results165 O ?_
 intro z hz
 refine G O<|zU O O (qI O O) ?_
 rintro _ _ ⟨b1,rfl,rfl⟩
 refine zU O O (qI O O) ?_
 rintro _ _ ⟨b2,rfl,rfl⟩
 refine Y O<|W<|zH<|G O<|zE O zEb<|zI one2 (J 1 O) O<|zE O zEb<|zI one2 (J 0 O) O<|yO O<|Y O<|rL0 O (fun g1_5=>zD O kH O) O<|rL1 18 O (fun g1_5=>zG O wW O (J 1 O) O) O<|rL1 19 O (fun g1_5=>qP O q O) O<|rL0 O (fun g1_5=>zD O kH O) O<|rL1 21 O (fun g1_5=>zG O wW O (J 0 O) O) O<|rL1 22 O (fun g1_5=>qP O q O) O<|rLz [(20,_),(23,_)] O gv1 ⟨O,O,O,O,T⟩ (fun g1_5=>wA O O O) O<|r_or O (fun h=>(lzf h))<|W<|zF O (fun c1=>?_) (fun c1=>?_)
 ·try simp only [sx] at c1
  have hno:mtcF f g A Bn=false:=mtcF_no (by omega)
  refine G O<|Y O<|W<|zK<|zP O ?_
  exact congrArg vB hno.symm
 ·try simp only [sx] at c1
  refine zJ<|zH<|G O<|Y O<|W<|zN<|zV ⟨[(9,.c _),(2,.c _),(3,.c _),(4,.c _),(5,.c _)],[_,_]⟩ (Weak.mk [true,true] ⟨U,U,U,U,U,T⟩ O)<|zY 1 0 O O (Nat) (fun k=>[(9,vI k)]) (fun k=>[]) (fun k=>k<=f.L.length/\((f.L.take k).all (mtcM g.L A Bn)=true)) (fun k=>f.L.length-k) ⟨0,⟨by omega,O⟩,Weak.mk [true,true] ⟨U,U,U,U,U,T⟩ O⟩ ?_
  rintro k ⟨hk,hp⟩
  refine zH<|G O<|Y O<|zE O kH<|zI wW (J 1 O) O<|zT O q<|qW O<|W<|zF O (fun c2=>?_) (fun c2=>?_)
  ·try simp only [sx] at c2
   obtain ⟨x,hx⟩:=qO f.L k (by omega)
   refine zJ<|zH<|zN<|G O<|zE O kH<|zI wW (J 1 O) O<|Y O<|zZ O q (by omega) (getm hx)<|qU O zAh<|zI one9 zX O<|Y O<|W<|zH<|G O<|Y O<|Y O<|qK O ok219 (r23_index A x.Name (by omega)) ⟨U,O,U,O,T⟩<|Y O<|W<|G O<|Y O<|qC O (kQ O O O)<|W<|zF O (fun c3=>?_) (fun c3=>?_)
   ·try simp only [sx] at c3
    obtain ⟨i,hi⟩:∃i:Nat,ixB A x.Name=i:=⟨_,(Int.toNat_of_nonneg c3).symm⟩
    have hil:=ix_lt hi
    have hib:i<Bn.length:=by omega
    rw [hi]
    have hm:=mtc_1 (g:=g.L) (B:=Bn) hi
    refine zO O<|Y O<|Y O<|zZ O r (by omega) (getm (strG hib))<|zI one9 zX O<|Y O<|W<|zH<|qS 10 mixed (by kernel_rfl) O O<|zM O O (zR O kA O (J 0 O) O)<|zM O O (zQ O O)<|zM O O (qG O ok135 (zOf g (Bn.getD i (bs [])) (by omega)) ⟨U,O,U,O,T⟩)<|zM O O (zD O kH O)<|zM O O (zG O wW O (J 1 O) O)<|zM O O (zQ O O)<|zM O O (qE O q O O (by omega) (getm hx))<|zM O O (qN O zIm O)<|zM O O (zG O one2 O zX O)<|zM O O (wA O O O)<|yJ<|W<|zF O (fun c5=>?_) (fun c5=>?_)
    ·try simp only [sx] at c5
     have hm5:=hm.trans (decide_eq_false c5)
     refine G O<|Y O<|W<|zK<|zP O ?_
     exact congrArg vB (mtcF_bad hx hm5).symm
    ·try simp only [sx] at c5
     have hm5:=hm.trans (decide_eq_true c5)
     refine zJ<|zO O<|Y O<|qB O ⟨by omega,by omega⟩<|Y O<|W ?_
     refine ⟨k+1,⟨by omega,all_up hx hp hm5⟩,(by omega),Weak.mk [true,true] ⟨U,U,U,U,U,T⟩ O⟩
   ·try simp only [sx] at c3
    refine G O<|Y O<|Y O<|qK O ok219 (r23_index Bn x.Name (by omega)) ⟨U,O,U,O,T⟩<|qC O (kQ O O O)<|W<|zF O (fun c4=>?_) (fun c4=>?_)
    ·try simp only [sx] at c4
     have hm:=mtc_2 (g:=g.L) (A:=A) (B:=Bn) (m:=x) (by omega) c4
     refine G O<|Y O<|W<|zK<|zP O ?_
     exact congrArg vB (mtcF_bad hx hm).symm
    ·try simp only [sx] at c4
     have hm:=mtc_3 (g:=g.L) (A:=A) (B:=Bn) (m:=x) (by omega) (by omega)
     refine zJ<|zH<|qS 10 mixed (by kernel_rfl) O O<|zM O O (zR O kA O (J 0 O) O)<|zM O O (zQ O O)<|zM O O (qG O ok135 (zOf g x.Name (by omega)) ⟨U,O,U,O,T⟩)<|zM O O (zD O kH O)<|zM O O (zG O wW O (J 1 O) O)<|zM O O (zQ O O)<|zM O O (qE O q O O (by omega) (getm hx))<|zM O O (qN O zIm O)<|zM O O (zG O one2 O zX O)<|zM O O (wA O O O)<|yJ<|W<|zF O (fun c5=>?_) (fun c5=>?_)
     ·try simp only [sx] at c5
      have hm5:=hm.trans (decide_eq_false c5)
      refine G O<|Y O<|W<|zK<|zP O ?_
      exact congrArg vB (mtcF_bad hx hm5).symm
     ·try simp only [sx] at c5
      have hm5:=hm.trans (decide_eq_true c5)
      refine zJ<|zO O<|Y O<|qB O ⟨by omega,by omega⟩<|Y O<|W ?_
      refine ⟨k+1,⟨by omega,all_up hx hp hm5⟩,(by omega),Weak.mk [true,true] ⟨U,U,U,U,U,T⟩ O⟩
  ·try simp only [sx] at c2
   refine qF<|G O<|Y O<|W<|zK<|zP O ?_
   rw [qT (l:=f.L) (k:=k) (by omega)] at hp
   exact congrArg vB (mtcF_ok c1.1 (by omega) hp).symm
theorem zMk (A Bn:List ByteArray) (hA:A.length<=4000000) (hAB:A.length=Bn.length) (x:Ex) (ih:∀a,a∈x.Args->a.wt<=2000000->∀y,y.wt<=2000000->Pur cfg 104 [vE a,vE y,vSs A,vSs Bn] (vB (simE A Bn a y))) (hx:x.wt<=2000000) (y:Ex) (hy:y.wt<=2000000):
    Pur cfg 104 [vE x,vE y,vSs A,vSs Bn] (vB (simE A Bn x y)):=by
 refine zS Tryz.func104 O Tryz.ntmps104 Tryz.results104 O ?_
 intro z hz
 have hxw:=Ex.wt_eq x
 have hyw:=Ex.wt_eq y
 obtain ⟨hxl,hxi,hxa⟩:=x.parts hx
 obtain ⟨hyl,hyi,hya⟩:=y.parts hy
 refine G O<|zU O O (qI O O) ?_
 rintro _ _ ⟨b1,rfl,rfl⟩
 refine zU O O (qI O O) ?_
 rintro _ _ ⟨b2,rfl,rfl⟩
 refine Y O<|W<|zH<|G O<|zE O kC<|zI one3 (J 1 O) O<|zE O kC<|zI one3 (J 0 O) O<|yO O<|Y O<|rL0 O (fun g1_5=>zD O zDe O) O<|rL1 20 O (fun g1_5=>zG O one9 O (J 1 O) O) O<|rL0 O (fun g1_5=>zD O zDe O) O<|rL1 22 O (fun g1_5=>zG O one9 O (J 0 O) O) O<|rLz [(21,_),(23,_)] O gv1 ⟨O,O,O,O,T⟩ (fun g1_5=>zAs O O O) O<|r_or O (fun h=>(lzf h))<|Y O<|rL0 O (fun g1_12=>zD O zFr O) O<|rL1 27 O (fun g1_12=>zR O agg35 O (J 1 O) O) O<|rL0 O (fun g1_12=>zD O zFr O) O<|rL1 29 O (fun g1_12=>zR O agg35 O (J 0 O) O) O<|rLz [(28,_),(30,_)] O gv1 ⟨O,O,O,O,T⟩ (fun g1_12=>zAl O fl35 O O O) O<|r_or O (fun h=>(lzf h))<|Y O<|rL0 O (fun g1_19=>zD O zDt O) O<|rL1 34 O (fun g1_19=>zR O yB O (J 1 O) O) O<|rL0 O (fun g1_19=>zD O zDt O) O<|rL1 36 O (fun g1_19=>zR O yB O (J 0 O) O) O<|rLz [(35,_),(37,_)] O gv1 ⟨O,O,O,O,T⟩ (fun g1_19=>zAl O fl37 O O O) O<|r_or O (fun h=>(lzf h))<|Y O<|rL0 O (fun g1_26=>zD O yV O) O<|rL1 41 O (fun g1_26=>zG O wE O (J 1 O) O) O<|rL1 42 O (fun g1_26=>qP O D O) O<|rL0 O (fun g1_26=>zD O yV O) O<|rL1 44 O (fun g1_26=>zG O wE O (J 0 O) O) O<|rL1 45 O (fun g1_26=>qP O D O) O<|rLz [(43,_),(46,_)] O gv1 ⟨O,O,O,O,T⟩ (fun g1_26=>wA O O O) O<|r_or O (fun h=>(lzf h))<|Y O<|rL0 O (fun g1_35=>zD O kB O) O<|rL1 50 O (fun g1_35=>zG O wT O (J 1 O) O) O<|rL1 51 O (fun g1_35=>qP O el42 O) O<|rL0 O (fun g1_35=>zD O kB O) O<|rL1 53 O (fun g1_35=>zG O wT O (J 0 O) O) O<|rL1 54 O (fun g1_35=>qP O el42 O) O<|rLz [(52,_),(55,_)] O gv1 ⟨O,O,O,O,T⟩ (fun g1_35=>wA O O O) O<|r_or O (fun h=>(lzf h))<|Y O<|rL0 O (fun g1_44=>zD O zCc O) O<|rL1 59 O (fun g1_44=>zR O kA O (J 1 O) O) O<|rL0 O (fun g1_44=>zD O zCc O) O<|rL1 61 O (fun g1_44=>zR O kA O (J 0 O) O) O<|rL0 O (fun g1_44=>zQ O O) O<|rL0 O (fun g1_44=>zQ O O) O<|rLz [(60,_),(62,_),(63,_),(64,_)] O gv1 ⟨O,O,O,O,O,O,O,O,T⟩ (fun g1_44=>qG O ok165 (zIf x.Lin y.Lin A Bn hA hAB (by omega) (by omega)) ⟨U,O,U,O,U,O,U,O,T⟩) O<|rL1 65 O (fun g1_44=>kF O O) O<|r_or O (fun h=>(lzf h))<|W<|zF O (fun c1=>?_) (fun c1=>?_)
 ·rw [show (!litsEq (List.take 2 (List.drop (0+2) x.cs)) (List.take 2 (List.drop (0+2) y.cs)))= !decide (x.Val=y.Val) from val_lits2 x.Val y.Val,show (!litsEq (List.take 5 (List.drop (0+4) x.cs)) (List.take 5 (List.drop (0+4) y.cs)))= !decide (x.Ty=y.Ty) from ty_ne x.Ty y.Ty] at c1
  have c1:=sim_no (A:=A) (B:=Bn) c1
  refine G O<|Y O<|W<|zK<|zP O ?_
  exact congrArg vB c1.symm
 ·rw [show (!litsEq (List.take 2 (List.drop (0+2) x.cs)) (List.take 2 (List.drop (0+2) y.cs)))= !decide (x.Val=y.Val) from val_lits2 x.Val y.Val,show (!litsEq (List.take 5 (List.drop (0+4) x.cs)) (List.take 5 (List.drop (0+4) y.cs)))= !decide (x.Ty=y.Ty) from ty_ne x.Ty y.Ty] at c1
  obtain ⟨hl1,hl2,hS⟩:=sim_on (A:=A) (B:=Bn) c1
  refine zJ<|zH<|G O<|Y O<|W<|zN<|zV ⟨[(9,.c _),(2,.c _),(3,.c _),(4,.c _),(5,.c _)],[_,_]⟩ (Weak.mk [true,true] ⟨U,U,U,U,U,T⟩ O)<|zY 1 0 O O (Nat) (fun k=>[(9,vI k)]) (fun k=>[]) (fun k=>k<=x.Idx.length/\(all2 (simI A Bn) x.Idx y.Idx=all2 (simI A Bn) (x.Idx.drop k) (y.Idx.drop k))) (fun k=>x.Idx.length-k) ⟨0,⟨by omega,O⟩,Weak.mk [true,true] ⟨U,U,U,U,U,T⟩ O⟩ ?_
  rintro k ⟨hk,hp⟩
  refine zH<|G O<|Y O<|zE O yV<|zI wE (J 1 O) O<|zT O D<|qW O<|W<|zF O (fun c2=>?_) (fun c2=>?_)
  ·try simp only [sx] at c2
   obtain ⟨v,hv⟩:=qO x.Idx k (by omega)
   obtain ⟨w_,hw⟩:=qO y.Idx k (by omega)
   have hvw:=zCv (zW hv)
   rw [Ix.wt] at hvw
   have hww:=zCv (zW hw)
   rw [Ix.wt] at hww
   refine zJ<|zH<|zN<|G O<|zE O yV<|zI wE (J 1 O) O<|Y O<|zZ O D (by omega) (getm hv)<|zL wQ zX O<|zU O O (qD [none,some 2,none,some 2] O zBx O) ?_
   rintro _ _ ⟨b3,rfl,rfl⟩
   refine N 0 zIa O<|W<|G O<|zE O yV<|zI wE (J 1 O) O<|Y O<|zZ O D (by omega) (getm hw)<|zL wQ zX O<|zU O O (qD [none,some 2,none,some 2] O zBx O) ?_
   rintro _ _ ⟨b4,rfl,rfl⟩
   refine N 0 zIa O<|W<|zH<|G O<|zE O wD<|zI one9 (J 1 O) O<|zE O wD<|zI one9 (J 0 O) O<|qC O (zAs O O O)<|Y O<|rL0 O (fun g8_5=>zD O kO O) O<|rL1 91 O (fun g8_5=>zG O zAg O (J 1 O) O) O<|rL1 92 O (fun g8_5=>qP O el65 O) O<|rL0 O (fun g8_5=>zD O kO O) O<|rL1 94 O (fun g8_5=>zG O zAg O (J 0 O) O) O<|rL1 95 O (fun g8_5=>qP O el65 O) O<|rLz [(93,_),(96,_)] O gv1 ⟨O,O,O,O,T⟩ (fun g8_5=>wA O O O) O<|r_or O (fun h=>(lzf h))<|Y O<|rL0 O (fun g8_14=>zD O zAx O) O<|rL1 100 O (fun g8_14=>zR O kA O (J 1 O) O) O<|rL0 O (fun g8_14=>zD O zAx O) O<|rL1 102 O (fun g8_14=>zR O kA O (J 0 O) O) O<|rL0 O (fun g8_14=>zQ O O) O<|rL0 O (fun g8_14=>zQ O O) O<|rLz [(101,_),(103,_),(104,_),(105,_)] O gv1 ⟨O,O,O,O,O,O,O,O,T⟩ (fun g8_14=>qG O ok165 (zIf v.Lin w_.Lin A Bn hA hAB (by omega) (by omega)) ⟨U,O,U,O,U,O,U,O,T⟩) O<|rL1 106 O (fun g8_14=>kF O O) O<|r_or O (fun h=>(lzf h))<|W<|zF O (fun c3=>?_) (fun c3=>?_)
   ·have hJ:=simI_no (A:=A) (B:=Bn) c3
    refine G O<|Y O<|W<|zK<|zP O ?_
    exact congrArg vB (by rw [hS,zLs hv hw _ hp hJ];rfl)
   ·obtain ⟨hl3,hJ⟩:=simI_on (A:=A) (B:=Bn) c3
    refine zJ<|G O<|Y O<|W<|zN<|zV ⟨[(12,.c _),(2,.c _),(3,.c _),(4,.c _),(5,.c _),(9,.c _),(10,.c _),(11,.c _)],[_,_,_,_]⟩ (Weak.mk [true,true,true,true] ⟨U,U,U,U,U,U,U,U,T⟩ O)<|zY 1 0 O O (Nat) (fun j=>[(12,vI j)]) (fun j=>[]) (fun j=>j<=v.At.length/\(all2 (fun f g=>mtcF f g A Bn) v.At w_.At=all2 (fun f g=>mtcF f g A Bn) (v.At.drop j) (w_.At.drop j))) (fun j=>v.At.length-j) ⟨0,⟨by omega,O⟩,Weak.mk [true,true,true,true] ⟨U,U,U,U,U,U,U,U,T⟩ O⟩ ?_
    rintro j ⟨hj,hq⟩
    refine zH<|G O<|Y O<|zE O kO<|zI zAg (J 1 O) O<|zT O el65<|qW O<|W<|zF O (fun c4=>?_) (fun c4=>?_)
    ·try simp only [sx] at c4
     obtain ⟨f_,hf⟩:=qO v.At j (by omega)
     obtain ⟨g_,hg⟩:=qO w_.At j (by omega)
     have hfw:=zAn (zW hf)
     have hgw:=zAn (zW hg)
     refine zJ<|zH<|zN<|zH<|qS 14 mixed (by kernel_rfl) O O<|zM O O (zD O kO O)<|zM O O (zG O zAg O (J 1 O) O)<|zM O O (zQ O O)<|zM O O (qE O el65 O O (by omega) (getm hf))<|zM O O (zR O kA O zX O)<|zM O O (zD O kO O)<|zM O O (zG O zAg O (J 0 O) O)<|zM O O (zQ O O)<|zM O O (qE O el65 O O (by omega) (getm hg))<|zM O O (zR O kA O zX O)<|zM O O (zQ O O)<|zM O O (zQ O O)<|zM O O (qG O ok165 (zIf f_ g_ A Bn hA hAB (by omega) (by omega)) ⟨U,O,U,O,U,O,U,O,T⟩)<|zM O O (kF O O)<|yJ<|W<|zF O (fun c5=>?_) (fun c5=>?_)
     ·try simp only [sx] at c5
      have c5:mtcF f_ g_ A Bn=false:=by simpa using c5
      refine G O<|Y O<|W<|zK<|zP O ?_
      exact congrArg vB (by rw [hS,zLs hv hw _ hp (hJ.trans (zLs hf hg _ hq c5))];rfl)
     ·try simp only [sx] at c5
      have c5:mtcF f_ g_ A Bn=true:=by simpa using c5
      refine zJ<|zO O<|Y O<|qB O ⟨by omega,by omega⟩<|Y O<|W ?_
      refine ⟨j+1,⟨by omega,zGq hf hg _ hq c5⟩,(by omega),Weak.mk [true,true,true,true] ⟨U,U,U,U,U,U,U,U,T⟩ O⟩
    ·try simp only [sx] at c4
     have hK:=zKf _ hq hl3 (by omega)
     have hJ1:=hJ.trans hK
     refine qF<|zO O<|Y O<|qB O ⟨by omega,by omega⟩<|Y O<|W ?_
     refine ⟨k+1,⟨by omega,zGq hv hw _ hp hJ1⟩,(by omega),Weak.mk [false,false,true,true] ⟨U,U,U,U,U,T⟩ O⟩
  ·try simp only [sx] at c2
   have hI:=zKf _ hp hl1 (by omega)
   refine qF<|zH<|G O<|Y O<|W<|zN<|zV ⟨[(13,.c _),(2,.c _),(3,.c _),(4,.c _),(5,.c _)],[_,_]⟩ (Weak.mk [true,true] ⟨U,U,U,U,U,T⟩ O)<|zY 1 0 O O (Nat) (fun i=>[(13,vI i)]) (fun i=>[]) (fun i=>i<=x.Args.length/\(all2 (simE A Bn) x.Args y.Args=all2 (simE A Bn) (x.Args.drop i) (y.Args.drop i))) (fun i=>x.Args.length-i) ⟨0,⟨by omega,O⟩,Weak.mk [true,true] ⟨U,U,U,U,U,T⟩ O⟩ ?_
   rintro i ⟨hi,hr⟩
   refine zH<|G O<|Y O<|zE O kB<|zI wT (J 1 O) O<|zT O el42<|qW O<|W<|zF O (fun c6=>?_) (fun c6=>?_)
   ·try simp only [sx] at c6
    obtain ⟨a_,ha⟩:=qO x.Args i (by omega)
    obtain ⟨b_,hb⟩:=qO y.Args i (by omega)
    refine zJ<|zH<|zN<|zH<|qS 14 mixed (by kernel_rfl) O O<|zM O O (zD O kB O)<|zM O O (zG O wT O (J 1 O) O)<|zM O O (zQ O O)<|zM O O (qE O el42 O O (by omega) (zDa ha))<|zM O O (zR O qZ O zX O)<|zM O O (zD O kB O)<|zM O O (zG O wT O (J 0 O) O)<|zM O O (zQ O O)<|zM O O (qE O el42 O O (by omega) (zDa hb))<|zM O O (zR O qZ O zX O)<|zM O O (zQ O O)<|zM O O (zQ O O)<|zM O O (qG O ok104 (ih a_ (zW ha) (by have:=Ex.arg_wt (zW ha);omega) b_ (by have:=Ex.arg_wt (zW hb);omega)) ⟨U,O,U,O,U,O,U,O,T⟩)<|zM O O (kF O O)<|yJ<|W<|zF O (fun c7=>?_) (fun c7=>?_)
    ·try simp only [sx] at c7
     have c7:simE A Bn a_ b_=false:=by simpa using c7
     refine G O<|Y O<|W<|zK<|zP O ?_
     exact congrArg vB (by rw [hS,hI,zLs ha hb _ hr c7];rfl)
    ·try simp only [sx] at c7
     have c7:simE A Bn a_ b_=true:=by simpa using c7
     refine zJ<|zO O<|Y O<|qB O ⟨by omega,by omega⟩<|Y O<|W ?_
     refine ⟨i+1,⟨by omega,zGq ha hb _ hr c7⟩,(by omega),Weak.mk [true,true] ⟨U,U,U,U,U,T⟩ O⟩
   ·try simp only [sx] at c6
    have hM:=zKf _ hr hl2 (by omega)
    refine qF<|G O<|Y O<|W<|zK<|zP O ?_
    exact congrArg vB (by rw [hS,hI,hM];rfl)
theorem r23_similar (A Bn:List ByteArray) (hA:A.length<=4000000) (hAB:A.length=Bn.length) (x:Ex):x.wt<=2000000->∀y,y.wt<=2000000->Pur cfg 104 [vE x,vE y,vSs A,vSs Bn] (vB (simE A Bn x y)):=by
  induction x using Ex.ind with
  |_ x ih=>exact fun hx y hy=>zMk A Bn hA hAB x ih hx y hy
theorem r23_sizes (a b:List Ax) (ha:a.length<=4294967296) (hs:∀x,x∈a->x.Size.L.length<=5864062014805):
    Pur cfg 103 [.c (.sl 3 (a.map Ax.cells)),.c (.sl 3 (b.map Ax.cells))] (vB (szsT a b)):=by
 refine zS Tryz.func103 O Tryz.ntmps103 Tryz.results103 O ?_
 intro z hz
 refine G O<|Y O<|W<|zH<|G O<|Y O<|zT O el61<|Y O<|zT O el61<|yO O<|W<|zF O (fun c1=>?_) (fun c1=>?_)
 ·try simp only [sx] at c1
  refine G O<|Y O<|W<|zK<|zP O ?_
  exact congrArg vB (zFi (by omega)).symm
 ·try simp only [sx] at c1
  have hlab:a.length=b.length:=by omega
  refine zJ<|zH<|G O<|Y O<|W<|zN<|zV ⟨[(5,.c _),(0,.c _),(1,.c _)],[]⟩ (Weak.mk [] ⟨U,U,U,T⟩ O)<|zY 1 0 O O (Nat) (fun k=>[(5,vI k)]) (fun k=>[]) (fun k=>k<=a.length/\(szsT a b=all2 (fun x y:Ax=>decide (x.Size=y.Size)) (a.drop k) (b.drop k))) (fun k=>a.length-k) ⟨0,⟨by omega,O⟩,Weak.mk [] ⟨U,U,U,T⟩ O⟩ ?_
  rintro k ⟨hk,hp⟩
  refine zH<|G O<|Y O<|Y O<|zT O el61<|qW O<|W<|zF O (fun c2=>?_) (fun c2=>?_)
  ·try simp only [sx] at c2
   obtain ⟨x,hx⟩:=qO a k (by omega)
   obtain ⟨y,hy⟩:=qO b k (by omega)
   refine zJ<|zH<|zN<|zH<|qS 12 mixed (by kernel_rfl) O O<|zM O O (zQ O O)<|zM O O (zQ O O)<|zM O O (qE O el61 O O (by omega) (getm hx))<|zM O O (qN O zCg O)<|zM O O (zR O kA O zX O)<|zM O O (zQ O O)<|zM O O (zQ O O)<|zM O O (qE O el61 O O (by omega) (getm hy))<|zM O O (qN O zCg O)<|zM O O (zR O kA O zX O)<|zM O O (qG O ok34 (zHh x.Size y.Size (by have:=hs x (zW hx);omega)) ⟨U,O,U,O,T⟩)<|zM O O (kF O O)<|yJ<|W<|zF O (fun c3=>?_) (fun c3=>?_)
   ·try simp only [sx] at c3
    have c3:decide (x.Size=y.Size)=false:=by simpa using c3
    refine G O<|Y O<|W<|zK<|zP O ?_
    exact congrArg vB (zLs hx hy _ hp c3).symm
   ·try simp only [sx] at c3
    have c3:decide (x.Size=y.Size)=true:=by simpa using c3
    refine zJ<|zO O<|Y O<|qB O ⟨by omega,by omega⟩<|Y O<|W ?_
    refine ⟨k+1,⟨by omega,zGq hx hy _ hp c3⟩,(by omega),Weak.mk [] ⟨U,U,U,T⟩ O⟩
  ·try simp only [sx] at c2
   refine qF<|G O<|Y O<|W<|zK<|zP O ?_
   exact congrArg vB (zKf _ hp hlab (by omega)).symm
theorem r23_duplicate (a b:Df) (ha:a.Body.wt<=2000000) (hb:b.Body.wt<=2000000) (ha1:a.Dims.length<=1000000) (ha2:a.Red.length<=1000000) (hb1:b.Dims.length<=1000000) (hb2:b.Red.length<=1000000) (hs1:∀x,x∈a.Dims->x.Size.L.length<=5864062014805) (hs2:∀x,x∈a.Red->x.Size.L.length<=5864062014805):
    Pur cfg 49 [vDf a,vDf b] (vB (twnR a b)):=by
 refine zS Tryz.func49 O Tryz.ntmps49 Tryz.results49 O ?_
 intro z hz
 have hna:=wJ a
 have hnb:=wJ b
 refine G O<|zU O O (qI O O) ?_
 rintro _ _ ⟨b1,rfl,rfl⟩
 refine zU O O (qI O O) ?_
 rintro _ _ ⟨b2,rfl,rfl⟩
 refine Y O<|W<|zH<|qS 38 mixed (by kernel_rfl) O O<|zM O O (zD O zFq O)<|zM O O (zR O yB O (J 1 O) O)<|zM O O (zD O zFq O)<|zM O O (zR O yB O (J 0 O) O)<|zM O O (zJq O fl37 O O O)<|zM O O (zQ O O)<|qA [] O O O O gv1 T (fun g1_5=>zD O zFp O) O<|qA [(11,_)] O O O O gv1 ⟨O,O,T⟩ (fun g1_5=>zG O one3 O (J 1 O) O) O<|qA [] O O O O gv1 T (fun g1_5=>zD O zFp O) O<|qA [(13,_)] O O O O gv1 ⟨O,O,T⟩ (fun g1_5=>zG O one3 O (J 0 O) O) O<|qA [(12,_),(14,_)] O O O O gv1 ⟨O,O,O,O,T⟩ (fun g1_5=>yM O O O) O<|zM O O (kX O O O (fun h=>h) O)<|zM O O (zQ O O)<|qA [] O O O O gv1 T (fun g1_12=>zD O zAm O) O<|qA [(18,_)] O O O O gv1 ⟨O,O,T⟩ (fun g1_12=>zG O kP O (J 1 O) O) O<|qA [] O O O O gv1 T (fun g1_12=>zD O zAm O) O<|qA [(20,_)] O O O O gv1 ⟨O,O,T⟩ (fun g1_12=>zG O kP O (J 0 O) O) O<|qA [(19,_),(21,_)] O O O O gv1 ⟨O,O,O,O,T⟩ (fun g1_12=>qG O ok103 (r23_sizes a.Dims b.Dims (by omega) hs1) ⟨U,O,U,O,T⟩) O<|zM O O (kX O O O (fun h=>h) O)<|zM O O (zQ O O)<|qA [] O O O O gv1 T (fun g1_19=>zD O zAd O) O<|qA [(25,_)] O O O O gv1 ⟨O,O,T⟩ (fun g1_19=>zG O kP O (J 1 O) O) O<|qA [] O O O O gv1 T (fun g1_19=>zD O zAd O) O<|qA [(27,_)] O O O O gv1 ⟨O,O,T⟩ (fun g1_19=>zG O kP O (J 0 O) O) O<|qA [(26,_),(28,_)] O O O O gv1 ⟨O,O,O,O,T⟩ (fun g1_19=>qG O ok103 (r23_sizes a.Red b.Red (by omega) hs2) ⟨U,O,U,O,T⟩) O<|zM O O (kX O O O (fun h=>h) O)<|zM O O (zQ O O)<|qA [] O O O O gv1 T (fun g1_26=>zD O zAw O) O<|qA [(32,_)] O O O O gv1 ⟨O,O,T⟩ (fun g1_26=>zR O qZ O (J 1 O) O) O<|qA [] O O O O gv1 T (fun g1_26=>zD O zAw O) O<|qA [(34,_)] O O O O gv1 ⟨O,O,T⟩ (fun g1_26=>zR O qZ O (J 0 O) O) O<|qA [] O O O O gv1 T (fun g1_26=>zR O wP O (J 1 O) O) O<|qA [(36,_)] O O O O gv1 ⟨O,O,T⟩ (fun g1_26=>qG O ok97 (OwnR.pur (zCy a (by omega) (by omega))) ⟨U,O,T⟩) O<|qA [] O O O O gv1 T (fun g1_26=>zR O wP O (J 0 O) O) O<|qA [(38,_)] O O O O gv1 ⟨O,O,T⟩ (fun g1_26=>qG O ok97 (OwnR.pur (zCy b (by omega) (by omega))) ⟨U,O,T⟩) O<|qA [(33,_),(35,_),(37,_),(39,_)] O O O O gv1 ⟨O,O,O,O,O,O,O,O,T⟩ (fun g1_26=>qG O ok104 (r23_similar (namesD a) (namesD b) (by omega) (by simp only [Lz,cond_true,cond_false,Bool.and_eq_true,Bool.or_eq_true,Bool.not_eq_true',Bool.not_eq_false',Bool.or_eq_false_iff,Bool.and_eq_false_iff,decide_eq_true_eq,decide_eq_false_iff_not,Bool.not_eq_true,Bool.not_eq_false,List.length_map] at g1_26;rw [wJ,wJ,zGu g1_26.1.2,zGu g1_26.2]) a.Body ha b.Body hb) ⟨U,O,U,O,U,O,U,O,T⟩) O<|zM O O (kX O O O (fun h=>h) O)<|zM O O (yT O O)<|yJ<|W<|zK<|zP O ?_
 exact congrArg vB (by unfold twnR;rw [show litsEq (List.take 5 (List.drop (0+1) a.cells)) (List.take 5 (List.drop (0+1) b.cells))=decide (a.T=b.T) from zOz a.T b.T])
theorem zOh (s t:ByteArray) (e:Ex) (ih:∀a,a∈e.Args->a.wt<=2000000->Pur cfg 54 [vE a,vS s,vS t] (vE (tnmE s t a))) (he:e.wt<=2000000):
    Pur cfg 54 [vE e,vS s,vS t] (vE (tnmE s t e)):=by
 refine zS Tryz.func54 O Tryz.ntmps54 Tryz.results54 O ?_
 intro z hz
 obtain ⟨hel,hei,hea⟩:=e.parts he
 refine G O<|zU O O (qI O O) ?_
 rintro _ _ ⟨b1,rfl,rfl⟩
 refine zU O O (qD [none,none,none,none,none,none,none,none,none,none,some 2,some 4,some 13] O zr44 O) ?_
 rintro _ _ ⟨b2,rfl,rfl⟩
 refine W<|zH<|G O<|zE O zDe<|zI one9 (J 1 O) O<|Y O<|kM O<|W<|zF O (fun c1=>?_) (fun c1=>?_)
 ·try simp only [sx] at c1
  have hnm:(if e.Name=s then t else e.Name)=t:=if_pos c1
  refine zO O<|Y O<|zE O zDe<|N 1 sz9 O<|W<|G O<|Y O<|qV _ (yF 115 4)<|W<|zH<|G O<|Y O<|W<|zN<|zV ⟨[(8,.c _),(7,.c _),(1,.c _),(2,.c _),(3,.c _),(6,.c _)],[_,_,_]⟩ (Weak.mk [true,true,true] ⟨U,U,U,U,U,U,T⟩ O)<|zY 2 1 O O (Nat×Value) (fun ⟨k,sv⟩=>[(8,vI k),(7,.c (.lit sv))]) (fun ⟨k,sv⟩=>[E.vec sv 115 4 (((e.Idx.take k).map (redX s t)).map Ix.cells)]) (fun ⟨k,sv⟩=>k<=e.Idx.length) (fun ⟨k,sv⟩=>e.Idx.length-k) ⟨⟨0,(.slice none 0 0)⟩,(by omega),Weak.mk [true,true,true] ⟨U,U,U,U,U,U,T⟩ O⟩ ?_
  rintro ⟨k,sv⟩ hk
  show AWP _ _ _ _ _ ⟨[(8,vI k),(7,.c (.lit sv))]++_,[E.vec sv 115 4 (((e.Idx.take k).map (redX s t)).map Ix.cells)]++_⟩
  refine zH<|G O<|Y O<|zE O yV<|zI wE (J 2 O) O<|zT O D<|qW O<|W<|zF O (fun c2=>?_) (fun c2=>?_)
  ·try simp only [sx] at c2
   obtain ⟨x,hx⟩:=qO e.Idx k (by omega)
   refine zJ<|zH<|zN<|G O<|zE O yV<|zI wE (J 2 O) O<|Y O<|zZ O D (by omega) (getm hx)<|zL wQ zX O<|zU O O (qD [none,some 2,none,some 2] O zBx O) ?_
   rintro _ _ ⟨b4,rfl,rfl⟩
   refine N 0 zIa O<|W<|zH<|G O<|zE O wD<|zI one9 (J 0 O) O<|Y O<|kM O<|W<|zF O (fun c3=>?_) (fun c3=>?_)
   ·try simp only [sx] at c3
    have hrx:redX s t x=⟨x.Lin,t,x.At⟩:=by unfold redX;rw [if_pos c3]
    refine zO O<|Y O<|zE O wD<|N 0 sz9 O<|W<|zO O<|Y O<|zL wQ (J 0 O) O<|qX O D zBx<|zU O O (qQ 1 O D O O O (by simp only [List.length_map,List.length_append,List.length_cons,List.length_nil,List.length_take,List.length_drop];omega) (by simp only [List.length_map,List.length_append,List.length_cons,List.length_nil,List.length_take,List.length_drop];omega)) ?_
    rintro _ _ ⟨sv5,rfl,rfl⟩
    refine Y O<|W<|zO O<|Y O<|qB O ⟨by omega,by omega⟩<|Y O<|W ?_
    refine ⟨⟨k+1,sv5⟩,(by omega),(by show e.Idx.length-(k+1)<e.Idx.length-k;omega),Weak.mk [false,true,true,true] ⟨U,U,U,U,U,U,T⟩ (by exact kL (by rw [qM hx,List.map_append,List.map_append,List.map_singleton,hrx];rfl))⟩
   ·try simp only [sx] at c3
    have hrx:redX s t x=⟨x.Lin,x.From,x.At⟩:=by unfold redX;rw [if_neg c3]
    refine zJ<|zO O<|Y O<|zL wQ (J 0 O) O<|qX O D zBx<|zU O O (qQ 1 O D O O O (by simp only [List.length_map,List.length_append,List.length_cons,List.length_nil,List.length_take,List.length_drop];omega) (by simp only [List.length_map,List.length_append,List.length_cons,List.length_nil,List.length_take,List.length_drop];omega)) ?_
    rintro _ _ ⟨sv6,rfl,rfl⟩
    refine Y O<|W<|zO O<|Y O<|qB O ⟨by omega,by omega⟩<|Y O<|W ?_
    refine ⟨⟨k+1,sv6⟩,(by omega),(by show e.Idx.length-(k+1)<e.Idx.length-k;omega),Weak.mk [false,true,true,true] ⟨U,U,U,U,U,U,T⟩ (by exact kL (by rw [qM hx,List.map_append,List.map_append,List.map_singleton,hrx];rfl))⟩
  ·try simp only [sx] at c2
   rw [qT (l:=e.Idx) (k:=k) (by omega)]
   refine zV _ (yC 0 O (regs':=[(7,_)]) (μ':=[_,_]) ⟨FLe.sl,T⟩ ⟨EFle.refl _,EFle.refl _,T⟩)<|qF<|G O<|Y O<|qV _ (yF 44 13)<|W<|zH<|G O<|Y O<|W<|zN<|zV ⟨[(11,.c _),(10,.c _),(1,.c _),(2,.c _),(3,.c _),(6,.c _),(7,.c _)],[_,_,_]⟩ (Weak.mk [true,true,true] ⟨U,U,U,U,U,U,U,T⟩ O)<|zY 2 1 O O (Nat×Value) (fun ⟨i,su⟩=>[(11,vI i),(10,.c (.lit su))]) (fun ⟨i,su⟩=>[E.vec su 44 13 (((e.Args.take i).map (tnmE s t)).map Ex.cells)]) (fun ⟨i,su⟩=>i<=e.Args.length) (fun ⟨i,su⟩=>e.Args.length-i) ⟨⟨0,(.slice none 0 0)⟩,(by omega),Weak.mk [true,true,true] ⟨U,U,U,U,U,U,U,T⟩ O⟩ ?_
   rintro ⟨i,su⟩ hi
   show AWP _ _ _ _ _ ⟨[(11,vI i),(10,.c (.lit su))]++_,[E.vec su 44 13 (((e.Args.take i).map (tnmE s t)).map Ex.cells)]++_⟩
   refine zH<|G O<|Y O<|zE O kB<|zI wT (J 2 O) O<|zT O el42<|qW O<|W<|zF O (fun c4=>?_) (fun c4=>?_)
   ·try simp only [sx] at c4
    obtain ⟨z_,hz_⟩:=qO e.Args i (by omega)
    refine zJ<|zH<|zN<|zO O<|Y O<|zE O kB<|zI wT (J 2 O) O<|Y O<|zZ O el42 (by omega) (zDa hz_)<|zL qZ zX O<|Y O<|Y O<|qK O ok54 (ih z_ (zW hz_) (by have:=Ex.arg_wt (zW hz_);omega)) ⟨U,O,U,O,U,O,T⟩<|qX O el42 zr44<|zU O O (qQ 0 O el42 O O O (by simp only [List.length_map,List.length_append,List.length_cons,List.length_nil,List.length_take,List.length_drop];omega) (by simp only [List.length_map,List.length_append,List.length_cons,List.length_nil,List.length_take,List.length_drop];omega)) ?_
    rintro _ _ ⟨sv8,rfl,rfl⟩
    refine Y O<|W<|zO O<|Y O<|qB O ⟨by omega,by omega⟩<|Y O<|W ?_
    refine ⟨⟨i+1,sv8⟩,(by omega),(by show e.Args.length-(i+1)<e.Args.length-i;omega),Weak.mk [true,true,true] ⟨U,U,U,U,U,U,U,T⟩ (by exact kL (by rw [qM hz_,List.map_append,List.map_append];simp only [List.map_cons,List.map_nil,Ex.cells_eq (tnmE s t z_)];(try rfl)))⟩
   ·try simp only [sx] at c4
    rw [qT (l:=e.Args) (k:=i) (by omega)]
    refine zV _ (yC 0 O (regs':=[(10,_)]) (μ':=[_,_]) ⟨FLe.sl,T⟩ ⟨EFle.refl _,EFle.refl _,T⟩)<|qF<|G O<|Y O<|zE O yV<|N 1 sz41 O<|W<|G O<|Y O<|zE O kB<|N 1 sz42 O<|W<|G O<|zL qZ (J 1 O) O<|N 0 sz44 O<|W<|zK<|fin1 (qH qZ O (J 0 O) O) ?_
    exact congrArg vE (show _=tnmE s t e from by rw [tnmE_eq,hnm])
 ·try simp only [sx] at c1
  have hnm:(if e.Name=s then t else e.Name)=e.Name:=if_neg c1
  refine zJ<|G O<|Y O<|qV _ (yF 115 4)<|W<|zH<|G O<|Y O<|W<|zN<|zV ⟨[(8,.c _),(7,.c _),(1,.c _),(2,.c _),(3,.c _),(6,.c _)],[_,_,_]⟩ (Weak.mk [true,true,true] ⟨U,U,U,U,U,U,T⟩ O)<|zY 2 1 O O (Nat×Value) (fun ⟨k,sv⟩=>[(8,vI k),(7,.c (.lit sv))]) (fun ⟨k,sv⟩=>[E.vec sv 115 4 (((e.Idx.take k).map (redX s t)).map Ix.cells)]) (fun ⟨k,sv⟩=>k<=e.Idx.length) (fun ⟨k,sv⟩=>e.Idx.length-k) ⟨⟨0,(.slice none 0 0)⟩,(by omega),Weak.mk [true,true,true] ⟨U,U,U,U,U,U,T⟩ O⟩ ?_
  rintro ⟨k,sv⟩ hk
  show AWP _ _ _ _ _ ⟨[(8,vI k),(7,.c (.lit sv))]++_,[E.vec sv 115 4 (((e.Idx.take k).map (redX s t)).map Ix.cells)]++_⟩
  refine zH<|G O<|Y O<|zE O yV<|zI wE (J 2 O) O<|zT O D<|qW O<|W<|zF O (fun c2=>?_) (fun c2=>?_)
  ·try simp only [sx] at c2
   obtain ⟨x,hx⟩:=qO e.Idx k (by omega)
   refine zJ<|zH<|zN<|G O<|zE O yV<|zI wE (J 2 O) O<|Y O<|zZ O D (by omega) (getm hx)<|zL wQ zX O<|zU O O (qD [none,some 2,none,some 2] O zBx O) ?_
   rintro _ _ ⟨b10,rfl,rfl⟩
   refine N 0 zIa O<|W<|zH<|G O<|zE O wD<|zI one9 (J 0 O) O<|Y O<|kM O<|W<|zF O (fun c3=>?_) (fun c3=>?_)
   ·try simp only [sx] at c3
    have hrx:redX s t x=⟨x.Lin,t,x.At⟩:=by unfold redX;rw [if_pos c3]
    refine zO O<|Y O<|zE O wD<|N 0 sz9 O<|W<|zO O<|Y O<|zL wQ (J 0 O) O<|qX O D zBx<|zU O O (qQ 1 O D O O O (by simp only [List.length_map,List.length_append,List.length_cons,List.length_nil,List.length_take,List.length_drop];omega) (by simp only [List.length_map,List.length_append,List.length_cons,List.length_nil,List.length_take,List.length_drop];omega)) ?_
    rintro _ _ ⟨sv11,rfl,rfl⟩
    refine Y O<|W<|zO O<|Y O<|qB O ⟨by omega,by omega⟩<|Y O<|W ?_
    refine ⟨⟨k+1,sv11⟩,(by omega),(by show e.Idx.length-(k+1)<e.Idx.length-k;omega),Weak.mk [false,true,true,true] ⟨U,U,U,U,U,U,T⟩ (by exact kL (by rw [qM hx,List.map_append,List.map_append,List.map_singleton,hrx];rfl))⟩
   ·try simp only [sx] at c3
    have hrx:redX s t x=⟨x.Lin,x.From,x.At⟩:=by unfold redX;rw [if_neg c3]
    refine zJ<|zO O<|Y O<|zL wQ (J 0 O) O<|qX O D zBx<|zU O O (qQ 1 O D O O O (by simp only [List.length_map,List.length_append,List.length_cons,List.length_nil,List.length_take,List.length_drop];omega) (by simp only [List.length_map,List.length_append,List.length_cons,List.length_nil,List.length_take,List.length_drop];omega)) ?_
    rintro _ _ ⟨sv12,rfl,rfl⟩
    refine Y O<|W<|zO O<|Y O<|qB O ⟨by omega,by omega⟩<|Y O<|W ?_
    refine ⟨⟨k+1,sv12⟩,(by omega),(by show e.Idx.length-(k+1)<e.Idx.length-k;omega),Weak.mk [false,true,true,true] ⟨U,U,U,U,U,U,T⟩ (by exact kL (by rw [qM hx,List.map_append,List.map_append,List.map_singleton,hrx];rfl))⟩
  ·try simp only [sx] at c2
   rw [qT (l:=e.Idx) (k:=k) (by omega)]
   refine zV _ (yC 0 O (regs':=[(7,_)]) (μ':=[_,_]) ⟨FLe.sl,T⟩ ⟨EFle.refl _,EFle.refl _,T⟩)<|qF<|G O<|Y O<|qV _ (yF 44 13)<|W<|zH<|G O<|Y O<|W<|zN<|zV ⟨[(11,.c _),(10,.c _),(1,.c _),(2,.c _),(3,.c _),(6,.c _),(7,.c _)],[_,_,_]⟩ (Weak.mk [true,true,true] ⟨U,U,U,U,U,U,U,T⟩ O)<|zY 2 1 O O (Nat×Value) (fun ⟨i,su⟩=>[(11,vI i),(10,.c (.lit su))]) (fun ⟨i,su⟩=>[E.vec su 44 13 (((e.Args.take i).map (tnmE s t)).map Ex.cells)]) (fun ⟨i,su⟩=>i<=e.Args.length) (fun ⟨i,su⟩=>e.Args.length-i) ⟨⟨0,(.slice none 0 0)⟩,(by omega),Weak.mk [true,true,true] ⟨U,U,U,U,U,U,U,T⟩ O⟩ ?_
   rintro ⟨i,su⟩ hi
   show AWP _ _ _ _ _ ⟨[(11,vI i),(10,.c (.lit su))]++_,[E.vec su 44 13 (((e.Args.take i).map (tnmE s t)).map Ex.cells)]++_⟩
   refine zH<|G O<|Y O<|zE O kB<|zI wT (J 2 O) O<|zT O el42<|qW O<|W<|zF O (fun c4=>?_) (fun c4=>?_)
   ·try simp only [sx] at c4
    obtain ⟨z_,hz_⟩:=qO e.Args i (by omega)
    refine zJ<|zH<|zN<|zO O<|Y O<|zE O kB<|zI wT (J 2 O) O<|Y O<|zZ O el42 (by omega) (zDa hz_)<|zL qZ zX O<|Y O<|Y O<|qK O ok54 (ih z_ (zW hz_) (by have:=Ex.arg_wt (zW hz_);omega)) ⟨U,O,U,O,U,O,T⟩<|qX O el42 zr44<|zU O O (qQ 0 O el42 O O O (by simp only [List.length_map,List.length_append,List.length_cons,List.length_nil,List.length_take,List.length_drop];omega) (by simp only [List.length_map,List.length_append,List.length_cons,List.length_nil,List.length_take,List.length_drop];omega)) ?_
    rintro _ _ ⟨sv14,rfl,rfl⟩
    refine Y O<|W<|zO O<|Y O<|qB O ⟨by omega,by omega⟩<|Y O<|W ?_
    refine ⟨⟨i+1,sv14⟩,(by omega),(by show e.Args.length-(i+1)<e.Args.length-i;omega),Weak.mk [true,true,true] ⟨U,U,U,U,U,U,U,T⟩ (by exact kL (by rw [qM hz_,List.map_append,List.map_append];simp only [List.map_cons,List.map_nil,Ex.cells_eq (tnmE s t z_)];(try rfl)))⟩
   ·try simp only [sx] at c4
    rw [qT (l:=e.Args) (k:=i) (by omega)]
    refine zV _ (yC 0 O (regs':=[(10,_)]) (μ':=[_,_]) ⟨FLe.sl,T⟩ ⟨EFle.refl _,EFle.refl _,T⟩)<|qF<|G O<|Y O<|zE O yV<|N 1 sz41 O<|W<|G O<|Y O<|zE O kB<|N 1 sz42 O<|W<|G O<|zL qZ (J 1 O) O<|N 0 sz44 O<|W<|zK<|fin1 (qH qZ O (J 0 O) O) ?_
    exact congrArg vE (show _=tnmE s t e from by rw [tnmE_eq,hnm])
theorem r23_rename (s t:ByteArray) (e:Ex) (he:e.wt<=2000000):Pur cfg 54 [vE e,vS s,vS t] (vE (tnmE s t e)):=by
  induction e using Ex.ind with
  |_ e ih=>exact zOh s t e ih he
theorem zHp (p:Pg) (j:Nat) (hX:p.Xt j) (hj:j<=64):
    OwnR cfg 17 [vPg p] 55 2 ((prsV p).map pairC):=by
 refine zS Tryz.func17 O Tryz.ntmps17 Tryz.results17 O ?_
 intro z hz
 have hP:=hX.ok hj
 have hdl:=hX.defs
 refine G O<|zU O O (qI O O) ?_
 rintro _ _ ⟨b1,rfl,rfl⟩
 refine qC O (yN 2 O O)<|W<|zH<|G O<|zL kT (J 0 O) O<|qK O ok20 (ref17_Validate p hP) ⟨U,O,T⟩<|qC O (yD O O)<|qC O (yL O O O)<|qC O (yL O O O)<|Y O<|Y O<|W<|G O<|Y O<|yO O<|W<|zF O (fun c1=>?_) (fun c1=>?_)
 ·try simp only [sx] at c1
  rw [←zIt] at c1
  refine G O<|Y O<|qV _ (yF 55 2)<|W<|zV _ (Weak.mem [true,false] O)<|zK<|zP O ?_
  exact ⟨_,O,by rw [prs_no c1];rfl⟩
 ·try simp only [sx] at c1
  rw [←zIt] at c1
  refine zJ<|G O<|Y O<|qV _ (yF 55 2)<|W<|zH<|G O<|Y O<|W<|zN<|zV ⟨[(6,.c _),(5,.c _),(1,.c _)],[_,_]⟩ (Weak.mk [true,true] ⟨U,U,U,T⟩ O)<|zY 2 1 O O (Nat×Value×List (ByteArray×ByteArray)) (fun ⟨k,sv,pre⟩=>[(6,vI k),(5,.c (.lit sv))]) (fun ⟨k,sv,pre⟩=>[E.vec sv 55 2 ((pre).map pairC)]) (fun ⟨k,sv,pre⟩=>k<=p.Defs.length/\(dupGR [] p.Defs=pre++dupGR (p.Defs.take k) (p.Defs.drop k))/\(pre.length<=k)) (fun ⟨k,sv,pre⟩=>p.Defs.length-k) ⟨⟨0,(.slice none 0 0),[]⟩,⟨by omega,O,Nat.le_refl 0⟩,Weak.mk [true,true] ⟨U,U,U,T⟩ O⟩ ?_
  rintro ⟨k,sv,pre⟩ ⟨hk,hq,hpl⟩
  show AWP _ _ _ _ _ ⟨[(6,vI k),(5,.c (.lit sv))]++_,[E.vec sv 55 2 ((pre).map pairC)]++_⟩
  refine zH<|G O<|Y O<|zE O yK<|zI kU (J 1 O) O<|zT O el25<|qW O<|W<|zF O (fun c2=>?_) (fun c2=>?_)
  ·try simp only [sx] at c2
   obtain ⟨d,hd⟩:=qO p.Defs k (by omega)
   have hxd:=hX.ds d (zW hd)
   refine zJ<|zH<|zN<|G O<|Y O<|W<|zH<|zN<|zV ⟨[(7,.c _),(1,.c _),(5,.c _),(6,.c _)],[_,_]⟩ (Weak.mk [true,true] ⟨U,U,U,U,T⟩ O)<|zY 1 0 O O (Nat) (fun j_=>[(7,vI j_)]) (fun j_=>[]) (fun j_=>j_<=k/\((p.Defs.take k).take j_).any (fun y=>twnR y d)=false) (fun j_=>k-j_) ⟨0,⟨by omega,O⟩,Weak.mk [true,true] ⟨U,U,U,U,T⟩ O⟩ ?_
   rintro j_ ⟨hjk,hr⟩
   refine zH<|zH<|qS 17 mixed (by kernel_rfl) O O<|zM O O (zQ O O)<|zM O O (zQ O O)<|zM O O (zDu O O O)<|zM O O (zQ O O)<|qA [] O O O O gv1 T (fun g9_3=>zD O yK O) O<|qA [(26,_)] O O O O gv1 ⟨O,O,T⟩ (fun g9_3=>zG O kU O (J 1 O) O) O<|qA [] O O O O gv1 T (fun g9_3=>zQ O O) O<|qA [(27,_),(28,_)] O O O O gv1 ⟨O,O,O,O,T⟩ (fun g9_3=>qE O el25 O O (by omega) (getm (dfG (by simp only [Lz,cond_true,cond_false,Bool.and_eq_true,Bool.or_eq_true,Bool.not_eq_true',Bool.not_eq_false',Bool.or_eq_false_iff,Bool.and_eq_false_iff,decide_eq_true_eq,decide_eq_false_iff_not,Bool.not_eq_true,Bool.not_eq_false,List.length_map] at g9_3;omega)))) O<|qA [(29,_)] O O O O gv1 ⟨O,O,T⟩ (fun g9_3=>zR O wP O zX O) O<|qA [] O O O O gv1 T (fun g9_3=>zD O yK O) O<|qA [(31,_)] O O O O gv1 ⟨O,O,T⟩ (fun g9_3=>zG O kU O (J 1 O) O) O<|qA [] O O O O gv1 T (fun g9_3=>zQ O O) O<|qA [(32,_),(33,_)] O O O O gv1 ⟨O,O,O,O,T⟩ (fun g9_3=>qE O el25 O O (by omega) (getm hd)) O<|qA [(34,_)] O O O O gv1 ⟨O,O,T⟩ (fun g9_3=>zR O wP O zX O) O<|qA [(30,_),(35,_)] O O O O gv1 ⟨O,O,O,O,T⟩ (fun g9_3=>qG O ok49 (r23_duplicate (p.Defs.getD j_ ⟨bs [],zTy,[],[],0,zEx⟩) d (by have:=(hX.ds (p.Defs.getD j_ ⟨bs [],zTy,[],[],0,zEx⟩) (zW (dfG (by simp only [Lz,cond_true,cond_false,Bool.and_eq_true,Bool.or_eq_true,Bool.not_eq_true',Bool.not_eq_false',Bool.or_eq_false_iff,Bool.and_eq_false_iff,decide_eq_true_eq,decide_eq_false_iff_not,Bool.not_eq_true,Bool.not_eq_false,List.length_map] at g9_3;omega)))).wt;omega) (by have:=hxd.wt;omega) (by have:=(hX.ds (p.Defs.getD j_ ⟨bs [],zTy,[],[],0,zEx⟩) (zW (dfG (by simp only [Lz,cond_true,cond_false,Bool.and_eq_true,Bool.or_eq_true,Bool.not_eq_true',Bool.not_eq_false',Bool.or_eq_false_iff,Bool.and_eq_false_iff,decide_eq_true_eq,decide_eq_false_iff_not,Bool.not_eq_true,Bool.not_eq_false,List.length_map] at g9_3;omega)))).dims;omega) (by have:=(hX.ds (p.Defs.getD j_ ⟨bs [],zTy,[],[],0,zEx⟩) (zW (dfG (by simp only [Lz,cond_true,cond_false,Bool.and_eq_true,Bool.or_eq_true,Bool.not_eq_true',Bool.not_eq_false',Bool.or_eq_false_iff,Bool.and_eq_false_iff,decide_eq_true_eq,decide_eq_false_iff_not,Bool.not_eq_true,Bool.not_eq_false,List.length_map] at g9_3;omega)))).red;omega) (by have:=hxd.dims;omega) (by have:=hxd.red;omega) (hX.ds (p.Defs.getD j_ ⟨bs [],zTy,[],[],0,zEx⟩) (zW (dfG (by simp only [Lz,cond_true,cond_false,Bool.and_eq_true,Bool.or_eq_true,Bool.not_eq_true',Bool.not_eq_false',Bool.or_eq_false_iff,Bool.and_eq_false_iff,decide_eq_true_eq,decide_eq_false_iff_not,Bool.not_eq_true,Bool.not_eq_false,List.length_map] at g9_3;omega)))).fd (hX.ds (p.Defs.getD j_ ⟨bs [],zTy,[],[],0,zEx⟩) (zW (dfG (by simp only [Lz,cond_true,cond_false,Bool.and_eq_true,Bool.or_eq_true,Bool.not_eq_true',Bool.not_eq_false',Bool.or_eq_false_iff,Bool.and_eq_false_iff,decide_eq_true_eq,decide_eq_false_iff_not,Bool.not_eq_true,Bool.not_eq_false,List.length_map] at g9_3;omega)))).fr) ⟨U,O,U,O,T⟩) O<|qA [(36,_)] O O O O gv1 ⟨O,O,T⟩ (fun g9_3=>kF O O) O<|zM O O (kX O O O (fun h=>h) O)<|yJ<|W<|zF O (fun c3=>?_) (fun c3=>?_)
   ·obtain ⟨hji,hmiss⟩:=dsrch_on c3
    have hcj:p.Defs[j_]? =some (p.Defs.getD j_ ⟨bs [],zTy,[],[],0,zEx⟩):=dfG (by omega)
    refine zJ<|zN<|zO O<|Y O<|qB O ⟨by omega,by omega⟩<|Y O<|W ?_
    refine ⟨j_+1,⟨by omega,take_any_up hji hcj hr hmiss⟩,(by omega),Weak.mk [true,true] ⟨U,U,U,U,T⟩ O⟩
   ·have hstop:=dsrch_off c3
    refine qF<|G O<|Y O<|Y O<|qW O<|W<|zF O (fun c4=>?_) (fun c4=>?_)
    ·try simp only [sx] at c4
     have hji:j_<k:=by omega
     have hci2:p.Defs[j_]? =some (p.Defs.getD j_ ⟨bs [],zTy,[],[],0,zEx⟩):=dfG (by omega)
     have hdu:=dup1R_at (D:=p.Defs.take k) (d:=d) (by rw [List.getElem?_take_of_lt hji];exact hci2) (hstop hji) hr
     refine qS 15 mixed (by kernel_rfl) O O<|zM O O (zQ O O)<|zM O O (zD O yK O)<|zM O O (zG O kU O (J 1 O) O)<|zM O O (zQ O O)<|zM O O (qE O el25 O O (by omega) (getm hci2))<|zM O O (qN O zDd O)<|zM O O (zG O one9 O zX O)<|zM O O (zD O yK O)<|zM O O (zG O kU O (J 1 O) O)<|zM O O (zQ O O)<|zM O O (qE O el25 O O (by omega) (getm hd))<|zM O O (qN O zDd O)<|zM O O (zG O one9 O zX O)<|zM O O (zJp O zr55 pla55 O)<|zM O O (wK O el53 zr55 O O O O)<|yJ<|zU O O (qQ 0 O el53 O O O (by simp only [List.length_map,List.length_append,List.length_cons,List.length_nil,List.length_take,List.length_drop];omega) (by simp only [List.length_map,List.length_append,List.length_cons,List.length_nil,List.length_take,List.length_drop];omega)) ?_
     rintro _ _ ⟨sv4,rfl,rfl⟩
     refine Y O<|W<|zO O<|Y O<|qB O ⟨by omega,by omega⟩<|Y O<|W ?_
     refine ⟨⟨k+1,sv4,pre++dup1R (p.Defs.take k) d⟩,⟨by omega,dupGR_next hd hq,by have:=dup1R_len (p.Defs.take k) d;rw [List.length_append];omega⟩,(by show p.Defs.length-(k+1)<p.Defs.length-k;omega),Weak.mk [true,true] ⟨U,U,U,T⟩ (by exact kL (by rw [hdu,List.map_append];rfl))⟩
    ·try simp only [sx] at c4
     have hjk:j_=k:=by omega
     have hr9:=hr
     rw [hjk,List.take_take,Nat.min_self] at hr9
     have hdu:=dup1R_none (D:=p.Defs.take k) (d:=d) hr9
     refine zJ<|zO O<|Y O<|qB O ⟨by omega,by omega⟩<|Y O<|W ?_
     refine ⟨⟨k+1,sv,pre++dup1R (p.Defs.take k) d⟩,⟨by omega,dupGR_next hd hq,by have:=dup1R_len (p.Defs.take k) d;rw [List.length_append];omega⟩,(by show p.Defs.length-(k+1)<p.Defs.length-k;omega),Weak.mk [true,true] ⟨U,U,U,T⟩ (by exact kL (by rw [hdu,List.append_nil]))⟩
  ·try simp only [sx] at c2
   have hE:=dupGR_end hq (by omega)
   rw [←prsR_ok c1] at hE
   refine qF<|G O<|Y O<|Y O<|W<|zV _ (Weak.mem [true,false] O)<|zK<|zP O ?_
   exact ⟨_,O,by rw [hE];rfl⟩
theorem r23_Merge (p:Pg) (j:Nat) (hX:p.Xt j) (hj:j<=64):
    Pur cfg 19 [vPg p] (.tup [vPg (mrgP p).1,vI ((mrgP p).2:Nat)]):=by
 refine zS Tryz.func19 O Tryz.ntmps19 Tryz.results19 O ?_
 intro z hz
 have hP:=hX.ok hj
 have hdl:=hX.defs
 refine G O<|zU O O (qI O O) ?_
 rintro _ _ ⟨b1,rfl,rfl⟩
 refine zU O O (qD [some 1,some 3,some 7,some 22,some 1] O zr27 O) ?_
 rintro _ _ ⟨b2,rfl,rfl⟩
 refine Y O<|W<|G O<|Y O<|W<|zN<|zV ⟨[(4,.c _),(1,.c _),(2,.c _)],[_,_]⟩ (Weak.mk [true,true] ⟨U,U,U,T⟩ O)<|zY 1 2 O O (Nat×Pg) (fun ⟨n,q⟩=>[(4,vI n)]) (fun ⟨n,q⟩=>[E.row b2 27 [.sl 1 [],.sl 3 [],.sl 7 [],.sl 22 [],.sl 1 []],E.row b1 27 q.cells]) (fun ⟨n,q⟩=>q.Xt j/\mrgP p=((mrgP q).1,(mrgP q).2+n)/\q.Defs.length+n=p.Defs.length) (fun ⟨n,q⟩=>q.Defs.length) ⟨⟨0,p⟩,⟨hX,O,O⟩,Weak.mk [true,true] ⟨U,U,U,T⟩ O⟩ ?_
 rintro ⟨n,q⟩ ⟨hXq,hq,hql⟩
 have hpl:=prs_len q
 have hdq:=hXq.defs
 refine zH<|zN<|G O<|zL kT (J 1 O) O<|qK O ok17 (OwnR.pur (zHp q j hXq hj)) ⟨U,O,T⟩<|Y O<|W<|G O<|Y O<|W<|zH<|zN<|zV ⟨[(6,.c _),(1,.c _),(2,.c _),(4,.c _),(5,.c _)],[_,_]⟩ (Weak.mk [true,true] ⟨U,U,U,U,U,T⟩ O)<|zY 1 0 O O (Nat) (fun k_=>[(6,vI k_)]) (fun k_=>[]) (fun k_=>k_<=(prsV q).length/\((prsV q).take k_).any (fun x=> !hasB q.Outs x.2)=false) (fun k_=>(prsV q).length-k_) ⟨0,⟨by omega,O⟩,Weak.mk [true,true] ⟨U,U,U,U,U,T⟩ O⟩ ?_
 rintro k_ ⟨hk_,hr⟩
 refine zH<|zH<|qS 14 mixed (by kernel_rfl) O O<|zM O O (zQ O O)<|zM O O (zQ O O)<|zM O O (qP O el53 O)<|zM O O (zDu O O O)<|zM O O (zQ O O)<|qA [] O O O O gv1 T (fun g5_4=>zD O zEc O) O<|qA [(19,_)] O O O O gv1 ⟨O,O,T⟩ (fun g5_4=>zG O zAu O (J 1 O) O) O<|qA [] O O O O gv1 T (fun g5_4=>zQ O O) O<|qA [] O O O O gv1 T (fun g5_4=>zQ O O) O<|qA [(21,_),(22,_)] O O O O gv1 ⟨O,O,O,O,T⟩ (fun g5_4=>qE O el53 O O (by omega) (getm (prG_get (by simp only [Lz,cond_true,cond_false,Bool.and_eq_true,Bool.or_eq_true,Bool.not_eq_true',Bool.not_eq_false',Bool.or_eq_false_iff,Bool.and_eq_false_iff,decide_eq_true_eq,decide_eq_false_iff_not,Bool.not_eq_true,Bool.not_eq_false,List.length_map] at g5_4;omega)))) O<|qA [(23,_)] O O O O gv1 ⟨O,O,T⟩ (fun g5_4=>zBn O ar55 O O (by decide) (by decide)) O<|qA [(24,_)] O O O O gv1 ⟨O,O,T⟩ (fun g5_4=>zG O one9 O zX O) O<|qA [(20,_),(25,_)] O O O O gv1 ⟨O,O,O,O,T⟩ (fun g5_4=>qG O ok21 (zHi q.Outs (prG (prsV q) k_).2 (by have:=hXq.outs;omega)) ⟨U,O,U,O,T⟩) O<|zM O O (kX O O O (fun h=>h) O)<|yJ<|W<|zF O (fun c1=>?_) (fun c1=>?_)
 ·obtain ⟨hkl,hmiss⟩:=psrch_on c1
  refine zJ<|zN<|zO O<|Y O<|qB O ⟨by omega,by omega⟩<|Y O<|W ?_
  refine ⟨k_+1,⟨by omega,zEf (prG_get hkl) hr hmiss⟩,(by omega),Weak.mk [true,true] ⟨U,U,U,U,U,T⟩ O⟩
 ·have hstop:=psrch_off c1
  refine qF<|zH<|G O<|Y O<|Y O<|zT O el53<|yH O<|W<|zF O (fun c2=>?_) (fun c2=>?_)
  ·try simp only [sx] at c2
   have hr9:=hr
   rw [show k_=(prsV q).length by omega,List.take_length] at hr9
   have hE:=mrg_stop (p:=p) hq (find_no8 hr9)
   refine G O<|zL kT (J 1 O) O<|Y O<|N 0 sz27 O<|Y O<|W<|zK<|fin2 (qH kT O (J 0 O) O) (v O) ?_
   rw [hE];rfl
  ·try simp only [sx] at c2
   have hkl:k_<(prsV q).length:=by omega
   have hci:=prG_get hkl
   have hpk:pckV q=some (prG (prsV q) k_):=find_at8 hci (hstop hkl) hr
   obtain ⟨hvq,hne⟩:=pck_ne hpk
   refine zJ<|G O<|zL kT (J 1 O) O<|zU O O (qD [some 1,some 3,some 7,some 22,some 1] O zr27 O) ?_
   rintro _ _ ⟨b3,rfl,rfl⟩
   refine N 0 sz27 O<|W<|G O<|zE O yK<|N 0 sz25 O<|W<|zH<|G O<|qV _ (yF 63 22)<|Y O<|W<|zN<|zV ⟨[(8,.c _),(1,.c _),(2,.c _),(4,.c _),(5,.c _),(6,.c _),(7,.c _)],[_,_,_,_]⟩ (Weak.mk [true,true,true,true] ⟨U,U,U,U,U,U,U,T⟩ O)<|zY 1 2 O O (Nat×Value) (fun ⟨i,sw⟩=>[(8,vI i)]) (fun ⟨i,sw⟩=>[E.vec sw 63 22 ((mrgK q (prG (prsV q) k_) i).map Df.cells),E.row b3 27 [.sl 1 ((q.Sizes).map fun s=>[cS s]),.sl 3 (q.Where.map Cn.cells),.sl 7 (q.Params.map Pm.cells),.lit sw,.sl 1 ((q.Outs).map fun s=>[cS s])]]) (fun ⟨i,sw⟩=>i<=q.Defs.length) (fun ⟨i,sw⟩=>q.Defs.length-i) ⟨⟨0,(.slice none 0 0)⟩,(by omega),Weak.mk [true,true,true,true] ⟨U,U,U,U,U,U,U,T⟩ O⟩ ?_
   rintro ⟨i,sw⟩ hi
   show AWP _ _ _ _ _ ⟨[(8,vI i)]++_,[E.vec sw 63 22 ((mrgK q (prG (prsV q) k_) i).map Df.cells),E.row b3 27 [.sl 1 ((q.Sizes).map fun s=>[cS s]),.sl 3 (q.Where.map Cn.cells),.sl 7 (q.Params.map Pm.cells),.lit sw,.sl 1 ((q.Outs).map fun s=>[cS s])]]++_⟩
   refine zH<|G O<|Y O<|zE O yK<|zI kU (J 3 O) O<|zT O el25<|qW O<|W<|zF O (fun c3=>?_) (fun c3=>?_)
   ·try simp only [sx] at c3
    obtain ⟨d,hd⟩:=qO q.Defs i (by omega)
    have hmk:=mrgK_len q (prG (prsV q) k_) i
    refine zJ<|zH<|zN<|zH<|qS 12 mixed (by kernel_rfl) O O<|zM O O (zD O yK O)<|zM O O (zG O kU O (J 3 O) O)<|zM O O (zQ O O)<|zM O O (qE O el25 O O (by omega) (getm hd))<|zM O O (qN O zDd O)<|zM O O (zG O one9 O zX O)<|zM O O (zQ O O)<|zM O O (zQ O O)<|zM O O (qE O el53 O O (by omega) (getm hci))<|zM O O (zBn O ar55 O O (by decide) (by decide))<|zM O O (zG O one9 O zX O)<|zM O O (zAs O O O)<|yJ<|W<|zF O (fun c4=>?_) (fun c4=>?_)
    ·try simp only [sx] at c4
     have hmg:=mrgK_yes (q:=prG (prsV q) k_) hd c4
     refine G O<|zE O yK<|zI kU (J 3 O) O<|Y O<|zZ O el25 (by omega) (getm hd)<|zL wP zX O<|zU O O (qD [none,none,none,none,none,none,some 3,some 3,none,none,none,none,none,none,none,none,none,none,none,some 2,some 4,some 13] O zr63 O) ?_
     rintro _ _ ⟨b4,rfl,rfl⟩
     refine N 0 sz63 O<|W<|zH<|qS 14 mixed (by kernel_rfl) O O<|zM O O (zD O zAw O)<|zM O O (zR O qZ O (J 0 O) O)<|zM O O (zQ O O)<|zM O O (zQ O O)<|zM O O (qE O el53 O O (by omega) (getm hci))<|zM O O (zBn O ar55 O O (by decide) (by decide))<|zM O O (zG O one9 O zX O)<|zM O O (zQ O O)<|zM O O (zQ O O)<|zM O O (qE O el53 O O (by omega) (getm hci))<|zM O O (zBn O ar55 O O (by decide) (by decide))<|zM O O (zG O one9 O zX O)<|zM O O (qG O ok54 (show Pur cfg 54 [vE d.Body,vS (prG (prsV q) k_).2,vS (prG (prsV q) k_).1] (vE (redE (prG (prsV q) k_).2 (prG (prsV q) k_).1 d.Body)) by rw [←valid_nmD hvq hd hne _];exact r23_rename _ _ d.Body (by have:=(hXq.ds d (zW hd)).wt;omega)) ⟨U,O,U,O,U,O,T⟩)<|zM O O (zD O zAw O)<|yJ<|N 0 sz44 O<|W<|zO O<|zE O yK<|zI kU (J 2 O) O<|zL wP (J 0 O) O<|qX O el25 zr63<|zU O O (qQ 1 O el25 O O O (by simp only [List.length_map,List.length_append,List.length_cons,List.length_nil,List.length_take,List.length_drop];omega) (by simp only [List.length_map,List.length_append,List.length_cons,List.length_nil,List.length_take,List.length_drop];omega)) ?_
     rintro _ _ ⟨sv5,rfl,rfl⟩
     refine zE O yK<|N 2 sz25 O<|W<|zO O<|Y O<|qB O ⟨by omega,by omega⟩<|Y O<|W ?_
     refine ⟨⟨i+1,sv5⟩,(by omega),(by show q.Defs.length-(i+1)<q.Defs.length-i;omega),Weak.mk [false,true,true,true,true] ⟨U,U,U,U,U,U,U,T⟩ (by exact zDh (by rw [hmg,List.map_append];rfl))⟩
    ·try simp only [sx] at c4
     have hmg:=mrgK_no (q:=prG (prsV q) k_) hd (by simpa using c4)
     refine zJ<|zO O<|Y O<|qB O ⟨by omega,by omega⟩<|Y O<|W ?_
     refine ⟨⟨i+1,sw⟩,(by omega),(by show q.Defs.length-(i+1)<q.Defs.length-i;omega),Weak.mk [true,true,true,true] ⟨U,U,U,U,U,U,U,T⟩ (by exact zDh (by rw [hmg]))⟩
   ·try simp only [sx] at c3
    rw [mrgK_end (p:=q) (q:=prG (prsV q) k_) (k:=i) (by omega)]
    refine zV _ (yC 0 O (regs':=[]) (μ':=[_,_,_]) T ⟨EFle.row (ds:=[_,_,_,_,_]) ⟨.inl O,.inl O,.inl O,.inr ⟨O,O⟩,.inl O,T⟩,EFle.refl _,EFle.refl _,T⟩)<|qF<|zO O<|zL kT (J 0 O) O<|N 2 sz27 O<|W<|zO O<|Y O<|qB O ⟨by omega,by omega⟩<|Y O<|W ?_
    refine ⟨⟨n+1,mrgS q (prG (prsV q) k_)⟩,⟨hXq.mrg _,mrg_step (p:=p) hq hpk,by have:=zJk hpk;omega⟩,(by have:=zJk hpk;show (mrgS q _).Defs.length<q.Defs.length;omega),Weak.mk [false,true,true] ⟨U,U,U,T⟩ O⟩
end Go.W
end
section
set_option maxRecDepth 10000
namespace Go.W
open Go Go.Eng Go.Proofs Go.L41 Go.Br
attribute [local irreducible] AWP RWP TD finQ
theorem x1P_sm:x1P.Sm:=⟨by decide,by decide,by decide,by decide,by decide,⟨(fun c hc=>by cases hc),(by decide+kernel),(by decide+kernel)⟩,(by decide+kernel),(by decide+kernel)⟩
theorem x2P_sm:x2P.Sm:=⟨by decide,by decide,by decide,by decide,by decide,⟨(fun c hc=>by cases hc),(by decide+kernel),(by decide+kernel)⟩,(by decide+kernel),(by decide+kernel)⟩
def x1D:Cl:=⟨smX,[],0,2⟩
theorem x1_cnd:(cndP x1P).map Cl.dcells=[x1D].map Cl.dcells:=by
  have h:(repC x1P.Defs).map (fun c=>(c.e,c.n))=[(smX,2)]:=x1_rep
  have h0:cndP x1P=repC x1P.Defs:=if_pos (by decide+kernel)
  rw [h0]
  cases hr:repC x1P.Defs with
  |nil=>rw [hr] at h;cases h
  |cons c r=>
    cases r with
    |cons _ _=>rw [hr] at h;have:=congrArg List.length h;simp at this
    |nil=>
      rw [hr] at h
      simp only [List.map_cons,List.map_nil,List.cons.injEq,Prod.mk.injEq,and_true] at h
      simp only [List.map_cons,List.map_nil,Cl.dcells,h.1,h.2];rfl
theorem a2s55:arr2S Tryz.prog 55=true:=by kernel_rfl
theorem fd46_1:fieldT Tryz.prog 46 1=some (13,3):=by kernel_rfl
theorem ok8:callOk Tryz.prog 8=true:=by kernel_rfl
theorem ok9:callOk Tryz.prog 9=true:=by kernel_rfl
theorem ok10:callOk Tryz.prog 10=true:=by kernel_rfl
theorem ok13:callOk Tryz.prog 13=true:=by kernel_rfl
theorem ok15:callOk Tryz.prog 15=true:=by kernel_rfl
theorem ok18:callOk Tryz.prog 18=true:=by kernel_rfl
theorem ok19:callOk Tryz.prog 19=true:=by kernel_rfl
theorem ok27:callOk Tryz.prog 27=true:=by kernel_rfl
theorem ok28:callOk Tryz.prog 28=true:=by kernel_rfl
theorem ok29:callOk Tryz.prog 29=true:=by kernel_rfl
theorem pl67:placesT Tryz.prog 67=some [(0,1),(1,5),(6,1)]:=by kernel_rfl
theorem law20_Small (p:Pg) (hf:p.Fit):
    Pur cfg 8 [vPg p] (vB (smlP p)):=by
 refine zS Tryz.func8 O Tryz.ntmps8 Tryz.results8 O ?_
 intro z hz
 have hN:smD p.Defs 0=smD p.Defs 0:=rfl
 generalize hN0:smD p.Defs 0=N at hN
 have f1:=hf.sizes
 have f2:=hf.wh
 have f3:=hf.params
 have f4:=hf.defs
 have f5:=hf.outs
 refine G O<|zU O O (qI O O) ?_
 rintro _ _ ⟨b1,rfl,rfl⟩
 refine Y O<|W<|zH<|G O<|zE O wZ<|zI zCf (J 0 O) O<|zT O el24<|qC O (yG O O O)<|Y O<|rL0 O (fun g1_4=>zD O yK O) O<|rL1 11 O (fun g1_4=>zG O kU O (J 0 O) O) O<|rL1 12 O (fun g1_4=>qP O el25 O) O<|rL1 13 O (fun g1_4=>yG O O O) O<|r_or O (fun h=>(lzf h))<|Y O<|rL0 O (fun g1_10=>zD O zEc O) O<|rL1 17 O (fun g1_10=>zG O zAu O (J 0 O) O) O<|rL1 18 O (fun g1_10=>qP O r O) O<|rL1 19 O (fun g1_10=>yG O O O) O<|r_or O (fun h=>(lzf h))<|Y O<|rL0 O (fun g1_16=>zD O zCa O) O<|rL1 23 O (fun g1_16=>zG O zAu O (J 0 O) O) O<|rL1 24 O (fun g1_16=>qP O r O) O<|rL1 25 O (fun g1_16=>yG O O O) O<|r_or O (fun h=>(lzf h))<|Y O<|rL0 O (fun g1_22=>zD O zGi O) O<|rL1 29 O (fun g1_22=>zG O one23 O (J 0 O) O) O<|rL1 30 O (fun g1_22=>qP O el23 O) O<|rL1 31 O (fun g1_22=>yG O O O) O<|r_or O (fun h=>(lzf h))<|W<|zF O (fun c1=>?_) (fun c1=>?_)
 ·try simp only [sx] at c1
  refine G O<|Y O<|W<|zK<|zP O ?_
  rw [show smlP p=false by unfold smlP lensP;simp only [Bool.and_eq_false_iff,Bool.not_eq_false',decide_eq_true_eq,decide_eq_false_iff_not];omega]
 ·try simp only [sx] at c1
  refine zJ<|G O<|Y O<|W<|zH<|G O<|Y O<|W<|zN<|zV ⟨[(4,.c _),(3,.c _),(1,.c _)],[_]⟩ (Weak.mk [true] ⟨U,U,U,T⟩ O)<|zY 2 0 O O (Nat×Nat) (fun ⟨k,n⟩=>[(4,vI k),(3,vI n)]) (fun ⟨k,n⟩=>[]) (fun ⟨k,n⟩=>k<=p.Defs.length/\(N=smD (p.Defs.drop k) n)) (fun ⟨k,n⟩=>p.Defs.length-k) ⟨⟨0,0⟩,⟨by omega,hN0.symm⟩,Weak.mk [true] ⟨U,U,U,T⟩ O⟩ ?_
  rintro ⟨k,n⟩ ⟨hk,hq⟩
  show AWP _ _ _ _ _ ⟨[(4,vI k),(3,vI n)]++_,[]++_⟩
  refine zH<|G O<|Y O<|zE O yK<|zI kU (J 0 O) O<|zT O el25<|qW O<|Y O<|rL0 O (fun g5_5=>zQ O O) O<|rL1 40 O (fun g5_5=>kW O O O) O<|yZ O (fun h=>h)<|W<|zF O (fun c2=>?_) (fun c2=>?_)
  ·try simp only [sx] at c2
   obtain ⟨d,hd⟩:=qO p.Defs k (by omega)
   obtain ⟨e1,e2,_,_,e5⟩:=hf.ds d (zW hd)
   have e6:=zNh d.Body 1500 e5
   refine zJ<|zH<|zN<|zH<|qS 18 mixed (by kernel_rfl) O O<|zM O O (zQ O O)<|zM O O (zD O yK O)<|zM O O (zG O kU O (J 0 O) O)<|zM O O (zQ O O)<|zM O O (qE O el25 O O (by omega) (getm hd))<|zM O O (qN O zAm O)<|zM O O (zG O kP O zX O)<|zM O O (qP O el61 O)<|zM O O (zD O yK O)<|zM O O (zG O kU O (J 0 O) O)<|zM O O (zQ O O)<|zM O O (qE O el25 O O (by omega) (getm hd))<|zM O O (qN O zAd O)<|zM O O (zG O kP O zX O)<|zM O O (qP O el61 O)<|zM O O (zEy O O O ⟨by omega,by omega⟩)<|zM O O (zEy O O O ⟨by omega,by omega⟩)<|zM O O (yT O O)<|yJ<|W<|zO O<|Y O<|zE O yK<|zI kU (J 0 O) O<|Y O<|zZ O el25 (by omega) (getm hd)<|qU O zAw<|zL qZ zX O<|qK O ok26 (base_Weigh d.Body 1500 1500 (hf.ds d (zW hd)).2.2.2.2 (by decide) O) ⟨U,O,U,O,T⟩<|qB O ⟨by omega,by omega⟩<|Y O<|W<|zO O<|Y O<|qB O ⟨by omega,by omega⟩<|Y O<|W ?_
   refine ⟨⟨k+1,n+dWt d⟩,⟨by omega,smD_next hd hq (by omega)⟩,(by show p.Defs.length-(k+1)<p.Defs.length-k;omega),Weak.mk [true] ⟨U,VLe.of_eq ((congrArg vI (by unfold dWt;omega))),U,T⟩ O⟩
  ·try simp only [sx] at c2
   have hn:=smD_end hq (by omega)
   refine qF<|zH<|G O<|Y O<|W<|zN<|zV ⟨[(5,.c _),(3,.c _),(1,.c _)],[_]⟩ (Weak.mk [true] ⟨U,U,U,T⟩ O)<|zY 2 0 O O (Nat×Nat) (fun ⟨j,m⟩=>[(5,vI j),(3,vI m)]) (fun ⟨j,m⟩=>[]) (fun ⟨j,m⟩=>j<=p.Params.length/\(smP p.Params n=smP (p.Params.drop j) m)) (fun ⟨j,m⟩=>p.Params.length-j) ⟨⟨0,n⟩,⟨by omega,O⟩,Weak.mk [true] ⟨U,U,U,T⟩ O⟩ ?_
   rintro ⟨j,m⟩ ⟨hj,hr⟩
   show AWP _ _ _ _ _ ⟨[(5,vI j),(3,vI m)]++_,[]++_⟩
   refine zH<|G O<|Y O<|zE O wZ<|zI zCf (J 0 O) O<|zT O el24<|qW O<|Y O<|rL0 O (fun g10_5=>zQ O O) O<|rL1 77 O (fun g10_5=>kW O O O) O<|yZ O (fun h=>h)<|W<|zF O (fun c3=>?_) (fun c3=>?_)
   ·try simp only [sx] at c3
    obtain ⟨y,hy⟩:=qO p.Params j (by omega)
    have e1:=(hf.ps y (zW hy)).1
    refine zJ<|zH<|zN<|zO O<|Y O<|zE O wZ<|zI zCf (J 0 O) O<|Y O<|zZ O el24 (by omega) (getm hy)<|qU O zFo<|zI zAg zX O<|zT O el65<|qB O ⟨by omega,by omega⟩<|Y O<|W<|zO O<|Y O<|qB O ⟨by omega,by omega⟩<|Y O<|W ?_
    refine ⟨⟨j+1,m+y.Dims.length⟩,⟨by omega,smP_next hy hr (by omega)⟩,(by show p.Params.length-(j+1)<p.Params.length-j;omega),Weak.mk [true] ⟨U,VLe.of_eq ((congrArg vI (by omega))),U,T⟩ O⟩
   ·try simp only [sx] at c3
    have hm:=smP_end hr (by omega)
    refine qF<|G O<|Y O<|qC O (kW O O O)<|Y O<|W<|zK<|zP O ?_
    rw [show smlP p=decide (m<=1500) by unfold smlP;rw [show lensP p=true by unfold lensP;simp only [Bool.and_eq_true,Bool.not_eq_true',decide_eq_false_iff_not];omega,hN0,hn,hm,Bool.true_and]]
    exact congrArg vB (decide_eq_decide.2 (by omega))
theorem zBr (s i:ByteArray) (hi:isNameB i=true):
    Pur cfg 27 [vS s,vS i] (vE (rdX2 s i)):=by
 refine zS Tryz.func27 O Tryz.ntmps27 Tryz.results27 O ?_
 intro z hz
 refine G O<|zU O O (qD [none,none,none,none,none,none,none,none,none,none,some 2,some 4,some 13] O zr44 O) ?_
 rintro _ _ ⟨b1,rfl,rfl⟩
 refine W<|G O<|Y O<|Y O<|qK O ok65 (show Pur cfg 65 [vS i] (vLin ⟨0,[⟨i,1⟩]⟩) by have h:=zDc i;rw [show varL i=⟨0,[⟨i,1⟩]⟩ by unfold varL;rw [hi];rfl] at h;exact h) ⟨U,O,T⟩<|qC O (kG [none,none,none,some 2] O zBx pl115 O O)<|qX O D zBx<|qC O (kG [none,none,none,none,none,none,none,none,none,none,some 2,none,some 13] O zr44 pl44 O O)<|N 0 sz44 O<|W<|zK<|fin1 (qH qZ O (J 0 O) O) ?_
 exact O
theorem zJm (l:List Df):
    Pur cfg 28 [.c (.sl 22 (l.map Df.cells))] (vPg (pgX l)):=by
 refine zS Tryz.func28 O Tryz.ntmps28 Tryz.results28 O ?_
 intro z hz
 refine G O<|zU O O (qD [some 1,some 3,some 7,some 22,some 1] O zr27 O) ?_
 rintro _ _ ⟨b1,rfl,rfl⟩
 refine W<|G O<|yX O zr37 pl37<|zU O O (yE O zr37) ?_
 rintro _ _ ⟨b2,rfl,rfl⟩
 refine N 0 sz37 O<|W<|G O<|qK O ok65 (show Pur cfg 65 [vS (bs [110])] (vLin lnN) by have h:=zDc (bs [110]);rw [show varL (bs [110])=lnN by decide+kernel] at h;exact h) ⟨U,O,T⟩<|qX O el65 zr40<|Y O<|W<|G O<|qX O r zr9<|zL yB (J 0 O) O<|Y O<|yX O zr67 pl67<|zL yB (J 0 O) O<|Y O<|yX O zr67 pl67<|qX O el24 zr67<|Y O<|qX O r zr9<|qC O (kG [none,some 3,none,none,none] O zr27 pl27 O O)<|N 1 sz27 O<|W<|zK<|fin1 (qH kT O (J 1 O) O) ?_
 exact O
theorem zJn (s i:ByteArray) (x:Ex):
    Pur cfg 29 [vS s,vS i,vE x] (vDf (dfX s i x)):=by
 refine zS Tryz.func29 O Tryz.ntmps29 Tryz.results29 O ?_
 intro z hz
 refine G O<|zU O O (qI O O) ?_
 rintro _ _ ⟨b1,rfl,rfl⟩
 refine zU O O (qD [none,none,none,none,none,none,some 3,some 3,none,none,none,none,none,none,none,none,none,none,none,some 2,some 4,some 13] O zr63 O) ?_
 rintro _ _ ⟨b2,rfl,rfl⟩
 refine W<|zH<|qS 8 mixed (by kernel_rfl) O O<|zM O O (zQ O O)<|zM O O (kZ O zr37 pl37 O)<|zM O O (zQ O O)<|zM O O (qG O ok65 (show Pur cfg 65 [vS (bs [110])] (vLin lnN) by have h:=zDc (bs [110]);rw [show varL (bs [110])=lnN by decide+kernel] at h;exact h) ⟨U,O,T⟩)<|zM O O (kZ O zIr pl111 O)<|zM O O (wK O el61 zIr O O O O)<|zM O O (zR O qZ O (J 1 O) O)<|zM O O (kG [none,none,none,none,none,none,none,some 3,none,none,none,none,none,none,none,none,none,none,none,none,none,none] O zr63 pl63 O O)<|yJ<|N 0 sz63 O<|W<|zK<|fin1 (qH wP O (J 0 O) O) ?_
 exact O
theorem zHs  :
    Pur cfgI 9 [] (vB true):=by
 refine zS Tryz.func9 O Tryz.ntmps9 Tryz.results9 O ?_
 intro z hz
 refine G O<|Y O<|W<|G O<|qK O ok27 (upI (zBr (bs [97]) (bs [105]) (by decide))) ⟨U,O,U,O,T⟩<|qK O ok27 (upI (zBr (bs [99]) (bs [105]) (by decide))) ⟨U,O,U,O,T⟩<|qX O el42 zr44<|qC O (kG [none,none,none,none,none,none,none,none,none,none,some 2,some 4,none] O zr44 pl44 O O)<|zU O O (qD [none,none,none,none,none,none,none,none,none,none,some 2,some 4,some 13] O zr44 O) ?_
 rintro _ _ ⟨b1,rfl,rfl⟩
 refine N 0 sz44 O<|W<|G O<|zL qZ (J 0 O) O<|zL qZ (J 0 O) O<|qX O el42 zr44<|qC O (kG [none,none,none,none,none,none,none,none,none,none,some 2,some 4,none] O zr44 pl44 O O)<|qK O ok29 (upI (zJn (bs [98]) (bs [105]) (ndX 6 [smX,smX]))) ⟨U,O,U,O,U,O,T⟩<|qX O el25 zr63<|qK O ok28 (upI (zJm [dfX (bs [98]) (bs [105]) (ndX 6 [smX,smX])])) ⟨U,O,T⟩<|zU O O (qD [some 1,some 3,some 7,some 22,some 1] O zr27 O) ?_
 rintro _ _ ⟨b2,rfl,rfl⟩
 refine N 0 sz27 O<|W<|G O<|zL kT (J 0 O) O<|qK O ok13 (show Pur cfgI 13 [vPg x1P,vI 5] (.tup [vPg x1Q,vI 1]) by have h:=cse_Extract x1P x1P_sm.xt 5;rw [x1_extract] at h;exact h) ⟨U,O,U,O,T⟩<|qC O (yD O O)<|qC O (yW O O O)<|qC O (yL O O O)<|zU O O (qD [some 1,some 3,some 7,some 22,some 1] O zr27 O) ?_
 rintro _ _ ⟨b3,rfl,rfl⟩
 refine N 0 sz27 O<|Y O<|W<|G O<|qK O ok27 (upI (zBr (bs [97]) (bs [106]) (by decide))) ⟨U,O,U,O,T⟩<|qX O el42 zr44<|qC O (kG [none,none,none,none,none,none,none,none,none,none,some 2,some 4,none] O zr44 pl44 O O)<|zU O O (qD [none,none,none,none,none,none,none,none,none,none,some 2,some 4,some 13] O zr44 O) ?_
 rintro _ _ ⟨b4,rfl,rfl⟩
 refine N 0 sz44 O<|W<|G O<|qK O ok27 (upI (zBr (bs [117]) (bs [105]) (by decide))) ⟨U,O,U,O,T⟩<|qK O ok27 (upI (zBr (bs [118]) (bs [105]) (by decide))) ⟨U,O,U,O,T⟩<|qX O el42 zr44<|qC O (kG [none,none,none,none,none,none,none,none,none,none,some 2,some 4,none] O zr44 pl44 O O)<|zU O O (qD [none,none,none,none,none,none,none,none,none,none,some 2,some 4,some 13] O zr44 O) ?_
 rintro _ _ ⟨b5,rfl,rfl⟩
 refine N 0 sz44 O<|W<|zH<|wR 16 1 [⟨0,.q []⟩,⟨1,.q []⟩,⟨2,.q []⟩,⟨3,.q []⟩,⟨4,.q [2]⟩,⟨5,.q []⟩,⟨6,.q [1]⟩,⟨7,.q []⟩,⟨8,.q []⟩,⟨9,.q []⟩,⟨10,.q []⟩,⟨11,.q []⟩,⟨12,.q []⟩,⟨13,.q []⟩,⟨14,.e 0 []⟩,⟨15,.e 0 []⟩] mixed (by kernel_rfl) (by kernel_rfl) O O O<|qL O<|qL O<|qL O<|qL O<|qL O<|qL O<|qL O<|qL O<|qL O<|qL O<|qL O<|qL O<|qL O<|qL O<|qL O<|qL O<|zFn<|qR O (by decide) O O (qG O ok27 (upI (zBr (bs [97]) (bs [105]) (by decide))) ⟨U,O,U,O,T⟩)<|qR O (by decide) O O (wK O el42 zr44 O O O O)<|qR O (by decide) O O (kG [none,none,none,none,none,none,none,none,none,none,some 2,some 4,none] O zr44 pl44 O O)<|qR O (by decide) O O (qG O ok29 (upI (zJn (bs [117]) (bs [105]) (ngX 105))) ⟨U,O,U,O,U,O,T⟩)<|qR O (by decide) O O (zR O qZ O (J 0 O) O)<|qR O (by decide) O O (qG O ok29 (upI (zJn (bs [118]) (bs [106]) (ngX 106))) ⟨U,O,U,O,U,O,T⟩)<|qR O (by decide) O O (zR O qZ O (J 0 O) O)<|qR O (by decide) O O (qG O ok29 (upI (zJn (bs [98]) (bs [105]) (ndX 4 [rdX2 (bs [117]) (bs [105]),rdX2 (bs [118]) (bs [105])]))) ⟨U,O,U,O,U,O,T⟩)<|qR O (by decide) O O (wK O el25 zr63 O O O O)<|qR O (by decide) O O (qG O ok28 (upI (zJm [dfX (bs [117]) (bs [105]) (ngX 105),dfX (bs [118]) (bs [106]) (ngX 106),dfX (bs [98]) (bs [105]) (ndX 4 [rdX2 (bs [117]) (bs [105]),rdX2 (bs [118]) (bs [105])])])) ⟨U,O,T⟩)<|qR O (by decide) O O (qG O ok18 (show Pur cfgI 18 [vPg x2P] (.tup [vPg x2Q,vI 1]) by have h:=upI (cse_Merge x2P 0 x2P_sm.xt (by decide));rw [x2_merge] at h;exact h) ⟨U,O,T⟩)<|qR O (by decide) O O (yD O O)<|qR O (by decide) O O (yW O O O)<|qR O (by decide) O O (yL O O O)<|sq_op O O (by decide) O O (qD [some 1,some 3,some 7,some 22,some 1] O zr27 O) ?_
 rintro _ _ ⟨b6,rfl,rfl⟩
 refine ⟨_,O,?_⟩
 refine sq_op0 O O (by decide) O O (wG O sz27 O O O (zHm 0 O O)) ?_
 rintro _ _ ⟨rfl,rfl⟩
 refine ⟨_,O,?_⟩
 refine zFj O<|Y O<|W<|G O<|zL kT (J 4 O) O<|qK O ok10 (OwnR.pur (show OwnR cfgI 10 [vPg x1P] 46 14 ([x1D].map Cl.dcells) by have h:=upI (cse_Candidates x1P 0 x1P_sm.xt (by decide));rw [x1_cnd] at h;exact h)) ⟨U,O,T⟩<|Y O<|W<|zH<|G O<|Y O<|yO O<|Y O<|rL0 O (fun g8_2=>zD O yK O) O<|rL1 52 O (fun g8_2=>zG O kU O (J 3 O) O) O<|rL1 53 O (fun g8_2=>qP O el25 O) O<|rL1 54 O (fun g8_2=>wA O O O) O<|r_or O (fun h=>(lzf h))<|Y O<|rL0 O (fun g8_8=>zQ O O) O<|rL1 58 O (fun g8_8=>wA O O O) O<|r_or O (fun h=>(lzf h))<|Y O<|rL0 O (fun g8_12=>zD O yK O) O<|rL1 62 O (fun g8_12=>zG O kU O (J 0 O) O) O<|rL1 63 O (fun g8_12=>qP O el25 O) O<|rL1 64 O (fun g8_12=>wA O O O) O<|r_or O (fun h=>(lzf h))<|Y O<|rL0 O (fun g8_18=>zQ O O) O<|rL1 68 O (fun g8_18=>qP O el30 O) O<|rL1 69 O (fun g8_18=>wA O O O) O<|r_or O (fun h=>(lzf h))<|Y O<|rL0 O (fun g8_23=>zD O yK O) O<|rL1 73 O (fun g8_23=>zG O kU O (J 3 O) O) O<|rL1 74 O (fun g8_23=>qE O el25 O O (by decide) O) O<|rL1 75 O (fun g8_23=>qN O zAw O) O<|rL1 76 O (fun g8_23=>qN O kB O) O<|rL1 77 O (fun g8_23=>zG O wT O zX O) O<|rL1 78 O (fun g8_23=>qP O el42 O) O<|rL1 79 O (fun g8_23=>wA O O O) O<|r_or O (fun h=>(lzf h))<|Y O<|rL0 O (fun g8_33=>zD O yK O) O<|rL1 83 O (fun g8_33=>zG O kU O (J 0 O) O) O<|rL1 84 O (fun g8_33=>qE O el25 O O (by decide) O) O<|rL1 85 O (fun g8_33=>qN O zAw O) O<|rL1 86 O (fun g8_33=>qN O kB O) O<|rL1 87 O (fun g8_33=>zG O wT O zX O) O<|rL1 88 O (fun g8_33=>qP O el42 O) O<|rL1 89 O (fun g8_33=>wA O O O) O<|r_or O (fun h=>(lzf h))<|W<|zF O (fun c1=>?_) (fun c1=>?_)
 ·try simp only [sx] at c1
  exact absurd c1 (by decide+kernel)
 ·try simp only [sx] at c1
  refine zJ<|zH<|qS 47 mixed (by kernel_rfl) O O<|zM O O (zQ O O)<|zM O O (qE O el30 O O (by decide) O)<|zM O O (qN O fd46_1 O)<|zM O O (zG O one3 O zX O)<|zM O O (yM O O O)<|zM O O (zQ O O)<|qA [] O O O O gv1 T (fun g10_5=>zD O yK O) O<|qA [(98,_)] O O O O gv1 ⟨O,O,T⟩ (fun g10_5=>zG O kU O (J 3 O) O) O<|qA [(99,_)] O O O O gv1 ⟨O,O,T⟩ (fun g10_5=>qE O el25 O O (by decide) O) O<|qA [(100,_)] O O O O gv1 ⟨O,O,T⟩ (fun g10_5=>qN O zDd O) O<|qA [(101,_)] O O O O gv1 ⟨O,O,T⟩ (fun g10_5=>zG O one9 O zX O) O<|qA [(102,_)] O O O O gv1 ⟨O,O,T⟩ (fun g10_5=>zMz O O O) O<|zM O O (kX O O O (fun h=>h) O)<|zM O O (zQ O O)<|qA [] O O O O gv1 T (fun g10_13=>zD O yK O) O<|qA [(106,_)] O O O O gv1 ⟨O,O,T⟩ (fun g10_13=>zG O kU O (J 3 O) O) O<|qA [(107,_)] O O O O gv1 ⟨O,O,T⟩ (fun g10_13=>qE O el25 O O (by decide) O) O<|qA [(108,_)] O O O O gv1 ⟨O,O,T⟩ (fun g10_13=>qN O zAw O) O<|qA [(109,_)] O O O O gv1 ⟨O,O,T⟩ (fun g10_13=>zR O qZ O zX O) O<|qA [] O O O O gv1 T (fun g10_13=>zR O qZ O (J 5 O) O) O<|qA [(110,_),(111,_)] O O O O gv1 ⟨O,O,O,O,T⟩ (fun g10_13=>qG O ok12 (upI (zKa smX smX (by decide+kernel))) ⟨U,O,U,O,T⟩) O<|zM O O (kX O O O (fun h=>h) O)<|zM O O (zQ O O)<|qA [] O O O O gv1 T (fun g10_22=>zD O yK O) O<|qA [(115,_)] O O O O gv1 ⟨O,O,T⟩ (fun g10_22=>zG O kU O (J 3 O) O) O<|qA [(116,_)] O O O O gv1 ⟨O,O,T⟩ (fun g10_22=>qE O el25 O O (by decide) O) O<|qA [(117,_)] O O O O gv1 ⟨O,O,T⟩ (fun g10_22=>qN O zAw O) O<|qA [(118,_)] O O O O gv1 ⟨O,O,T⟩ (fun g10_22=>qN O kB O) O<|qA [(119,_)] O O O O gv1 ⟨O,O,T⟩ (fun g10_22=>zG O wT O zX O) O<|qA [(120,_)] O O O O gv1 ⟨O,O,T⟩ (fun g10_22=>qE O el42 O O (by decide) O) O<|qA [(121,_)] O O O O gv1 ⟨O,O,T⟩ (fun g10_22=>zR O qZ O zX O) O<|qA [] O O O O gv1 T (fun g10_22=>qG O ok27 (upI (zBr (bs [116,48]) (bs [105]) (by decide))) ⟨U,O,U,O,T⟩) O<|qA [(122,_),(123,_)] O O O O gv1 ⟨O,O,O,O,T⟩ (fun g10_22=>qG O ok12 (upI (zKa (rdX2 (bs [116,48]) (bs [105])) (rdX2 (bs [116,48]) (bs [105])) (by decide+kernel))) ⟨U,O,U,O,T⟩) O<|zM O O (kX O O O (fun h=>h) O)<|zM O O (zQ O O)<|qA [] O O O O gv1 T (fun g10_34=>zD O yK O) O<|qA [(127,_)] O O O O gv1 ⟨O,O,T⟩ (fun g10_34=>zG O kU O (J 0 O) O) O<|qA [(128,_)] O O O O gv1 ⟨O,O,T⟩ (fun g10_34=>qE O el25 O O (by decide) O) O<|qA [(129,_)] O O O O gv1 ⟨O,O,T⟩ (fun g10_34=>qN O zAw O) O<|qA [(130,_)] O O O O gv1 ⟨O,O,T⟩ (fun g10_34=>qN O kB O) O<|qA [(131,_)] O O O O gv1 ⟨O,O,T⟩ (fun g10_34=>zG O wT O zX O) O<|qA [(132,_)] O O O O gv1 ⟨O,O,T⟩ (fun g10_34=>qE O el42 O O (by decide) O) O<|qA [(133,_)] O O O O gv1 ⟨O,O,T⟩ (fun g10_34=>zR O qZ O zX O) O<|qA [] O O O O gv1 T (fun g10_34=>qG O ok27 (upI (zBr (bs [117]) (bs [105]) (by decide))) ⟨U,O,U,O,T⟩) O<|qA [(134,_),(135,_)] O O O O gv1 ⟨O,O,O,O,T⟩ (fun g10_34=>qG O ok12 (upI (zKa (rdX2 (bs [117]) (bs [105])) (rdX2 (bs [117]) (bs [105])) (by decide+kernel))) ⟨U,O,U,O,T⟩) O<|zM O O (kX O O O (fun h=>h) O)<|zM O O (yT O O)<|yJ<|W<|zK<|zP O ?_
  exact O
theorem law_CseMerges (p:Pg) (hp:p.Fit) (hF:p.Frm):
    Pur cfgI 5 [vPg p] (vB true):=by
 refine zS Tryz.func5 O Tryz.ntmps5 Tryz.results5 O ?_
 intro z hz
 refine G O<|zU O O (qI O O) ?_
 rintro _ _ ⟨b1,rfl,rfl⟩
 refine Y O<|W<|zH<|G O<|zL kT (J 0 O) O<|qK O ok8 (upI (law20_Small p hp)) ⟨U,O,T⟩<|wF O<|W<|zF O (fun c1=>?_) (fun c1=>?_)
 ·try simp only [sx] at c1
  refine G O<|qK O ok9 zHs T<|Y O<|W<|zK<|zP O ?_
  exact O
 ·try simp only [sx] at c1
  have hS:=sml_is c1 hF
  have hX:=hS.xt
  have hP:=hX.ok (by decide)
  have hdl:=hX.defs
  have hol:=hX.outs
  have hpl:=prs_len p
  refine zJ<|zH<|qS 6 mixed (by kernel_rfl) O O<|zM O O (zR O kT O (J 0 O) O)<|zM O O (qG O ok16 (OwnR.pur (upI (zHv p 0 hX (by decide)))) ⟨U,O,T⟩)<|zM O O (zR O kT O (J 0 O) O)<|zM O O (qG O ok17 (OwnR.pur (upI (zHp p 0 hX (by decide)))) ⟨U,O,T⟩)<|zM O O (yT O O)<|zM O O (yT O O)<|yJ<|W<|zH<|G O<|Y O<|zT O el53<|Y O<|zT O el53<|yO O<|W<|zF O (fun c2=>?_) (fun c2=>?_)
  ·try simp only [sx] at c2
   exact absurd T c2
  ·try simp only [sx] at c2
   refine zJ<|zH<|G O<|Y O<|W<|zN<|zV ⟨[(5,.c _),(1,.c _),(3,.c _),(4,.c _)],[_]⟩ (Weak.mk [true] ⟨U,U,U,U,T⟩ O)<|zY 1 0 O O (Nat) (fun k=>[(5,vI k)]) (fun k=>[]) (fun k=>k<=(prsV p).length) (fun k=>(prsV p).length-k) ⟨0,(by omega),Weak.mk [true] ⟨U,U,U,U,T⟩ O⟩ ?_
   rintro k hk
   refine zH<|G O<|Y O<|Y O<|zT O el53<|qW O<|W<|zF O (fun c3=>?_) (fun c3=>?_)
   ·try simp only [sx] at c3
    obtain ⟨q,hq⟩:=qO (prsV p) k (by omega)
    refine zJ<|zH<|zN<|zH<|qS 9 mixed (by kernel_rfl) O O<|zM O O (zQ O O)<|zM O O (zQ O O)<|zM O O (qE O el53 O O (by omega) (getm hq))<|zM O O (zR O agg55 O zX O)<|zM O O (zQ O O)<|zM O O (zQ O O)<|zM O O (qE O el53 O O (by omega) (getm hq))<|zM O O (zR O agg55 O zX O)<|zM O O (det_aneq_two O a2s55 O O)<|yJ<|W<|zF O (fun c4=>?_) (fun c4=>?_)
    ·try simp only [sx] at c4
     exact absurd c4 (by simp)
    ·try simp only [sx] at c4
     refine zJ<|zO O<|Y O<|qB O ⟨by omega,by omega⟩<|Y O<|W ?_
     refine ⟨k+1,(by omega),(by omega),Weak.mk [true] ⟨U,U,U,U,T⟩ O⟩
   ·try simp only [sx] at c3
    refine qF<|G O<|zL kT (J 0 O) O<|qK O ok18 (upI (cse_Merge p 0 hX (by decide))) ⟨U,O,T⟩<|qC O (yD O O)<|qC O (yW O O O)<|qC O (yL O O O)<|zU O O (qD [some 1,some 3,some 7,some 22,some 1] O zr27 O) ?_
    rintro _ _ ⟨b2,rfl,rfl⟩
    refine N 0 sz27 O<|Y O<|W<|G O<|zL kT (J 1 O) O<|qK O ok19 (upI (r23_Merge p 0 hX (by decide))) ⟨U,O,T⟩<|qC O (yD O O)<|qC O (yW O O O)<|qC O (yL O O O)<|zU O O (qD [some 1,some 3,some 7,some 22,some 1] O zr27 O) ?_
    rintro _ _ ⟨b3,rfl,rfl⟩
    refine N 0 sz27 O<|Y O<|W<|G O<|zL kT (J 1 O) O<|zL kT (J 0 O) O<|qK O ok15 (upI (base_ProgF (mrgP p).1 (mrgP p).1 ((mrgP_xt hX).ok (by decide)))) ⟨U,O,U,O,T⟩<|Y O<|rL0 O (fun g13_3=>zQ O O) O<|rL0 O (fun g13_3=>zQ O O) O<|rLz [(52,_),(53,_)] O gv1 ⟨O,O,O,O,T⟩ (fun g13_3=>yM O O O) O<|yZ O (fun h=>h)<|Y O<|rL0 O (fun g13_8=>qG O ok9 zHs T) O<|yZ O (fun h=>h)<|Y O<|W<|zK<|zP O ?_
    exact congrArg vB (by simp)
end Go.W
end
