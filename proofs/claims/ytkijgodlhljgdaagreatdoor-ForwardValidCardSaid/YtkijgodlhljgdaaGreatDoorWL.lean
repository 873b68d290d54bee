/-
  Walks: what functions of the program compute. Printed by wip/gen/mk2.py.
  Conditions: none.
-/
import Derived.Test.YtkijgodlhljgdaaGreatDoorWK
import Derived.Test.YtkijgodlhljgdaaGreatDoorProg17M
set_option linter.unusedSimpArgs false
set_option linter.unusedVariables false
set_option maxRecDepth 10000
namespace Go.W
open Go Go.Eng Go.Proofs Go.L41 Go.Br
attribute [local irreducible] AWP RWP TD finQ
theorem kO:aggT Tryz.prog 27=some 5:=by kernel_rfl
theorem zLd:aggT Tryz.prog 65=some 7:=by kernel_rfl
theorem agg93:aggT Tryz.prog 93=some 3:=by kernel_rfl
theorem zIo:fieldT Tryz.prog 59 1=some (1,31):=by kernel_rfl
theorem zNp:fieldT Tryz.prog 65 0=some (0,9):=by kernel_rfl
theorem fd65_1:fieldT Tryz.prog 65 1=some (1,31):=by kernel_rfl
theorem zEm:fieldT Tryz.prog 65 2=some (6,63):=by kernel_rfl
theorem zHp:fieldT Tryz.prog 105 1=some (1,34):=by kernel_rfl
theorem fd113_0:fieldT Tryz.prog 113 0=some (0,27):=by kernel_rfl
theorem fd113_1:fieldT Tryz.prog 113 1=some (5,111):=by kernel_rfl
theorem zNt:fieldT Tryz.prog 138 1=some (5,111):=by kernel_rfl
theorem ok103:callOk Tryz.prog 103=true:=by kernel_rfl
theorem ok109:callOk Tryz.prog 109=true:=by kernel_rfl
theorem ok148:callOk Tryz.prog 148=true:=by kernel_rfl
theorem ok177:callOk Tryz.prog 177=true:=by kernel_rfl
theorem ok178:callOk Tryz.prog 178=true:=by kernel_rfl
theorem ok179:callOk Tryz.prog 179=true:=by kernel_rfl
theorem ok202:callOk Tryz.prog 202=true:=by kernel_rfl
theorem ok236:callOk Tryz.prog 236=true:=by kernel_rfl
theorem zKq:oneT Tryz.prog 111=true:=by kernel_rfl
theorem sm111:smapT Tryz.prog 111=some (Value.int IntKind.i64 0):=by kernel_rfl
theorem sm211:smapT Tryz.prog 211=some (Value.bool false):=by kernel_rfl
theorem sz31:(Tryz.prog.info? 31).map (·.size)=some 5:=by kernel_rfl
theorem sz65:(Tryz.prog.info? 65).map (·.size)=some 7:=by kernel_rfl
theorem zr65:zeroT Tryz.prog 65=some [(Value.string (ByteArray.mk #[])),(Value.int IntKind.i64 0),(Value.int IntKind.i64 0),(Value.int IntKind.i64 0),(Value.int IntKind.i64 0),(Value.int IntKind.i64 0),(Value.slice none 0 0)]:=by kernel_rfl
theorem zGa (b mb:Nat) (p:Pg) (m:Kn) (s:ByteArray) (k:Int):
    Con cfg 103 [vP b,vS s,vI k] (ckE b mb p m) fun r μ'=>r=vI (nameM m s)/\μ'=ckE b mb p (nameMap m s k):=by
 refine zT Tryz.func103 O Tryz.ntmps103 Tryz.results103 O ?_
 intro z hz
 refine B O<|G O<|U<|zI<|B O<|G O<|qK O ok176 (zDu _) ⟨Y,O,T⟩<|wB O<|U<|zE O (fun c1=>?_) (fun c1=>?_)
 ·try simp only [W] at c1
  refine B O<|G O<|U<|zH<|zQ O ?_
  exact ⟨by rw [nameM_bad c1],by rw [←nmap_bad (nameM_bad c1) (by decide)]⟩
 ·try simp only [W] at c1
  refine zJ<|zI<|B O<|G O<|zX O (yP O O)<|zG O zNt<|zK zKq (J 0 O) O<|G O<|zX O (zDd 1 (0:Int) O sm111 O O O (fun _ _=>CRep.lit _ O))<|yN O<|U<|zE O (fun c2=>?_) (fun c2=>?_)
  ·try simp only [W] at c2
   refine B O<|G O<|U<|zH<|zQ O ?_
   exact ⟨by rw [nameM_dup c1 c2],by rw [←nmap_bad (nameM_dup c1 c2) (by decide)]⟩
  ·try simp only [W] at c2
   refine zJ<|B O<|G O<|zX O (yP O O)<|zG O zNt<|zK zKq (J 0 O) O<|G O<|G O<|zIf O O (zGo 1 k O sm111 O O O (Y) O)<|U<|B O<|G O<|U<|zH<|zQ O ?_
   exact ⟨by rw [nameM_ok c1 c2],by rw [zJy (nameM_ok c1 c2)];rfl⟩
theorem zEz (b mb:Nat) (p:Pg) (m:Kn) (l:Lf) (hl:l.L.length<=5864062014805):
    Con cfg 178 [vP b,vLin l] (ckE b mb p m) fun r μ'=>r=vI (sizedM m l)/\μ'=ckE b mb p m:=by
 refine zT Tryz.func178 O Tryz.ntmps178 Tryz.results178 O ?_
 intro z hz
 refine B O<|zZ O O (qI O O) ?_
 rintro _ _ ⟨b1,rfl,rfl⟩
 refine G O<|U<|zI<|B O<|zL kK (J 0 O) O<|qK O ok162 (zFv l (by omega)) ⟨Y,O,T⟩<|yN O<|U<|zE O (fun c1=>?_) (fun c1=>?_)
 ·try simp only [W] at c1
  refine B O<|G O<|U<|zU _ (Weak.mem [false,true,true] O)<|zH<|zQ O ?_
  exact ⟨by rw [sized_arg (linErr_no c1)],O⟩
 ·try simp only [W] at c1
  refine zJ<|zI<|B O<|zG O wU<|zK zBv (J 0 O) O<|zY O el32<|G O<|U<|zP<|zU ⟨[(13,.c _),(0,.c _),(11,.c _),(12,.c _)],[_,_]⟩ (Weak.mk [false,true,true] ⟨Y,Y,Y,Y,T⟩ O)<|qF 1 0 O O (Nat) (fun k=>[(13,vI k)]) (fun k=>[]) (fun k=>k<=l.L.length/\(knL (fun s=>decide (kget m s=1)) (l.L.take k)=true)) (fun k=>l.L.length-k) ⟨0,⟨by omega,O⟩,Weak.mk [true,true] ⟨Y,Y,Y,Y,T⟩ O⟩ ?_
  rintro k ⟨hk,hp⟩
  refine B O<|yA O<|U<|zI<|zE O (fun c2=>?_) (fun c2=>?_)
  ·try simp only [W] at c2
   obtain ⟨x,hx⟩:=qQ l.L k (by omega)
   refine zJ<|zI<|zP<|B O<|qE O el32 (by omega) (getm (by assumption))<|zL zHa qB O<|zZ O O (yB O zr101) ?_
   rintro _ _ ⟨b2,rfl,rfl⟩
   refine N 0 sz101 O<|U<|zI<|qT 8 mixed (by kernel_rfl) O O<|zM O O (zR O O)<|zM O O (yP O O)<|zM O O (zD O zNt O)<|zM O O (zF O zKq O (J 1 O) O)<|zM O O (zD O zBj O)<|zM O O (zF O one9 O (J 0 O) O)<|zM O O (zDd 2 (0:Int) O sm111 O O O (fun _ _=>CRep.lit _ O))<|zM O O (zAk O O O)<|yM<|U<|zE O (fun c3=>?_) (fun c3=>?_)
   ·try simp only [W] at c3
    refine B O<|G O<|U<|zU _ (Weak.mem [false,true,true] O)<|zH<|zQ O ?_
    exact ⟨by rw [sized_nf (linErr_yes c1) (knF_no hx (yC c3))],O⟩
   ·try simp only [W] at c3
    refine zJ<|zS O<|qJ O ⟨by omega,by omega⟩<|G O<|U ?_
    refine ⟨k+1,⟨by omega,knF_next hx hp (kT c3)⟩,(by omega),Weak.mk [false,true,true] ⟨Y,Y,Y,Y,T⟩ O⟩
  ·try simp only [W] at c2
   refine qO<|B O<|G O<|U<|zH<|zQ O ?_
   exact ⟨by rw [qX (by omega)] at hp;rw [sized_ok (linErr_yes c1) hp],O⟩
theorem zIw (b mb:Nat) (p:Pg) (m:Kn) (x:Cn) (hl:x.Lin.L.length<=5864062014805):
    Con cfg 104 [vP b,vCn x] (ckE b mb p m) fun r μ'=>r=vI (sizedM m x.Lin)/\μ'=ckE b mb p m:=by
 refine zT Tryz.func104 O Tryz.ntmps104 Tryz.results104 O ?_
 intro z hz
 refine B O<|zZ O O (qI O O) ?_
 rintro _ _ ⟨b1,rfl,rfl⟩
 refine G O<|U<|zI<|B O<|zL agg93 (J 0 O) O<|qK O ok177 (zHq x hl) ⟨Y,O,T⟩<|yN O<|U<|zE O (fun c1=>?_) (fun c1=>?_)
 ·try simp only [W] at c1
  refine B O<|G O<|U<|zU _ (Weak.mem [false,true,true] O)<|zH<|zQ O ?_
  exact ⟨by rw [sized_arg (linErr_no c1)],O⟩
 ·try simp only [W] at c1
  refine zJ<|B O<|G O<|zG O fd93_0<|zL kK (J 0 O) O<|zX O (yR [1,1] O ok178 (zEz b mb p m x.Lin hl) ⟨Y,O,Y,O,T⟩ O)<|G O<|U<|zU _ (Weak.mem [false,true,true] O)<|zH<|zQ O ?_
  exact ⟨O,O⟩
theorem checker_param (b mb:Nat) (p:Pg) (m:Kn) (x:Pm) (hl:x.Dims.length<=4294967296) (hx0:∀l,l∈x.Dims->l.L.length<=5864062014805):
    Con cfg 105 [vP b,vPm x] (ckE b mb p m) fun r μ'=>r=vI (paramM m x)/\μ'=ckE b mb p (nameMap m x.Name 2):=by
 refine zT Tryz.func105 O Tryz.ntmps105 Tryz.results105 O ?_
 intro z hz
 refine B O<|zZ O O (qI O O) ?_
 rintro _ _ ⟨b1,rfl,rfl⟩
 refine G O<|U<|zI<|B O<|G O<|zG O zNp<|zK one9 (J 0 O) O<|zX O (yR [1,1] O ok103 (zGa b mb p m x.Name 2) ⟨Y,O,Y,O,Y,O,T⟩ O)<|G O<|U<|B O<|G O<|yN O<|U<|zE O (fun c1=>?_) (fun c1=>?_)
 ·try simp only [W] at c1
  refine B O<|G O<|G O<|U<|zU _ (Weak.mem [false,true,true] O)<|zH<|zQ O ?_
  exact ⟨by unfold paramM;rw [if_neg c1],O⟩
 ·try simp only [W] at c1
  refine zJ<|zI<|B O<|zG O fd65_1<|zL qZ (J 0 O) O<|zG O zEm<|zK zBa (J 0 O) O<|zY O el63<|yE O el209 zr3<|qK O ok179 (zFc x.T [(x.Dims.length:Int)] _ O (by simp)) ⟨Y,O,Y,O,T⟩<|G O<|U<|B O<|G O<|yN O<|U<|zE O (fun c2=>?_) (fun c2=>?_)
  ·try simp only [W] at c2
   have hP:=param_bad c1 c2
   refine B O<|G O<|G O<|U<|zU _ (Weak.mem [false,true,true] O)<|zH<|zQ O ?_
   exact ⟨by rw [hP],O⟩
  ·try simp only [W] at c2
   have hP:=param_ok c1 c2
   refine zJ<|zI<|B O<|zG O zEm<|zK zBa (J 0 O) O<|zY O el63<|G O<|U<|zP<|zU ⟨[(30,.c _),(0,.c _),(28,.c _),(29,.c _)],[_,_]⟩ (Weak.mk [false,true,true] ⟨Y,Y,Y,Y,T⟩ O)<|qF 1 0 O O (Nat) (fun k=>[(30,vI k)]) (fun k=>[]) (fun k=>k<=x.Dims.length/\(sizedsM (nameMap m x.Name 2) x.Dims=sizedsM (nameMap m x.Name 2) (x.Dims.drop k))) (fun k=>x.Dims.length-k) ⟨0,⟨by omega,O⟩,Weak.mk [true,true] ⟨Y,Y,Y,Y,T⟩ O⟩ ?_
   rintro k ⟨hk,hp⟩
   refine B O<|yA O<|U<|zI<|zE O (fun c3=>?_) (fun c3=>?_)
   ·try simp only [W] at c3
    obtain ⟨y,hy⟩:=qQ x.Dims k (by omega)
    refine zJ<|zI<|zP<|B O<|qE O el63 (by omega) (getm (by assumption))<|zL kK qB O<|zZ O O (qH [none,some 2] O zr34 O) ?_
    rintro _ _ ⟨b2,rfl,rfl⟩
    refine N 0 sz34 O<|U<|B O<|G O<|zL kK (J 0 O) O<|zX O (yR [1,1] O ok178 (zEz b mb p _ y (hx0 _ (qD hy))) ⟨Y,O,Y,O,T⟩ O)<|G O<|U<|B O<|G O<|yN O<|U<|zE O (fun c4=>?_) (fun c4=>?_)
    ·try simp only [W] at c4
     refine B O<|G O<|G O<|U<|zU _ (Weak.mem [false,true,true] O)<|zH<|zQ O ?_
     exact ⟨by rw [hP,hp,sizeds_no hy c4],O⟩
    ·try simp only [W] at c4
     refine zJ<|zS O<|qJ O ⟨by omega,by omega⟩<|G O<|U ?_
     refine ⟨k+1,⟨by omega,hp.trans (sizeds_at hy c4)⟩,(by omega),Weak.mk [false,true,true] ⟨Y,Y,Y,Y,T⟩ O⟩
   ·try simp only [W] at c3
    refine qO<|B O<|G O<|U<|zH<|zQ O ?_
    exact ⟨by rw [hP,hp,wC (by omega)];rfl,O⟩
theorem checker_axes (b mb:Nat) (p:Pg) (m:Kn) (d:Df) (hD:d.Dims.length<=1073741824) (hR:d.Red.length<=1073741824) (hA:∀a,a∈d.Dims->a.Size.L.length<=5864062014805) (hA2:∀a,a∈d.Red->a.Size.L.length<=5864062014805):
    Con cfg 180 [vP b,vDf d] (ckE b mb p m) fun r μ'=>r=vI (axesM m [] (d.Dims++d.Red))/\μ'=ckE b mb p m:=by
 refine zT Tryz.func180 O Tryz.ntmps180 Tryz.results180 O ?_
 intro z hz
 refine B O<|zZ O O (qI O O) ?_
 rintro _ _ ⟨b1,rfl,rfl⟩
 refine G O<|U<|B O<|zZ O O (zMz vB O O) ?_
 rintro _ _ ⟨b2,rfl,rfl⟩
 refine G O<|U<|zI<|B O<|zG O zAv<|zK wK (J 1 O) O<|zG O zAm<|zK wK (J 1 O) O<|yE O el245 zr57<|qK O ok227 (OwnR.pur (zEf d.Dims d.Red hD hR)) ⟨Y,O,T⟩<|zY O el57<|G O<|U<|zP<|zU ⟨[(17,.c _),(0,.c _),(5,.c _),(15,.c _),(16,.c _)],[_,_,_]⟩ (Weak.mk [true,false,true,true] ⟨Y,Y,Y,Y,Y,T⟩ O)<|qF 1 1 O O (Nat) (fun k=>[(17,vI k)]) (fun k=>[E.blk b2 (MapR vB (ownT ((d.Dims++d.Red).take k)))]) (fun k=>k<=(d.Dims++d.Red).length/\(axesM m [] (d.Dims++d.Red)=axesM m (((d.Dims++d.Red).take k).map Ax.Name) ((d.Dims++d.Red).drop k))) (fun k=>(d.Dims++d.Red).length-k) ⟨0,⟨by omega,O⟩,Weak.mk [true,true,true] ⟨Y,Y,Y,Y,Y,T⟩ O⟩ ?_
 rintro k ⟨hk,hp⟩
 refine B O<|yA O<|U<|zI<|zE O (fun c1=>?_) (fun c1=>?_)
 ·try simp only [W] at c1
  obtain ⟨x,hx⟩:=qQ (d.Dims++d.Red) k (by omega)
  have hlen:(d.Dims++d.Red).length=d.Dims.length+d.Red.length:=List.length_append
  have hog:=own_get x.Name ((d.Dims++d.Red).take k)
  refine zJ<|zI<|zP<|B O<|qE O el57 (by omega) (getm (by assumption))<|zL agg105 qB O<|zZ O O (qH [none,none,some 2] O zr105 O) ?_
  rintro _ _ ⟨b3,rfl,rfl⟩
  refine N 0 sz105 O<|U<|zI<|zP<|B O<|zG O zCo<|zK one9 (J 0 O) O<|qK O ok176 (zDu _) ⟨Y,O,T⟩<|wB O<|G O<|U<|zE O (fun c2=>?_) (fun c2=>?_)
  ·try simp only [W] at c2
   refine B O<|G O<|U<|zU _ (Weak.mem [false,false,true,true] O)<|zH<|zQ O ?_
   exact ⟨by rw [hp,axes_7 hx c2],O⟩
  ·try simp only [W] at c2
   refine zI<|qT 15 mixed (by kernel_rfl) O O<|zM O O (zR O O)<|zM O O (zD O zCo O)<|zM O O (zF O one9 O (J 0 O) O)<|zM O O (zDd 1 false O sm211 O O O (fun _ _=>CRep.lit _ O))<|zM O O (zR O O)<|qC [] O O O O gv1 T (fun g7_4=>zR O O) O<|qC [(32,_)] O O O O gv1 ⟨O,O,T⟩ (fun g7_4=>yP O O) O<|qC [(33,_)] O O O O gv1 ⟨O,O,T⟩ (fun g7_4=>zD O zNt O) O<|qC [(34,_)] O O O O gv1 ⟨O,O,T⟩ (fun g7_4=>zF O zKq O (J 2 O) O) O<|qC [] O O O O gv1 T (fun g7_4=>zD O zCo O) O<|qC [(36,_)] O O O O gv1 ⟨O,O,T⟩ (fun g7_4=>zF O one9 O (J 0 O) O) O<|qC [(35,_),(37,_)] O O O O gv1 ⟨O,O,O,O,T⟩ (fun g7_4=>zDd 3 (0:Int) O sm111 O O O (fun _ _=>CRep.lit _ O)) O<|qC [(38,_)] O O O O gv1 ⟨O,O,T⟩ (fun g7_4=>yF O O O) O<|zM O O (zAw O O O O (fun h=>(lzf h)))<|zM O O (yQ O O)<|yM<|U<|zE O (fun c3=>?_) (fun c3=>?_)
   ·have h8:=ax_yes hog c3
    refine B O<|G O<|U<|zU _ (Weak.mem [false,false,true,true] O)<|zH<|zQ O ?_
    exact ⟨by rw [hp,axes_8 hx c2 h8],O⟩
   ·have h8:=ax_no hog c3
    refine zJ<|B O<|G O<|zG O zCo<|zK one9 (J 0 O) O<|zIf O O (zGo 1 true O sm211 O O O (Y) O)<|U<|B O<|G O<|zG O zHp<|zL kK (J 0 O) O<|zX O (yR [2,2] O ok178 (zEz b mb p m x.Size (by rcases List.mem_append.1 (qD hx) with h|h;exact hA _ h;exact hA2 _ h)) ⟨Y,O,Y,O,T⟩ O)<|G O<|U<|B O<|G O<|yN O<|U<|zE O (fun c4=>?_) (fun c4=>?_)
    ·try simp only [W] at c4
     refine B O<|G O<|G O<|U<|zU _ (Weak.mem [false,false,true,true] O)<|zH<|zQ O ?_
     exact ⟨by rw [hp,axes_s hx c2 h8 c4],O⟩
    ·try simp only [W] at c4
     refine zJ<|zS O<|qJ O ⟨by omega,by omega⟩<|G O<|U ?_
     refine ⟨k+1,⟨by omega,by rw [hp,axes_at hx c2 h8 c4,qR hx,List.map_append];rfl⟩,(by omega),Weak.mk [false,true,true,true] ⟨Y,Y,Y,Y,Y,T⟩ (by show _=[E.blk b2 (MapR vB (ownT ((d.Dims++d.Red).take (k+1))))]++_;rw [ownT_next hx];rfl)⟩
 ·try simp only [W] at c1
  refine qO<|B O<|G O<|U<|zU _ (Weak.mem [false,true,true] O)<|zH<|zQ O ?_
  exact ⟨by rw [hp,wC (by omega)];rfl,O⟩
theorem zKo (p:Pg) (s:ByteArray) (hP:p.Ok):
    Pur cfg 202 [vPg p,vS s] (.tup [vTy (p.en.find s).ty,vLins (p.en.find s).dims,vB (p.en.find s).ok]):=by
 refine zT Tryz.func202 O Tryz.ntmps202 Tryz.results202 O ?_
 intro z hz
 have hpl:=hP.params
 refine B O<|zZ O O (qI O O) ?_
 rintro _ _ ⟨b1,rfl,rfl⟩
 refine zZ O O (yB O zr31) ?_
 rintro _ _ ⟨b2,rfl,rfl⟩
 refine zX O (yU 2 O O)<|G O<|U<|zI<|B O<|zG O wN<|zK zCk (J 1 O) O<|zY O el24<|G O<|U<|zP<|zU ⟨[(16,.c _),(1,.c _),(2,.c _),(4,.c _),(14,.c _),(15,.c _)],[_,_]⟩ (Weak.mk [true,true] ⟨Y,Y,Y,Y,Y,Y,T⟩ O)<|qF 1 0 O O (Nat) (fun k=>[(16,vI k)]) (fun k=>[]) (fun k=>k<=p.Params.length/\(findP s p.Defs p.Params=findP s p.Defs (p.Params.drop k))) (fun k=>p.Params.length-k) ⟨0,⟨by omega,O⟩,Weak.mk [true,true] ⟨Y,Y,Y,Y,Y,Y,T⟩ O⟩ ?_
 rintro k ⟨hk,hp⟩
 refine B O<|yA O<|U<|zI<|zE O (fun c1=>?_) (fun c1=>?_)
 ·try simp only [W] at c1
  obtain ⟨x,hx⟩:=qQ p.Params k (by omega)
  refine zJ<|zI<|zP<|B O<|qE O el24 (by omega) (getm (by assumption))<|zL zLd qB O<|zZ O O (qH [none,none,none,none,none,none,some 2] O zr65 O) ?_
  rintro _ _ ⟨b3,rfl,rfl⟩
  refine N 0 sz65 O<|U<|B O<|zG O zNp<|zK one9 (J 0 O) O<|G O<|zX O (yL O O O)<|U<|zE O (fun c2=>?_) (fun c2=>?_)
  ·try simp only [W] at c2
   refine zI<|qT 5 mixed (by kernel_rfl) O O<|zM O O (zD O fd65_1 O)<|zM O O (zN O qZ O (J 0 O) O)<|zM O O (zD O zEm O)<|zM O O (zF O zBa O (J 0 O) O)<|zM O O (qG O ok109 (OwnR.pur (zBy x.Dims (hP.ps x (qD hx)).1 (fun y hy=>Nat.le_trans ((hP.ps x (qD hx)).2 y hy) (by decide)))) ⟨Y,O,T⟩)<|yM<|N 1 sz31 O<|G O<|G O<|U<|zH<|fin3 (zV qZ O (J 1 O) O) (v O) (v O) ?_
   rw [En.find,show p.en.pm=p.Params from rfl,show p.en.df=p.Defs from rfl,hp,find_at hx c2];rfl
  ·try simp only [W] at c2
   refine zJ<|zS O<|qJ O ⟨by omega,by omega⟩<|G O<|U ?_
   refine ⟨k+1,⟨by omega,hp.trans (find_next hx c2)⟩,(by omega),Weak.mk [false,true,true] ⟨Y,Y,Y,Y,Y,Y,T⟩ O⟩
 ·try simp only [W] at c1
  have hF:p.en.find s=findD s p.Defs:=by rw [En.find,show p.en.pm=p.Params from rfl,show p.en.df=p.Defs from rfl,hp,wC (by omega)];rfl
  refine qO<|zI<|B O<|zL kO (J 1 O) O<|G O<|qK O ok236 (zMw p s hP.defs) ⟨Y,O,Y,O,T⟩<|G O<|U<|B O<|G O<|zX O (wD O O O)<|U<|zE O (fun c3=>?_) (fun c3=>?_)
  ·try simp only [W] at c3
   obtain ⟨d,hd,hfd⟩:=(find_def s p.Defs).1 c3
   have hdd:=(hP.ds d (qD hd)).1
   refine B O<|G O<|yY _ (kM 34 2)<|U<|zI<|B O<|zG O kE<|zK wX (J 2 O) O<|G O<|qE O el25 (by omega) (getm hd)<|zX O (qL O zAv O)<|zK wK qB O<|zY O el57<|G O<|U<|zP<|zU ⟨[(42,.c _),(10,.c _),(2,.c _),(4,.c _),(9,.c _),(40,.c _),(41,.c _)],[_,_,_]⟩ (Weak.mk [true,true,true] ⟨Y,Y,Y,Y,Y,Y,Y,T⟩ O)<|qF 2 1 O O (Nat×Value) (fun ⟨j,sv⟩=>[(42,vI j),(10,.c (.lit sv))]) (fun ⟨j,sv⟩=>[E.vec sv 34 2 ((d.Dims.take j).map fun a=>a.Size.cells)]) (fun ⟨j,sv⟩=>j<=d.Dims.length) (fun ⟨j,sv⟩=>d.Dims.length-j) ⟨⟨0,(.slice none 0 0)⟩,(by omega),Weak.mk [true,true,true] ⟨Y,Y,Y,Y,Y,Y,Y,T⟩ O⟩ ?_
   rintro ⟨j,sv⟩ hj
   show AWP _ _ _ _ _ ⟨[(42,vI j),(10,.c (.lit sv))]++_,[E.vec sv 34 2 ((d.Dims.take j).map fun a=>a.Size.cells)]++_⟩
   refine B O<|yA O<|U<|zI<|zE O (fun c4=>?_) (fun c4=>?_)
   ·try simp only [W] at c4
    obtain ⟨a,ha⟩:=qQ d.Dims j (by omega)
    refine zJ<|zI<|zP<|B O<|qE O el57 (by omega) (getm (by assumption))<|zL agg105 qB O<|zZ O O (qH [none,none,some 2] O zr105 O) ?_
    rintro _ _ ⟨b5,rfl,rfl⟩
    refine N 0 sz105 O<|U<|zS O<|G O<|zG O zHp<|zL kK (J 0 O) O<|qK O ok108 (zAg a.Size (Nat.le_trans ((hP.ds d (qD hd)).2.2.1 a (qD ha)) (by decide))) ⟨Y,O,T⟩<|yE O el63 zr34<|zZ O O (qY 1 O el63 O O O (by first|omega|(simp only [List.length_take,List.length_map,List.length_append,List.length_nil,List.length_cons];omega)) (by first|omega|(simp only [List.length_take,List.length_map,List.length_append,List.length_nil,List.length_cons];omega))) ?_
    rintro _ _ ⟨sv6,rfl,rfl⟩
    refine G O<|U<|zS O<|qJ O ⟨by omega,by omega⟩<|G O<|U ?_
    refine ⟨⟨j+1,sv6⟩,(by omega),(by show d.Dims.length-(j+1)<d.Dims.length-j;omega),Weak.mk [false,true,true,true] ⟨Y,Y,Y,Y,Y,Y,Y,T⟩ (by show _=[E.vec sv6 _ 2 ((d.Dims.take (j+1)).map fun a=>a.Size.cells)]++_;rw [qR ha,List.map_append (f:=fun a:Ax=>a.Size.cells)];rfl)⟩
   ·try simp only [W] at c4
    refine qO<|B O<|zG O kE<|zK wX (J 2 O) O<|G O<|qE O el25 (by omega) (getm hd)<|zX O (qL O zIo O)<|zL qZ qB O<|G O<|N 1 sz31 O<|G O<|G O<|U<|zU _ (kJ 0 O (regs':=[(10,_),(59,_),(5,_)]) (μ':=[_,_]) ⟨FLe.sl,FLe.sl,FLe.sl,T⟩ ⟨EFle.refl _,EFle.refl _,T⟩)<|zH<|fin3 (zV qZ O (J 0 O) O) (v O) (v O) ?_
    rw [hF,hfd,qX (l:=d.Dims) (k:=j) (by omega)];simp only [vLins,List.map_map];rfl
  ·try simp only [W] at c3
   have hfd:=(find_def s p.Defs).2 (by omega)
   refine zJ<|B O<|yV O zr31 pl31<|N 0 sz31 O<|zX O (yU 2 O O)<|G O<|U<|zH<|fin3 (zV qZ O (J 0 O) O) (v O) (v O) ?_
   rw [hF,hfd];rfl
theorem zJi (b mb:Nat) (p:Pg) (m:Kn) (l:Lf) (hl:l.L.length<=4294967296):
    Con cfg 148 [vP b,vLin l] (tyE b mb p m) fun r μ'=>r=vI (formK (kn m) l)/\μ'=tyE b mb p m:=by
 refine zT Tryz.func148 O Tryz.ntmps148 Tryz.results148 O ?_
 intro z hz
 refine B O<|zZ O O (qI O O) ?_
 rintro _ _ ⟨b1,rfl,rfl⟩
 refine G O<|U<|zI<|B O<|zG O wU<|zK zBv (J 0 O) O<|zY O el32<|G O<|U<|zP<|zU ⟨[(10,.c _),(0,.c _),(8,.c _),(9,.c _)],[_,_]⟩ (Weak.mk [false,true,true] ⟨Y,Y,Y,Y,T⟩ O)<|qF 1 0 O O (Nat) (fun k=>[(10,vI k)]) (fun k=>[]) (fun k=>k<=l.L.length/\(knL (kn m) (l.L.take k)=true)) (fun k=>l.L.length-k) ⟨0,⟨by omega,O⟩,Weak.mk [true,true] ⟨Y,Y,Y,Y,T⟩ O⟩ ?_
 rintro k ⟨hk,hp⟩
 refine B O<|yA O<|U<|zI<|zE O (fun c1=>?_) (fun c1=>?_)
 ·try simp only [W] at c1
  obtain ⟨x,hx⟩:=qQ l.L k (by omega)
  refine zJ<|zI<|zP<|B O<|qE O el32 (by omega) (getm (by assumption))<|zL zHa qB O<|zZ O O (yB O zr101) ?_
  rintro _ _ ⟨b2,rfl,rfl⟩
  refine N 0 sz101 O<|U<|zI<|qT 8 mixed (by kernel_rfl) O O<|zM O O (zR O O)<|zM O O (yP O O)<|zM O O (zD O fd113_1 O)<|zM O O (zF O zKq O (J 1 O) O)<|zM O O (zD O zBj O)<|zM O O (zF O one9 O (J 0 O) O)<|zM O O (zDd 2 (0:Int) O sm111 O O O (fun _ _=>CRep.lit _ O))<|zM O O (yF O O O)<|yM<|U<|zE O (fun c2=>?_) (fun c2=>?_)
  ·try simp only [W] at c2
   refine B O<|G O<|U<|zU _ (Weak.mem [false,true,true] O)<|zH<|zQ O ?_
   exact ⟨by rw [zGm (knF_no hx (kn_f c2))],O⟩
  ·try simp only [W] at c2
   refine zJ<|zS O<|qJ O ⟨by omega,by omega⟩<|G O<|U ?_
   refine ⟨k+1,⟨by omega,knF_next hx hp (kn_t c2)⟩,(by omega),Weak.mk [false,true,true] ⟨Y,Y,Y,Y,T⟩ O⟩
 ·try simp only [W] at c1
  refine qO<|B O<|G O<|U<|zH<|zQ O ?_
  exact ⟨by rw [qX (by omega)] at hp;rw [zLo hp],O⟩
theorem typer_index (b mb:Nat) (p:Pg) (m:Kn) (x:Ix) (hP:p.Ok) (hx:x.wt<=4294967296):
    Con cfg 203 [vP b,vIndex x] (tyE b mb p m) fun r μ'=>r=vI (indexK p.en (kn m) x)/\μ'=tyE b mb p m:=by
 refine zT Tryz.func203 O Tryz.ntmps203 Tryz.results203 O ?_
 intro z hz
 have hw:=hx
 unfold Ix.wt at hw
 clear hx
 refine B O<|zZ O O (qI O O) ?_
 rintro _ _ ⟨b1,rfl,rfl⟩
 refine G O<|U<|zI<|B O<|zG O zDk<|zK one9 (J 0 O) O<|zX O (yL O O O)<|U<|zE O (fun c1=>?_) (fun c1=>?_)
 ·try simp only [W] at c1
  refine B O<|G O<|zG O zDv<|zL kK (J 0 O) O<|zX O (yR [1,1] O ok148 (zJi b mb p m x.Lin (by omega)) ⟨Y,O,Y,O,T⟩ O)<|G O<|U<|zU _ (Weak.mem [false,true,true] O)<|zH<|zQ O ?_
  exact ⟨by rw [indexK,decide_eq_true c1];rfl,O⟩
 ·try simp only [W] at c1
  refine zJ<|zI<|zOk 12 14 [.q,.q,.q,.q,.q,.q,.q,.q,.q,.u,.u,.f]  mixed (by kernel_rfl) O O O<|kF O O (zR O O)<|kF O O (yP O O)<|kF O O (zD O fd113_0 O)<|kF O O (zN O kO O (J 1 O) O)<|kF O O (zD O zDk O)<|kF O O (zF O one9 O (J 0 O) O)<|kF O O (qG O ok202 (zKo p x.From hP) ⟨Y,O,Y,O,T⟩)<|kF O O (qV O O)<|kF O O (yJ O O O)<|zHx O O (yI O O O)<|zHx O O (yI O O O)<|zLi<|tdq_nil<|zAx<|zAx<|zAx<|zAx<|zAx<|zAx<|zAx<|zAx<|zAx<|tdf_u<|tdf_u<|zHy (zAc (yB O zr31))<|tdf_nil<|zGr ?_
  rintro _ _ ⟨b2,rfl,rfl⟩
  refine zJc ?_
  refine ⟨_,kW O sz31 O O O (zEe 0 O O),(by rintro _ _ ⟨rfl,rfl⟩;exact ⟨[_],rfl⟩),?_⟩
  rintro _ _ ⟨rfl,rfl⟩
  refine zM O O (yQ O O)<|yM<|G O<|U<|zI<|zP<|B O<|G O<|wB O<|G O<|U<|zE O (fun c2=>?_) (fun c2=>?_)
  ·try simp only [W] at c2
   refine B O<|G O<|U<|zU _ (Weak.mem [false,false,true,true] O)<|zH<|zQ O ?_
   exact ⟨by rw [indexK,decide_eq_false c1,c2];rfl,O⟩
  ·try simp only [W] at c2
   refine B O<|zG O zBp<|zK one3 (J 0 O) O<|yN O<|G O<|U<|zE O (fun c3=>?_) (fun c3=>?_)
   ·try simp only [W] at c3
    refine B O<|G O<|U<|zU _ (Weak.mem [false,false,true,true] O)<|zH<|zQ O ?_
    exact ⟨by rw [indexK,decide_eq_false c1,c2,decide_eq_false c3];rfl,O⟩
   ·try simp only [W] at c3
    refine B O<|zG O zAu<|zK zBa (J 1 O) O<|zY O el63<|G O<|zY O el63<|yN O<|G O<|U<|zE O (fun c4=>?_) (fun c4=>?_)
    ·try simp only [W] at c4
     refine B O<|G O<|U<|zU _ (Weak.mem [false,false,true,true] O)<|zH<|zQ O ?_
     exact ⟨by rw [indexK,decide_eq_false c1,c2,decide_eq_true c3,decide_eq_false (by omega)];rfl,O⟩
    ·try simp only [W] at c4
     refine zJ<|zI<|B O<|zG O zAu<|zK zBa (J 1 O) O<|zY O el63<|G O<|U<|zP<|zU ⟨[(46,.c _),(0,.c _),(44,.c _),(45,.c _)],[_,_]⟩ (Weak.mk [false,false,true,true] ⟨Y,Y,Y,Y,T⟩ O)<|qF 1 0 O O (Nat) (fun k=>[(46,vI k)]) (fun k=>[]) (fun k=>k<=x.At.length/\((x.At.take k).all (fun x=>knL (kn m) x.L)=true)) (fun k=>x.At.length-k) ⟨0,⟨by omega,O⟩,Weak.mk [true,true] ⟨Y,Y,Y,Y,T⟩ O⟩ ?_
     rintro k ⟨hk,hp⟩
     refine B O<|yA O<|U<|zI<|zE O (fun c5=>?_) (fun c5=>?_)
     ·try simp only [W] at c5
      obtain ⟨l,hl⟩:=qQ x.At k (by omega)
      refine zJ<|zI<|zP<|B O<|qE O el63 (by omega) (getm (by assumption))<|zL kK qB O<|zZ O O (qH [none,some 2] O zr34 O) ?_
      rintro _ _ ⟨b3,rfl,rfl⟩
      refine N 0 sz34 O<|U<|B O<|G O<|zL kK (J 0 O) O<|zX O (yR [1,1] O ok148 (zJi b mb p m l (by have:=zBz (qD hl);omega)) ⟨Y,O,Y,O,T⟩ O)<|G O<|U<|B O<|G O<|yN O<|U<|zE O (fun c6=>?_) (fun c6=>?_)
      ·try simp only [W] at c6
       refine B O<|G O<|G O<|U<|zU _ (Weak.mem [false,true,true] O)<|zH<|zQ O ?_
       exact ⟨by rw [indexK,decide_eq_false c1,c2,decide_eq_true c3,decide_eq_true (by omega)];simp only [cond_false,Bool.not_true];rw [formsK_no hl c6],O⟩
      ·try simp only [W] at c6
       refine zJ<|zS O<|qJ O ⟨by omega,by omega⟩<|G O<|U ?_
       refine ⟨k+1,⟨by omega,zNo hl hp c6⟩,(by omega),Weak.mk [false,true,true] ⟨Y,Y,Y,Y,T⟩ O⟩
     ·try simp only [W] at c5
      refine qO<|B O<|G O<|U<|zH<|zQ O ?_
      exact ⟨by rw [qX (by omega)] at hp;rw [indexK,decide_eq_false c1,c2,decide_eq_true c3,decide_eq_true (by omega)];simp only [cond_false,Bool.not_true];rw [formsK_ok hp],O⟩
end Go.W
