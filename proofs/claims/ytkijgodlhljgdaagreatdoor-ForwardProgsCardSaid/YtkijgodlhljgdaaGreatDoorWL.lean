/-
  Walks: what functions of the program compute. Printed by wip/gen/mk2.py.
  Conditions: none.
-/
import Derived.Test.YtkijgodlhljgdaaGreatDoorWK
import Derived.Test.YtkijgodlhljgdaaGreatDoorProg17M
set_option linter.unusedSimpArgs false
set_option linter.unusedVariables false
set_option maxRecDepth 10000
namespace Go.W
open Go Go.Eng Go.Proofs Go.L41 Go.Br
attribute [local irreducible] AWP RWP TD finQ
theorem kC:aggT Tryz.prog 27=some 5:=by kernel_rfl
theorem zMm:aggT Tryz.prog 65=some 7:=by kernel_rfl
theorem agg93:aggT Tryz.prog 93=some 3:=by kernel_rfl
theorem zHz:fieldT Tryz.prog 59 1=some (1,31):=by kernel_rfl
theorem zHy:fieldT Tryz.prog 65 0=some (0,9):=by kernel_rfl
theorem zJr:fieldT Tryz.prog 65 1=some (1,31):=by kernel_rfl
theorem zCy:fieldT Tryz.prog 65 2=some (6,63):=by kernel_rfl
theorem zIt:fieldT Tryz.prog 105 1=some (1,34):=by kernel_rfl
theorem fd113_0:fieldT Tryz.prog 113 0=some (0,27):=by kernel_rfl
theorem fd113_1:fieldT Tryz.prog 113 1=some (5,111):=by kernel_rfl
theorem zPf:fieldT Tryz.prog 138 1=some (5,111):=by kernel_rfl
theorem ok103:callOk Tryz.prog 103=true:=by kernel_rfl
theorem ok109:callOk Tryz.prog 109=true:=by kernel_rfl
theorem ok148:callOk Tryz.prog 148=true:=by kernel_rfl
theorem ok177:callOk Tryz.prog 177=true:=by kernel_rfl
theorem ok178:callOk Tryz.prog 178=true:=by kernel_rfl
theorem ok179:callOk Tryz.prog 179=true:=by kernel_rfl
theorem ok202:callOk Tryz.prog 202=true:=by kernel_rfl
theorem ok236:callOk Tryz.prog 236=true:=by kernel_rfl
theorem zLy:oneT Tryz.prog 111=true:=by kernel_rfl
theorem sm111:smapT Tryz.prog 111=some (Value.int IntKind.i64 0):=by kernel_rfl
theorem sm211:smapT Tryz.prog 211=some (Value.bool false):=by kernel_rfl
theorem sz31:(Tryz.prog.info? 31).map (·.size)=some 5:=by kernel_rfl
theorem sz65:(Tryz.prog.info? 65).map (·.size)=some 7:=by kernel_rfl
theorem zr65:zeroT Tryz.prog 65=some [(Value.string (ByteArray.mk #[])),(Value.int IntKind.i64 0),(Value.int IntKind.i64 0),(Value.int IntKind.i64 0),(Value.int IntKind.i64 0),(Value.int IntKind.i64 0),(Value.slice none 0 0)]:=by kernel_rfl
theorem zGs (b mb:Nat) (p:Pg) (m:Kn) (s:ByteArray) (k:Int):
    Con cfg 103 [vP b,vS s,vI k] (ckE b mb p m) fun r μ'=>r=vI (nameM m s)/\μ'=ckE b mb p (nameMap m s k):=by
 refine zV Tryz.func103 O Tryz.ntmps103 Tryz.results103 O ?_
 intro z hz
 refine B O<|F O<|H<|U<|B O<|F O<|qK O ok176 (zEi _) ⟨G,O,T⟩<|wI O<|H<|g O (fun c1=>?_) (fun c1=>?_)
 ·try simp only [I] at c1
  refine B O<|F O<|H<|W<|R O ?_
  exact ⟨by rw [nameM_bad c1],by rw [←nmap_bad (nameM_bad c1) (by decide)]⟩
 ·try simp only [I] at c1
  refine zJ<|U<|B O<|F O<|qB O (yW O O)<|zG O zPf<|zK zLy (K 0 O) O<|F O<|qB O (zDm 1 (0:Int) O sm111 O O O (fun _ _=>CRep.lit _ O))<|yP O<|H<|g O (fun c2=>?_) (fun c2=>?_)
  ·try simp only [I] at c2
   refine B O<|F O<|H<|W<|R O ?_
   exact ⟨by rw [nameM_dup c1 c2],by rw [←nmap_bad (nameM_dup c1 c2) (by decide)]⟩
  ·try simp only [I] at c2
   refine zJ<|B O<|F O<|qB O (yW O O)<|zG O zPf<|zK zLy (K 0 O) O<|F O<|F O<|zJi O O (zHl 1 k O sm111 O O O (G) O)<|H<|B O<|F O<|H<|W<|R O ?_
   exact ⟨by rw [nameM_ok c1 c2],by rw [zLa (nameM_ok c1 c2)];rfl⟩
theorem zFr (b mb:Nat) (p:Pg) (m:Kn) (l:Lf) (hl:l.L.length<=5864062014805):
    Con cfg 178 [vP b,vLin l] (ckE b mb p m) fun r μ'=>r=vI (sizedM m l)/\μ'=ckE b mb p m:=by
 refine zV Tryz.func178 O Tryz.ntmps178 Tryz.results178 O ?_
 intro z hz
 refine B O<|zW O O (qJ O O) ?_
 rintro _ _ ⟨b1,rfl,rfl⟩
 refine F O<|H<|U<|B O<|zL kP (K 0 O) O<|qK O ok162 (zGn l (by omega)) ⟨G,O,T⟩<|yP O<|H<|g O (fun c1=>?_) (fun c1=>?_)
 ·try simp only [I] at c1
  refine B O<|F O<|H<|zT _ (Weak.mem [false,true,true] O)<|W<|R O ?_
  exact ⟨by rw [sized_arg (linErr_no c1)],O⟩
 ·try simp only [I] at c1
  refine zJ<|U<|B O<|zG O wU<|zK zCb (K 0 O) O<|zZ O el32<|F O<|H<|zP<|zT ⟨[(13,.c _),(0,.c _),(11,.c _),(12,.c _)],[_,_]⟩ (Weak.mk [false,true,true] ⟨G,G,G,G,T⟩ O)<|qG 1 0 O O (Nat) (fun k=>[(13,vI k)]) (fun k=>[]) (fun k=>k<=l.L.length/\(knL (fun s=>decide (kget m s=1)) (l.L.take k)=true)) (fun k=>l.L.length-k) ⟨0,⟨by omega,O⟩,Weak.mk [true,true] ⟨G,G,G,G,T⟩ O⟩ ?_
  rintro k ⟨hk,hp⟩
  refine B O<|yB O<|H<|U<|g O (fun c2=>?_) (fun c2=>?_)
  ·try simp only [I] at c2
   obtain ⟨x,hx⟩:=qP l.L k (by omega)
   refine zJ<|U<|zP<|B O<|qE O el32 (by omega) (Q (by assumption))<|zL zIc qA O<|zW O O (yA O zr101) ?_
   rintro _ _ ⟨b2,rfl,rfl⟩
   refine N 0 sz101 O<|H<|U<|qO 8 mixed (by kernel_rfl) O O<|Y O O (zQ O O)<|Y O O (yW O O)<|Y O O (zD O zPf O)<|Y O O (zF O zLy O (K 1 O) O)<|Y O O (zD O zBk O)<|Y O O (zF O i O (K 0 O) O)<|Y O O (zDm 2 (0:Int) O sm111 O O O (fun _ _=>CRep.lit _ O))<|Y O O (zAf O O O)<|yK<|H<|g O (fun c3=>?_) (fun c3=>?_)
   ·try simp only [I] at c3
    refine B O<|F O<|H<|zT _ (Weak.mem [false,true,true] O)<|W<|R O ?_
    exact ⟨by rw [sized_nf (linErr_yes c1) (knF_no hx (yE c3))],O⟩
   ·try simp only [I] at c3
    refine zJ<|zU O<|qL O ⟨by omega,by omega⟩<|F O<|H ?_
    refine ⟨k+1,⟨by omega,knF_next hx hp (kX c3)⟩,(by omega),Weak.mk [false,true,true] ⟨G,G,G,G,T⟩ O⟩
  ·try simp only [I] at c2
   refine qM<|B O<|F O<|H<|W<|R O ?_
   exact ⟨by rw [qY (by omega)] at hp;rw [sized_ok (linErr_yes c1) hp],O⟩
theorem zJz (b mb:Nat) (p:Pg) (m:Kn) (x:Cn) (hl:x.Lin.L.length<=5864062014805):
    Con cfg 104 [vP b,vCn x] (ckE b mb p m) fun r μ'=>r=vI (sizedM m x.Lin)/\μ'=ckE b mb p m:=by
 refine zV Tryz.func104 O Tryz.ntmps104 Tryz.results104 O ?_
 intro z hz
 refine B O<|zW O O (qJ O O) ?_
 rintro _ _ ⟨b1,rfl,rfl⟩
 refine F O<|H<|U<|B O<|zL agg93 (K 0 O) O<|qK O ok177 (zIu x hl) ⟨G,O,T⟩<|yP O<|H<|g O (fun c1=>?_) (fun c1=>?_)
 ·try simp only [I] at c1
  refine B O<|F O<|H<|zT _ (Weak.mem [false,true,true] O)<|W<|R O ?_
  exact ⟨by rw [sized_arg (linErr_no c1)],O⟩
 ·try simp only [I] at c1
  refine zJ<|B O<|F O<|zG O zPb<|zL kP (K 0 O) O<|qB O (yY [1,1] O ok178 (zFr b mb p m x.Lin hl) ⟨G,O,G,O,T⟩ O)<|F O<|H<|zT _ (Weak.mem [false,true,true] O)<|W<|R O ?_
  exact ⟨O,O⟩
theorem checker_param (b mb:Nat) (p:Pg) (m:Kn) (x:Pm) (hl:x.Dims.length<=4294967296) (hx0:∀l,l∈x.Dims->l.L.length<=5864062014805):
    Con cfg 105 [vP b,vPm x] (ckE b mb p m) fun r μ'=>r=vI (paramM m x)/\μ'=ckE b mb p (nameMap m x.Name 2):=by
 refine zV Tryz.func105 O Tryz.ntmps105 Tryz.results105 O ?_
 intro z hz
 refine B O<|zW O O (qJ O O) ?_
 rintro _ _ ⟨b1,rfl,rfl⟩
 refine F O<|H<|U<|B O<|F O<|zG O zHy<|zK i (K 0 O) O<|qB O (yY [1,1] O ok103 (zGs b mb p m x.Name 2) ⟨G,O,G,O,G,O,T⟩ O)<|F O<|H<|B O<|F O<|yP O<|H<|g O (fun c1=>?_) (fun c1=>?_)
 ·try simp only [I] at c1
  refine B O<|F O<|F O<|H<|zT _ (Weak.mem [false,true,true] O)<|W<|R O ?_
  exact ⟨by unfold paramM;rw [if_neg c1],O⟩
 ·try simp only [I] at c1
  refine zJ<|U<|B O<|zG O zJr<|zL yF (K 0 O) O<|zG O zCy<|zK zAv (K 0 O) O<|zZ O el63<|qZ O el209 zr3<|qK O ok179 (zFu x.T [(x.Dims.length:Int)] _ O (by simp)) ⟨G,O,G,O,T⟩<|F O<|H<|B O<|F O<|yP O<|H<|g O (fun c2=>?_) (fun c2=>?_)
  ·try simp only [I] at c2
   have hP:=param_bad c1 c2
   refine B O<|F O<|F O<|H<|zT _ (Weak.mem [false,true,true] O)<|W<|R O ?_
   exact ⟨by rw [hP],O⟩
  ·try simp only [I] at c2
   have hP:=param_ok c1 c2
   refine zJ<|U<|B O<|zG O zCy<|zK zAv (K 0 O) O<|zZ O el63<|F O<|H<|zP<|zT ⟨[(30,.c _),(0,.c _),(28,.c _),(29,.c _)],[_,_]⟩ (Weak.mk [false,true,true] ⟨G,G,G,G,T⟩ O)<|qG 1 0 O O (Nat) (fun k=>[(30,vI k)]) (fun k=>[]) (fun k=>k<=x.Dims.length/\(sizedsM (nameMap m x.Name 2) x.Dims=sizedsM (nameMap m x.Name 2) (x.Dims.drop k))) (fun k=>x.Dims.length-k) ⟨0,⟨by omega,O⟩,Weak.mk [true,true] ⟨G,G,G,G,T⟩ O⟩ ?_
   rintro k ⟨hk,hp⟩
   refine B O<|yB O<|H<|U<|g O (fun c3=>?_) (fun c3=>?_)
   ·try simp only [I] at c3
    obtain ⟨y,hy⟩:=qP x.Dims k (by omega)
    refine zJ<|U<|zP<|B O<|qE O el63 (by omega) (Q (by assumption))<|zL kP qA O<|zW O O (qI [none,some 2] O zr34 O) ?_
    rintro _ _ ⟨b2,rfl,rfl⟩
    refine N 0 sz34 O<|H<|B O<|F O<|zL kP (K 0 O) O<|qB O (yY [1,1] O ok178 (zFr b mb p _ y (hx0 _ (qD hy))) ⟨G,O,G,O,T⟩ O)<|F O<|H<|B O<|F O<|yP O<|H<|g O (fun c4=>?_) (fun c4=>?_)
    ·try simp only [I] at c4
     refine B O<|F O<|F O<|H<|zT _ (Weak.mem [false,true,true] O)<|W<|R O ?_
     exact ⟨by rw [hP,hp,sizeds_no hy c4],O⟩
    ·try simp only [I] at c4
     refine zJ<|zU O<|qL O ⟨by omega,by omega⟩<|F O<|H ?_
     refine ⟨k+1,⟨by omega,hp.trans (sizeds_at hy c4)⟩,(by omega),Weak.mk [false,true,true] ⟨G,G,G,G,T⟩ O⟩
   ·try simp only [I] at c3
    refine qM<|B O<|F O<|H<|W<|R O ?_
    exact ⟨by rw [hP,hp,wK (by omega)];rfl,O⟩
theorem checker_axes (b mb:Nat) (p:Pg) (m:Kn) (d:Df) (hD:d.Dims.length<=1073741824) (hR:d.Red.length<=1073741824) (hA:∀a,a∈d.Dims->a.Size.L.length<=5864062014805) (hA2:∀a,a∈d.Red->a.Size.L.length<=5864062014805):
    Con cfg 180 [vP b,vDf d] (ckE b mb p m) fun r μ'=>r=vI (axesM m [] (d.Dims++d.Red))/\μ'=ckE b mb p m:=by
 refine zV Tryz.func180 O Tryz.ntmps180 Tryz.results180 O ?_
 intro z hz
 refine B O<|zW O O (qJ O O) ?_
 rintro _ _ ⟨b1,rfl,rfl⟩
 refine F O<|H<|B O<|zW O O (zOg vB O O) ?_
 rintro _ _ ⟨b2,rfl,rfl⟩
 refine F O<|H<|U<|B O<|zG O zBi<|zK wW (K 1 O) O<|zG O zAx<|zK wW (K 1 O) O<|qZ O el245 zr57<|qK O ok227 (OwnR.pur (zEs d.Dims d.Red hD hR)) ⟨G,O,T⟩<|zZ O el57<|F O<|H<|zP<|zT ⟨[(17,.c _),(0,.c _),(5,.c _),(15,.c _),(16,.c _)],[_,_,_]⟩ (Weak.mk [true,false,true,true] ⟨G,G,G,G,G,T⟩ O)<|qG 1 1 O O (Nat) (fun k=>[(17,vI k)]) (fun k=>[E.blk b2 (MapR vB (ownT ((d.Dims++d.Red).take k)))]) (fun k=>k<=(d.Dims++d.Red).length/\(axesM m [] (d.Dims++d.Red)=axesM m (((d.Dims++d.Red).take k).map Ax.Name) ((d.Dims++d.Red).drop k))) (fun k=>(d.Dims++d.Red).length-k) ⟨0,⟨by omega,O⟩,Weak.mk [true,true,true] ⟨G,G,G,G,G,T⟩ O⟩ ?_
 rintro k ⟨hk,hp⟩
 refine B O<|yB O<|H<|U<|g O (fun c1=>?_) (fun c1=>?_)
 ·try simp only [I] at c1
  obtain ⟨x,hx⟩:=qP (d.Dims++d.Red) k (by omega)
  have hlen:(d.Dims++d.Red).length=d.Dims.length+d.Red.length:=List.length_append
  have hog:=own_get x.Name ((d.Dims++d.Red).take k)
  refine zJ<|U<|zP<|B O<|qE O el57 (by omega) (Q (by assumption))<|zL agg105 qA O<|zW O O (qI [none,none,some 2] O zr105 O) ?_
  rintro _ _ ⟨b3,rfl,rfl⟩
  refine N 0 sz105 O<|H<|U<|zP<|B O<|zG O zCx<|zK i (K 0 O) O<|qK O ok176 (zEi _) ⟨G,O,T⟩<|wI O<|F O<|H<|g O (fun c2=>?_) (fun c2=>?_)
  ·try simp only [I] at c2
   refine B O<|F O<|H<|zT _ (Weak.mem [false,false,true,true] O)<|W<|R O ?_
   exact ⟨by rw [hp,axes_7 hx c2],O⟩
  ·try simp only [I] at c2
   refine U<|qO 15 mixed (by kernel_rfl) O O<|Y O O (zQ O O)<|Y O O (zD O zCx O)<|Y O O (zF O i O (K 0 O) O)<|Y O O (zDm 1 false O sm211 O O O (fun _ _=>CRep.lit _ O))<|Y O O (zQ O O)<|f [] O O O O P T (fun g7_4=>zQ O O) O<|f [(32,_)] O O O O P ⟨O,O,T⟩ (fun g7_4=>yW O O) O<|f [(33,_)] O O O O P ⟨O,O,T⟩ (fun g7_4=>zD O zPf O) O<|f [(34,_)] O O O O P ⟨O,O,T⟩ (fun g7_4=>zF O zLy O (K 2 O) O) O<|f [] O O O O P T (fun g7_4=>zD O zCx O) O<|f [(36,_)] O O O O P ⟨O,O,T⟩ (fun g7_4=>zF O i O (K 0 O) O) O<|f [(35,_),(37,_)] O O O O P ⟨O,O,O,O,T⟩ (fun g7_4=>zDm 3 (0:Int) O sm111 O O O (fun _ _=>CRep.lit _ O)) O<|f [(38,_)] O O O O P ⟨O,O,T⟩ (fun g7_4=>yL O O O) O<|Y O O (zBo O O O O (fun h=>(lzf h)))<|Y O O (yX O O)<|yK<|H<|g O (fun c3=>?_) (fun c3=>?_)
   ·have h8:=ax_yes hog c3
    refine B O<|F O<|H<|zT _ (Weak.mem [false,false,true,true] O)<|W<|R O ?_
    exact ⟨by rw [hp,axes_8 hx c2 h8],O⟩
   ·have h8:=ax_no hog c3
    refine zJ<|B O<|F O<|zG O zCx<|zK i (K 0 O) O<|zJi O O (zHl 1 true O sm211 O O O (G) O)<|H<|B O<|F O<|zG O zIt<|zL kP (K 0 O) O<|qB O (yY [2,2] O ok178 (zFr b mb p m x.Size (by rcases List.mem_append.1 (qD hx) with h|h;exact hA _ h;exact hA2 _ h)) ⟨G,O,G,O,T⟩ O)<|F O<|H<|B O<|F O<|yP O<|H<|g O (fun c4=>?_) (fun c4=>?_)
    ·try simp only [I] at c4
     refine B O<|F O<|F O<|H<|zT _ (Weak.mem [false,false,true,true] O)<|W<|R O ?_
     exact ⟨by rw [hp,axes_s hx c2 h8 c4],O⟩
    ·try simp only [I] at c4
     refine zJ<|zU O<|qL O ⟨by omega,by omega⟩<|F O<|H ?_
     refine ⟨k+1,⟨by omega,by rw [hp,axes_at hx c2 h8 c4,qQ hx,List.map_append];rfl⟩,(by omega),Weak.mk [false,true,true,true] ⟨G,G,G,G,G,T⟩ (by show _=[E.blk b2 (MapR vB (ownT ((d.Dims++d.Red).take (k+1))))]++_;rw [ownT_next hx];rfl)⟩
 ·try simp only [I] at c1
  refine qM<|B O<|F O<|H<|zT _ (Weak.mem [false,true,true] O)<|W<|R O ?_
  exact ⟨by rw [hp,wK (by omega)];rfl,O⟩
theorem zLw (p:Pg) (s:ByteArray) (hP:p.Ok):
    Pur cfg 202 [vPg p,vS s] (.tup [vTy (p.en.find s).ty,vLins (p.en.find s).dims,vB (p.en.find s).ok]):=by
 refine zV Tryz.func202 O Tryz.ntmps202 Tryz.results202 O ?_
 intro z hz
 have hpl:=hP.params
 refine B O<|zW O O (qJ O O) ?_
 rintro _ _ ⟨b1,rfl,rfl⟩
 refine zW O O (yA O zr31) ?_
 rintro _ _ ⟨b2,rfl,rfl⟩
 refine qB O (yJ 2 O O)<|F O<|H<|U<|B O<|zG O kM<|zK zAl (K 1 O) O<|zZ O el24<|F O<|H<|zP<|zT ⟨[(16,.c _),(1,.c _),(2,.c _),(4,.c _),(14,.c _),(15,.c _)],[_,_]⟩ (Weak.mk [true,true] ⟨G,G,G,G,G,G,T⟩ O)<|qG 1 0 O O (Nat) (fun k=>[(16,vI k)]) (fun k=>[]) (fun k=>k<=p.Params.length/\(findP s p.Defs p.Params=findP s p.Defs (p.Params.drop k))) (fun k=>p.Params.length-k) ⟨0,⟨by omega,O⟩,Weak.mk [true,true] ⟨G,G,G,G,G,G,T⟩ O⟩ ?_
 rintro k ⟨hk,hp⟩
 refine B O<|yB O<|H<|U<|g O (fun c1=>?_) (fun c1=>?_)
 ·try simp only [I] at c1
  obtain ⟨x,hx⟩:=qP p.Params k (by omega)
  refine zJ<|U<|zP<|B O<|qE O el24 (by omega) (Q (by assumption))<|zL zMm qA O<|zW O O (qI [none,none,none,none,none,none,some 2] O zr65 O) ?_
  rintro _ _ ⟨b3,rfl,rfl⟩
  refine N 0 sz65 O<|H<|B O<|zG O zHy<|zK i (K 0 O) O<|F O<|qB O (yQ O O O)<|H<|g O (fun c2=>?_) (fun c2=>?_)
  ·try simp only [I] at c2
   refine U<|qO 5 mixed (by kernel_rfl) O O<|Y O O (zD O zJr O)<|Y O O (zN O yF O (K 0 O) O)<|Y O O (zD O zCy O)<|Y O O (zF O zAv O (K 0 O) O)<|Y O O (qF O ok109 (OwnR.pur (zCl x.Dims (hP.ps x (qD hx)).1 (fun y hy=>Nat.le_trans ((hP.ps x (qD hx)).2 y hy) (by decide)))) ⟨G,O,T⟩)<|yK<|N 1 sz31 O<|F O<|F O<|H<|W<|fin3 (zS yF O (K 1 O) O) (o O) (o O) ?_
   rw [En.find,show p.en.pm=p.Params from rfl,show p.en.df=p.Defs from rfl,hp,find_at hx c2];rfl
  ·try simp only [I] at c2
   refine zJ<|zU O<|qL O ⟨by omega,by omega⟩<|F O<|H ?_
   refine ⟨k+1,⟨by omega,hp.trans (find_next hx c2)⟩,(by omega),Weak.mk [false,true,true] ⟨G,G,G,G,G,G,T⟩ O⟩
 ·try simp only [I] at c1
  have hF:p.en.find s=findD s p.Defs:=by rw [En.find,show p.en.pm=p.Params from rfl,show p.en.df=p.Defs from rfl,hp,wK (by omega)];rfl
  refine qM<|U<|B O<|zL kC (K 1 O) O<|F O<|qK O ok236 (zOd p s hP.defs) ⟨G,O,G,O,T⟩<|F O<|H<|B O<|F O<|qB O (wL O O O)<|H<|g O (fun c3=>?_) (fun c3=>?_)
  ·try simp only [I] at c3
   obtain ⟨d,hd,hfd⟩:=(find_def s p.Defs).1 c3
   have hdd:=(hP.ds d (qD hd)).1
   refine B O<|F O<|yV _ (kG 34 2)<|H<|U<|B O<|zG O kE<|zK zAc (K 2 O) O<|F O<|qE O el25 (by omega) (Q hd)<|qR O zBi<|zK wW qA O<|zZ O el57<|F O<|H<|zP<|zT ⟨[(42,.c _),(10,.c _),(2,.c _),(4,.c _),(9,.c _),(40,.c _),(41,.c _)],[_,_,_]⟩ (Weak.mk [true,true,true] ⟨G,G,G,G,G,G,G,T⟩ O)<|qG 2 1 O O (Nat×Value) (fun ⟨j,sv⟩=>[(42,vI j),(10,.c (.lit sv))]) (fun ⟨j,sv⟩=>[E.vec sv 34 2 ((d.Dims.take j).map fun a=>a.Size.cells)]) (fun ⟨j,sv⟩=>j<=d.Dims.length) (fun ⟨j,sv⟩=>d.Dims.length-j) ⟨⟨0,(.slice none 0 0)⟩,(by omega),Weak.mk [true,true,true] ⟨G,G,G,G,G,G,G,T⟩ O⟩ ?_
   rintro ⟨j,sv⟩ hj
   show AWP _ _ _ _ _ ⟨[(42,vI j),(10,.c (.lit sv))]++_,[E.vec sv 34 2 ((d.Dims.take j).map fun a=>a.Size.cells)]++_⟩
   refine B O<|yB O<|H<|U<|g O (fun c4=>?_) (fun c4=>?_)
   ·try simp only [I] at c4
    obtain ⟨a,ha⟩:=qP d.Dims j (by omega)
    refine zJ<|U<|zP<|B O<|qE O el57 (by omega) (Q (by assumption))<|zL agg105 qA O<|zW O O (qI [none,none,some 2] O zr105 O) ?_
    rintro _ _ ⟨b5,rfl,rfl⟩
    refine N 0 sz105 O<|H<|zU O<|F O<|zG O zIt<|zL kP (K 0 O) O<|qK O ok108 (zAs a.Size (Nat.le_trans ((hP.ds d (qD hd)).2.2.1 a (qD ha)) (by decide))) ⟨G,O,T⟩<|qZ O el63 zr34<|zW O O (qS 1 O el63 O O O (by first|omega|(simp only [List.length_take,List.length_map,List.length_append,List.length_nil,List.length_cons];omega)) (by first|omega|(simp only [List.length_take,List.length_map,List.length_append,List.length_nil,List.length_cons];omega))) ?_
    rintro _ _ ⟨sv6,rfl,rfl⟩
    refine F O<|H<|zU O<|qL O ⟨by omega,by omega⟩<|F O<|H ?_
    refine ⟨⟨j+1,sv6⟩,(by omega),(by show d.Dims.length-(j+1)<d.Dims.length-j;omega),Weak.mk [false,true,true,true] ⟨G,G,G,G,G,G,G,T⟩ (by show _=[E.vec sv6 _ 2 ((d.Dims.take (j+1)).map fun a=>a.Size.cells)]++_;rw [qQ ha,List.map_append (f:=fun a:Ax=>a.Size.cells)];rfl)⟩
   ·try simp only [I] at c4
    refine qM<|B O<|zG O kE<|zK zAc (K 2 O) O<|F O<|qE O el25 (by omega) (Q hd)<|qR O zHz<|zL yF qA O<|F O<|N 1 sz31 O<|F O<|F O<|H<|zT _ (kB 0 O (regs':=[(10,_),(59,_),(5,_)]) (μ':=[_,_]) ⟨FLe.sl,FLe.sl,FLe.sl,T⟩ ⟨EFle.refl _,EFle.refl _,T⟩)<|W<|fin3 (zS yF O (K 0 O) O) (o O) (o O) ?_
    rw [hF,hfd,qY (l:=d.Dims) (k:=j) (by omega)];simp only [vLins,List.map_map];rfl
  ·try simp only [I] at c3
   have hfd:=(find_def s p.Defs).2 (by omega)
   refine zJ<|B O<|kA O zr31 pl31<|N 0 sz31 O<|qB O (yJ 2 O O)<|F O<|H<|W<|fin3 (zS yF O (K 0 O) O) (o O) (o O) ?_
   rw [hF,hfd];rfl
theorem zKk (b mb:Nat) (p:Pg) (m:Kn) (l:Lf) (hl:l.L.length<=4294967296):
    Con cfg 148 [vP b,vLin l] (tyE b mb p m) fun r μ'=>r=vI (formK (kn m) l)/\μ'=tyE b mb p m:=by
 refine zV Tryz.func148 O Tryz.ntmps148 Tryz.results148 O ?_
 intro z hz
 refine B O<|zW O O (qJ O O) ?_
 rintro _ _ ⟨b1,rfl,rfl⟩
 refine F O<|H<|U<|B O<|zG O wU<|zK zCb (K 0 O) O<|zZ O el32<|F O<|H<|zP<|zT ⟨[(10,.c _),(0,.c _),(8,.c _),(9,.c _)],[_,_]⟩ (Weak.mk [false,true,true] ⟨G,G,G,G,T⟩ O)<|qG 1 0 O O (Nat) (fun k=>[(10,vI k)]) (fun k=>[]) (fun k=>k<=l.L.length/\(knL (kn m) (l.L.take k)=true)) (fun k=>l.L.length-k) ⟨0,⟨by omega,O⟩,Weak.mk [true,true] ⟨G,G,G,G,T⟩ O⟩ ?_
 rintro k ⟨hk,hp⟩
 refine B O<|yB O<|H<|U<|g O (fun c1=>?_) (fun c1=>?_)
 ·try simp only [I] at c1
  obtain ⟨x,hx⟩:=qP l.L k (by omega)
  refine zJ<|U<|zP<|B O<|qE O el32 (by omega) (Q (by assumption))<|zL zIc qA O<|zW O O (yA O zr101) ?_
  rintro _ _ ⟨b2,rfl,rfl⟩
  refine N 0 sz101 O<|H<|U<|qO 8 mixed (by kernel_rfl) O O<|Y O O (zQ O O)<|Y O O (yW O O)<|Y O O (zD O fd113_1 O)<|Y O O (zF O zLy O (K 1 O) O)<|Y O O (zD O zBk O)<|Y O O (zF O i O (K 0 O) O)<|Y O O (zDm 2 (0:Int) O sm111 O O O (fun _ _=>CRep.lit _ O))<|Y O O (yL O O O)<|yK<|H<|g O (fun c2=>?_) (fun c2=>?_)
  ·try simp only [I] at c2
   refine B O<|F O<|H<|zT _ (Weak.mem [false,true,true] O)<|W<|R O ?_
   exact ⟨by rw [zHj (knF_no hx (kn_f c2))],O⟩
  ·try simp only [I] at c2
   refine zJ<|zU O<|qL O ⟨by omega,by omega⟩<|F O<|H ?_
   refine ⟨k+1,⟨by omega,knF_next hx hp (kn_t c2)⟩,(by omega),Weak.mk [false,true,true] ⟨G,G,G,G,T⟩ O⟩
 ·try simp only [I] at c1
  refine qM<|B O<|F O<|H<|W<|R O ?_
  exact ⟨by rw [qY (by omega)] at hp;rw [zMv hp],O⟩
theorem typer_index (b mb:Nat) (p:Pg) (m:Kn) (x:Ix) (hP:p.Ok) (hx:x.wt<=4294967296):
    Con cfg 203 [vP b,vIndex x] (tyE b mb p m) fun r μ'=>r=vI (indexK p.en (kn m) x)/\μ'=tyE b mb p m:=by
 refine zV Tryz.func203 O Tryz.ntmps203 Tryz.results203 O ?_
 intro z hz
 have hw:=hx
 unfold Ix.wt at hw
 clear hx
 refine B O<|zW O O (qJ O O) ?_
 rintro _ _ ⟨b1,rfl,rfl⟩
 refine F O<|H<|U<|B O<|zG O zDv<|zK i (K 0 O) O<|qB O (yQ O O O)<|H<|g O (fun c1=>?_) (fun c1=>?_)
 ·try simp only [I] at c1
  refine B O<|F O<|zG O zDw<|zL kP (K 0 O) O<|qB O (yY [1,1] O ok148 (zKk b mb p m x.Lin (by omega)) ⟨G,O,G,O,T⟩ O)<|F O<|H<|zT _ (Weak.mem [false,true,true] O)<|W<|R O ?_
  exact ⟨by rw [indexK,decide_eq_true c1];rfl,O⟩
 ·try simp only [I] at c1
  refine zJ<|U<|zPy 12 14 [.q,.q,.q,.q,.q,.q,.q,.q,.q,.u,.u,.f]  mixed (by kernel_rfl) O O O<|kN O O (zQ O O)<|kN O O (yW O O)<|kN O O (zD O fd113_0 O)<|kN O O (zN O kC O (K 1 O) O)<|kN O O (zD O zDv O)<|kN O O (zF O i O (K 0 O) O)<|kN O O (qF O ok202 (zLw p x.From hP) ⟨G,O,G,O,T⟩)<|kN O O (qU O O)<|kN O O (yN O O O)<|zJc O O (yG O O O)<|zJc O O (yG O O O)<|zMq<|tdq_nil<|zBj<|zBj<|zBj<|zBj<|zBj<|zBj<|zBj<|zBj<|zBj<|tdf_u<|tdf_u<|zJd (wN (yA O zr31))<|tdf_nil<|zHp ?_
  rintro _ _ ⟨b2,rfl,rfl⟩
  refine zKe ?_
  refine ⟨_,kT O sz31 O O O (zDo 0 O O),(by rintro _ _ ⟨rfl,rfl⟩;exact ⟨[_],rfl⟩),?_⟩
  rintro _ _ ⟨rfl,rfl⟩
  refine Y O O (yX O O)<|yK<|F O<|H<|U<|zP<|B O<|F O<|wI O<|F O<|H<|g O (fun c2=>?_) (fun c2=>?_)
  ·try simp only [I] at c2
   refine B O<|F O<|H<|zT _ (Weak.mem [false,false,true,true] O)<|W<|R O ?_
   exact ⟨by rw [indexK,decide_eq_false c1,c2];rfl,O⟩
  ·try simp only [I] at c2
   refine B O<|zG O zAn<|zK w (K 0 O) O<|yP O<|F O<|H<|g O (fun c3=>?_) (fun c3=>?_)
   ·try simp only [I] at c3
    refine B O<|F O<|H<|zT _ (Weak.mem [false,false,true,true] O)<|W<|R O ?_
    exact ⟨by rw [indexK,decide_eq_false c1,c2,decide_eq_false c3];rfl,O⟩
   ·try simp only [I] at c3
    refine B O<|zG O zAw<|zK zAv (K 1 O) O<|zZ O el63<|F O<|zZ O el63<|yP O<|F O<|H<|g O (fun c4=>?_) (fun c4=>?_)
    ·try simp only [I] at c4
     refine B O<|F O<|H<|zT _ (Weak.mem [false,false,true,true] O)<|W<|R O ?_
     exact ⟨by rw [indexK,decide_eq_false c1,c2,decide_eq_true c3,decide_eq_false (by omega)];rfl,O⟩
    ·try simp only [I] at c4
     refine zJ<|U<|B O<|zG O zAw<|zK zAv (K 1 O) O<|zZ O el63<|F O<|H<|zP<|zT ⟨[(46,.c _),(0,.c _),(44,.c _),(45,.c _)],[_,_]⟩ (Weak.mk [false,false,true,true] ⟨G,G,G,G,T⟩ O)<|qG 1 0 O O (Nat) (fun k=>[(46,vI k)]) (fun k=>[]) (fun k=>k<=x.At.length/\((x.At.take k).all (fun x=>knL (kn m) x.L)=true)) (fun k=>x.At.length-k) ⟨0,⟨by omega,O⟩,Weak.mk [true,true] ⟨G,G,G,G,T⟩ O⟩ ?_
     rintro k ⟨hk,hp⟩
     refine B O<|yB O<|H<|U<|g O (fun c5=>?_) (fun c5=>?_)
     ·try simp only [I] at c5
      obtain ⟨l,hl⟩:=qP x.At k (by omega)
      refine zJ<|U<|zP<|B O<|qE O el63 (by omega) (Q (by assumption))<|zL kP qA O<|zW O O (qI [none,some 2] O zr34 O) ?_
      rintro _ _ ⟨b3,rfl,rfl⟩
      refine N 0 sz34 O<|H<|B O<|F O<|zL kP (K 0 O) O<|qB O (yY [1,1] O ok148 (zKk b mb p m l (by have:=zBw (qD hl);omega)) ⟨G,O,G,O,T⟩ O)<|F O<|H<|B O<|F O<|yP O<|H<|g O (fun c6=>?_) (fun c6=>?_)
      ·try simp only [I] at c6
       refine B O<|F O<|F O<|H<|zT _ (Weak.mem [false,true,true] O)<|W<|R O ?_
       exact ⟨by rw [indexK,decide_eq_false c1,c2,decide_eq_true c3,decide_eq_true (by omega)];simp only [cond_false,Bool.not_true];rw [formsK_no hl c6],O⟩
      ·try simp only [I] at c6
       refine zJ<|zU O<|qL O ⟨by omega,by omega⟩<|F O<|H ?_
       refine ⟨k+1,⟨by omega,zPa hl hp c6⟩,(by omega),Weak.mk [false,true,true] ⟨G,G,G,G,T⟩ O⟩
     ·try simp only [I] at c5
      refine qM<|B O<|F O<|H<|W<|R O ?_
      exact ⟨by rw [qY (by omega)] at hp;rw [indexK,decide_eq_false c1,c2,decide_eq_true c3,decide_eq_true (by omega)];simp only [cond_false,Bool.not_true];rw [formsK_ok hp],O⟩
end Go.W
