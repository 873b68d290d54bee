/-
  Walks: what functions of the program compute. Printed by wip/gen/mk2.py.
  Conditions: none.
-/
import Derived.Test.YtkidnhldibjiaaaGreatDoorWK
import Derived.Test.YtkidnhldibjiaaaGreatDoorProg17M
set_option linter.unusedSimpArgs false
set_option linter.unusedVariables false
set_option maxRecDepth 10000
namespace Go.W
open Go Go.Eng Go.Proofs Go.L41 Go.Br
attribute [local irreducible] AWP RWP TD finQ
theorem wC:aggT Tryz.prog 27=some 5:=by kernel_rfl
theorem agg67:aggT Tryz.prog 67=some 7:=by kernel_rfl
theorem agg101:aggT Tryz.prog 101=some 3:=by kernel_rfl
theorem zLx:fieldT Tryz.prog 63 1=some (1,37):=by kernel_rfl
theorem fd67_0:fieldT Tryz.prog 67 0=some (0,9):=by kernel_rfl
theorem fd67_1:fieldT Tryz.prog 67 1=some (1,37):=by kernel_rfl
theorem zHp:fieldT Tryz.prog 67 2=some (6,65):=by kernel_rfl
theorem zDm:fieldT Tryz.prog 111 1=some (1,40):=by kernel_rfl
theorem zPn:fieldT Tryz.prog 120 1=some (5,118):=by kernel_rfl
theorem fd196_0:fieldT Tryz.prog 196 0=some (0,27):=by kernel_rfl
theorem fd196_1:fieldT Tryz.prog 196 1=some (5,118):=by kernel_rfl
theorem ok67:callOk Tryz.prog 67=true:=by kernel_rfl
theorem ok85:callOk Tryz.prog 85=true:=by kernel_rfl
theorem ok139:callOk Tryz.prog 139=true:=by kernel_rfl
theorem ok140:callOk Tryz.prog 140=true:=by kernel_rfl
theorem ok141:callOk Tryz.prog 141=true:=by kernel_rfl
theorem ok208:callOk Tryz.prog 208=true:=by kernel_rfl
theorem ok251:callOk Tryz.prog 251=true:=by kernel_rfl
theorem ok287:callOk Tryz.prog 287=true:=by kernel_rfl
theorem zLs:oneT Tryz.prog 118=true:=by kernel_rfl
theorem sm118:smapT Tryz.prog 118=some (Value.int IntKind.i64 0):=by kernel_rfl
theorem sm217:smapT Tryz.prog 217=some (Value.bool false):=by kernel_rfl
theorem sz37:(Tryz.prog.info? 37).map (·.size)=some 5:=by kernel_rfl
theorem sz67:(Tryz.prog.info? 67).map (·.size)=some 7:=by kernel_rfl
theorem zr67:zeroT Tryz.prog 67=some [(Value.string (ByteArray.mk #[])),(Value.int IntKind.i64 0),(Value.int IntKind.i64 0),(Value.int IntKind.i64 0),(Value.int IntKind.i64 0),(Value.int IntKind.i64 0),(Value.slice none 0 0)]:=by kernel_rfl
theorem zGl (b mb:Nat) (p:Pg) (m:Kn) (s:ByteArray) (k:Int):
    Con cfg 67 [vP b,vS s,vI k] (ckE b mb p m) fun r μ'=>r=vI (nameM m s)/\μ'=ckE b mb p (nameMap m s k):=by
 refine zR Tryz.func67 O Tryz.ntmps67 Tryz.results67 O ?_
 intro z hz
 refine G O<|Y O<|W<|zG<|G O<|Y O<|qK O ok138 (zDs _) ⟨U,O,T⟩<|wD O<|W<|zE O (fun c1=>?_) (fun c1=>?_)
 ·try simp only [sx] at c1
  refine G O<|Y O<|W<|zJ<|zP O ?_
  exact ⟨by rw [nameM_bad c1],by rw [←nmap_bad (nameM_bad c1) (by decide)]⟩
 ·try simp only [sx] at c1
  refine zI<|zG<|G O<|Y O<|zX O (yU O O)<|zD O zPn<|zH zLs (J 0 O) O<|Y O<|zX O (zDc 1 (0:Int) O sm118 O O O (fun _ _=>CRep.lit _ O))<|yR O<|W<|zE O (fun c2=>?_) (fun c2=>?_)
  ·try simp only [sx] at c2
   refine G O<|Y O<|W<|zJ<|zP O ?_
   exact ⟨by rw [nameM_dup c1 c2],by rw [←nmap_bad (nameM_dup c1 c2) (by decide)]⟩
  ·try simp only [sx] at c2
   refine zI<|G O<|Y O<|zX O (yU O O)<|zD O zPn<|zH zLs (J 0 O) O<|Y O<|Y O<|zCd O O (zEp 1 k O sm118 O O O (U) O)<|W<|G O<|Y O<|W<|zJ<|zP O ?_
   exact ⟨by rw [nameM_ok c1 c2],by rw [zKw (nameM_ok c1 c2)];rfl⟩
theorem zFf (b mb:Nat) (p:Pg) (m:Kn) (l:Lf) (hl:l.L.length<=5864062014805):
    Con cfg 140 [vP b,vLin l] (ckE b mb p m) fun r μ'=>r=vI (sizedM m l)/\μ'=ckE b mb p m:=by
 refine zR Tryz.func140 O Tryz.ntmps140 Tryz.results140 O ?_
 intro z hz
 refine G O<|zS O O (qG O O) ?_
 rintro _ _ ⟨b1,rfl,rfl⟩
 refine Y O<|W<|zG<|G O<|zL kF (J 0 O) O<|qK O ok190 (zGd l (by omega)) ⟨U,O,T⟩<|yR O<|W<|zE O (fun c1=>?_) (fun c1=>?_)
 ·try simp only [sx] at c1
  refine G O<|Y O<|W<|zU _ (Weak.mem [false,true,true] O)<|zJ<|zP O ?_
  exact ⟨by rw [sized_arg (linErr_no c1)],O⟩
 ·try simp only [sx] at c1
  refine zI<|zG<|G O<|zD O kR<|zH zAm (J 0 O) O<|zV O el38<|Y O<|W<|zN<|zU ⟨[(13,.c _),(0,.c _),(11,.c _),(12,.c _)],[_,_]⟩ (Weak.mk [false,true,true] ⟨U,U,U,U,T⟩ O)<|qA 1 0 O O (Nat) (fun k=>[(13,vI k)]) (fun k=>[]) (fun k=>k<=l.L.length/\(knL (fun s=>decide (kget m s=1)) (l.L.take k)=true)) (fun k=>l.L.length-k) ⟨0,⟨by omega,O⟩,Weak.mk [true,true] ⟨U,U,U,U,T⟩ O⟩ ?_
  rintro k ⟨hk,hp⟩
  refine G O<|qW O<|W<|zG<|zE O (fun c2=>?_) (fun c2=>?_)
  ·try simp only [sx] at c2
   obtain ⟨x,hx⟩:=qP l.L k (by omega)
   refine zI<|zG<|zN<|G O<|zZ O el38 (by omega) (getm (by assumption))<|zL zDo zY O<|zS O O (yB O zIo) ?_
   rintro _ _ ⟨b2,rfl,rfl⟩
   refine N 0 sz107 O<|W<|zG<|qY 8 mixed (by kernel_rfl) O O<|zM O O (zQ O O)<|zM O O (yU O O)<|zM O O (zF O zPn O)<|zM O O (zK O zLs O (J 1 O) O)<|zM O O (zF O zAk O)<|zM O O (zK O one9 O (J 0 O) O)<|zM O O (zDc 2 (0:Int) O sm118 O O O (fun _ _=>CRep.lit _ O))<|zM O O (wZ O O O)<|yT<|W<|zE O (fun c3=>?_) (fun c3=>?_)
   ·try simp only [sx] at c3
    refine G O<|Y O<|W<|zU _ (Weak.mem [false,true,true] O)<|zJ<|zP O ?_
    exact ⟨by rw [sized_nf (linErr_yes c1) (knF_no hx (yI c3))],O⟩
   ·try simp only [sx] at c3
    refine zI<|zO O<|qB O ⟨by omega,by omega⟩<|Y O<|W ?_
    refine ⟨k+1,⟨by omega,knF_next hx hp (wA c3)⟩,(by omega),Weak.mk [false,true,true] ⟨U,U,U,U,T⟩ O⟩
  ·try simp only [sx] at c2
   refine qE<|G O<|Y O<|W<|zJ<|zP O ?_
   exact ⟨by rw [qS (by omega)] at hp;rw [sized_ok (linErr_yes c1) hp],O⟩
theorem zJs (b mb:Nat) (p:Pg) (m:Kn) (x:Cn) (hl:x.Lin.L.length<=5864062014805):
    Con cfg 68 [vP b,vCn x] (ckE b mb p m) fun r μ'=>r=vI (sizedM m x.Lin)/\μ'=ckE b mb p m:=by
 refine zR Tryz.func68 O Tryz.ntmps68 Tryz.results68 O ?_
 intro z hz
 refine G O<|zS O O (qG O O) ?_
 rintro _ _ ⟨b1,rfl,rfl⟩
 refine Y O<|W<|zG<|G O<|zL agg101 (J 0 O) O<|qK O ok139 (zIk x hl) ⟨U,O,T⟩<|yR O<|W<|zE O (fun c1=>?_) (fun c1=>?_)
 ·try simp only [sx] at c1
  refine G O<|Y O<|W<|zU _ (Weak.mem [false,true,true] O)<|zJ<|zP O ?_
  exact ⟨by rw [sized_arg (linErr_no c1)],O⟩
 ·try simp only [sx] at c1
  refine zI<|G O<|Y O<|zD O fd101_0<|zL kF (J 0 O) O<|zX O (yQ [1,1] O ok140 (zFf b mb p m x.Lin hl) ⟨U,O,U,O,T⟩ O)<|Y O<|W<|zU _ (Weak.mem [false,true,true] O)<|zJ<|zP O ?_
  exact ⟨O,O⟩
theorem checker_param (b mb:Nat) (p:Pg) (m:Kn) (x:Pm) (hl:x.Dims.length<=4294967296) (hx0:∀l,l∈x.Dims->l.L.length<=5864062014805):
    Con cfg 69 [vP b,vPm x] (ckE b mb p m) fun r μ'=>r=vI (paramM m x)/\μ'=ckE b mb p (nameMap m x.Name 2):=by
 refine zR Tryz.func69 O Tryz.ntmps69 Tryz.results69 O ?_
 intro z hz
 refine G O<|zS O O (qG O O) ?_
 rintro _ _ ⟨b1,rfl,rfl⟩
 refine Y O<|W<|zG<|G O<|Y O<|zD O fd67_0<|zH one9 (J 0 O) O<|zX O (yQ [1,1] O ok67 (zGl b mb p m x.Name 2) ⟨U,O,U,O,U,O,T⟩ O)<|Y O<|W<|G O<|Y O<|yR O<|W<|zE O (fun c1=>?_) (fun c1=>?_)
 ·try simp only [sx] at c1
  refine G O<|Y O<|Y O<|W<|zU _ (Weak.mem [false,true,true] O)<|zJ<|zP O ?_
  exact ⟨by unfold paramM;rw [if_neg c1],O⟩
 ·try simp only [sx] at c1
  refine zI<|zG<|G O<|zD O fd67_1<|zL yD (J 0 O) O<|zD O zHp<|zH zAr (J 0 O) O<|zV O el65<|qX O el214 zr3<|qK O ok141 (zFj x.T [(x.Dims.length:Int)] _ O (by simp)) ⟨U,O,U,O,T⟩<|Y O<|W<|G O<|Y O<|yR O<|W<|zE O (fun c2=>?_) (fun c2=>?_)
  ·try simp only [sx] at c2
   have hP:=param_bad c1 c2
   refine G O<|Y O<|Y O<|W<|zU _ (Weak.mem [false,true,true] O)<|zJ<|zP O ?_
   exact ⟨by rw [hP],O⟩
  ·try simp only [sx] at c2
   have hP:=param_ok c1 c2
   refine zI<|zG<|G O<|zD O zHp<|zH zAr (J 0 O) O<|zV O el65<|Y O<|W<|zN<|zU ⟨[(30,.c _),(0,.c _),(28,.c _),(29,.c _)],[_,_]⟩ (Weak.mk [false,true,true] ⟨U,U,U,U,T⟩ O)<|qA 1 0 O O (Nat) (fun k=>[(30,vI k)]) (fun k=>[]) (fun k=>k<=x.Dims.length/\(sizedsM (nameMap m x.Name 2) x.Dims=sizedsM (nameMap m x.Name 2) (x.Dims.drop k))) (fun k=>x.Dims.length-k) ⟨0,⟨by omega,O⟩,Weak.mk [true,true] ⟨U,U,U,U,T⟩ O⟩ ?_
   rintro k ⟨hk,hp⟩
   refine G O<|qW O<|W<|zG<|zE O (fun c3=>?_) (fun c3=>?_)
   ·try simp only [sx] at c3
    obtain ⟨y,hy⟩:=qP x.Dims k (by omega)
    refine zI<|zG<|zN<|G O<|zZ O el65 (by omega) (getm (by assumption))<|zL kF zY O<|zS O O (qD [none,some 2] O zr40 O) ?_
    rintro _ _ ⟨b2,rfl,rfl⟩
    refine N 0 sz40 O<|W<|G O<|Y O<|zL kF (J 0 O) O<|zX O (yQ [1,1] O ok140 (zFf b mb p _ y (hx0 _ (zW hy))) ⟨U,O,U,O,T⟩ O)<|Y O<|W<|G O<|Y O<|yR O<|W<|zE O (fun c4=>?_) (fun c4=>?_)
    ·try simp only [sx] at c4
     refine G O<|Y O<|Y O<|W<|zU _ (Weak.mem [false,true,true] O)<|zJ<|zP O ?_
     exact ⟨by rw [hP,hp,sizeds_no hy c4],O⟩
    ·try simp only [sx] at c4
     refine zI<|zO O<|qB O ⟨by omega,by omega⟩<|Y O<|W ?_
     refine ⟨k+1,⟨by omega,hp.trans (sizeds_at hy c4)⟩,(by omega),Weak.mk [false,true,true] ⟨U,U,U,U,T⟩ O⟩
   ·try simp only [sx] at c3
    refine qE<|G O<|Y O<|W<|zJ<|zP O ?_
    exact ⟨by rw [hP,hp,wE (by omega)];rfl,O⟩
theorem checker_axes (b mb:Nat) (p:Pg) (m:Kn) (d:Df) (hD:d.Dims.length<=1073741824) (hR:d.Red.length<=1073741824) (hA:∀a,a∈d.Dims->a.Size.L.length<=5864062014805) (hA2:∀a,a∈d.Red->a.Size.L.length<=5864062014805):
    Con cfg 142 [vP b,vDf d] (ckE b mb p m) fun r μ'=>r=vI (axesM m [] (d.Dims++d.Red))/\μ'=ckE b mb p m:=by
 refine zR Tryz.func142 O Tryz.ntmps142 Tryz.results142 O ?_
 intro z hz
 refine G O<|zS O O (qG O O) ?_
 rintro _ _ ⟨b1,rfl,rfl⟩
 refine Y O<|W<|G O<|zS O O (zJd vB O O) ?_
 rintro _ _ ⟨b2,rfl,rfl⟩
 refine Y O<|W<|zG<|G O<|zD O zAl<|zH kQ (J 1 O) O<|zD O zAc<|zH kQ (J 1 O) O<|qX O el185 zr61<|qK O ok157 (OwnR.pur (zEd d.Dims d.Red hD hR)) ⟨U,O,T⟩<|zV O D<|Y O<|W<|zN<|zU ⟨[(17,.c _),(0,.c _),(5,.c _),(15,.c _),(16,.c _)],[_,_,_]⟩ (Weak.mk [true,false,true,true] ⟨U,U,U,U,U,T⟩ O)<|qA 1 1 O O (Nat) (fun k=>[(17,vI k)]) (fun k=>[E.blk b2 (MapR vB (ownT ((d.Dims++d.Red).take k)))]) (fun k=>k<=(d.Dims++d.Red).length/\(axesM m [] (d.Dims++d.Red)=axesM m (((d.Dims++d.Red).take k).map Ax.Name) ((d.Dims++d.Red).drop k))) (fun k=>(d.Dims++d.Red).length-k) ⟨0,⟨by omega,O⟩,Weak.mk [true,true,true] ⟨U,U,U,U,U,T⟩ O⟩ ?_
 rintro k ⟨hk,hp⟩
 refine G O<|qW O<|W<|zG<|zE O (fun c1=>?_) (fun c1=>?_)
 ·try simp only [sx] at c1
  obtain ⟨x,hx⟩:=qP (d.Dims++d.Red) k (by omega)
  have hlen:(d.Dims++d.Red).length=d.Dims.length+d.Red.length:=List.length_append
  have hog:=own_get x.Name ((d.Dims++d.Red).take k)
  refine zI<|zG<|zN<|G O<|zZ O D (by omega) (getm (by assumption))<|zL zEr zY O<|zS O O (qD [none,none,some 2] O zHg O) ?_
  rintro _ _ ⟨b3,rfl,rfl⟩
  refine N 0 sz111 O<|W<|zG<|zN<|G O<|zD O zAj<|zH one9 (J 0 O) O<|qK O ok138 (zDs _) ⟨U,O,T⟩<|wD O<|Y O<|W<|zE O (fun c2=>?_) (fun c2=>?_)
  ·try simp only [sx] at c2
   refine G O<|Y O<|W<|zU _ (Weak.mem [false,false,true,true] O)<|zJ<|zP O ?_
   exact ⟨by rw [hp,axes_7 hx c2],O⟩
  ·try simp only [sx] at c2
   refine zG<|qY 15 mixed (by kernel_rfl) O O<|zM O O (zQ O O)<|zM O O (zF O zAj O)<|zM O O (zK O one9 O (J 0 O) O)<|zM O O (zDc 1 false O sm217 O O O (fun _ _=>CRep.lit _ O))<|zM O O (zQ O O)<|qC [] O O O O gv1 T (fun g7_4=>zQ O O) O<|qC [(32,_)] O O O O gv1 ⟨O,O,T⟩ (fun g7_4=>yU O O) O<|qC [(33,_)] O O O O gv1 ⟨O,O,T⟩ (fun g7_4=>zF O zPn O) O<|qC [(34,_)] O O O O gv1 ⟨O,O,T⟩ (fun g7_4=>zK O zLs O (J 2 O) O) O<|qC [] O O O O gv1 T (fun g7_4=>zF O zAj O) O<|qC [(36,_)] O O O O gv1 ⟨O,O,T⟩ (fun g7_4=>zK O one9 O (J 0 O) O) O<|qC [(35,_),(37,_)] O O O O gv1 ⟨O,O,O,O,T⟩ (fun g7_4=>zDc 3 (0:Int) O sm118 O O O (fun _ _=>CRep.lit _ O)) O<|qC [(38,_)] O O O O gv1 ⟨O,O,T⟩ (fun g7_4=>yL O O O) O<|zM O O (zBw O O O O (fun h=>(lzf h)))<|zM O O (yV O O)<|yT<|W<|zE O (fun c3=>?_) (fun c3=>?_)
   ·have h8:=ax_yes hog c3
    refine G O<|Y O<|W<|zU _ (Weak.mem [false,false,true,true] O)<|zJ<|zP O ?_
    exact ⟨by rw [hp,axes_8 hx c2 h8],O⟩
   ·have h8:=ax_no hog c3
    refine zI<|G O<|Y O<|zD O zAj<|zH one9 (J 0 O) O<|zCd O O (zEp 1 true O sm217 O O O (U) O)<|W<|G O<|Y O<|zD O zDm<|zL kF (J 0 O) O<|zX O (yQ [2,2] O ok140 (zFf b mb p m x.Size (by rcases List.mem_append.1 (zW hx) with h|h;exact hA _ h;exact hA2 _ h)) ⟨U,O,U,O,T⟩ O)<|Y O<|W<|G O<|Y O<|yR O<|W<|zE O (fun c4=>?_) (fun c4=>?_)
    ·try simp only [sx] at c4
     refine G O<|Y O<|Y O<|W<|zU _ (Weak.mem [false,false,true,true] O)<|zJ<|zP O ?_
     exact ⟨by rw [hp,axes_s hx c2 h8 c4],O⟩
    ·try simp only [sx] at c4
     refine zI<|zO O<|qB O ⟨by omega,by omega⟩<|Y O<|W ?_
     refine ⟨k+1,⟨by omega,by rw [hp,axes_at hx c2 h8 c4,qM hx,List.map_append];rfl⟩,(by omega),Weak.mk [false,true,true,true] ⟨U,U,U,U,U,T⟩ (by show _=[E.blk b2 (MapR vB (ownT ((d.Dims++d.Red).take (k+1))))]++_;rw [ownT_next hx];rfl)⟩
 ·try simp only [sx] at c1
  refine qE<|G O<|Y O<|W<|zU _ (Weak.mem [false,true,true] O)<|zJ<|zP O ?_
  exact ⟨by rw [hp,wE (by omega)];rfl,O⟩
theorem zLr (p:Pg) (s:ByteArray) (hP:p.Ok):
    Pur cfg 251 [vPg p,vS s] (.tup [vTy (p.en.find s).ty,vLins (p.en.find s).dims,vB (p.en.find s).ok]):=by
 refine zR Tryz.func251 O Tryz.ntmps251 Tryz.results251 O ?_
 intro z hz
 have hpl:=hP.params
 refine G O<|zS O O (qG O O) ?_
 rintro _ _ ⟨b1,rfl,rfl⟩
 refine zS O O (yB O zr37) ?_
 rintro _ _ ⟨b2,rfl,rfl⟩
 refine zX O (yA 2 O O)<|Y O<|W<|zG<|G O<|zD O zBu<|zH zFp (J 1 O) O<|zV O el24<|Y O<|W<|zN<|zU ⟨[(16,.c _),(1,.c _),(2,.c _),(4,.c _),(14,.c _),(15,.c _)],[_,_]⟩ (Weak.mk [true,true] ⟨U,U,U,U,U,U,T⟩ O)<|qA 1 0 O O (Nat) (fun k=>[(16,vI k)]) (fun k=>[]) (fun k=>k<=p.Params.length/\(findP s p.Defs p.Params=findP s p.Defs (p.Params.drop k))) (fun k=>p.Params.length-k) ⟨0,⟨by omega,O⟩,Weak.mk [true,true] ⟨U,U,U,U,U,U,T⟩ O⟩ ?_
 rintro k ⟨hk,hp⟩
 refine G O<|qW O<|W<|zG<|zE O (fun c1=>?_) (fun c1=>?_)
 ·try simp only [sx] at c1
  obtain ⟨x,hx⟩:=qP p.Params k (by omega)
  refine zI<|zG<|zN<|G O<|zZ O el24 (by omega) (getm (by assumption))<|zL agg67 zY O<|zS O O (qD [none,none,none,none,none,none,some 2] O zr67 O) ?_
  rintro _ _ ⟨b3,rfl,rfl⟩
  refine N 0 sz67 O<|W<|G O<|zD O fd67_0<|zH one9 (J 0 O) O<|Y O<|zX O (yM O O O)<|W<|zE O (fun c2=>?_) (fun c2=>?_)
  ·try simp only [sx] at c2
   refine zG<|qY 5 mixed (by kernel_rfl) O O<|zM O O (zF O fd67_1 O)<|zM O O (zT O yD O (J 0 O) O)<|zM O O (zF O zHp O)<|zM O O (zK O zAr O (J 0 O) O)<|zM O O (qH O ok85 (OwnR.pur (zEf x.Dims (hP.ps x (zW hx)).1 (fun y hy=>Nat.le_trans ((hP.ps x (zW hx)).2 y hy) (by decide)))) ⟨U,O,T⟩)<|yT<|N 1 sz37 O<|Y O<|Y O<|W<|zJ<|fin3 (qF yD O (J 1 O) O) (v O) (v O) ?_
   rw [En.find,show p.en.pm=p.Params from rfl,show p.en.df=p.Defs from rfl,hp,find_at hx c2];rfl
  ·try simp only [sx] at c2
   refine zI<|zO O<|qB O ⟨by omega,by omega⟩<|Y O<|W ?_
   refine ⟨k+1,⟨by omega,hp.trans (find_next hx c2)⟩,(by omega),Weak.mk [false,true,true] ⟨U,U,U,U,U,U,T⟩ O⟩
 ·try simp only [sx] at c1
  have hF:p.en.find s=findD s p.Defs:=by rw [En.find,show p.en.pm=p.Params from rfl,show p.en.df=p.Defs from rfl,hp,wE (by omega)];rfl
  refine qE<|zG<|G O<|zL wC (J 1 O) O<|Y O<|qK O ok287 (zOg p s hP.defs) ⟨U,O,U,O,T⟩<|Y O<|W<|G O<|Y O<|zX O (kX O O O)<|W<|zE O (fun c3=>?_) (fun c3=>?_)
  ·try simp only [sx] at c3
   obtain ⟨d,hd,hfd⟩:=(find_def s p.Defs).1 c3
   have hdd:=(hP.ds d (zW hd)).1
   refine G O<|Y O<|qV _ (yH 40 2)<|W<|zG<|G O<|zD O yZ<|zH wL (J 2 O) O<|Y O<|zZ O el25 (by omega) (getm hd)<|qN O zAl<|zH kQ zY O<|zV O D<|Y O<|W<|zN<|zU ⟨[(42,.c _),(10,.c _),(2,.c _),(4,.c _),(9,.c _),(40,.c _),(41,.c _)],[_,_,_]⟩ (Weak.mk [true,true,true] ⟨U,U,U,U,U,U,U,T⟩ O)<|qA 2 1 O O (Nat×Value) (fun ⟨j,sv⟩=>[(42,vI j),(10,.c (.lit sv))]) (fun ⟨j,sv⟩=>[E.vec sv 40 2 ((d.Dims.take j).map fun a=>a.Size.cells)]) (fun ⟨j,sv⟩=>j<=d.Dims.length) (fun ⟨j,sv⟩=>d.Dims.length-j) ⟨⟨0,(.slice none 0 0)⟩,(by omega),Weak.mk [true,true,true] ⟨U,U,U,U,U,U,U,T⟩ O⟩ ?_
   rintro ⟨j,sv⟩ hj
   show AWP _ _ _ _ _ ⟨[(42,vI j),(10,.c (.lit sv))]++_,[E.vec sv 40 2 ((d.Dims.take j).map fun a=>a.Size.cells)]++_⟩
   refine G O<|qW O<|W<|zG<|zE O (fun c4=>?_) (fun c4=>?_)
   ·try simp only [sx] at c4
    obtain ⟨a,ha⟩:=qP d.Dims j (by omega)
    refine zI<|zG<|zN<|G O<|zZ O D (by omega) (getm (by assumption))<|zL zEr zY O<|zS O O (qD [none,none,some 2] O zHg O) ?_
    rintro _ _ ⟨b5,rfl,rfl⟩
    refine N 0 sz111 O<|W<|zO O<|Y O<|zD O zDm<|zL kF (J 0 O) O<|qK O ok84 (zBe a.Size (Nat.le_trans ((hP.ds d (zW hd)).2.2.1 a (zW ha)) (by decide))) ⟨U,O,T⟩<|qX O el65 zr40<|zS O O (qO 1 O el65 O O O (by first|omega|(simp only [List.length_take,List.length_map,List.length_append,List.length_nil,List.length_cons];omega)) (by first|omega|(simp only [List.length_take,List.length_map,List.length_append,List.length_nil,List.length_cons];omega))) ?_
    rintro _ _ ⟨sv6,rfl,rfl⟩
    refine Y O<|W<|zO O<|qB O ⟨by omega,by omega⟩<|Y O<|W ?_
    refine ⟨⟨j+1,sv6⟩,(by omega),(by show d.Dims.length-(j+1)<d.Dims.length-j;omega),Weak.mk [false,true,true,true] ⟨U,U,U,U,U,U,U,T⟩ (by show _=[E.vec sv6 _ 2 ((d.Dims.take (j+1)).map fun a=>a.Size.cells)]++_;rw [qM ha,List.map_append (f:=fun a:Ax=>a.Size.cells)];rfl)⟩
   ·try simp only [sx] at c4
    refine qE<|G O<|zD O yZ<|zH wL (J 2 O) O<|Y O<|zZ O el25 (by omega) (getm hd)<|qN O zLx<|zL yD zY O<|Y O<|N 1 sz37 O<|Y O<|Y O<|W<|zU _ (yJ 0 O (regs':=[(10,_),(59,_),(5,_)]) (μ':=[_,_]) ⟨FLe.sl,FLe.sl,FLe.sl,T⟩ ⟨EFle.refl _,EFle.refl _,T⟩)<|zJ<|fin3 (qF yD O (J 0 O) O) (v O) (v O) ?_
    rw [hF,hfd,qS (l:=d.Dims) (k:=j) (by omega)];simp only [vLins,List.map_map];rfl
  ·try simp only [sx] at c3
   have hfd:=(find_def s p.Defs).2 (by omega)
   refine zI<|G O<|yW O zr37 pl37<|N 0 sz37 O<|zX O (yA 2 O O)<|Y O<|W<|zJ<|fin3 (qF yD O (J 0 O) O) (v O) (v O) ?_
   rw [hF,hfd];rfl
theorem zKg (b mb:Nat) (p:Pg) (m:Kn) (l:Lf) (hl:l.L.length<=4294967296):
    Con cfg 208 [vP b,vLin l] (tyE b mb p m) fun r μ'=>r=vI (formK (kn m) l)/\μ'=tyE b mb p m:=by
 refine zR Tryz.func208 O Tryz.ntmps208 Tryz.results208 O ?_
 intro z hz
 refine G O<|zS O O (qG O O) ?_
 rintro _ _ ⟨b1,rfl,rfl⟩
 refine Y O<|W<|zG<|G O<|zD O kR<|zH zAm (J 0 O) O<|zV O el38<|Y O<|W<|zN<|zU ⟨[(10,.c _),(0,.c _),(8,.c _),(9,.c _)],[_,_]⟩ (Weak.mk [false,true,true] ⟨U,U,U,U,T⟩ O)<|qA 1 0 O O (Nat) (fun k=>[(10,vI k)]) (fun k=>[]) (fun k=>k<=l.L.length/\(knL (kn m) (l.L.take k)=true)) (fun k=>l.L.length-k) ⟨0,⟨by omega,O⟩,Weak.mk [true,true] ⟨U,U,U,U,T⟩ O⟩ ?_
 rintro k ⟨hk,hp⟩
 refine G O<|qW O<|W<|zG<|zE O (fun c1=>?_) (fun c1=>?_)
 ·try simp only [sx] at c1
  obtain ⟨x,hx⟩:=qP l.L k (by omega)
  refine zI<|zG<|zN<|G O<|zZ O el38 (by omega) (getm (by assumption))<|zL zDo zY O<|zS O O (yB O zIo) ?_
  rintro _ _ ⟨b2,rfl,rfl⟩
  refine N 0 sz107 O<|W<|zG<|qY 8 mixed (by kernel_rfl) O O<|zM O O (zQ O O)<|zM O O (yU O O)<|zM O O (zF O fd196_1 O)<|zM O O (zK O zLs O (J 1 O) O)<|zM O O (zF O zAk O)<|zM O O (zK O one9 O (J 0 O) O)<|zM O O (zDc 2 (0:Int) O sm118 O O O (fun _ _=>CRep.lit _ O))<|zM O O (yL O O O)<|yT<|W<|zE O (fun c2=>?_) (fun c2=>?_)
  ·try simp only [sx] at c2
   refine G O<|Y O<|W<|zU _ (Weak.mem [false,true,true] O)<|zJ<|zP O ?_
   exact ⟨by rw [zHa (knF_no hx (kn_f c2))],O⟩
  ·try simp only [sx] at c2
   refine zI<|zO O<|qB O ⟨by omega,by omega⟩<|Y O<|W ?_
   refine ⟨k+1,⟨by omega,knF_next hx hp (kn_t c2)⟩,(by omega),Weak.mk [false,true,true] ⟨U,U,U,U,T⟩ O⟩
 ·try simp only [sx] at c1
  refine qE<|G O<|Y O<|W<|zJ<|zP O ?_
  exact ⟨by rw [qS (by omega)] at hp;rw [zMz hp],O⟩
theorem typer_index (b mb:Nat) (p:Pg) (m:Kn) (x:Ix) (hP:p.Ok) (hx:x.wt<=4294967296):
    Con cfg 252 [vP b,vIndex x] (tyE b mb p m) fun r μ'=>r=vI (indexK p.en (kn m) x)/\μ'=tyE b mb p m:=by
 refine zR Tryz.func252 O Tryz.ntmps252 Tryz.results252 O ?_
 intro z hz
 have hw:=hx
 unfold Ix.wt at hw
 clear hx
 refine G O<|zS O O (qG O O) ?_
 rintro _ _ ⟨b1,rfl,rfl⟩
 refine Y O<|W<|zG<|G O<|zD O wX<|zH one9 (J 0 O) O<|zX O (yM O O O)<|W<|zE O (fun c1=>?_) (fun c1=>?_)
 ·try simp only [sx] at c1
  refine G O<|Y O<|zD O zAz<|zL kF (J 0 O) O<|zX O (yQ [1,1] O ok208 (zKg b mb p m x.Lin (by omega)) ⟨U,O,U,O,T⟩ O)<|Y O<|W<|zU _ (Weak.mem [false,true,true] O)<|zJ<|zP O ?_
  exact ⟨by rw [indexK,decide_eq_true c1];rfl,O⟩
 ·try simp only [sx] at c1
  refine zI<|zG<|zQi 12 14 [.q,.q,.q,.q,.q,.q,.q,.q,.q,.u,.u,.f]  mixed (by kernel_rfl) O O O<|kK O O (zQ O O)<|kK O O (yU O O)<|kK O O (zF O fd196_0 O)<|kK O O (zT O wC O (J 1 O) O)<|kK O O (zF O wX O)<|kK O O (zK O one9 O (J 0 O) O)<|kK O O (qH O ok251 (zLr p x.From hP) ⟨U,O,U,O,T⟩)<|kK O O (yE O O)<|kK O O (kA O O O)<|zIt O O (yP O O O)<|zIt O O (yP O O O)<|zMr<|tdq_nil<|zAy<|zAy<|zAy<|zAy<|zAy<|zAy<|zAy<|zAy<|zAy<|tdf_u<|tdf_u<|zIu (zBo (yB O zr37))<|tdf_nil<|zHe ?_
  rintro _ _ ⟨b2,rfl,rfl⟩
  refine zJw ?_
  refine ⟨_,kU O sz37 O O O (zHi 0 O O),(by rintro _ _ ⟨rfl,rfl⟩;exact ⟨[_],rfl⟩),?_⟩
  rintro _ _ ⟨rfl,rfl⟩
  refine zM O O (yV O O)<|yT<|Y O<|W<|zG<|zN<|G O<|Y O<|wD O<|Y O<|W<|zE O (fun c2=>?_) (fun c2=>?_)
  ·try simp only [sx] at c2
   refine G O<|Y O<|W<|zU _ (Weak.mem [false,false,true,true] O)<|zJ<|zP O ?_
   exact ⟨by rw [indexK,decide_eq_false c1,c2];rfl,O⟩
  ·try simp only [sx] at c2
   refine G O<|zD O zEn<|zH one3 (J 0 O) O<|yR O<|Y O<|W<|zE O (fun c3=>?_) (fun c3=>?_)
   ·try simp only [sx] at c3
    refine G O<|Y O<|W<|zU _ (Weak.mem [false,false,true,true] O)<|zJ<|zP O ?_
    exact ⟨by rw [indexK,decide_eq_false c1,c2,decide_eq_false c3];rfl,O⟩
   ·try simp only [sx] at c3
    refine G O<|zD O kW<|zH zAr (J 1 O) O<|zV O el65<|Y O<|zV O el65<|yR O<|Y O<|W<|zE O (fun c4=>?_) (fun c4=>?_)
    ·try simp only [sx] at c4
     refine G O<|Y O<|W<|zU _ (Weak.mem [false,false,true,true] O)<|zJ<|zP O ?_
     exact ⟨by rw [indexK,decide_eq_false c1,c2,decide_eq_true c3,decide_eq_false (by omega)];rfl,O⟩
    ·try simp only [sx] at c4
     refine zI<|zG<|G O<|zD O kW<|zH zAr (J 1 O) O<|zV O el65<|Y O<|W<|zN<|zU ⟨[(46,.c _),(0,.c _),(44,.c _),(45,.c _)],[_,_]⟩ (Weak.mk [false,false,true,true] ⟨U,U,U,U,T⟩ O)<|qA 1 0 O O (Nat) (fun k=>[(46,vI k)]) (fun k=>[]) (fun k=>k<=x.At.length/\((x.At.take k).all (fun x=>knL (kn m) x.L)=true)) (fun k=>x.At.length-k) ⟨0,⟨by omega,O⟩,Weak.mk [true,true] ⟨U,U,U,U,T⟩ O⟩ ?_
     rintro k ⟨hk,hp⟩
     refine G O<|qW O<|W<|zG<|zE O (fun c5=>?_) (fun c5=>?_)
     ·try simp only [sx] at c5
      obtain ⟨l,hl⟩:=qP x.At k (by omega)
      refine zI<|zG<|zN<|G O<|zZ O el65 (by omega) (getm (by assumption))<|zL kF zY O<|zS O O (qD [none,some 2] O zr40 O) ?_
      rintro _ _ ⟨b3,rfl,rfl⟩
      refine N 0 sz40 O<|W<|G O<|Y O<|zL kF (J 0 O) O<|zX O (yQ [1,1] O ok208 (zKg b mb p m l (by have:=zAt (zW hl);omega)) ⟨U,O,U,O,T⟩ O)<|Y O<|W<|G O<|Y O<|yR O<|W<|zE O (fun c6=>?_) (fun c6=>?_)
      ·try simp only [sx] at c6
       refine G O<|Y O<|Y O<|W<|zU _ (Weak.mem [false,true,true] O)<|zJ<|zP O ?_
       exact ⟨by rw [indexK,decide_eq_false c1,c2,decide_eq_true c3,decide_eq_true (by omega)];simp only [cond_false,Bool.not_true];rw [formsK_no hl c6],O⟩
      ·try simp only [sx] at c6
       refine zI<|zO O<|qB O ⟨by omega,by omega⟩<|Y O<|W ?_
       refine ⟨k+1,⟨by omega,zPh hl hp c6⟩,(by omega),Weak.mk [false,true,true] ⟨U,U,U,U,T⟩ O⟩
     ·try simp only [sx] at c5
      refine qE<|G O<|Y O<|W<|zJ<|zP O ?_
      exact ⟨by rw [qS (by omega)] at hp;rw [indexK,decide_eq_false c1,c2,decide_eq_true c3,decide_eq_true (by omega)];simp only [cond_false,Bool.not_true];rw [formsK_ok hp],O⟩
end Go.W
