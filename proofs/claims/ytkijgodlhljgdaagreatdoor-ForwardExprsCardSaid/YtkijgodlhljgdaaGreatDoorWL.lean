/-
  Walks: what functions of the program compute. Printed by wip/gen/mk2.py.
  Conditions: none.
-/
import Derived.Test.YtkijgodlhljgdaaGreatDoorWK
import Derived.Test.YtkijgodlhljgdaaGreatDoorProg17M
set_option linter.unusedSimpArgs false
set_option linter.unusedVariables false
set_option maxRecDepth 10000
namespace Go.W
open Go Go.Eng Go.Proofs Go.L41 Go.Br
attribute [local irreducible] AWP RWP TD finQ
theorem kK:aggT Tryz.prog 27=some 5:=by kernel_rfl
theorem zPb:aggT Tryz.prog 65=some 7:=by kernel_rfl
theorem agg93:aggT Tryz.prog 93=some 3:=by kernel_rfl
theorem fd59_1:fieldT Tryz.prog 59 1=some (1,31):=by kernel_rfl
theorem fd65_0:fieldT Tryz.prog 65 0=some (0,9):=by kernel_rfl
theorem fd65_1:fieldT Tryz.prog 65 1=some (1,31):=by kernel_rfl
theorem zHf:fieldT Tryz.prog 65 2=some (6,63):=by kernel_rfl
theorem fd105_1:fieldT Tryz.prog 105 1=some (1,34):=by kernel_rfl
theorem fd113_0:fieldT Tryz.prog 113 0=some (0,27):=by kernel_rfl
theorem fd113_1:fieldT Tryz.prog 113 1=some (5,111):=by kernel_rfl
theorem zOg:fieldT Tryz.prog 138 1=some (5,111):=by kernel_rfl
theorem ok103:callOk Tryz.prog 103=true:=by kernel_rfl
theorem ok109:callOk Tryz.prog 109=true:=by kernel_rfl
theorem ok148:callOk Tryz.prog 148=true:=by kernel_rfl
theorem ok177:callOk Tryz.prog 177=true:=by kernel_rfl
theorem ok178:callOk Tryz.prog 178=true:=by kernel_rfl
theorem ok179:callOk Tryz.prog 179=true:=by kernel_rfl
theorem ok202:callOk Tryz.prog 202=true:=by kernel_rfl
theorem ok236:callOk Tryz.prog 236=true:=by kernel_rfl
theorem zKz:oneT Tryz.prog 111=true:=by kernel_rfl
theorem sm111:smapT Tryz.prog 111=some (Value.int IntKind.i64 0):=by kernel_rfl
theorem sm211:smapT Tryz.prog 211=some (Value.bool false):=by kernel_rfl
theorem sz31:(Tryz.prog.info? 31).map (·.size)=some 5:=by kernel_rfl
theorem sz65:(Tryz.prog.info? 65).map (·.size)=some 7:=by kernel_rfl
theorem zr65:zeroT Tryz.prog 65=some [(Value.string (ByteArray.mk #[])),(Value.int IntKind.i64 0),(Value.int IntKind.i64 0),(Value.int IntKind.i64 0),(Value.int IntKind.i64 0),(Value.int IntKind.i64 0),(Value.slice none 0 0)]:=by kernel_rfl
theorem zGf (b mb:Nat) (p:Pg) (m:Kn) (s:ByteArray) (k:Int):
    Con cfg 103 [vP b,vS s,vI k] (ckE b mb p m) fun r μ'=>r=vI (nameM m s)/\μ'=ckE b mb p (nameMap m s k):=by
 refine zT Tryz.func103 O Tryz.ntmps103 Tryz.results103 O ?_
 intro z hz
 refine B O<|F O<|H<|W<|B O<|F O<|qK O ok176 (zDn _) ⟨G,O,T⟩<|wP O<|H<|g O (fun c1=>?_) (fun c1=>?_)
 ·try simp only [I] at c1
  refine B O<|F O<|H<|U<|M O ?_
  exact ⟨by rw [nameM_bad c1],by rw [←nmap_bad (nameM_bad c1) (by decide)]⟩
 ·try simp only [I] at c1
  refine zJ<|W<|B O<|F O<|zX O (yS O O)<|zH O zOg<|zL zKz (K 0 O) O<|F O<|zX O (zCu 1 (0:Int) O sm111 O O O (fun _ _=>CRep.lit _ O))<|yU O<|H<|g O (fun c2=>?_) (fun c2=>?_)
  ·try simp only [I] at c2
   refine B O<|F O<|H<|U<|M O ?_
   exact ⟨by rw [nameM_dup c1 c2],by rw [←nmap_bad (nameM_dup c1 c2) (by decide)]⟩
  ·try simp only [I] at c2
   refine zJ<|B O<|F O<|zX O (yS O O)<|zH O zOg<|zL zKz (K 0 O) O<|F O<|F O<|zIo O O (zGt 1 k O sm111 O O O (G) O)<|H<|B O<|F O<|H<|U<|M O ?_
   exact ⟨by rw [nameM_ok c1 c2],by rw [zKc (nameM_ok c1 c2)];rfl⟩
theorem zEz (b mb:Nat) (p:Pg) (m:Kn) (l:Lf) (hl:l.L.length<=5864062014805):
    Con cfg 178 [vP b,vLin l] (ckE b mb p m) fun r μ'=>r=vI (sizedM m l)/\μ'=ckE b mb p m:=by
 refine zT Tryz.func178 O Tryz.ntmps178 Tryz.results178 O ?_
 intro z hz
 refine B O<|zV O O (qI O O) ?_
 rintro _ _ ⟨b1,rfl,rfl⟩
 refine F O<|H<|W<|B O<|zK kQ (K 0 O) O<|qK O ok162 (zFz l (by omega)) ⟨G,O,T⟩<|yU O<|H<|g O (fun c1=>?_) (fun c1=>?_)
 ·try simp only [I] at c1
  refine B O<|F O<|H<|zW _ (Weak.mem [false,true,true] O)<|U<|M O ?_
  exact ⟨by rw [sized_arg (linErr_no c1)],O⟩
 ·try simp only [I] at c1
  refine zJ<|W<|B O<|zH O wN<|zL zBn (K 0 O) O<|zZ O q<|F O<|H<|zP<|zW ⟨[(13,.c _),(0,.c _),(11,.c _),(12,.c _)],[_,_]⟩ (Weak.mk [false,true,true] ⟨G,G,G,G,T⟩ O)<|qJ 1 0 O O (Nat) (fun k=>[(13,vI k)]) (fun k=>[]) (fun k=>k<=l.L.length/\(knL (fun s=>decide (kget m s=1)) (l.L.take k)=true)) (fun k=>l.L.length-k) ⟨0,⟨by omega,O⟩,Weak.mk [true,true] ⟨G,G,G,G,T⟩ O⟩ ?_
  rintro k ⟨hk,hp⟩
  refine B O<|yD O<|H<|W<|g O (fun c2=>?_) (fun c2=>?_)
  ·try simp only [I] at c2
   obtain ⟨x,hx⟩:=qQ l.L k (by omega)
   refine zJ<|W<|zP<|B O<|qH O q (by omega) (X (by assumption))<|zK zHj qB O<|zV O O (qX O zr101) ?_
   rintro _ _ ⟨b2,rfl,rfl⟩
   refine N 0 sz101 O<|H<|W<|qP 8 mixed (by kernel_rfl) O O<|Y O O (zQ O O)<|Y O O (yS O O)<|Y O O (zE O zOg O)<|Y O O (zG O zKz O (K 1 O) O)<|Y O O (zE O zAt O)<|Y O O (zG O i O (K 0 O) O)<|Y O O (zCu 2 (0:Int) O sm111 O O O (fun _ _=>CRep.lit _ O))<|Y O O (zAf O O O)<|yK<|H<|g O (fun c3=>?_) (fun c3=>?_)
   ·try simp only [I] at c3
    refine B O<|F O<|H<|zW _ (Weak.mem [false,true,true] O)<|U<|M O ?_
    exact ⟨by rw [sized_nf (linErr_yes c1) (knF_no hx (yJ c3))],O⟩
   ·try simp only [I] at c3
    refine zJ<|zU O<|qL O ⟨by omega,by omega⟩<|F O<|H ?_
    refine ⟨k+1,⟨by omega,knF_next hx hp (wD c3)⟩,(by omega),Weak.mk [false,true,true] ⟨G,G,G,G,T⟩ O⟩
  ·try simp only [I] at c2
   refine qN<|B O<|F O<|H<|U<|M O ?_
   exact ⟨by rw [qW (by omega)] at hp;rw [sized_ok (linErr_yes c1) hp],O⟩
theorem zJf (b mb:Nat) (p:Pg) (m:Kn) (x:Cn) (hl:x.Lin.L.length<=5864062014805):
    Con cfg 104 [vP b,vCn x] (ckE b mb p m) fun r μ'=>r=vI (sizedM m x.Lin)/\μ'=ckE b mb p m:=by
 refine zT Tryz.func104 O Tryz.ntmps104 Tryz.results104 O ?_
 intro z hz
 refine B O<|zV O O (qI O O) ?_
 rintro _ _ ⟨b1,rfl,rfl⟩
 refine F O<|H<|W<|B O<|zK agg93 (K 0 O) O<|qK O ok177 (zHz x hl) ⟨G,O,T⟩<|yU O<|H<|g O (fun c1=>?_) (fun c1=>?_)
 ·try simp only [I] at c1
  refine B O<|F O<|H<|zW _ (Weak.mem [false,true,true] O)<|U<|M O ?_
  exact ⟨by rw [sized_arg (linErr_no c1)],O⟩
 ·try simp only [I] at c1
  refine zJ<|B O<|F O<|zH O fd93_0<|zK kQ (K 0 O) O<|zX O (yT [1,1] O ok178 (zEz b mb p m x.Lin hl) ⟨G,O,G,O,T⟩ O)<|F O<|H<|zW _ (Weak.mem [false,true,true] O)<|U<|M O ?_
  exact ⟨O,O⟩
theorem checker_param (b mb:Nat) (p:Pg) (m:Kn) (x:Pm) (hl:x.Dims.length<=4294967296) (hx0:∀l,l∈x.Dims->l.L.length<=5864062014805):
    Con cfg 105 [vP b,vPm x] (ckE b mb p m) fun r μ'=>r=vI (paramM m x)/\μ'=ckE b mb p (nameMap m x.Name 2):=by
 refine zT Tryz.func105 O Tryz.ntmps105 Tryz.results105 O ?_
 intro z hz
 refine B O<|zV O O (qI O O) ?_
 rintro _ _ ⟨b1,rfl,rfl⟩
 refine F O<|H<|W<|B O<|F O<|zH O fd65_0<|zL i (K 0 O) O<|zX O (yT [1,1] O ok103 (zGf b mb p m x.Name 2) ⟨G,O,G,O,G,O,T⟩ O)<|F O<|H<|B O<|F O<|yU O<|H<|g O (fun c1=>?_) (fun c1=>?_)
 ·try simp only [I] at c1
  refine B O<|F O<|F O<|H<|zW _ (Weak.mem [false,true,true] O)<|U<|M O ?_
  exact ⟨by unfold paramM;rw [if_neg c1],O⟩
 ·try simp only [I] at c1
  refine zJ<|W<|B O<|zH O fd65_1<|zK yC (K 0 O) O<|zH O zHf<|zL zBf (K 0 O) O<|zZ O t<|yB O el209 zr3<|qK O ok179 (zFe x.T [(x.Dims.length:Int)] _ O (by simp)) ⟨G,O,G,O,T⟩<|F O<|H<|B O<|F O<|yU O<|H<|g O (fun c2=>?_) (fun c2=>?_)
  ·try simp only [I] at c2
   have hP:=param_bad c1 c2
   refine B O<|F O<|F O<|H<|zW _ (Weak.mem [false,true,true] O)<|U<|M O ?_
   exact ⟨by rw [hP],O⟩
  ·try simp only [I] at c2
   have hP:=param_ok c1 c2
   refine zJ<|W<|B O<|zH O zHf<|zL zBf (K 0 O) O<|zZ O t<|F O<|H<|zP<|zW ⟨[(30,.c _),(0,.c _),(28,.c _),(29,.c _)],[_,_]⟩ (Weak.mk [false,true,true] ⟨G,G,G,G,T⟩ O)<|qJ 1 0 O O (Nat) (fun k=>[(30,vI k)]) (fun k=>[]) (fun k=>k<=x.Dims.length/\(sizedsM (nameMap m x.Name 2) x.Dims=sizedsM (nameMap m x.Name 2) (x.Dims.drop k))) (fun k=>x.Dims.length-k) ⟨0,⟨by omega,O⟩,Weak.mk [true,true] ⟨G,G,G,G,T⟩ O⟩ ?_
   rintro k ⟨hk,hp⟩
   refine B O<|yD O<|H<|W<|g O (fun c3=>?_) (fun c3=>?_)
   ·try simp only [I] at c3
    obtain ⟨y,hy⟩:=qQ x.Dims k (by omega)
    refine zJ<|W<|zP<|B O<|qH O t (by omega) (X (by assumption))<|zK kQ qB O<|zV O O (qG [none,some 2] O zr34 O) ?_
    rintro _ _ ⟨b2,rfl,rfl⟩
    refine N 0 sz34 O<|H<|B O<|F O<|zK kQ (K 0 O) O<|zX O (yT [1,1] O ok178 (zEz b mb p _ y (hx0 _ (qD hy))) ⟨G,O,G,O,T⟩ O)<|F O<|H<|B O<|F O<|yU O<|H<|g O (fun c4=>?_) (fun c4=>?_)
    ·try simp only [I] at c4
     refine B O<|F O<|F O<|H<|zW _ (Weak.mem [false,true,true] O)<|U<|M O ?_
     exact ⟨by rw [hP,hp,sizeds_no hy c4],O⟩
    ·try simp only [I] at c4
     refine zJ<|zU O<|qL O ⟨by omega,by omega⟩<|F O<|H ?_
     refine ⟨k+1,⟨by omega,hp.trans (sizeds_at hy c4)⟩,(by omega),Weak.mk [false,true,true] ⟨G,G,G,G,T⟩ O⟩
   ·try simp only [I] at c3
    refine qN<|B O<|F O<|H<|U<|M O ?_
    exact ⟨by rw [hP,hp,zBe (by omega)];rfl,O⟩
theorem checker_axes (b mb:Nat) (p:Pg) (m:Kn) (d:Df) (hD:d.Dims.length<=1073741824) (hR:d.Red.length<=1073741824) (hA:∀a,a∈d.Dims->a.Size.L.length<=5864062014805) (hA2:∀a,a∈d.Red->a.Size.L.length<=5864062014805):
    Con cfg 180 [vP b,vDf d] (ckE b mb p m) fun r μ'=>r=vI (axesM m [] (d.Dims++d.Red))/\μ'=ckE b mb p m:=by
 refine zT Tryz.func180 O Tryz.ntmps180 Tryz.results180 O ?_
 intro z hz
 refine B O<|zV O O (qI O O) ?_
 rintro _ _ ⟨b1,rfl,rfl⟩
 refine F O<|H<|B O<|zV O O (zNg vB O O) ?_
 rintro _ _ ⟨b2,rfl,rfl⟩
 refine F O<|H<|W<|B O<|zH O zDe<|zL zBm (K 1 O) O<|zH O zCf<|zL zBm (K 1 O) O<|yB O el245 zr57<|qK O ok227 (OwnR.pur (zEa d.Dims d.Red hD hR)) ⟨G,O,T⟩<|zZ O el57<|F O<|H<|zP<|zW ⟨[(17,.c _),(0,.c _),(5,.c _),(15,.c _),(16,.c _)],[_,_,_]⟩ (Weak.mk [true,false,true,true] ⟨G,G,G,G,G,T⟩ O)<|qJ 1 1 O O (Nat) (fun k=>[(17,vI k)]) (fun k=>[E.blk b2 (MapR vB (ownT ((d.Dims++d.Red).take k)))]) (fun k=>k<=(d.Dims++d.Red).length/\(axesM m [] (d.Dims++d.Red)=axesM m (((d.Dims++d.Red).take k).map Ax.Name) ((d.Dims++d.Red).drop k))) (fun k=>(d.Dims++d.Red).length-k) ⟨0,⟨by omega,O⟩,Weak.mk [true,true,true] ⟨G,G,G,G,G,T⟩ O⟩ ?_
 rintro k ⟨hk,hp⟩
 refine B O<|yD O<|H<|W<|g O (fun c1=>?_) (fun c1=>?_)
 ·try simp only [I] at c1
  obtain ⟨x,hx⟩:=qQ (d.Dims++d.Red) k (by omega)
  have hlen:(d.Dims++d.Red).length=d.Dims.length+d.Red.length:=List.length_append
  have hog:=own_get x.Name ((d.Dims++d.Red).take k)
  refine zJ<|W<|zP<|B O<|qH O el57 (by omega) (X (by assumption))<|zK agg105 qB O<|zV O O (qG [none,none,some 2] O zr105 O) ?_
  rintro _ _ ⟨b3,rfl,rfl⟩
  refine N 0 sz105 O<|H<|W<|zP<|B O<|zH O zKm<|zL i (K 0 O) O<|qK O ok176 (zDn _) ⟨G,O,T⟩<|wP O<|F O<|H<|g O (fun c2=>?_) (fun c2=>?_)
  ·try simp only [I] at c2
   refine B O<|F O<|H<|zW _ (Weak.mem [false,false,true,true] O)<|U<|M O ?_
   exact ⟨by rw [hp,axes_7 hx c2],O⟩
  ·try simp only [I] at c2
   refine W<|qP 15 mixed (by kernel_rfl) O O<|Y O O (zQ O O)<|Y O O (zE O zKm O)<|Y O O (zG O i O (K 0 O) O)<|Y O O (zCu 1 false O sm211 O O O (fun _ _=>CRep.lit _ O))<|Y O O (zQ O O)<|f [] O O O O J T (fun g7_4=>zQ O O) O<|f [(32,_)] O O O O J ⟨O,O,T⟩ (fun g7_4=>yS O O) O<|f [(33,_)] O O O O J ⟨O,O,T⟩ (fun g7_4=>zE O zOg O) O<|f [(34,_)] O O O O J ⟨O,O,T⟩ (fun g7_4=>zG O zKz O (K 2 O) O) O<|f [] O O O O J T (fun g7_4=>zE O zKm O) O<|f [(36,_)] O O O O J ⟨O,O,T⟩ (fun g7_4=>zG O i O (K 0 O) O) O<|f [(35,_),(37,_)] O O O O J ⟨O,O,O,O,T⟩ (fun g7_4=>zCu 3 (0:Int) O sm111 O O O (fun _ _=>CRep.lit _ O)) O<|f [(38,_)] O O O O J ⟨O,O,T⟩ (fun g7_4=>yG O O O) O<|Y O O (zBs O O O O (fun h=>(lzf h)))<|Y O O (yW O O)<|yK<|H<|g O (fun c3=>?_) (fun c3=>?_)
   ·have h8:=ax_yes hog c3
    refine B O<|F O<|H<|zW _ (Weak.mem [false,false,true,true] O)<|U<|M O ?_
    exact ⟨by rw [hp,axes_8 hx c2 h8],O⟩
   ·have h8:=ax_no hog c3
    refine zJ<|B O<|F O<|zH O zKm<|zL i (K 0 O) O<|zIo O O (zGt 1 true O sm211 O O O (G) O)<|H<|B O<|F O<|zH O fd105_1<|zK kQ (K 0 O) O<|zX O (yT [2,2] O ok178 (zEz b mb p m x.Size (by rcases List.mem_append.1 (qD hx) with h|h;exact hA _ h;exact hA2 _ h)) ⟨G,O,G,O,T⟩ O)<|F O<|H<|B O<|F O<|yU O<|H<|g O (fun c4=>?_) (fun c4=>?_)
    ·try simp only [I] at c4
     refine B O<|F O<|F O<|H<|zW _ (Weak.mem [false,false,true,true] O)<|U<|M O ?_
     exact ⟨by rw [hp,axes_s hx c2 h8 c4],O⟩
    ·try simp only [I] at c4
     refine zJ<|zU O<|qL O ⟨by omega,by omega⟩<|F O<|H ?_
     refine ⟨k+1,⟨by omega,by rw [hp,axes_at hx c2 h8 c4,qS hx,List.map_append];rfl⟩,(by omega),Weak.mk [false,true,true,true] ⟨G,G,G,G,G,T⟩ (by show _=[E.blk b2 (MapR vB (ownT ((d.Dims++d.Red).take (k+1))))]++_;rw [ownT_next hx];rfl)⟩
 ·try simp only [I] at c1
  refine qN<|B O<|F O<|H<|zW _ (Weak.mem [false,true,true] O)<|U<|M O ?_
  exact ⟨by rw [hp,zBe (by omega)];rfl,O⟩
theorem zKx (p:Pg) (s:ByteArray) (hP:p.Ok):
    Pur cfg 202 [vPg p,vS s] (.tup [vTy (p.en.find s).ty,vLins (p.en.find s).dims,vB (p.en.find s).ok]):=by
 refine zT Tryz.func202 O Tryz.ntmps202 Tryz.results202 O ?_
 intro z hz
 have hpl:=hP.params
 refine B O<|zV O O (qI O O) ?_
 rintro _ _ ⟨b1,rfl,rfl⟩
 refine zV O O (qX O zr31) ?_
 rintro _ _ ⟨b2,rfl,rfl⟩
 refine zX O (yN 2 O O)<|F O<|H<|W<|B O<|zH O zAx<|zL zFl (K 1 O) O<|zZ O el24<|F O<|H<|zP<|zW ⟨[(16,.c _),(1,.c _),(2,.c _),(4,.c _),(14,.c _),(15,.c _)],[_,_]⟩ (Weak.mk [true,true] ⟨G,G,G,G,G,G,T⟩ O)<|qJ 1 0 O O (Nat) (fun k=>[(16,vI k)]) (fun k=>[]) (fun k=>k<=p.Params.length/\(findP s p.Defs p.Params=findP s p.Defs (p.Params.drop k))) (fun k=>p.Params.length-k) ⟨0,⟨by omega,O⟩,Weak.mk [true,true] ⟨G,G,G,G,G,G,T⟩ O⟩ ?_
 rintro k ⟨hk,hp⟩
 refine B O<|yD O<|H<|W<|g O (fun c1=>?_) (fun c1=>?_)
 ·try simp only [I] at c1
  obtain ⟨x,hx⟩:=qQ p.Params k (by omega)
  refine zJ<|W<|zP<|B O<|qH O el24 (by omega) (X (by assumption))<|zK zPb qB O<|zV O O (qG [none,none,none,none,none,none,some 2] O zr65 O) ?_
  rintro _ _ ⟨b3,rfl,rfl⟩
  refine N 0 sz65 O<|H<|B O<|zH O fd65_0<|zL i (K 0 O) O<|F O<|zX O (yL O O O)<|H<|g O (fun c2=>?_) (fun c2=>?_)
  ·try simp only [I] at c2
   refine W<|qP 5 mixed (by kernel_rfl) O O<|Y O O (zE O fd65_1 O)<|Y O O (zM O yC O (K 0 O) O)<|Y O O (zE O zHf O)<|Y O O (zG O zBf O (K 0 O) O)<|Y O O (qF O ok109 (OwnR.pur (zBu x.Dims (hP.ps x (qD hx)).1 (fun y hy=>Nat.le_trans ((hP.ps x (qD hx)).2 y hy) (by decide)))) ⟨G,O,T⟩)<|yK<|N 1 sz31 O<|F O<|F O<|H<|U<|fin3 (zR yC O (K 1 O) O) (o O) (o O) ?_
   rw [En.find,show p.en.pm=p.Params from rfl,show p.en.df=p.Defs from rfl,hp,find_at hx c2];rfl
  ·try simp only [I] at c2
   refine zJ<|zU O<|qL O ⟨by omega,by omega⟩<|F O<|H ?_
   refine ⟨k+1,⟨by omega,hp.trans (find_next hx c2)⟩,(by omega),Weak.mk [false,true,true] ⟨G,G,G,G,G,G,T⟩ O⟩
 ·try simp only [I] at c1
  have hF:p.en.find s=findD s p.Defs:=by rw [En.find,show p.en.pm=p.Params from rfl,show p.en.df=p.Defs from rfl,hp,zBe (by omega)];rfl
  refine qN<|W<|B O<|zK kK (K 1 O) O<|F O<|qK O ok236 (zNd p s hP.defs) ⟨G,O,G,O,T⟩<|F O<|H<|B O<|F O<|zX O (wB O O O)<|H<|g O (fun c3=>?_) (fun c3=>?_)
  ·try simp only [I] at c3
   obtain ⟨d,hd,hfd⟩:=(find_def s p.Defs).1 c3
   have hdd:=(hP.ds d (qD hd)).1
   refine B O<|F O<|yZ _ (kN 34 2)<|H<|W<|B O<|zH O kW<|zL zBp (K 2 O) O<|F O<|qH O el25 (by omega) (X hd)<|zX O (qM O zDe O)<|zL zBm qB O<|zZ O el57<|F O<|H<|zP<|zW ⟨[(42,.c _),(10,.c _),(2,.c _),(4,.c _),(9,.c _),(40,.c _),(41,.c _)],[_,_,_]⟩ (Weak.mk [true,true,true] ⟨G,G,G,G,G,G,G,T⟩ O)<|qJ 2 1 O O (Nat×Value) (fun ⟨j,sv⟩=>[(42,vI j),(10,.c (.lit sv))]) (fun ⟨j,sv⟩=>[E.vec sv 34 2 ((d.Dims.take j).map fun a=>a.Size.cells)]) (fun ⟨j,sv⟩=>j<=d.Dims.length) (fun ⟨j,sv⟩=>d.Dims.length-j) ⟨⟨0,(.slice none 0 0)⟩,(by omega),Weak.mk [true,true,true] ⟨G,G,G,G,G,G,G,T⟩ O⟩ ?_
   rintro ⟨j,sv⟩ hj
   show AWP _ _ _ _ _ ⟨[(42,vI j),(10,.c (.lit sv))]++_,[E.vec sv 34 2 ((d.Dims.take j).map fun a=>a.Size.cells)]++_⟩
   refine B O<|yD O<|H<|W<|g O (fun c4=>?_) (fun c4=>?_)
   ·try simp only [I] at c4
    obtain ⟨a,ha⟩:=qQ d.Dims j (by omega)
    refine zJ<|W<|zP<|B O<|qH O el57 (by omega) (X (by assumption))<|zK agg105 qB O<|zV O O (qG [none,none,some 2] O zr105 O) ?_
    rintro _ _ ⟨b5,rfl,rfl⟩
    refine N 0 sz105 O<|H<|zU O<|F O<|zH O fd105_1<|zK kQ (K 0 O) O<|qK O ok108 (zAh a.Size (Nat.le_trans ((hP.ds d (qD hd)).2.2.1 a (qD ha)) (by decide))) ⟨G,O,T⟩<|yB O t zr34<|zV O O (yE 1 O t O O O (by first|omega|(simp only [List.length_take,List.length_map,List.length_append,List.length_nil,List.length_cons];omega)) (by first|omega|(simp only [List.length_take,List.length_map,List.length_append,List.length_nil,List.length_cons];omega))) ?_
    rintro _ _ ⟨sv6,rfl,rfl⟩
    refine F O<|H<|zU O<|qL O ⟨by omega,by omega⟩<|F O<|H ?_
    refine ⟨⟨j+1,sv6⟩,(by omega),(by show d.Dims.length-(j+1)<d.Dims.length-j;omega),Weak.mk [false,true,true,true] ⟨G,G,G,G,G,G,G,T⟩ (by show _=[E.vec sv6 _ 2 ((d.Dims.take (j+1)).map fun a=>a.Size.cells)]++_;rw [qS ha,List.map_append (f:=fun a:Ax=>a.Size.cells)];rfl)⟩
   ·try simp only [I] at c4
    refine qN<|B O<|zH O kW<|zL zBp (K 2 O) O<|F O<|qH O el25 (by omega) (X hd)<|zX O (qM O fd59_1 O)<|zK yC qB O<|F O<|N 1 sz31 O<|F O<|F O<|H<|zW _ (kJ 0 O (regs':=[(10,_),(59,_),(5,_)]) (μ':=[_,_]) ⟨FLe.sl,FLe.sl,FLe.sl,T⟩ ⟨EFle.refl _,EFle.refl _,T⟩)<|U<|fin3 (zR yC O (K 0 O) O) (o O) (o O) ?_
    rw [hF,hfd,qW (l:=d.Dims) (k:=j) (by omega)];simp only [vLins,List.map_map];rfl
  ·try simp only [I] at c3
   have hfd:=(find_def s p.Defs).2 (by omega)
   refine zJ<|B O<|yV O zr31 pl31<|N 0 sz31 O<|zX O (yN 2 O O)<|F O<|H<|U<|fin3 (zR yC O (K 0 O) O) (o O) (o O) ?_
   rw [hF,hfd];rfl
theorem zJr (b mb:Nat) (p:Pg) (m:Kn) (l:Lf) (hl:l.L.length<=4294967296):
    Con cfg 148 [vP b,vLin l] (tyE b mb p m) fun r μ'=>r=vI (formK (kn m) l)/\μ'=tyE b mb p m:=by
 refine zT Tryz.func148 O Tryz.ntmps148 Tryz.results148 O ?_
 intro z hz
 refine B O<|zV O O (qI O O) ?_
 rintro _ _ ⟨b1,rfl,rfl⟩
 refine F O<|H<|W<|B O<|zH O wN<|zL zBn (K 0 O) O<|zZ O q<|F O<|H<|zP<|zW ⟨[(10,.c _),(0,.c _),(8,.c _),(9,.c _)],[_,_]⟩ (Weak.mk [false,true,true] ⟨G,G,G,G,T⟩ O)<|qJ 1 0 O O (Nat) (fun k=>[(10,vI k)]) (fun k=>[]) (fun k=>k<=l.L.length/\(knL (kn m) (l.L.take k)=true)) (fun k=>l.L.length-k) ⟨0,⟨by omega,O⟩,Weak.mk [true,true] ⟨G,G,G,G,T⟩ O⟩ ?_
 rintro k ⟨hk,hp⟩
 refine B O<|yD O<|H<|W<|g O (fun c1=>?_) (fun c1=>?_)
 ·try simp only [I] at c1
  obtain ⟨x,hx⟩:=qQ l.L k (by omega)
  refine zJ<|W<|zP<|B O<|qH O q (by omega) (X (by assumption))<|zK zHj qB O<|zV O O (qX O zr101) ?_
  rintro _ _ ⟨b2,rfl,rfl⟩
  refine N 0 sz101 O<|H<|W<|qP 8 mixed (by kernel_rfl) O O<|Y O O (zQ O O)<|Y O O (yS O O)<|Y O O (zE O fd113_1 O)<|Y O O (zG O zKz O (K 1 O) O)<|Y O O (zE O zAt O)<|Y O O (zG O i O (K 0 O) O)<|Y O O (zCu 2 (0:Int) O sm111 O O O (fun _ _=>CRep.lit _ O))<|Y O O (yG O O O)<|yK<|H<|g O (fun c2=>?_) (fun c2=>?_)
  ·try simp only [I] at c2
   refine B O<|F O<|H<|zW _ (Weak.mem [false,true,true] O)<|U<|M O ?_
   exact ⟨by rw [zGr (knF_no hx (kn_f c2))],O⟩
  ·try simp only [I] at c2
   refine zJ<|zU O<|qL O ⟨by omega,by omega⟩<|F O<|H ?_
   refine ⟨k+1,⟨by omega,knF_next hx hp (kn_t c2)⟩,(by omega),Weak.mk [false,true,true] ⟨G,G,G,G,T⟩ O⟩
 ·try simp only [I] at c1
  refine qN<|B O<|F O<|H<|U<|M O ?_
  exact ⟨by rw [qW (by omega)] at hp;rw [zLx hp],O⟩
theorem typer_index (b mb:Nat) (p:Pg) (m:Kn) (x:Ix) (hP:p.Ok) (hx:x.wt<=4294967296):
    Con cfg 203 [vP b,vIndex x] (tyE b mb p m) fun r μ'=>r=vI (indexK p.en (kn m) x)/\μ'=tyE b mb p m:=by
 refine zT Tryz.func203 O Tryz.ntmps203 Tryz.results203 O ?_
 intro z hz
 have hw:=hx
 unfold Ix.wt at hw
 clear hx
 refine B O<|zV O O (qI O O) ?_
 rintro _ _ ⟨b1,rfl,rfl⟩
 refine F O<|H<|W<|B O<|zH O zDc<|zL i (K 0 O) O<|zX O (yL O O O)<|H<|g O (fun c1=>?_) (fun c1=>?_)
 ·try simp only [I] at c1
  refine B O<|F O<|zH O zDd<|zK kQ (K 0 O) O<|zX O (yT [1,1] O ok148 (zJr b mb p m x.Lin (by omega)) ⟨G,O,G,O,T⟩ O)<|F O<|H<|zW _ (Weak.mem [false,true,true] O)<|U<|M O ?_
  exact ⟨by rw [indexK,decide_eq_true c1];rfl,O⟩
 ·try simp only [I] at c1
  refine zJ<|W<|zOx 12 14 [.q,.q,.q,.q,.q,.q,.q,.q,.q,.u,.u,.f]  mixed (by kernel_rfl) O O O<|kG O O (zQ O O)<|kG O O (yS O O)<|kG O O (zE O fd113_0 O)<|kG O O (zM O kK O (K 1 O) O)<|kG O O (zE O zDc O)<|kG O O (zG O i O (K 0 O) O)<|kG O O (qF O ok202 (zKx p x.From hP) ⟨G,O,G,O,T⟩)<|kG O O (qU O O)<|kG O O (yI O O O)<|zIh O O (yO O O O)<|zIh O O (yO O O O)<|zLs<|tdq_nil<|zAs<|zAs<|zAs<|zAs<|zAs<|zAs<|zAs<|zAs<|zAs<|tdf_u<|tdf_u<|zIi (wF (qX O zr31))<|tdf_nil<|zGx ?_
  rintro _ _ ⟨b2,rfl,rfl⟩
  refine zJl ?_
  refine ⟨_,kX O sz31 O O O (zDz 0 O O),(by rintro _ _ ⟨rfl,rfl⟩;exact ⟨[_],rfl⟩),?_⟩
  rintro _ _ ⟨rfl,rfl⟩
  refine Y O O (yW O O)<|yK<|F O<|H<|W<|zP<|B O<|F O<|wP O<|F O<|H<|g O (fun c2=>?_) (fun c2=>?_)
  ·try simp only [I] at c2
   refine B O<|F O<|H<|zW _ (Weak.mem [false,false,true,true] O)<|U<|M O ?_
   exact ⟨by rw [indexK,decide_eq_false c1,c2];rfl,O⟩
  ·try simp only [I] at c2
   refine B O<|zH O zAl<|zL P (K 0 O) O<|yU O<|F O<|H<|g O (fun c3=>?_) (fun c3=>?_)
   ·try simp only [I] at c3
    refine B O<|F O<|H<|zW _ (Weak.mem [false,false,true,true] O)<|U<|M O ?_
    exact ⟨by rw [indexK,decide_eq_false c1,c2,decide_eq_false c3];rfl,O⟩
   ·try simp only [I] at c3
    refine B O<|zH O zAk<|zL zBf (K 1 O) O<|zZ O t<|F O<|zZ O t<|yU O<|F O<|H<|g O (fun c4=>?_) (fun c4=>?_)
    ·try simp only [I] at c4
     refine B O<|F O<|H<|zW _ (Weak.mem [false,false,true,true] O)<|U<|M O ?_
     exact ⟨by rw [indexK,decide_eq_false c1,c2,decide_eq_true c3,decide_eq_false (by omega)];rfl,O⟩
    ·try simp only [I] at c4
     refine zJ<|W<|B O<|zH O zAk<|zL zBf (K 1 O) O<|zZ O t<|F O<|H<|zP<|zW ⟨[(46,.c _),(0,.c _),(44,.c _),(45,.c _)],[_,_]⟩ (Weak.mk [false,false,true,true] ⟨G,G,G,G,T⟩ O)<|qJ 1 0 O O (Nat) (fun k=>[(46,vI k)]) (fun k=>[]) (fun k=>k<=x.At.length/\((x.At.take k).all (fun x=>knL (kn m) x.L)=true)) (fun k=>x.At.length-k) ⟨0,⟨by omega,O⟩,Weak.mk [true,true] ⟨G,G,G,G,T⟩ O⟩ ?_
     rintro k ⟨hk,hp⟩
     refine B O<|yD O<|H<|W<|g O (fun c5=>?_) (fun c5=>?_)
     ·try simp only [I] at c5
      obtain ⟨l,hl⟩:=qQ x.At k (by omega)
      refine zJ<|W<|zP<|B O<|qH O t (by omega) (X (by assumption))<|zK kQ qB O<|zV O O (qG [none,some 2] O zr34 O) ?_
      rintro _ _ ⟨b3,rfl,rfl⟩
      refine N 0 sz34 O<|H<|B O<|F O<|zK kQ (K 0 O) O<|zX O (yT [1,1] O ok148 (zJr b mb p m l (by have:=zBi (qD hl);omega)) ⟨G,O,G,O,T⟩ O)<|F O<|H<|B O<|F O<|yU O<|H<|g O (fun c6=>?_) (fun c6=>?_)
      ·try simp only [I] at c6
       refine B O<|F O<|F O<|H<|zW _ (Weak.mem [false,true,true] O)<|U<|M O ?_
       exact ⟨by rw [indexK,decide_eq_false c1,c2,decide_eq_true c3,decide_eq_true (by omega)];simp only [cond_false,Bool.not_true];rw [formsK_no hl c6],O⟩
      ·try simp only [I] at c6
       refine zJ<|zU O<|qL O ⟨by omega,by omega⟩<|F O<|H ?_
       refine ⟨k+1,⟨by omega,zOb hl hp c6⟩,(by omega),Weak.mk [false,true,true] ⟨G,G,G,G,T⟩ O⟩
     ·try simp only [I] at c5
      refine qN<|B O<|F O<|H<|U<|M O ?_
      exact ⟨by rw [qW (by omega)] at hp;rw [indexK,decide_eq_false c1,c2,decide_eq_true c3,decide_eq_true (by omega)];simp only [cond_false,Bool.not_true];rw [formsK_ok hp],O⟩
end Go.W
