/-
  What functions compute.
  Conditions: none.
-/
import Derived.Test.YtkidnhldibjiaaaGreatDoorWK
import Derived.Test.YtkidnhldibjiaaaGreatDoorProg17M
set_option linter.unusedSimpArgs false
set_option linter.unusedVariables false
set_option maxRecDepth 10000
namespace Go.W
open Go Go.Eng Go.Proofs Go.L41 Go.Br
attribute [local irreducible] AWP RWP TD fL
theorem wY:mY Tryz.prog 27=some 5:=by kernel_rfl
theorem agg67:mY Tryz.prog 67=some 7:=by kernel_rfl
theorem zTe:mY Tryz.prog 101=some 3:=by kernel_rfl
theorem zLr:bM Tryz.prog 63 1=some (1,37):=by kernel_rfl
theorem zRz:bM Tryz.prog 67 0=some (0,9):=by kernel_rfl
theorem fd67_1:bM Tryz.prog 67 1=some (1,37):=by kernel_rfl
theorem zCj:bM Tryz.prog 67 2=some (6,65):=by kernel_rfl
theorem zEu:bM Tryz.prog 111 1=some (1,40):=by kernel_rfl
theorem zSa:bM Tryz.prog 120 1=some (5,118):=by kernel_rfl
theorem fd196_0:bM Tryz.prog 196 0=some (0,27):=by kernel_rfl
theorem fd196_1:bM Tryz.prog 196 1=some (5,118):=by kernel_rfl
theorem ok67:bA Tryz.prog 67=true:=by kernel_rfl
theorem ok85:bA Tryz.prog 85=true:=by kernel_rfl
theorem ok139:bA Tryz.prog 139=true:=by kernel_rfl
theorem ok140:bA Tryz.prog 140=true:=by kernel_rfl
theorem ok141:bA Tryz.prog 141=true:=by kernel_rfl
theorem ok208:bA Tryz.prog 208=true:=by kernel_rfl
theorem ok251:bA Tryz.prog 251=true:=by kernel_rfl
theorem ok287:bA Tryz.prog 287=true:=by kernel_rfl
theorem zNx:lS Tryz.prog 118=true:=by kernel_rfl
theorem sm118:pW Tryz.prog 118=some (Value.int IntKind.i64 0):=by kernel_rfl
theorem sm217:pW Tryz.prog 217=some (Value.bool false):=by kernel_rfl
theorem sz37:(Tryz.prog.info? 37).map (·.size)=some 5:=by kernel_rfl
theorem sz67:(Tryz.prog.info? 67).map (·.size)=some 7:=by kernel_rfl
theorem zr67:fD Tryz.prog 67=some [(Value.string (ByteArray.mk #[])),(Value.int IntKind.i64 0),(Value.int IntKind.i64 0),(Value.int IntKind.i64 0),(Value.int IntKind.i64 0),(Value.int IntKind.i64 0),(Value.slice none 0 0)]:=by kernel_rfl
theorem zId (b mb:Nat) (p:Pg) (m:Kn) (s:ByteArray) (k:Int):
    Con cfg 67 [vP b,vS s,vI k] (ckE b mb p m) fun r μ'=>r=vI (fB m s)/\μ'=ckE b mb p (gD m s k):=by
 refine zW Tryz.func67 O Tryz.ntmps67 Tryz.results67 O ?_
 intro z hz
 refine Y O<|G O<|W<|zM<|Y O<|G O<|qQ O ok138 (zFe _) ⟨U,O,T⟩<|wE O<|W<|zH O (fun c1=>?_) (fun c1=>?_)
 ·try simp only [sx] at c1
  refine Y O<|G O<|W<|zO<|zV O ?_
  exact ⟨by rw [nameM_bad c1],by rw [←nmap_bad (nameM_bad c1) (by decide)]⟩
 ·try simp only [sx] at c1
  refine zN<|zM<|Y O<|G O<|qA O (kC O O)<|zF O zSa<|zK zNx (J 0 O) O<|G O<|qA O (zEl 1 (0:Int) O sm118 O O O (fun _ _=>CRep.lit _ O))<|yW O<|W<|zH O (fun c2=>?_) (fun c2=>?_)
  ·try simp only [sx] at c2
   refine Y O<|G O<|W<|zO<|zV O ?_
   exact ⟨by rw [nameM_dup c1 c2],by rw [←nmap_bad (nameM_dup c1 c2) (by decide)]⟩
  ·try simp only [sx] at c2
   refine zN<|Y O<|G O<|qA O (kC O O)<|zF O zSa<|zK zNx (J 0 O) O<|G O<|G O<|zFa O O (zIu 1 k O sm118 O O O (U) O)<|W<|Y O<|G O<|W<|zO<|zV O ?_
   exact ⟨by rw [nameM_ok c1 c2],by rw [zNg (nameM_ok c1 c2)];rfl⟩
theorem zGz (b mb:Nat) (p:Pg) (m:Kn) (l:Lf) (hl:l.L.length<=5864062014805):
    Con cfg 140 [vP b,dK l] (ckE b mb p m) fun r μ'=>r=vI (fI m l)/\μ'=ckE b mb p m:=by
 refine zW Tryz.func140 O Tryz.ntmps140 Tryz.results140 O ?_
 intro z hz
 refine Y O<|zY O O (qN O O) ?_
 rintro _ _ ⟨b1,rfl,rfl⟩
 refine G O<|W<|zM<|Y O<|zP yB (J 0 O) O<|qQ O ok190 (zAx l (by omega)) ⟨U,O,T⟩<|yW O<|W<|zH O (fun c1=>?_) (fun c1=>?_)
 ·try simp only [sx] at c1
  refine Y O<|G O<|W<|qC _ (Weak.mem [false,true,true] O)<|zO<|zV O ?_
  exact ⟨by rw [sized_arg (zRo c1)],O⟩
 ·try simp only [sx] at c1
  refine zN<|zM<|Y O<|zF O yP<|zK kQ (J 0 O) O<|qB O D<|G O<|W<|zR<|qC ⟨[(13,.c _),(0,.c _),(11,.c _),(12,.c _)],[_,_]⟩ (Weak.mk [false,true,true] ⟨U,U,U,U,T⟩ O)<|qG 1 0 O O (Nat) (fun k=>[(13,vI k)]) (fun k=>[]) (fun k=>k<=l.L.length/\(knL (fun s=>decide (fW m s=1)) (l.L.take k)=true)) (fun k=>l.L.length-k) ⟨0,⟨by omega,O⟩,Weak.mk [true,true] ⟨U,U,U,U,T⟩ O⟩ ?_
  rintro k ⟨hk,hp⟩
  refine Y O<|yI O<|W<|zM<|zH O (fun c2=>?_) (fun c2=>?_)
  ·try simp only [sx] at c2
   obtain ⟨x,hx⟩:=qU l.L k (by omega)
   refine zN<|zM<|zR<|Y O<|qJ O D (by omega) (getm (by assumption))<|zP zHg qE O<|zY O O (yJ O zCy) ?_
   rintro _ _ ⟨b2,rfl,rfl⟩
   refine rStR 0 sz107 O<|W<|zM<|qW 8 mixed (by kernel_rfl) O O<|zQ O O (zS O O)<|zQ O O (kC O O)<|zQ O O (zE O zSa O)<|zQ O O (zJ O zNx O (J 1 O) O)<|zQ O O (zE O wF O)<|zQ O O (zJ O one9 O (J 0 O) O)<|zQ O O (zEl 2 (0:Int) O sm118 O O O (fun _ _=>CRep.lit _ O))<|zQ O O (zAg O O O)<|yR<|W<|zH O (fun c3=>?_) (fun c3=>?_)
   ·try simp only [sx] at c3
    refine Y O<|G O<|W<|qC _ (Weak.mem [false,true,true] O)<|zO<|zV O ?_
    exact ⟨by rw [sized_nf (zGf c1) (knF_no hx (yD c3))],O⟩
   ·try simp only [sx] at c3
    refine zN<|zT O<|qK O ⟨by omega,by omega⟩<|G O<|W ?_
    refine ⟨k+1,⟨by omega,knF_next hx hp (kR c3)⟩,(by omega),Weak.mk [false,true,true] ⟨U,U,U,U,T⟩ O⟩
  ·try simp only [sx] at c2
   refine qO<|Y O<|G O<|W<|zO<|zV O ?_
   exact ⟨by rw [qY (by omega)] at hp;rw [sized_ok (zGf c1) hp],O⟩
theorem zLx (b mb:Nat) (p:Pg) (m:Kn) (x:Cn) (hl:x.Lin.L.length<=5864062014805):
    Con cfg 68 [vP b,vCn x] (ckE b mb p m) fun r μ'=>r=vI (fI m x.Lin)/\μ'=ckE b mb p m:=by
 refine zW Tryz.func68 O Tryz.ntmps68 Tryz.results68 O ?_
 intro z hz
 refine Y O<|zY O O (qN O O) ?_
 rintro _ _ ⟨b1,rfl,rfl⟩
 refine G O<|W<|zM<|Y O<|zP zTe (J 0 O) O<|qQ O ok139 (zKi x hl) ⟨U,O,T⟩<|yW O<|W<|zH O (fun c1=>?_) (fun c1=>?_)
 ·try simp only [sx] at c1
  refine Y O<|G O<|W<|qC _ (Weak.mem [false,true,true] O)<|zO<|zV O ?_
  exact ⟨by rw [sized_arg (zRo c1)],O⟩
 ·refine zN<|Y O<|G O<|zF O zGw<|zP yB (J 0 O) O<|qA O (kF [1,1] O ok140 (zGz b mb p m x.Lin hl) ⟨U,O,U,O,T⟩ O)<|G O<|W<|qC _ (Weak.mem [false,true,true] O)<|zO<|zV O ?_
  exact ⟨O,O⟩
theorem checker_param (b mb:Nat) (p:Pg) (m:Kn) (x:Pm) (hl:x.Dims.length<=4294967296) (hx0:∀l,l∈x.Dims->l.L.length<=5864062014805):
    Con cfg 69 [vP b,vPm x] (ckE b mb p m) fun r μ'=>r=vI (gV m x)/\μ'=ckE b mb p (gD m x.Name 2):=by
 refine zW Tryz.func69 O Tryz.ntmps69 Tryz.results69 O ?_
 intro z hz
 refine Y O<|zY O O (qN O O) ?_
 rintro _ _ ⟨b1,rfl,rfl⟩
 refine G O<|W<|zM<|Y O<|G O<|zF O zRz<|zK one9 (J 0 O) O<|qA O (kF [1,1] O ok67 (zId b mb p m x.Name 2) ⟨U,O,U,O,U,O,T⟩ O)<|G O<|W<|Y O<|G O<|yW O<|W<|zH O (fun c1=>?_) (fun c1=>?_)
 ·try simp only [sx] at c1
  refine Y O<|G O<|G O<|W<|qC _ (Weak.mem [false,true,true] O)<|zO<|zV O ?_
  exact ⟨by unfold gV;rw [if_neg c1],O⟩
 ·try simp only [sx] at c1
  refine zN<|zM<|Y O<|zF O fd67_1<|zP yO (J 0 O) O<|zF O zCj<|zK zAp (J 0 O) O<|qB O el65<|yV O el214 zr3<|qQ O ok141 (zHd x.T [(x.Dims.length:Int)] _ O (by simp)) ⟨U,O,U,O,T⟩<|G O<|W<|Y O<|G O<|yW O<|W<|zH O (fun c2=>?_) (fun c2=>?_)
  ·try simp only [sx] at c2
   have hP:=param_bad c1 c2
   refine Y O<|G O<|G O<|W<|qC _ (Weak.mem [false,true,true] O)<|zO<|zV O ?_
   exact ⟨by rw [hP],O⟩
  ·try simp only [sx] at c2
   have hP:=param_ok c1 c2
   refine zN<|zM<|Y O<|zF O zCj<|zK zAp (J 0 O) O<|qB O el65<|G O<|W<|zR<|qC ⟨[(30,.c _),(0,.c _),(28,.c _),(29,.c _)],[_,_]⟩ (Weak.mk [false,true,true] ⟨U,U,U,U,T⟩ O)<|qG 1 0 O O (Nat) (fun k=>[(30,vI k)]) (fun k=>[]) (fun k=>k<=x.Dims.length/\(jG (gD m x.Name 2) x.Dims=jG (gD m x.Name 2) (x.Dims.drop k))) (fun k=>x.Dims.length-k) ⟨0,⟨by omega,O⟩,Weak.mk [true,true] ⟨U,U,U,U,T⟩ O⟩ ?_
   rintro k ⟨hk,hp⟩
   refine Y O<|yI O<|W<|zM<|zH O (fun c3=>?_) (fun c3=>?_)
   ·try simp only [sx] at c3
    obtain ⟨y,hy⟩:=qU x.Dims k (by omega)
    refine zN<|zM<|zR<|Y O<|qJ O el65 (by omega) (getm (by assumption))<|zP yB qE O<|zY O O (qF [none,some 2] O v O) ?_
    rintro _ _ ⟨b2,rfl,rfl⟩
    refine rStR 0 sz40 O<|W<|Y O<|G O<|zP yB (J 0 O) O<|qA O (kF [1,1] O ok140 (zGz b mb p _ y (hx0 _ (zX hy))) ⟨U,O,U,O,T⟩ O)<|G O<|W<|Y O<|G O<|yW O<|W<|zH O (fun c4=>?_) (fun c4=>?_)
    ·try simp only [sx] at c4
     refine Y O<|G O<|G O<|W<|qC _ (Weak.mem [false,true,true] O)<|zO<|zV O ?_
     exact ⟨by rw [hP,hp,sizeds_no hy c4],O⟩
    ·try simp only [sx] at c4
     refine zN<|zT O<|qK O ⟨by omega,by omega⟩<|G O<|W ?_
     refine ⟨k+1,⟨by omega,hp.trans (sizeds_at hy c4)⟩,(by omega),Weak.mk [false,true,true] ⟨U,U,U,U,T⟩ O⟩
   ·try simp only [sx] at c3
    refine qO<|Y O<|G O<|W<|zO<|zV O ?_
    exact ⟨by rw [hP,hp,wV (by omega)];rfl,O⟩
theorem checker_axes (b mb:Nat) (p:Pg) (m:Kn) (d:Df) (hD:d.Dims.length<=1073741824) (hR:d.Red.length<=1073741824) (hA:∀a,a∈d.Dims->a.Size.L.length<=5864062014805) (hA2:∀a,a∈d.Red->a.Size.L.length<=5864062014805):
    Con cfg 142 [vP b,vDf d] (ckE b mb p m) fun r μ'=>r=vI (jR m [] (d.Dims++d.Red))/\μ'=ckE b mb p m:=by
 refine zW Tryz.func142 O Tryz.ntmps142 Tryz.results142 O ?_
 intro z hz
 refine Y O<|zY O O (qN O O) ?_
 rintro _ _ ⟨b1,rfl,rfl⟩
 refine G O<|W<|Y O<|zY O O (zQz vB O O) ?_
 rintro _ _ ⟨b2,rfl,rfl⟩
 refine G O<|W<|zM<|Y O<|zF O zAt<|zK kY (J 1 O) O<|zF O kU<|zK kY (J 1 O) O<|yV O el185 zr61<|qQ O ok157 (OwnR.pur (zFu d.Dims d.Red hD hR)) ⟨U,O,T⟩<|qB O N<|G O<|W<|zR<|qC ⟨[(17,.c _),(0,.c _),(5,.c _),(15,.c _),(16,.c _)],[_,_,_]⟩ (Weak.mk [true,false,true,true] ⟨U,U,U,U,U,T⟩ O)<|qG 1 1 O O (Nat) (fun k=>[(17,vI k)]) (fun k=>[E.blk b2 (MapR vB (sT ((d.Dims++d.Red).take k)))]) (fun k=>k<=(d.Dims++d.Red).length/\(jR m [] (d.Dims++d.Red)=jR m (((d.Dims++d.Red).take k).map Ax.Name) ((d.Dims++d.Red).drop k))) (fun k=>(d.Dims++d.Red).length-k) ⟨0,⟨by omega,O⟩,Weak.mk [true,true,true] ⟨U,U,U,U,U,T⟩ O⟩ ?_
 rintro k ⟨hk,hp⟩
 refine Y O<|yI O<|W<|zM<|zH O (fun c1=>?_) (fun c1=>?_)
 ·try simp only [sx] at c1
  obtain ⟨x,hx⟩:=qU (d.Dims++d.Red) k (by omega)
  have hlen:(d.Dims++d.Red).length=d.Dims.length+d.Red.length:=List.length_append
  have hog:=own_get x.Name ((d.Dims++d.Red).take k)
  refine zN<|zM<|zR<|Y O<|qJ O N (by omega) (getm (by assumption))<|zP zMf qE O<|zY O O (qF [none,none,some 2] O zJb O) ?_
  rintro _ _ ⟨b3,rfl,rfl⟩
  refine rStR 0 sz111 O<|W<|zM<|zR<|Y O<|zF O zAm<|zK one9 (J 0 O) O<|qQ O ok138 (zFe _) ⟨U,O,T⟩<|wE O<|G O<|W<|zH O (fun c2=>?_) (fun c2=>?_)
  ·try simp only [sx] at c2
   refine Y O<|G O<|W<|qC _ (Weak.mem [false,false,true,true] O)<|zO<|zV O ?_
   exact ⟨by rw [hp,axes_7 hx c2],O⟩
  ·try simp only [sx] at c2
   refine zM<|qW 15 mixed (by kernel_rfl) O O<|zQ O O (zS O O)<|zQ O O (zE O zAm O)<|zQ O O (zJ O one9 O (J 0 O) O)<|zQ O O (zEl 1 false O sm217 O O O (fun _ _=>CRep.lit _ O))<|zQ O O (zS O O)<|qI [] O O O O gv1 T (fun g7_4=>zS O O) O<|qI [(32,_)] O O O O gv1 ⟨O,O,T⟩ (fun g7_4=>kC O O) O<|qI [(33,_)] O O O O gv1 ⟨O,O,T⟩ (fun g7_4=>zE O zSa O) O<|qI [(34,_)] O O O O gv1 ⟨O,O,T⟩ (fun g7_4=>zJ O zNx O (J 2 O) O) O<|qI [] O O O O gv1 T (fun g7_4=>zE O zAm O) O<|qI [(36,_)] O O O O gv1 ⟨O,O,T⟩ (fun g7_4=>zJ O one9 O (J 0 O) O) O<|qI [(35,_),(37,_)] O O O O gv1 ⟨O,O,O,O,T⟩ (fun g7_4=>zEl 3 (0:Int) O sm118 O O O (fun _ _=>CRep.lit _ O)) O<|qI [(38,_)] O O O O gv1 ⟨O,O,T⟩ (fun g7_4=>yM O O O) O<|zQ O O (zBc O O O O (fun h=>(lzf h)))<|zQ O O (yY O O)<|yR<|W<|zH O (fun c3=>?_) (fun c3=>?_)
   ·have h8:=ax_yes hog c3
    refine Y O<|G O<|W<|qC _ (Weak.mem [false,false,true,true] O)<|zO<|zV O ?_
    exact ⟨by rw [hp,axes_8 hx c2 h8],O⟩
   ·have h8:=ax_no hog c3
    refine zN<|Y O<|G O<|zF O zAm<|zK one9 (J 0 O) O<|zFa O O (zIu 1 true O sm217 O O O (U) O)<|W<|Y O<|G O<|zF O zEu<|zP yB (J 0 O) O<|qA O (kF [2,2] O ok140 (zGz b mb p m x.Size (by rcases List.mem_append.1 (zX hx) with h|h;exact hA _ h;exact hA2 _ h)) ⟨U,O,U,O,T⟩ O)<|G O<|W<|Y O<|G O<|yW O<|W<|zH O (fun c4=>?_) (fun c4=>?_)
    ·try simp only [sx] at c4
     refine Y O<|G O<|G O<|W<|qC _ (Weak.mem [false,false,true,true] O)<|zO<|zV O ?_
     exact ⟨by rw [hp,axes_s hx c2 h8 c4],O⟩
    ·try simp only [sx] at c4
     refine zN<|zT O<|qK O ⟨by omega,by omega⟩<|G O<|W ?_
     refine ⟨k+1,⟨by omega,by rw [hp,axes_at hx c2 h8 c4,qT hx,List.map_append];rfl⟩,(by omega),Weak.mk [false,true,true,true] ⟨U,U,U,U,U,T⟩ (by show _=[E.blk b2 (MapR vB (sT ((d.Dims++d.Red).take (k+1))))]++_;rw [ownT_next hx];rfl)⟩
 ·try simp only [sx] at c1
  refine qO<|Y O<|G O<|W<|qC _ (Weak.mem [false,true,true] O)<|zO<|zV O ?_
  exact ⟨by rw [hp,wV (by omega)];rfl,O⟩
theorem zNw (p:Pg) (s:ByteArray) (hP:p.Ok):
    Pur cfg 251 [vPg p,vS s] (.tup [vTy (p.en.find s).ty,mR (p.en.find s).dims,vB (p.en.find s).ok]):=by
 refine zW Tryz.func251 O Tryz.ntmps251 Tryz.results251 O ?_
 intro z hz
 have hpl:=hP.params
 refine Y O<|zY O O (qN O O) ?_
 rintro _ _ ⟨b1,rfl,rfl⟩
 refine zY O O (yJ O zr37) ?_
 rintro _ _ ⟨b2,rfl,rfl⟩
 refine qA O (yQ 2 O O)<|G O<|W<|zM<|Y O<|zF O wM<|zK zBm (J 1 O) O<|qB O el24<|G O<|W<|zR<|qC ⟨[(16,.c _),(1,.c _),(2,.c _),(4,.c _),(14,.c _),(15,.c _)],[_,_]⟩ (Weak.mk [true,true] ⟨U,U,U,U,U,U,T⟩ O)<|qG 1 0 O O (Nat) (fun k=>[(16,vI k)]) (fun k=>[]) (fun k=>k<=p.Params.length/\(gO s p.Defs p.Params=gO s p.Defs (p.Params.drop k))) (fun k=>p.Params.length-k) ⟨0,⟨by omega,O⟩,Weak.mk [true,true] ⟨U,U,U,U,U,U,T⟩ O⟩ ?_
 rintro k ⟨hk,hp⟩
 refine Y O<|yI O<|W<|zM<|zH O (fun c1=>?_) (fun c1=>?_)
 ·try simp only [sx] at c1
  obtain ⟨x,hx⟩:=qU p.Params k (by omega)
  refine zN<|zM<|zR<|Y O<|qJ O el24 (by omega) (getm (by assumption))<|zP agg67 qE O<|zY O O (qF [none,none,none,none,none,none,some 2] O zr67 O) ?_
  rintro _ _ ⟨b3,rfl,rfl⟩
  refine rStR 0 sz67 O<|W<|Y O<|zF O zRz<|zK one9 (J 0 O) O<|G O<|wD O<|W<|zH O (fun c2=>?_) (fun c2=>?_)
  ·try simp only [sx] at c2
   refine zM<|qW 5 mixed (by kernel_rfl) O O<|zQ O O (zE O fd67_1 O)<|zQ O O (zU O yO O (J 0 O) O)<|zQ O O (zE O zCj O)<|zQ O O (zJ O zAp O (J 0 O) O)<|zQ O O (qL O ok85 (OwnR.pur (zDb x.Dims (hP.ps x (zX hx)).1 (fun y hy=>Nat.le_trans ((hP.ps x (zX hx)).2 y hy) (by decide)))) ⟨U,O,T⟩)<|yR<|rStR 1 sz37 O<|G O<|G O<|W<|zO<|fin3 (zZ yO O (J 1 O) O) (rs_c O) (rs_c O) ?_
   rw [En.find,show p.en.pm=p.Params from rfl,show p.en.df=p.Defs from rfl,hp,find_at hx c2];rfl
  ·try simp only [sx] at c2
   refine zN<|zT O<|qK O ⟨by omega,by omega⟩<|G O<|W ?_
   refine ⟨k+1,⟨by omega,hp.trans (find_next hx c2)⟩,(by omega),Weak.mk [false,true,true] ⟨U,U,U,U,U,U,T⟩ O⟩
 ·try simp only [sx] at c1
  have hF:p.en.find s=gP s p.Defs:=by rw [En.find,show p.en.pm=p.Params from rfl,show p.en.df=p.Defs from rfl,hp,wV (by omega)];rfl
  refine qO<|zM<|Y O<|zP wY (J 1 O) O<|G O<|qQ O ok287 (zQw p s hP.defs) ⟨U,O,U,O,T⟩<|G O<|W<|Y O<|G O<|qA O (wJ O O O)<|W<|zH O (fun c3=>?_) (fun c3=>?_)
  ·try simp only [sx] at c3
   obtain ⟨d,hd,hfd⟩:=(find_def s p.Defs).1 c3
   have hdd:=(hP.ds d (zX hd)).1
   refine Y O<|G O<|yE _ (yU 40 2)<|W<|zM<|Y O<|zF O kV<|zK zAq (J 2 O) O<|G O<|qJ O el25 (by omega) (getm hd)<|qS O zAt<|zK kY qE O<|qB O N<|G O<|W<|zR<|qC ⟨[(42,.c _),(10,.c _),(2,.c _),(4,.c _),(9,.c _),(40,.c _),(41,.c _)],[_,_,_]⟩ (Weak.mk [true,true,true] ⟨U,U,U,U,U,U,U,T⟩ O)<|qG 2 1 O O (Nat×Value) (fun ⟨j,sv⟩=>[(42,vI j),(10,.c (.lit sv))]) (fun ⟨j,sv⟩=>[E.vec sv 40 2 ((d.Dims.take j).map fun a=>a.Size.cells)]) (fun ⟨j,sv⟩=>j<=d.Dims.length) (fun ⟨j,sv⟩=>d.Dims.length-j) ⟨⟨0,(.slice none 0 0)⟩,(by omega),Weak.mk [true,true,true] ⟨U,U,U,U,U,U,U,T⟩ O⟩ ?_
   rintro ⟨j,sv⟩ hj
   show AWP _ _ _ _ _ ⟨[(42,vI j),(10,.c (.lit sv))]++_,[E.vec sv 40 2 ((d.Dims.take j).map fun a=>a.Size.cells)]++_⟩
   refine Y O<|yI O<|W<|zM<|zH O (fun c4=>?_) (fun c4=>?_)
   ·try simp only [sx] at c4
    obtain ⟨a,ha⟩:=qU d.Dims j (by omega)
    refine zN<|zM<|zR<|Y O<|qJ O N (by omega) (getm (by assumption))<|zP zMf qE O<|zY O O (qF [none,none,some 2] O zJb O) ?_
    rintro _ _ ⟨b5,rfl,rfl⟩
    refine rStR 0 sz111 O<|W<|zT O<|G O<|zF O zEu<|zP yB (J 0 O) O<|qQ O ok84 (zBb a.Size (Nat.le_trans ((hP.ds d (zX hd)).2.2.1 a (zX ha)) (by decide))) ⟨U,O,T⟩<|yV O el65 v<|zY O O (qV 1 O el65 O O O (by first|omega|(simp only [List.length_take,List.length_map,List.length_append,List.length_nil,List.length_cons];omega)) (by first|omega|(simp only [List.length_take,List.length_map,List.length_append,List.length_nil,List.length_cons];omega))) ?_
    rintro _ _ ⟨sv6,rfl,rfl⟩
    refine G O<|W<|zT O<|qK O ⟨by omega,by omega⟩<|G O<|W ?_
    refine ⟨⟨j+1,sv6⟩,(by omega),(by show d.Dims.length-(j+1)<d.Dims.length-j;omega),Weak.mk [false,true,true,true] ⟨U,U,U,U,U,U,U,T⟩ (by show _=[E.vec sv6 _ 2 ((d.Dims.take (j+1)).map fun a=>a.Size.cells)]++_;rw [qT ha,List.map_append (f:=fun a:Ax=>a.Size.cells)];rfl)⟩
   ·try simp only [sx] at c4
    refine qO<|Y O<|zF O kV<|zK zAq (J 2 O) O<|G O<|qJ O el25 (by omega) (getm hd)<|qS O zLr<|zP yO qE O<|G O<|rStR 1 sz37 O<|G O<|G O<|W<|qC _ (yC 0 O (regs':=[(10,_),(59,_),(5,_)]) (μ':=[_,_]) ⟨FLe.sl,FLe.sl,FLe.sl,T⟩ ⟨EFle.refl _,EFle.refl _,T⟩)<|zO<|fin3 (zZ yO O (J 0 O) O) (rs_c O) (rs_c O) ?_
    rw [hF,hfd,qY (l:=d.Dims) (k:=j) (by omega)];simp only [mR,List.map_map];rfl
  ·try simp only [sx] at c3
   have hfd:=(find_def s p.Defs).2 (by omega)
   refine zN<|Y O<|yN O zr37 pl37<|rStR 0 sz37 O<|qA O (yQ 2 O O)<|G O<|W<|zO<|fin3 (zZ yO O (J 0 O) O) (rs_c O) (rs_c O) ?_
   rw [hF,hfd];rfl
theorem zMj (b mb:Nat) (p:Pg) (m:Kn) (l:Lf) (hl:l.L.length<=4294967296):
    Con cfg 208 [vP b,dK l] (tyE b mb p m) fun r μ'=>r=vI (jI (kn m) l)/\μ'=tyE b mb p m:=by
 refine zW Tryz.func208 O Tryz.ntmps208 Tryz.results208 O ?_
 intro z hz
 refine Y O<|zY O O (qN O O) ?_
 rintro _ _ ⟨b1,rfl,rfl⟩
 refine G O<|W<|zM<|Y O<|zF O yP<|zK kQ (J 0 O) O<|qB O D<|G O<|W<|zR<|qC ⟨[(10,.c _),(0,.c _),(8,.c _),(9,.c _)],[_,_]⟩ (Weak.mk [false,true,true] ⟨U,U,U,U,T⟩ O)<|qG 1 0 O O (Nat) (fun k=>[(10,vI k)]) (fun k=>[]) (fun k=>k<=l.L.length/\(knL (kn m) (l.L.take k)=true)) (fun k=>l.L.length-k) ⟨0,⟨by omega,O⟩,Weak.mk [true,true] ⟨U,U,U,U,T⟩ O⟩ ?_
 rintro k ⟨hk,hp⟩
 refine Y O<|yI O<|W<|zM<|zH O (fun c1=>?_) (fun c1=>?_)
 ·try simp only [sx] at c1
  obtain ⟨x,hx⟩:=qU l.L k (by omega)
  refine zN<|zM<|zR<|Y O<|qJ O D (by omega) (getm (by assumption))<|zP zHg qE O<|zY O O (yJ O zCy) ?_
  rintro _ _ ⟨b2,rfl,rfl⟩
  refine rStR 0 sz107 O<|W<|zM<|qW 8 mixed (by kernel_rfl) O O<|zQ O O (zS O O)<|zQ O O (kC O O)<|zQ O O (zE O fd196_1 O)<|zQ O O (zJ O zNx O (J 1 O) O)<|zQ O O (zE O wF O)<|zQ O O (zJ O one9 O (J 0 O) O)<|zQ O O (zEl 2 (0:Int) O sm118 O O O (fun _ _=>CRep.lit _ O))<|zQ O O (yM O O O)<|yR<|W<|zH O (fun c2=>?_) (fun c2=>?_)
  ·try simp only [sx] at c2
   refine Y O<|G O<|W<|qC _ (Weak.mem [false,true,true] O)<|zO<|zV O ?_
   exact ⟨by rw [zIs (knF_no hx (kn_f c2))],O⟩
  ·try simp only [sx] at c2
   refine zN<|zT O<|qK O ⟨by omega,by omega⟩<|G O<|W ?_
   refine ⟨k+1,⟨by omega,knF_next hx hp (kn_t c2)⟩,(by omega),Weak.mk [false,true,true] ⟨U,U,U,U,T⟩ O⟩
 ·try simp only [sx] at c1
  refine qO<|Y O<|G O<|W<|zO<|zV O ?_
  exact ⟨by rw [qY (by omega)] at hp;rw [zPj hp],O⟩
theorem typer_index (b mb:Nat) (p:Pg) (m:Kn) (x:Ix) (hP:p.Ok) (hx:x.wt<=4294967296):
    Con cfg 252 [vP b,lK x] (tyE b mb p m) fun r μ'=>r=vI (dD p.en (kn m) x)/\μ'=tyE b mb p m:=by
 refine zW Tryz.func252 O Tryz.ntmps252 Tryz.results252 O ?_
 intro z hz
 have hw:=hx
 unfold Ix.wt at hw
 clear hx
 refine Y O<|zY O O (qN O O) ?_
 rintro _ _ ⟨b1,rfl,rfl⟩
 refine G O<|W<|zM<|Y O<|zF O zCe<|zK one9 (J 0 O) O<|wD O<|W<|zH O (fun c1=>?_) (fun c1=>?_)
 ·try simp only [sx] at c1
  refine Y O<|G O<|zF O zCp<|zP yB (J 0 O) O<|qA O (kF [1,1] O ok208 (zMj b mb p m x.Lin (by omega)) ⟨U,O,U,O,T⟩ O)<|G O<|W<|qC _ (Weak.mem [false,true,true] O)<|zO<|zV O ?_
  exact ⟨by rw [dD,decide_eq_true c1];rfl,O⟩
 ·try simp only [sx] at c1
  refine zN<|zM<|zSz 12 14 [.q,.q,.q,.q,.q,.q,.q,.q,.q,.u,.u,.f]  mixed (by kernel_rfl) O O O<|yS O O (zS O O)<|yS O O (kC O O)<|yS O O (zE O fd196_0 O)<|yS O O (zU O wY O (J 1 O) O)<|yS O O (zE O zCe O)<|yS O O (zJ O one9 O (J 0 O) O)<|yS O O (qL O ok251 (zNw p x.From hP) ⟨U,O,U,O,T⟩)<|yS O O (kL O O)<|yS O O (yA O O O)<|zDy O O (wW O O O)<|zDy O O (wW O O O)<|zGo<|zJo<|wN<|wN<|wN<|wN<|wN<|wN<|wN<|wN<|wN<|zKw<|zKw<|zEm (wH (yJ O zr37))<|zJp<|zDh ?_
  rintro _ _ ⟨b2,rfl,rfl⟩
  refine zEy ?_
  refine ⟨_,kN O sz37 O O O (zCu 0 O O),(by rintro _ _ ⟨rfl,rfl⟩;exact ⟨[_],rfl⟩),?_⟩
  rintro _ _ ⟨rfl,rfl⟩
  refine zQ O O (yY O O)<|yR<|G O<|W<|zM<|zR<|Y O<|G O<|wE O<|G O<|W<|zH O (fun c2=>?_) (fun c2=>?_)
  ·try simp only [sx] at c2
   refine Y O<|G O<|W<|qC _ (Weak.mem [false,false,true,true] O)<|zO<|zV O ?_
   exact ⟨by rw [dD,decide_eq_false c1,c2];rfl,O⟩
  ·try simp only [sx] at c2
   refine Y O<|zF O zFg<|zK one3 (J 0 O) O<|yW O<|G O<|W<|zH O (fun c3=>?_) (fun c3=>?_)
   ·try simp only [sx] at c3
    refine Y O<|G O<|W<|qC _ (Weak.mem [false,false,true,true] O)<|zO<|zV O ?_
    exact ⟨by rw [dD,decide_eq_false c1,c2,decide_eq_false c3];rfl,O⟩
   ·try simp only [sx] at c3
    refine Y O<|zF O wI<|zK zAp (J 1 O) O<|qB O el65<|G O<|qB O el65<|yW O<|G O<|W<|zH O (fun c4=>?_) (fun c4=>?_)
    ·try simp only [sx] at c4
     refine Y O<|G O<|W<|qC _ (Weak.mem [false,false,true,true] O)<|zO<|zV O ?_
     exact ⟨by rw [dD,decide_eq_false c1,c2,decide_eq_true c3,decide_eq_false (by omega)];rfl,O⟩
    ·try simp only [sx] at c4
     refine zN<|zM<|Y O<|zF O wI<|zK zAp (J 1 O) O<|qB O el65<|G O<|W<|zR<|qC ⟨[(46,.c _),(0,.c _),(44,.c _),(45,.c _)],[_,_]⟩ (Weak.mk [false,false,true,true] ⟨U,U,U,U,T⟩ O)<|qG 1 0 O O (Nat) (fun k=>[(46,vI k)]) (fun k=>[]) (fun k=>k<=x.At.length/\((x.At.take k).all (fun x=>knL (kn m) x.L)=true)) (fun k=>x.At.length-k) ⟨0,⟨by omega,O⟩,Weak.mk [true,true] ⟨U,U,U,U,T⟩ O⟩ ?_
     rintro k ⟨hk,hp⟩
     refine Y O<|yI O<|W<|zM<|zH O (fun c5=>?_) (fun c5=>?_)
     ·try simp only [sx] at c5
      obtain ⟨l,hl⟩:=qU x.At k (by omega)
      refine zN<|zM<|zR<|Y O<|qJ O el65 (by omega) (getm (by assumption))<|zP yB qE O<|zY O O (qF [none,some 2] O v O) ?_
      rintro _ _ ⟨b3,rfl,rfl⟩
      refine rStR 0 sz40 O<|W<|Y O<|G O<|zP yB (J 0 O) O<|qA O (kF [1,1] O ok208 (zMj b mb p m l (by have:=zDe (zX hl);omega)) ⟨U,O,U,O,T⟩ O)<|G O<|W<|Y O<|G O<|yW O<|W<|zH O (fun c6=>?_) (fun c6=>?_)
      ·try simp only [sx] at c6
       refine Y O<|G O<|G O<|W<|qC _ (Weak.mem [false,true,true] O)<|zO<|zV O ?_
       exact ⟨by rw [dD,decide_eq_false c1,c2,decide_eq_true c3,decide_eq_true (by omega)];simp only [cond_false,Bool.not_true];rw [formsK_no hl c6],O⟩
      ·try simp only [sx] at c6
       refine zN<|zT O<|qK O ⟨by omega,by omega⟩<|G O<|W ?_
       refine ⟨k+1,⟨by omega,zRv hl hp c6⟩,(by omega),Weak.mk [false,true,true] ⟨U,U,U,U,T⟩ O⟩
     ·try simp only [sx] at c5
      refine qO<|Y O<|G O<|W<|zO<|zV O ?_
      exact ⟨by rw [qY (by omega)] at hp;rw [dD,decide_eq_false c1,c2,decide_eq_true c3,decide_eq_true (by omega)];simp only [cond_false,Bool.not_true];rw [formsK_ok hp],O⟩
end Go.W
