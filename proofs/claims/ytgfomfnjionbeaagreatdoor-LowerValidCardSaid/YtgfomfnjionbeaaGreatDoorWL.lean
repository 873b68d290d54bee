/-
  What functions compute.
  Conditions: none.
-/
import Derived.Test.YtgfomfnjionbeaaGreatDoorWK
import Derived.Test.YtgfomfnjionbeaaGreatDoorProg17M
set_option linter.unusedSimpArgs false
set_option linter.unusedVariables false
set_option maxRecDepth 10000
namespace Go.W
open Go Go.Eng Go.Proofs Go.L41 Go.Br
attribute [local irreducible] AWP RWP TD fQ
theorem zEk:mJ Tryz.prog 30=some 5:=by kernel_rfl
theorem agg74:mJ Tryz.prog 74=some 7:=by kernel_rfl
theorem agg123:mJ Tryz.prog 123=some 3:=by kernel_rfl
theorem fd70_1:bD Tryz.prog 70 1=some (1,56):=by kernel_rfl
theorem fd74_0:bD Tryz.prog 74 0=some (0,9):=by kernel_rfl
theorem fd74_1:bD Tryz.prog 74 1=some (1,56):=by kernel_rfl
theorem fd74_2:bD Tryz.prog 74 2=some (6,72):=by kernel_rfl
theorem fd99_1:bD Tryz.prog 99 1=some (1,59):=by kernel_rfl
theorem zTr:bD Tryz.prog 119 1=some (5,117):=by kernel_rfl
theorem fd236_0:bD Tryz.prog 236 0=some (0,30):=by kernel_rfl
theorem fd236_1:bD Tryz.prog 236 1=some (5,117):=by kernel_rfl
theorem ok59:bA Tryz.prog 59=true:=by kernel_rfl
theorem ok112:bA Tryz.prog 112=true:=by kernel_rfl
theorem ok113:bA Tryz.prog 113=true:=by kernel_rfl
theorem ok114:bA Tryz.prog 114=true:=by kernel_rfl
theorem ok119:bA Tryz.prog 119=true:=by kernel_rfl
theorem ok181:bA Tryz.prog 181=true:=by kernel_rfl
theorem ok182:bA Tryz.prog 182=true:=by kernel_rfl
theorem ok223:bA Tryz.prog 223=true:=by kernel_rfl
theorem zPr:gB Tryz.prog 117=true:=by kernel_rfl
theorem sm117:pX Tryz.prog 117=some (Value.int IntKind.i64 0):=by kernel_rfl
theorem sm232:pX Tryz.prog 232=some (Value.bool false):=by kernel_rfl
theorem v:(Tryz.prog.info? 56).map (·.size)=some 5:=by kernel_rfl
theorem sz74:(Tryz.prog.info? 74).map (·.size)=some 7:=by kernel_rfl
theorem zr74:dO Tryz.prog 74=some [(Value.string (ByteArray.mk #[])),(Value.int IntKind.i64 0),(Value.int IntKind.i64 0),(Value.int IntKind.i64 0),(Value.int IntKind.i64 0),(Value.int IntKind.i64 0),(Value.slice none 0 0)]:=by kernel_rfl
theorem zJv (b mb:Nat) (p:Pg) (m:Kn) (s:ByteArray) (k:Int):
    Con cfg 59 [vP b,vS s,vI k] (ckE b mb p m) fun r μ'=>r=vI (fA m s)/\μ'=ckE b mb p (gN m s k):=by
 refine zV Tryz.func59 O Tryz.ntmps59 Tryz.results59 O ?_
 intro z hz
 refine Y O<|G O<|zA<|zH<|Y O<|G O<|qJ O ok19 (zBr _) ⟨zB,O,T⟩<|kZ O<|zA<|zE O (fun c1=>?_) (fun c1=>?_)
 ·try simp only [sx] at c1
  refine Y O<|G O<|zA<|zJ<|zT O ?_
  exact ⟨by rw [nameM_bad c1],by rw [←nmap_bad (nameM_bad c1) uA]⟩
 ·try simp only [sx] at c1
  refine zI<|zH<|Y O<|G O<|zS O<|zD O zTr<|zG zPr (J 0 O) O<|G O<|zW O (zEz 1 (0:Int) O sm117 O O O (fun _ _=>CRep.lit _ O))<|yN O<|zA<|zE O (fun c2=>?_) (fun c2=>?_)
  ·try simp only [sx] at c2
   refine Y O<|G O<|zA<|zJ<|zT O ?_
   exact ⟨by rw [nameM_dup c1 c2],by rw [←nmap_bad (nameM_dup c1 c2) uA]⟩
  ·try simp only [sx] at c2
   refine zI<|Y O<|G O<|zS O<|zD O zTr<|zG zPr (J 0 O) O<|G O<|G O<|zBd O O (zGw 1 k O sm117 O O O (zB) O)<|zA<|Y O<|G O<|zA<|zJ<|zT O ?_
   exact ⟨by rw [nameM_ok c1 c2],by rw [zOk (nameM_ok c1 c2)];rfl⟩
theorem zHw (b mb:Nat) (p:Pg) (m:Kn) (l:Lf) (hl:l.L.length<=5864062014805):
    Con cfg 113 [vP b,dP l] (ckE b mb p m) fun r μ'=>r=vI (fI m l)/\μ'=ckE b mb p m:=by
 refine zV Tryz.func113 O Tryz.ntmps113 Tryz.results113 O ?_
 intro z hz
 refine Y O<|zY O O (qL O O) ?_
 rintro _ _ ⟨b1,rfl,rfl⟩
 refine G O<|zA<|zH<|Y O<|zM kD (J 0 O) O<|qJ O ok122 (zAn l zC) ⟨zB,O,T⟩<|yN O<|zA<|zE O (fun c1=>?_) (fun c1=>?_)
 ·try simp only [sx] at c1
  refine Y O<|G O<|zA<|zU _ (Weak.mem [false,true,true] O)<|zJ<|zT O ?_
  exact ⟨by rw [sized_arg (zTh c1)],O⟩
 ·try simp only [sx] at c1
  refine zI<|zH<|Y O<|zD O wC<|zG zBe (J 0 O) O<|qB O U<|G O<|zA<|zR<|zU ⟨[(13,.c _),(0,.c _),(11,.c _),(12,.c _)],[_,_]⟩ (Weak.mk [false,true,true] ⟨zB,zB,zB,zB,T⟩ O)<|qF 1 0 O O (Nat) (fun k=>[(13,vI k)]) (fun k=>[]) (fun k=>k<=l.L.length/\(knL (fun s=>decide (gE m s=1)) (l.L.take k)=true)) (fun k=>l.L.length-k) ⟨0,⟨zC,O⟩,Weak.mk [true,true] ⟨zB,zB,zB,zB,T⟩ O⟩ ?_
  rintro k ⟨hk,hp⟩
  refine Y O<|yA O<|zA<|zH<|zE O (fun c2=>?_) (fun c2=>?_)
  ·try simp only [sx] at c2
   obtain ⟨x,hx⟩:=qV l.L k zC
   refine zI<|zH<|zR<|Y O<|qE O U zC (getm uD)<|zM zEf qD O<|zY O O (yC O zGb) ?_
   rintro _ _ ⟨b2,rfl,rfl⟩
   refine D 0 sz139 O<|zA<|zH<|yE 8 mixed uC O O<|zN O O (zP O O)<|zN O O (qK O O)<|zN O O (zF O zTr O)<|zN O O (zK O zPr O (J 1 O) O)<|zN O O (zF O wV O)<|zN O O (zK O one9 O (J 0 O) O)<|zN O O (zEz 2 (0:Int) O sm117 O O O (fun _ _=>CRep.lit _ O))<|zN O O (wM O O O)<|kE<|zA<|zE O (fun c3=>?_) (fun c3=>?_)
   ·try simp only [sx] at c3
    refine Y O<|G O<|zA<|zU _ (Weak.mem [false,true,true] O)<|zJ<|zT O ?_
    exact ⟨by rw [sized_nf (zGt c1) (knF_no hx (kF c3))],O⟩
   ·try simp only [sx] at c3
    refine zI<|zO O<|qH O ⟨zC,zC⟩<|G O<|zA ?_
    refine ⟨k+1,⟨zC,knF_next hx hp (zAk c3)⟩,zC,Weak.mk [false,true,true] ⟨zB,zB,zB,zB,T⟩ O⟩
  ·try simp only [sx] at c2
   refine qM<|Y O<|G O<|zA<|zJ<|zT O ?_
   exact ⟨by rw [yD zC] at hp;rw [sized_ok (zGt c1) hp],O⟩
theorem zNm (b mb:Nat) (p:Pg) (m:Kn) (x:Cn) (hl:x.Lin.L.length<=5864062014805):
    Con cfg 60 [vP b,vCn x] (ckE b mb p m) fun r μ'=>r=vI (fI m x.Lin)/\μ'=ckE b mb p m:=by
 refine zV Tryz.func60 O Tryz.ntmps60 Tryz.results60 O ?_
 intro z hz
 refine Y O<|zY O O (qL O O) ?_
 rintro _ _ ⟨b1,rfl,rfl⟩
 refine G O<|zA<|zH<|Y O<|zM agg123 (J 0 O) O<|qJ O ok112 (zLp x hl) ⟨zB,O,T⟩<|yN O<|zA<|zE O (fun c1=>?_) (fun c1=>?_)
 ·try simp only [sx] at c1
  refine Y O<|G O<|zA<|zU _ (Weak.mem [false,true,true] O)<|zJ<|zT O ?_
  exact ⟨by rw [sized_arg (zTh c1)],O⟩
 ·refine zI<|Y O<|G O<|zD O fd123_0<|zM kD (J 0 O) O<|zW O (yY [1,1] O ok113 (zHw b mb p m x.Lin hl) ⟨zB,O,zB,O,T⟩ O)<|G O<|zA<|zU _ (Weak.mem [false,true,true] O)<|zJ<|zT O ?_
  exact ⟨O,O⟩
theorem checker_param (b mb:Nat) (p:Pg) (m:Kn) (x:Pm) (hl:x.Dims.length<=4294967296) (hx0:∀l,l∈x.Dims->l.L.length<=5864062014805):
    Con cfg 61 [vP b,vPm x] (ckE b mb p m) fun r μ'=>r=vI (gZ m x)/\μ'=ckE b mb p (gN m x.Name 2):=by
 refine zV Tryz.func61 O Tryz.ntmps61 Tryz.results61 O ?_
 intro z hz
 refine Y O<|zY O O (qL O O) ?_
 rintro _ _ ⟨b1,rfl,rfl⟩
 refine G O<|zA<|zH<|Y O<|G O<|zD O fd74_0<|zG one9 (J 0 O) O<|zW O (yY [1,1] O ok59 (zJv b mb p m x.Name 2) ⟨zB,O,zB,O,zB,O,T⟩ O)<|G O<|zA<|Y O<|G O<|yN O<|zA<|zE O (fun c1=>?_) (fun c1=>?_)
 ·try simp only [sx] at c1
  refine Y O<|G O<|G O<|zA<|zU _ (Weak.mem [false,true,true] O)<|zJ<|zT O ?_
  exact ⟨by unfold gZ;rw [if_neg c1],O⟩
 ·try simp only [sx] at c1
  refine zI<|zH<|Y O<|zD O fd74_1<|zM qZ (J 0 O) O<|zD O fd74_2<|zG zCg (J 0 O) O<|qB O el72<|kA O el46 zr3<|qJ O ok114 (zIb x.T [(x.Dims.length:Int)] _ O uG) ⟨zB,O,zB,O,T⟩<|G O<|zA<|Y O<|G O<|yN O<|zA<|zE O (fun c2=>?_) (fun c2=>?_)
  ·try simp only [sx] at c2
   have hP:=param_bad c1 c2
   refine Y O<|G O<|G O<|zA<|zU _ (Weak.mem [false,true,true] O)<|zJ<|zT O ?_
   exact ⟨by rw [hP],O⟩
  ·try simp only [sx] at c2
   have hP:=param_ok c1 c2
   refine zI<|zH<|Y O<|zD O fd74_2<|zG zCg (J 0 O) O<|qB O el72<|G O<|zA<|zR<|zU ⟨[(30,.c _),(0,.c _),(28,.c _),(29,.c _)],[_,_]⟩ (Weak.mk [false,true,true] ⟨zB,zB,zB,zB,T⟩ O)<|qF 1 0 O O (Nat) (fun k=>[(30,vI k)]) (fun k=>[]) (fun k=>k<=x.Dims.length/\(jL (gN m x.Name 2) x.Dims=jL (gN m x.Name 2) (x.Dims.drop k))) (fun k=>x.Dims.length-k) ⟨0,⟨zC,O⟩,Weak.mk [true,true] ⟨zB,zB,zB,zB,T⟩ O⟩ ?_
   rintro k ⟨hk,hp⟩
   refine Y O<|yA O<|zA<|zH<|zE O (fun c3=>?_) (fun c3=>?_)
   ·try simp only [sx] at c3
    obtain ⟨y,hy⟩:=qV x.Dims k zC
    refine zI<|zH<|zR<|Y O<|qE O el72 zC (getm uD)<|zM kD qD O<|zY O O (qG [none,some 2] O zr59 O) ?_
    rintro _ _ ⟨b2,rfl,rfl⟩
    refine D 0 sz59 O<|zA<|Y O<|G O<|zM kD (J 0 O) O<|zW O (yY [1,1] O ok113 (zHw b mb p _ y (hx0 _ (qC hy))) ⟨zB,O,zB,O,T⟩ O)<|G O<|zA<|Y O<|G O<|yN O<|zA<|zE O (fun c4=>?_) (fun c4=>?_)
    ·try simp only [sx] at c4
     refine Y O<|G O<|G O<|zA<|zU _ (Weak.mem [false,true,true] O)<|zJ<|zT O ?_
     exact ⟨by rw [hP,hp,sizeds_no hy c4],O⟩
    ·try simp only [sx] at c4
     refine zI<|zO O<|qH O ⟨zC,zC⟩<|G O<|zA ?_
     refine ⟨k+1,⟨zC,hp.trans (sizeds_at hy c4)⟩,zC,Weak.mk [false,true,true] ⟨zB,zB,zB,zB,T⟩ O⟩
   ·try simp only [sx] at c3
    refine qM<|Y O<|G O<|zA<|zJ<|zT O ?_
    exact ⟨by rw [hP,hp,zDv zC];rfl,O⟩
theorem checker_axes (b mb:Nat) (p:Pg) (m:Kn) (d:Df) (hD:d.Dims.length<=1073741824) (hR:d.Red.length<=1073741824) (hA:∀a,a∈d.Dims->a.Size.L.length<=5864062014805) (hA2:∀a,a∈d.Red->a.Size.L.length<=5864062014805):
    Con cfg 115 [vP b,vDf d] (ckE b mb p m) fun r μ'=>r=vI (lC m [] (d.Dims++d.Red))/\μ'=ckE b mb p m:=by
 refine zV Tryz.func115 O Tryz.ntmps115 Tryz.results115 O ?_
 intro z hz
 refine Y O<|zY O O (qL O O) ?_
 rintro _ _ ⟨b1,rfl,rfl⟩
 refine G O<|zA<|Y O<|zY O O (zMe vB O O) ?_
 rintro _ _ ⟨b2,rfl,rfl⟩
 refine G O<|zA<|zH<|Y O<|zD O zKz<|zG zDp (J 1 O) O<|zD O zFo<|zG zDp (J 1 O) O<|kA O el260 zr68<|qJ O ok177 (OwnR.pur (zGk d.Dims d.Red hD hR)) ⟨zB,O,T⟩<|qB O el68<|G O<|zA<|zR<|zU ⟨[(17,.c _),(0,.c _),(5,.c _),(15,.c _),(16,.c _)],[_,_,_]⟩ (Weak.mk [true,false,true,true] ⟨zB,zB,zB,zB,zB,T⟩ O)<|qF 1 1 O O (Nat) (fun k=>[(17,vI k)]) (fun k=>[E.blk b2 (MapR vB (vT ((d.Dims++d.Red).take k)))]) (fun k=>k<=(d.Dims++d.Red).length/\(lC m [] (d.Dims++d.Red)=lC m (((d.Dims++d.Red).take k).map Ax.Name) ((d.Dims++d.Red).drop k))) (fun k=>(d.Dims++d.Red).length-k) ⟨0,⟨zC,O⟩,Weak.mk [true,true,true] ⟨zB,zB,zB,zB,zB,T⟩ O⟩ ?_
 rintro k ⟨hk,hp⟩
 refine Y O<|yA O<|zA<|zH<|zE O (fun c1=>?_) (fun c1=>?_)
 ·try simp only [sx] at c1
  obtain ⟨x,hx⟩:=qV (d.Dims++d.Red) k zC
  have hlen:(d.Dims++d.Red).length=d.Dims.length+d.Red.length:=List.length_append
  have hog:=own_get x.Name ((d.Dims++d.Red).take k)
  refine zI<|zH<|zR<|Y O<|qE O el68 zC (getm uD)<|zM agg99 qD O<|zY O O (qG [none,none,some 2] O zr99 O) ?_
  rintro _ _ ⟨b3,rfl,rfl⟩
  refine D 0 sz99 O<|zA<|zH<|zR<|Y O<|zD O zTn<|zG one9 (J 0 O) O<|qJ O ok19 (zBr _) ⟨zB,O,T⟩<|kZ O<|G O<|zA<|zE O (fun c2=>?_) (fun c2=>?_)
  ·try simp only [sx] at c2
   refine Y O<|G O<|zA<|zU _ (Weak.mem [false,false,true,true] O)<|zJ<|zT O ?_
   exact ⟨by rw [hp,axes_7 hx c2],O⟩
  ·try simp only [sx] at c2
   refine zH<|yE 15 mixed uC O O<|zN O O (zP O O)<|zN O O (zF O zTn O)<|zN O O (zK O one9 O (J 0 O) O)<|zN O O (zEz 1 false O sm232 O O O (fun _ _=>CRep.lit _ O))<|zN O O (zP O O)<|qP [] O O O O gv1 T (fun g7_4=>zP O O) O<|qP [(32,_)] O O O O gv1 ⟨O,O,T⟩ (fun g7_4=>qK O O) O<|qP [(33,_)] O O O O gv1 ⟨O,O,T⟩ (fun g7_4=>zF O zTr O) O<|qP [(34,_)] O O O O gv1 ⟨O,O,T⟩ (fun g7_4=>zK O zPr O (J 2 O) O) O<|qP [] O O O O gv1 T (fun g7_4=>zF O zTn O) O<|qP [(36,_)] O O O O gv1 ⟨O,O,T⟩ (fun g7_4=>zK O one9 O (J 0 O) O) O<|qP [(35,_),(37,_)] O O O O gv1 ⟨O,O,O,O,T⟩ (fun g7_4=>zEz 3 (0:Int) O sm117 O O O (fun _ _=>CRep.lit _ O)) O<|qP [(38,_)] O O O O gv1 ⟨O,O,T⟩ (fun g7_4=>yR O O O) O<|zN O O (zAy O O O O (fun h=>(lzf h)))<|zN O O (yL O O)<|kE<|zA<|zE O (fun c3=>?_) (fun c3=>?_)
   ·have h8:=ax_yes hog c3
    refine Y O<|G O<|zA<|zU _ (Weak.mem [false,false,true,true] O)<|zJ<|zT O ?_
    exact ⟨by rw [hp,axes_8 hx c2 h8],O⟩
   ·have h8:=ax_no hog c3
    refine zI<|Y O<|G O<|zD O zTn<|zG one9 (J 0 O) O<|zBd O O (zGw 1 true O sm232 O O O (zB) O)<|zA<|Y O<|G O<|zD O fd99_1<|zM kD (J 0 O) O<|zW O (yY [2,2] O ok113 (zHw b mb p m x.Size (by rcases List.mem_append.1 (qC hx) with h|h;exact hA _ h;exact hA2 _ h)) ⟨zB,O,zB,O,T⟩ O)<|G O<|zA<|Y O<|G O<|yN O<|zA<|zE O (fun c4=>?_) (fun c4=>?_)
    ·try simp only [sx] at c4
     refine Y O<|G O<|G O<|zA<|zU _ (Weak.mem [false,false,true,true] O)<|zJ<|zT O ?_
     exact ⟨by rw [hp,axes_s hx c2 h8 c4],O⟩
    ·try simp only [sx] at c4
     refine zI<|zO O<|qH O ⟨zC,zC⟩<|G O<|zA ?_
     refine ⟨k+1,⟨zC,by rw [hp,axes_at hx c2 h8 c4,yB hx,List.map_append];rfl⟩,zC,Weak.mk [false,true,true,true] ⟨zB,zB,zB,zB,zB,T⟩ (by show _=[E.blk b2 (MapR vB (vT ((d.Dims++d.Red).take (k+1))))]++_;rw [ownT_next hx];rfl)⟩
 ·try simp only [sx] at c1
  refine qM<|Y O<|G O<|zA<|zU _ (Weak.mem [false,true,true] O)<|zJ<|zT O ?_
  exact ⟨by rw [hp,zDv zC];rfl,O⟩
theorem zIw (p:Pg) (s:ByteArray) (hP:p.Ok):
    Pur cfg 119 [vPg p,vS s] (.tup [vTy (p.en.find s).ty,nI (p.en.find s).dims,vB (p.en.find s).ok]):=by
 refine zV Tryz.func119 O Tryz.ntmps119 Tryz.results119 O ?_
 intro z hz
 have hpl:=hP.params
 refine Y O<|zY O O (qL O O) ?_
 rintro _ _ ⟨b1,rfl,rfl⟩
 refine zY O O (yC O zr56) ?_
 rintro _ _ ⟨b2,rfl,rfl⟩
 refine qX 2 O<|G O<|zA<|zH<|Y O<|zD O zMy<|zG one27 (J 1 O) O<|qB O el27<|G O<|zA<|zR<|zU ⟨[(16,.c _),(1,.c _),(2,.c _),(4,.c _),(14,.c _),(15,.c _)],[_,_]⟩ (Weak.mk [true,true] ⟨zB,zB,zB,zB,zB,zB,T⟩ O)<|qF 1 0 O O (Nat) (fun k=>[(16,vI k)]) (fun k=>[]) (fun k=>k<=p.Params.length/\(fS s p.Defs p.Params=fS s p.Defs (p.Params.drop k))) (fun k=>p.Params.length-k) ⟨0,⟨zC,O⟩,Weak.mk [true,true] ⟨zB,zB,zB,zB,zB,zB,T⟩ O⟩ ?_
 rintro k ⟨hk,hp⟩
 refine Y O<|yA O<|zA<|zH<|zE O (fun c1=>?_) (fun c1=>?_)
 ·try simp only [sx] at c1
  obtain ⟨x,hx⟩:=qV p.Params k zC
  refine zI<|zH<|zR<|Y O<|qE O el27 zC (getm uD)<|zM agg74 qD O<|zY O O (qG [none,none,none,none,none,none,some 2] O zr74 O) ?_
  rintro _ _ ⟨b3,rfl,rfl⟩
  refine D 0 sz74 O<|zA<|Y O<|zD O fd74_0<|zG one9 (J 0 O) O<|G O<|wD O<|zA<|zE O (fun c2=>?_) (fun c2=>?_)
  ·try simp only [sx] at c2
   refine zH<|yE 5 mixed uC O O<|zN O O (zF O fd74_1 O)<|zN O O (qA O qZ O (J 0 O) O)<|zN O O (zF O fd74_2 O)<|zN O O (zK O zCg O (J 0 O) O)<|zN O O (qS O ok181 (OwnR.pur (zOc x.Dims (hP.ps x (qC hx)).1 (fun y hy=>Nat.le_trans ((hP.ps x (qC hx)).2 y hy) uA))) ⟨zB,O,T⟩)<|kE<|D 1 v O<|G O<|G O<|zA<|zJ<|fin3 (zZ qZ O (J 1 O) O) (rs_c O) (rs_c O) ?_
   rw [En.find,show p.en.pm=p.Params from rfl,show p.en.df=p.Defs from rfl,hp,find_at hx c2];rfl
  ·try simp only [sx] at c2
   refine zI<|zO O<|qH O ⟨zC,zC⟩<|G O<|zA ?_
   refine ⟨k+1,⟨zC,hp.trans (find_next hx c2)⟩,zC,Weak.mk [false,true,true] ⟨zB,zB,zB,zB,zB,zB,T⟩ O⟩
 ·try simp only [sx] at c1
  have hF:p.en.find s=fZ s p.Defs:=by rw [En.find,show p.en.pm=p.Params from rfl,show p.en.df=p.Defs from rfl,hp,zDv zC];rfl
  refine qM<|zH<|Y O<|zM zEk (J 1 O) O<|G O<|qJ O ok182 (zSo p s hP.defs) ⟨zB,O,zB,O,T⟩<|G O<|zA<|Y O<|G O<|zW O (wQ O O O)<|zA<|zE O (fun c3=>?_) (fun c3=>?_)
  ·try simp only [sx] at c3
   obtain ⟨d,hd,hfd⟩:=(find_def s p.Defs).1 c3
   have hdd:=(hP.ds d (qC hd)).1
   refine Y O<|G O<|yT _ (kO 59 2)<|zA<|zH<|Y O<|zD O zEe<|zG zKr (J 2 O) O<|G O<|qE O el28 zC (getm hd)<|qW O zKz<|zG zDp qD O<|qB O el68<|G O<|zA<|zR<|zU ⟨[(42,.c _),(10,.c _),(2,.c _),(4,.c _),(9,.c _),(40,.c _),(41,.c _)],[_,_,_]⟩ (Weak.mk [true,true,true] ⟨zB,zB,zB,zB,zB,zB,zB,T⟩ O)<|qF 2 1 O O (Nat×Value) (fun ⟨j,sv⟩=>[(42,vI j),(10,.c (.lit sv))]) (fun ⟨j,sv⟩=>[E.vec sv 59 2 ((d.Dims.take j).map fun a=>a.Size.cells)]) (fun ⟨j,sv⟩=>j<=d.Dims.length) (fun ⟨j,sv⟩=>d.Dims.length-j) ⟨⟨0,(.slice none 0 0)⟩,zC,Weak.mk [true,true,true] ⟨zB,zB,zB,zB,zB,zB,zB,T⟩ O⟩ ?_
   rintro ⟨j,sv⟩ hj
   show AWP _ _ _ _ _ ⟨[(42,vI j),(10,.c (.lit sv))]++_,[E.vec sv 59 2 ((d.Dims.take j).map fun a=>a.Size.cells)]++_⟩
   refine Y O<|yA O<|zA<|zH<|zE O (fun c4=>?_) (fun c4=>?_)
   ·try simp only [sx] at c4
    obtain ⟨a,ha⟩:=qV d.Dims j zC
    refine zI<|zH<|zR<|Y O<|qE O el68 zC (getm uD)<|zM agg99 qD O<|zY O O (qG [none,none,some 2] O zr99 O) ?_
    rintro _ _ ⟨b5,rfl,rfl⟩
    refine D 0 sz99 O<|zA<|zO O<|G O<|zD O fd99_1<|zM kD (J 0 O) O<|qJ O ok183 (zIc a.Size (Nat.le_trans ((hP.ds d (qC hd)).2.2.1 a (qC ha)) uA)) ⟨zB,O,T⟩<|kA O el72 zr59<|zY O O (yH 1 O el72 O O O uJ uJ) ?_
    rintro _ _ ⟨sv6,rfl,rfl⟩
    refine G O<|zA<|zO O<|qH O ⟨zC,zC⟩<|G O<|zA ?_
    refine ⟨⟨j+1,sv6⟩,zC,(by show d.Dims.length-(j+1)<d.Dims.length-j;omega),Weak.mk [false,true,true,true] ⟨zB,zB,zB,zB,zB,zB,zB,T⟩ (by show _=[E.vec sv6 _ 2 ((d.Dims.take (j+1)).map fun a=>a.Size.cells)]++_;rw [yB ha,List.map_append (f:=fun a:Ax=>a.Size.cells)];rfl)⟩
   ·try simp only [sx] at c4
    refine qM<|Y O<|zD O zEe<|zG zKr (J 2 O) O<|G O<|qE O el28 zC (getm hd)<|qW O fd70_1<|zM qZ qD O<|G O<|D 1 v O<|G O<|G O<|zA<|zU _ (yO 0 O (regs':=[(10,_),(59,_),(5,_)]) (μ':=[_,_]) ⟨FLe.sl,FLe.sl,FLe.sl,T⟩ ⟨EFle.refl _,EFle.refl _,T⟩)<|zJ<|fin3 (zZ qZ O (J 0 O) O) (rs_c O) (rs_c O) ?_
    rw [hF,hfd,yD (l:=d.Dims) (k:=j) zC];simp only [nI,List.map_map];rfl
  ·try simp only [sx] at c3
   have hfd:=(find_def s p.Defs).2 zC
   refine zI<|Y O<|yI O zr56 pl56<|D 0 v O<|qX 2 O<|G O<|zA<|zJ<|fin3 (zZ qZ O (J 0 O) O) (rs_c O) (rs_c O) ?_
   rw [hF,hfd];rfl
theorem zNw (b mb:Nat) (p:Pg) (m:Kn) (l:Lf) (hl:l.L.length<=4294967296):
    Con cfg 223 [vP b,dP l] (tyE b mb p m) fun r μ'=>r=vI (mD (kn m) l)/\μ'=tyE b mb p m:=by
 refine zV Tryz.func223 O Tryz.ntmps223 Tryz.results223 O ?_
 intro z hz
 refine Y O<|zY O O (qL O O) ?_
 rintro _ _ ⟨b1,rfl,rfl⟩
 refine G O<|zA<|zH<|Y O<|zD O wC<|zG zBe (J 0 O) O<|qB O U<|G O<|zA<|zR<|zU ⟨[(10,.c _),(0,.c _),(8,.c _),(9,.c _)],[_,_]⟩ (Weak.mk [false,true,true] ⟨zB,zB,zB,zB,T⟩ O)<|qF 1 0 O O (Nat) (fun k=>[(10,vI k)]) (fun k=>[]) (fun k=>k<=l.L.length/\(knL (kn m) (l.L.take k)=true)) (fun k=>l.L.length-k) ⟨0,⟨zC,O⟩,Weak.mk [true,true] ⟨zB,zB,zB,zB,T⟩ O⟩ ?_
 rintro k ⟨hk,hp⟩
 refine Y O<|yA O<|zA<|zH<|zE O (fun c1=>?_) (fun c1=>?_)
 ·try simp only [sx] at c1
  obtain ⟨x,hx⟩:=qV l.L k zC
  refine zI<|zH<|zR<|Y O<|qE O U zC (getm uD)<|zM zEf qD O<|zY O O (yC O zGb) ?_
  rintro _ _ ⟨b2,rfl,rfl⟩
  refine D 0 sz139 O<|zA<|zH<|yE 8 mixed uC O O<|zN O O (zP O O)<|zN O O (qK O O)<|zN O O (zF O fd236_1 O)<|zN O O (zK O zPr O (J 1 O) O)<|zN O O (zF O wV O)<|zN O O (zK O one9 O (J 0 O) O)<|zN O O (zEz 2 (0:Int) O sm117 O O O (fun _ _=>CRep.lit _ O))<|zN O O (yR O O O)<|kE<|zA<|zE O (fun c2=>?_) (fun c2=>?_)
  ·try simp only [sx] at c2
   refine Y O<|G O<|zA<|zU _ (Weak.mem [false,true,true] O)<|zJ<|zT O ?_
   exact ⟨by rw [formK_no (knF_no hx (kn_f c2))],O⟩
  ·try simp only [sx] at c2
   refine zI<|zO O<|qH O ⟨zC,zC⟩<|G O<|zA ?_
   refine ⟨k+1,⟨zC,knF_next hx hp (kn_t c2)⟩,zC,Weak.mk [false,true,true] ⟨zB,zB,zB,zB,T⟩ O⟩
 ·try simp only [sx] at c1
  refine qM<|Y O<|G O<|zA<|zJ<|zT O ?_
  exact ⟨by rw [yD zC] at hp;rw [formK_ok hp],O⟩
theorem typer_index (b mb:Nat) (p:Pg) (m:Kn) (x:Ix) (hP:p.Ok) (hx:x.wt<=4294967296):
    Con cfg 262 [vP b,jN x] (tyE b mb p m) fun r μ'=>r=vI (fV p.en (kn m) x)/\μ'=tyE b mb p m:=by
 refine zV Tryz.func262 O Tryz.ntmps262 Tryz.results262 O ?_
 intro z hz
 have hw:=hx
 unfold Ix.wt at hw
 clear hx
 refine Y O<|zY O O (qL O O) ?_
 rintro _ _ ⟨b1,rfl,rfl⟩
 refine G O<|zA<|zH<|Y O<|zD O zDm<|zG one9 (J 0 O) O<|wD O<|zA<|zE O (fun c1=>?_) (fun c1=>?_)
 ·try simp only [sx] at c1
  refine Y O<|G O<|zD O zCi<|zM kD (J 0 O) O<|zW O (yY [1,1] O ok223 (zNw b mb p m x.Lin zC) ⟨zB,O,zB,O,T⟩ O)<|G O<|zA<|zU _ (Weak.mem [false,true,true] O)<|zJ<|zT O ?_
  exact ⟨by rw [fV,decide_eq_true c1];rfl,O⟩
 ·try simp only [sx] at c1
  refine zI<|zH<|zUk 12 14 [.q,.q,.q,.q,.q,.q,.q,.q,.q,.u,.u,.f]  mixed uC O O O<|wA O O (zP O O)<|wA O O (qK O O)<|wA O O (zF O fd236_0 O)<|wA O O (qA O zEk O (J 1 O) O)<|wA O O (zF O zDm O)<|wA O O (zK O one9 O (J 0 O) O)<|wA O O (qS O ok119 (zIw p x.From hP) ⟨zB,O,zB,O,T⟩)<|wA O O (yW O O)<|wA O O (qY O O O)<|zLw O O (kT O O O)<|zLw O O (kT O O O)<|zQt<|tdq_nil<|zCf<|zCf<|zCf<|zCf<|zCf<|zCf<|zCf<|zCf<|zCf<|tdf_u<|tdf_u<|zLx (zAf (yC O zr56))<|tdf_nil<|zKn ?_
  rintro _ _ ⟨b2,rfl,rfl⟩
  refine zNp ?_
  refine ⟨_,yX O v O O O (zDb 0 O O),(by rintro _ _ ⟨rfl,rfl⟩;exact ⟨[_],rfl⟩),?_⟩
  rintro _ _ ⟨rfl,rfl⟩
  refine zN O O (yL O O)<|kE<|G O<|zA<|zH<|zR<|Y O<|G O<|kZ O<|G O<|zA<|zE O (fun c2=>?_) (fun c2=>?_)
  ·try simp only [sx] at c2
   refine Y O<|G O<|zA<|zU _ (Weak.mem [false,false,true,true] O)<|zJ<|zT O ?_
   exact ⟨by rw [fV,decide_eq_false c1,c2];rfl,O⟩
  ·try simp only [sx] at c2
   refine Y O<|zD O zFq<|zG one3 (J 0 O) O<|yN O<|G O<|zA<|zE O (fun c3=>?_) (fun c3=>?_)
   ·try simp only [sx] at c3
    refine Y O<|G O<|zA<|zU _ (Weak.mem [false,false,true,true] O)<|zJ<|zT O ?_
    exact ⟨by rw [fV,decide_eq_false c1,c2,decide_eq_false c3];rfl,O⟩
   ·try simp only [sx] at c3
    refine Y O<|zD O zAg<|zG zCg (J 1 O) O<|qB O el72<|G O<|qB O el72<|yN O<|G O<|zA<|zE O (fun c4=>?_) (fun c4=>?_)
    ·try simp only [sx] at c4
     refine Y O<|G O<|zA<|zU _ (Weak.mem [false,false,true,true] O)<|zJ<|zT O ?_
     exact ⟨by rw [fV,decide_eq_false c1,c2,decide_eq_true c3,decide_eq_false zC];rfl,O⟩
    ·try simp only [sx] at c4
     refine zI<|zH<|Y O<|zD O zAg<|zG zCg (J 1 O) O<|qB O el72<|G O<|zA<|zR<|zU ⟨[(46,.c _),(0,.c _),(44,.c _),(45,.c _)],[_,_]⟩ (Weak.mk [false,false,true,true] ⟨zB,zB,zB,zB,T⟩ O)<|qF 1 0 O O (Nat) (fun k=>[(46,vI k)]) (fun k=>[]) (fun k=>k<=x.At.length/\((x.At.take k).all (fun x=>knL (kn m) x.L)=true)) (fun k=>x.At.length-k) ⟨0,⟨zC,O⟩,Weak.mk [true,true] ⟨zB,zB,zB,zB,T⟩ O⟩ ?_
     rintro k ⟨hk,hp⟩
     refine Y O<|yA O<|zA<|zH<|zE O (fun c5=>?_) (fun c5=>?_)
     ·try simp only [sx] at c5
      obtain ⟨l,hl⟩:=qV x.At k zC
      refine zI<|zH<|zR<|Y O<|qE O el72 zC (getm uD)<|zM kD qD O<|zY O O (qG [none,some 2] O zr59 O) ?_
      rintro _ _ ⟨b3,rfl,rfl⟩
      refine D 0 sz59 O<|zA<|Y O<|G O<|zM kD (J 0 O) O<|zW O (yY [1,1] O ok223 (zNw b mb p m l (by have:=zBz (qC hl);omega)) ⟨zB,O,zB,O,T⟩ O)<|G O<|zA<|Y O<|G O<|yN O<|zA<|zE O (fun c6=>?_) (fun c6=>?_)
      ·try simp only [sx] at c6
       refine Y O<|G O<|G O<|zA<|zU _ (Weak.mem [false,true,true] O)<|zJ<|zT O ?_
       exact ⟨by rw [fV,decide_eq_false c1,c2,decide_eq_true c3,decide_eq_true zC];simp only [cond_false,Bool.not_true];rw [formsK_no hl c6],O⟩
      ·try simp only [sx] at c6
       refine zI<|zO O<|qH O ⟨zC,zC⟩<|G O<|zA ?_
       refine ⟨k+1,⟨zC,formsK_next hl hp c6⟩,zC,Weak.mk [false,true,true] ⟨zB,zB,zB,zB,T⟩ O⟩
     ·try simp only [sx] at c5
      refine qM<|Y O<|G O<|zA<|zJ<|zT O ?_
      exact ⟨by rw [yD zC] at hp;rw [fV,decide_eq_false c1,c2,decide_eq_true c3,decide_eq_true zC];simp only [cond_false,Bool.not_true];rw [formsK_ok hp],O⟩
end Go.W
