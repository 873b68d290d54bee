/-
  Walks: what functions of the program compute. Printed by wip/gen/mk2.py.
  Conditions: none.
-/
import Derived.Test.YtgfomfnjionbeaaGreatDoorWK
import Derived.Test.YtgfomfnjionbeaaGreatDoorProg17M
set_option linter.unusedSimpArgs false
set_option linter.unusedVariables false
set_option maxRecDepth 10000
namespace Go.W
open Go Go.Eng Go.Proofs Go.L41 Go.Br
attribute [local irreducible] AWP RWP TD finQ
theorem zEe:aggT Tryz.prog 30=some 5:=by kernel_rfl
theorem agg74:aggT Tryz.prog 74=some 7:=by kernel_rfl
theorem agg123:aggT Tryz.prog 123=some 3:=by kernel_rfl
theorem fd70_1:fieldT Tryz.prog 70 1=some (1,56):=by kernel_rfl
theorem fd74_0:fieldT Tryz.prog 74 0=some (0,9):=by kernel_rfl
theorem fd74_1:fieldT Tryz.prog 74 1=some (1,56):=by kernel_rfl
theorem fd74_2:fieldT Tryz.prog 74 2=some (6,72):=by kernel_rfl
theorem fd99_1:fieldT Tryz.prog 99 1=some (1,59):=by kernel_rfl
theorem zPz:fieldT Tryz.prog 119 1=some (5,117):=by kernel_rfl
theorem fd236_0:fieldT Tryz.prog 236 0=some (0,30):=by kernel_rfl
theorem fd236_1:fieldT Tryz.prog 236 1=some (5,117):=by kernel_rfl
theorem ok59:callOk Tryz.prog 59=true:=by kernel_rfl
theorem ok112:callOk Tryz.prog 112=true:=by kernel_rfl
theorem ok113:callOk Tryz.prog 113=true:=by kernel_rfl
theorem ok114:callOk Tryz.prog 114=true:=by kernel_rfl
theorem ok119:callOk Tryz.prog 119=true:=by kernel_rfl
theorem ok181:callOk Tryz.prog 181=true:=by kernel_rfl
theorem ok182:callOk Tryz.prog 182=true:=by kernel_rfl
theorem ok223:callOk Tryz.prog 223=true:=by kernel_rfl
theorem zNe:oneT Tryz.prog 117=true:=by kernel_rfl
theorem sm117:smapT Tryz.prog 117=some (Value.int IntKind.i64 0):=by kernel_rfl
theorem sm232:smapT Tryz.prog 232=some (Value.bool false):=by kernel_rfl
theorem v:(Tryz.prog.info? 56).map (·.size)=some 5:=by kernel_rfl
theorem sz74:(Tryz.prog.info? 74).map (·.size)=some 7:=by kernel_rfl
theorem zr74:zeroT Tryz.prog 74=some [(Value.string (ByteArray.mk #[])),(Value.int IntKind.i64 0),(Value.int IntKind.i64 0),(Value.int IntKind.i64 0),(Value.int IntKind.i64 0),(Value.int IntKind.i64 0),(Value.slice none 0 0)]:=by kernel_rfl
theorem zIh (b mb:Nat) (p:Pg) (m:Kn) (s:ByteArray) (k:Int):
    Con cfg 59 [vP b,vS s,vI k] (ckE b mb p m) fun r μ'=>r=vI (nameM m s)/\μ'=ckE b mb p (nameMap m s k):=by
 refine zW Tryz.func59 O Tryz.ntmps59 Tryz.results59 O ?_
 intro z hz
 refine Y O<|G O<|zA<|zH<|Y O<|G O<|qK O ok19 (zAq _) ⟨zB,O,T⟩<|wG O<|zA<|zE O (fun c1=>?_) (fun c1=>?_)
 ·try simp only [sx] at c1
  refine Y O<|G O<|zA<|zG<|zV O ?_
  exact ⟨by rw [nameM_bad c1],by rw [←nmap_bad (nameM_bad c1) (by decide)]⟩
 ·try simp only [sx] at c1
  refine zF<|zH<|Y O<|G O<|zN O<|zD O zPz<|zI zNe (J 0 O) O<|G O<|zR O (zDo 1 (0:Int) O sm117 O O O (fun _ _=>CRep.lit _ O))<|yM O<|zA<|zE O (fun c2=>?_) (fun c2=>?_)
  ·try simp only [sx] at c2
   refine Y O<|G O<|zA<|zG<|zV O ?_
   exact ⟨by rw [nameM_dup c1 c2],by rw [←nmap_bad (nameM_dup c1 c2) (by decide)]⟩
  ·try simp only [sx] at c2
   refine zF<|Y O<|G O<|zN O<|zD O zPz<|zI zNe (J 0 O) O<|G O<|G O<|zAj O O (zFl 1 k O sm117 O O O (zB) O)<|zA<|Y O<|G O<|zA<|zG<|zV O ?_
   exact ⟨by rw [nameM_ok c1 c2],by rw [zMf (nameM_ok c1 c2)];rfl⟩
theorem zGi (b mb:Nat) (p:Pg) (m:Kn) (l:Lf) (hl:l.L.length<=5864062014805):
    Con cfg 113 [vP b,vLin l] (ckE b mb p m) fun r μ'=>r=vI (sizedM m l)/\μ'=ckE b mb p m:=by
 refine zW Tryz.func113 O Tryz.ntmps113 Tryz.results113 O ?_
 intro z hz
 refine Y O<|zZ O O (qO O O) ?_
 rintro _ _ ⟨b1,rfl,rfl⟩
 refine G O<|zA<|zH<|Y O<|zM kE (J 0 O) O<|qK O ok122 (wW l (by omega)) ⟨zB,O,T⟩<|yM O<|zA<|zE O (fun c1=>?_) (fun c1=>?_)
 ·try simp only [sx] at c1
  refine Y O<|G O<|zA<|zU _ (Weak.mem [false,true,true] O)<|zG<|zV O ?_
  exact ⟨by rw [sized_arg (zPp c1)],O⟩
 ·try simp only [sx] at c1
  refine zF<|zH<|Y O<|zD O zAe<|zI zEg (J 0 O) O<|qB O U<|G O<|zA<|zT<|zU ⟨[(13,.c _),(0,.c _),(11,.c _),(12,.c _)],[_,_]⟩ (Weak.mk [false,true,true] ⟨zB,zB,zB,zB,T⟩ O)<|qJ 1 0 O O (Nat) (fun k=>[(13,vI k)]) (fun k=>[]) (fun k=>k<=l.L.length/\(knL (fun s=>decide (kget m s=1)) (l.L.take k)=true)) (fun k=>l.L.length-k) ⟨0,⟨by omega,O⟩,Weak.mk [true,true] ⟨zB,zB,zB,zB,T⟩ O⟩ ?_
  rintro k ⟨hk,hp⟩
  refine Y O<|yB O<|zA<|zH<|zE O (fun c2=>?_) (fun c2=>?_)
  ·try simp only [sx] at c2
   obtain ⟨x,hx⟩:=yD l.L k (by omega)
   refine zF<|zH<|zT<|Y O<|qD O U (by omega) (getm (by assumption))<|zM zEf qH O<|zZ O O (qX O zEr) ?_
   rintro _ _ ⟨b2,rfl,rfl⟩
   refine D 0 sz139 O<|zA<|zH<|yL 8 mixed (by kernel_rfl) O O<|zQ O O (zS O O)<|zQ O O (qG O O)<|zQ O O (zJ O zPz O)<|zQ O O (zK O zNe O (J 1 O) O)<|zQ O O (zJ O wS O)<|zQ O O (zK O one9 O (J 0 O) O)<|zQ O O (zDo 2 (0:Int) O sm117 O O O (fun _ _=>CRep.lit _ O))<|zQ O O (zBa O O O)<|kL<|zA<|zE O (fun c3=>?_) (fun c3=>?_)
   ·try simp only [sx] at c3
    refine Y O<|G O<|zA<|zU _ (Weak.mem [false,true,true] O)<|zG<|zV O ?_
    exact ⟨by rw [sized_nf (zFj c1) (knF_no hx (wH c3))],O⟩
   ·try simp only [sx] at c3
    refine zF<|zP O<|qM O ⟨by omega,by omega⟩<|G O<|zA ?_
    refine ⟨k+1,⟨by omega,knF_next hx hp (zDj c3)⟩,(by omega),Weak.mk [false,true,true] ⟨zB,zB,zB,zB,T⟩ O⟩
  ·try simp only [sx] at c2
   refine qP<|Y O<|G O<|zA<|zG<|zV O ?_
   exact ⟨by rw [yC (by omega)] at hp;rw [sized_ok (zFj c1) hp],O⟩
theorem zLj (b mb:Nat) (p:Pg) (m:Kn) (x:Cn) (hl:x.Lin.L.length<=5864062014805):
    Con cfg 60 [vP b,vCn x] (ckE b mb p m) fun r μ'=>r=vI (sizedM m x.Lin)/\μ'=ckE b mb p m:=by
 refine zW Tryz.func60 O Tryz.ntmps60 Tryz.results60 O ?_
 intro z hz
 refine Y O<|zZ O O (qO O O) ?_
 rintro _ _ ⟨b1,rfl,rfl⟩
 refine G O<|zA<|zH<|Y O<|zM agg123 (J 0 O) O<|qK O ok112 (zJq x hl) ⟨zB,O,T⟩<|yM O<|zA<|zE O (fun c1=>?_) (fun c1=>?_)
 ·try simp only [sx] at c1
  refine Y O<|G O<|zA<|zU _ (Weak.mem [false,true,true] O)<|zG<|zV O ?_
  exact ⟨by rw [sized_arg (zPp c1)],O⟩
 ·try simp only [sx] at c1
  refine zF<|Y O<|G O<|zD O fd123_0<|zM kE (J 0 O) O<|zR O (yQ [1,1] O ok113 (zGi b mb p m x.Lin hl) ⟨zB,O,zB,O,T⟩ O)<|G O<|zA<|zU _ (Weak.mem [false,true,true] O)<|zG<|zV O ?_
  exact ⟨O,O⟩
theorem checker_param (b mb:Nat) (p:Pg) (m:Kn) (x:Pm) (hl:x.Dims.length<=4294967296) (hx0:∀l,l∈x.Dims->l.L.length<=5864062014805):
    Con cfg 61 [vP b,vPm x] (ckE b mb p m) fun r μ'=>r=vI (paramM m x)/\μ'=ckE b mb p (nameMap m x.Name 2):=by
 refine zW Tryz.func61 O Tryz.ntmps61 Tryz.results61 O ?_
 intro z hz
 refine Y O<|zZ O O (qO O O) ?_
 rintro _ _ ⟨b1,rfl,rfl⟩
 refine G O<|zA<|zH<|Y O<|G O<|zD O fd74_0<|zI one9 (J 0 O) O<|zR O (yQ [1,1] O ok59 (zIh b mb p m x.Name 2) ⟨zB,O,zB,O,zB,O,T⟩ O)<|G O<|zA<|Y O<|G O<|yM O<|zA<|zE O (fun c1=>?_) (fun c1=>?_)
 ·try simp only [sx] at c1
  refine Y O<|G O<|G O<|zA<|zU _ (Weak.mem [false,true,true] O)<|zG<|zV O ?_
  exact ⟨by unfold paramM;rw [if_neg c1],O⟩
 ·try simp only [sx] at c1
  refine zF<|zH<|Y O<|zD O fd74_1<|zM qZ (J 0 O) O<|zD O fd74_2<|zI zEt (J 0 O) O<|qB O el72<|zR O (qS O el46 zr3 O O O O)<|qK O ok114 (zGm x.T [(x.Dims.length:Int)] _ O (by simp)) ⟨zB,O,zB,O,T⟩<|G O<|zA<|Y O<|G O<|yM O<|zA<|zE O (fun c2=>?_) (fun c2=>?_)
  ·try simp only [sx] at c2
   have hP:=param_bad c1 c2
   refine Y O<|G O<|G O<|zA<|zU _ (Weak.mem [false,true,true] O)<|zG<|zV O ?_
   exact ⟨by rw [hP],O⟩
  ·try simp only [sx] at c2
   have hP:=param_ok c1 c2
   refine zF<|zH<|Y O<|zD O fd74_2<|zI zEt (J 0 O) O<|qB O el72<|G O<|zA<|zT<|zU ⟨[(30,.c _),(0,.c _),(28,.c _),(29,.c _)],[_,_]⟩ (Weak.mk [false,true,true] ⟨zB,zB,zB,zB,T⟩ O)<|qJ 1 0 O O (Nat) (fun k=>[(30,vI k)]) (fun k=>[]) (fun k=>k<=x.Dims.length/\(sizedsM (nameMap m x.Name 2) x.Dims=sizedsM (nameMap m x.Name 2) (x.Dims.drop k))) (fun k=>x.Dims.length-k) ⟨0,⟨by omega,O⟩,Weak.mk [true,true] ⟨zB,zB,zB,zB,T⟩ O⟩ ?_
   rintro k ⟨hk,hp⟩
   refine Y O<|yB O<|zA<|zH<|zE O (fun c3=>?_) (fun c3=>?_)
   ·try simp only [sx] at c3
    obtain ⟨y,hy⟩:=yD x.Dims k (by omega)
    refine zF<|zH<|zT<|Y O<|qD O el72 (by omega) (getm (by assumption))<|zM kE qH O<|zZ O O (qF [none,some 2] O W O) ?_
    rintro _ _ ⟨b2,rfl,rfl⟩
    refine D 0 sz59 O<|zA<|Y O<|G O<|zM kE (J 0 O) O<|zR O (yQ [1,1] O ok113 (zGi b mb p _ y (hx0 _ (qC hy))) ⟨zB,O,zB,O,T⟩ O)<|G O<|zA<|Y O<|G O<|yM O<|zA<|zE O (fun c4=>?_) (fun c4=>?_)
    ·try simp only [sx] at c4
     refine Y O<|G O<|G O<|zA<|zU _ (Weak.mem [false,true,true] O)<|zG<|zV O ?_
     exact ⟨by rw [hP,hp,sizeds_no hy c4],O⟩
    ·try simp only [sx] at c4
     refine zF<|zP O<|qM O ⟨by omega,by omega⟩<|G O<|zA ?_
     refine ⟨k+1,⟨by omega,hp.trans (sizeds_at hy c4)⟩,(by omega),Weak.mk [false,true,true] ⟨zB,zB,zB,zB,T⟩ O⟩
   ·try simp only [sx] at c3
    refine qP<|Y O<|G O<|zA<|zG<|zV O ?_
    exact ⟨by rw [hP,hp,zCv (by omega)];rfl,O⟩
theorem checker_axes (b mb:Nat) (p:Pg) (m:Kn) (d:Df) (hD:d.Dims.length<=1073741824) (hR:d.Red.length<=1073741824) (hA:∀a,a∈d.Dims->a.Size.L.length<=5864062014805) (hA2:∀a,a∈d.Red->a.Size.L.length<=5864062014805):
    Con cfg 115 [vP b,vDf d] (ckE b mb p m) fun r μ'=>r=vI (axesM m [] (d.Dims++d.Red))/\μ'=ckE b mb p m:=by
 refine zW Tryz.func115 O Tryz.ntmps115 Tryz.results115 O ?_
 intro z hz
 refine Y O<|zZ O O (qO O O) ?_
 rintro _ _ ⟨b1,rfl,rfl⟩
 refine G O<|zA<|Y O<|zZ O O (zKe vB O O) ?_
 rintro _ _ ⟨b2,rfl,rfl⟩
 refine G O<|zA<|zH<|Y O<|zD O zKu<|zI zDe (J 1 O) O<|zD O zEm<|zI zDe (J 1 O) O<|zR O (qS O el260 zr68 O O O O)<|qK O ok177 (OwnR.pur (zFa d.Dims d.Red hD hR)) ⟨zB,O,T⟩<|qB O el68<|G O<|zA<|zT<|zU ⟨[(17,.c _),(0,.c _),(5,.c _),(15,.c _),(16,.c _)],[_,_,_]⟩ (Weak.mk [true,false,true,true] ⟨zB,zB,zB,zB,zB,T⟩ O)<|qJ 1 1 O O (Nat) (fun k=>[(17,vI k)]) (fun k=>[E.blk b2 (MapR vB (ownT ((d.Dims++d.Red).take k)))]) (fun k=>k<=(d.Dims++d.Red).length/\(axesM m [] (d.Dims++d.Red)=axesM m (((d.Dims++d.Red).take k).map Ax.Name) ((d.Dims++d.Red).drop k))) (fun k=>(d.Dims++d.Red).length-k) ⟨0,⟨by omega,O⟩,Weak.mk [true,true,true] ⟨zB,zB,zB,zB,zB,T⟩ O⟩ ?_
 rintro k ⟨hk,hp⟩
 refine Y O<|yB O<|zA<|zH<|zE O (fun c1=>?_) (fun c1=>?_)
 ·try simp only [sx] at c1
  obtain ⟨x,hx⟩:=yD (d.Dims++d.Red) k (by omega)
  have hlen:(d.Dims++d.Red).length=d.Dims.length+d.Red.length:=List.length_append
  have hog:=own_get x.Name ((d.Dims++d.Red).take k)
  refine zF<|zH<|zT<|Y O<|qD O el68 (by omega) (getm (by assumption))<|zM agg99 qH O<|zZ O O (qF [none,none,some 2] O zr99 O) ?_
  rintro _ _ ⟨b3,rfl,rfl⟩
  refine D 0 sz99 O<|zA<|zH<|zT<|Y O<|zD O zPv<|zI one9 (J 0 O) O<|qK O ok19 (zAq _) ⟨zB,O,T⟩<|wG O<|G O<|zA<|zE O (fun c2=>?_) (fun c2=>?_)
  ·try simp only [sx] at c2
   refine Y O<|G O<|zA<|zU _ (Weak.mem [false,false,true,true] O)<|zG<|zV O ?_
   exact ⟨by rw [hp,axes_7 hx c2],O⟩
  ·try simp only [sx] at c2
   refine zH<|yL 15 mixed (by kernel_rfl) O O<|zQ O O (zS O O)<|zQ O O (zJ O zPv O)<|zQ O O (zK O one9 O (J 0 O) O)<|zQ O O (zDo 1 false O sm232 O O O (fun _ _=>CRep.lit _ O))<|zQ O O (zS O O)<|qQ [] O O O O gv1 T (fun g7_4=>zS O O) O<|qQ [(32,_)] O O O O gv1 ⟨O,O,T⟩ (fun g7_4=>qG O O) O<|qQ [(33,_)] O O O O gv1 ⟨O,O,T⟩ (fun g7_4=>zJ O zPz O) O<|qQ [(34,_)] O O O O gv1 ⟨O,O,T⟩ (fun g7_4=>zK O zNe O (J 2 O) O) O<|qQ [] O O O O gv1 T (fun g7_4=>zJ O zPv O) O<|qQ [(36,_)] O O O O gv1 ⟨O,O,T⟩ (fun g7_4=>zK O one9 O (J 0 O) O) O<|qQ [(35,_),(37,_)] O O O O gv1 ⟨O,O,O,O,T⟩ (fun g7_4=>zDo 3 (0:Int) O sm117 O O O (fun _ _=>CRep.lit _ O)) O<|qQ [(38,_)] O O O O gv1 ⟨O,O,T⟩ (fun g7_4=>kC O O O) O<|zQ O O (zDh O O O O (fun h=>(lzf h)))<|zQ O O (yV O O)<|kL<|zA<|zE O (fun c3=>?_) (fun c3=>?_)
   ·have h8:=ax_yes hog c3
    refine Y O<|G O<|zA<|zU _ (Weak.mem [false,false,true,true] O)<|zG<|zV O ?_
    exact ⟨by rw [hp,axes_8 hx c2 h8],O⟩
   ·have h8:=ax_no hog c3
    refine zF<|Y O<|G O<|zD O zPv<|zI one9 (J 0 O) O<|zAj O O (zFl 1 true O sm232 O O O (zB) O)<|zA<|Y O<|G O<|zD O fd99_1<|zM kE (J 0 O) O<|zR O (yQ [2,2] O ok113 (zGi b mb p m x.Size (by rcases List.mem_append.1 (qC hx) with h|h;exact hA _ h;exact hA2 _ h)) ⟨zB,O,zB,O,T⟩ O)<|G O<|zA<|Y O<|G O<|yM O<|zA<|zE O (fun c4=>?_) (fun c4=>?_)
    ·try simp only [sx] at c4
     refine Y O<|G O<|G O<|zA<|zU _ (Weak.mem [false,false,true,true] O)<|zG<|zV O ?_
     exact ⟨by rw [hp,axes_s hx c2 h8 c4],O⟩
    ·try simp only [sx] at c4
     refine zF<|zP O<|qM O ⟨by omega,by omega⟩<|G O<|zA ?_
     refine ⟨k+1,⟨by omega,by rw [hp,axes_at hx c2 h8 c4,qW hx,List.map_append];rfl⟩,(by omega),Weak.mk [false,true,true,true] ⟨zB,zB,zB,zB,zB,T⟩ (by show _=[E.blk b2 (MapR vB (ownT ((d.Dims++d.Red).take (k+1))))]++_;rw [ownT_next hx];rfl)⟩
 ·try simp only [sx] at c1
  refine qP<|Y O<|G O<|zA<|zU _ (Weak.mem [false,true,true] O)<|zG<|zV O ?_
  exact ⟨by rw [hp,zCv (by omega)];rfl,O⟩
theorem zHg (p:Pg) (s:ByteArray) (hP:p.Ok):
    Pur cfg 119 [vPg p,vS s] (.tup [vTy (p.en.find s).ty,vLins (p.en.find s).dims,vB (p.en.find s).ok]):=by
 refine zW Tryz.func119 O Tryz.ntmps119 Tryz.results119 O ?_
 intro z hz
 have hpl:=hP.params
 refine Y O<|zZ O O (qO O O) ?_
 rintro _ _ ⟨b1,rfl,rfl⟩
 refine zZ O O (qX O zr56) ?_
 rintro _ _ ⟨b2,rfl,rfl⟩
 refine qT 2 O<|G O<|zA<|zH<|Y O<|zD O fd30_2<|zI one27 (J 1 O) O<|qB O el27<|G O<|zA<|zT<|zU ⟨[(16,.c _),(1,.c _),(2,.c _),(4,.c _),(14,.c _),(15,.c _)],[_,_]⟩ (Weak.mk [true,true] ⟨zB,zB,zB,zB,zB,zB,T⟩ O)<|qJ 1 0 O O (Nat) (fun k=>[(16,vI k)]) (fun k=>[]) (fun k=>k<=p.Params.length/\(findP s p.Defs p.Params=findP s p.Defs (p.Params.drop k))) (fun k=>p.Params.length-k) ⟨0,⟨by omega,O⟩,Weak.mk [true,true] ⟨zB,zB,zB,zB,zB,zB,T⟩ O⟩ ?_
 rintro k ⟨hk,hp⟩
 refine Y O<|yB O<|zA<|zH<|zE O (fun c1=>?_) (fun c1=>?_)
 ·try simp only [sx] at c1
  obtain ⟨x,hx⟩:=yD p.Params k (by omega)
  refine zF<|zH<|zT<|Y O<|qD O el27 (by omega) (getm (by assumption))<|zM agg74 qH O<|zZ O O (qF [none,none,none,none,none,none,some 2] O zr74 O) ?_
  rintro _ _ ⟨b3,rfl,rfl⟩
  refine D 0 sz74 O<|zA<|Y O<|zD O fd74_0<|zI one9 (J 0 O) O<|G O<|kY O<|zA<|zE O (fun c2=>?_) (fun c2=>?_)
  ·try simp only [sx] at c2
   refine zH<|yL 5 mixed (by kernel_rfl) O O<|zQ O O (zJ O fd74_1 O)<|zQ O O (qA O qZ O (J 0 O) O)<|zQ O O (zJ O fd74_2 O)<|zQ O O (zK O zEt O (J 0 O) O)<|zQ O O (qR O ok181 (OwnR.pur (zLx x.Dims (hP.ps x (qC hx)).1 (fun y hy=>Nat.le_trans ((hP.ps x (qC hx)).2 y hy) (by decide)))) ⟨zB,O,T⟩)<|kL<|D 1 v O<|G O<|G O<|zA<|zG<|fin3 (zY qZ O (J 1 O) O) (N O) (N O) ?_
   rw [En.find,show p.en.pm=p.Params from rfl,show p.en.df=p.Defs from rfl,hp,find_at hx c2];rfl
  ·try simp only [sx] at c2
   refine zF<|zP O<|qM O ⟨by omega,by omega⟩<|G O<|zA ?_
   refine ⟨k+1,⟨by omega,hp.trans (find_next hx c2)⟩,(by omega),Weak.mk [false,true,true] ⟨zB,zB,zB,zB,zB,zB,T⟩ O⟩
 ·try simp only [sx] at c1
  have hF:p.en.find s=findD s p.Defs:=by rw [En.find,show p.en.pm=p.Params from rfl,show p.en.df=p.Defs from rfl,hp,zCv (by omega)];rfl
  refine qP<|zH<|Y O<|zM zEe (J 1 O) O<|G O<|qK O ok182 (zOy p s hP.defs) ⟨zB,O,zB,O,T⟩<|G O<|zA<|Y O<|G O<|zR O (wT O O O)<|zA<|zE O (fun c3=>?_) (fun c3=>?_)
  ·try simp only [sx] at c3
   obtain ⟨d,hd,hfd⟩:=(find_def s p.Defs).1 c3
   have hdd:=(hP.ds d (qC hd)).1
   refine Y O<|G O<|yK _ (kI 59 2)<|zA<|zH<|Y O<|zD O zIa<|zI one28 (J 2 O) O<|G O<|qD O el28 (by omega) (getm hd)<|zR O (qI O zKu O)<|zI zDe qH O<|qB O el68<|G O<|zA<|zT<|zU ⟨[(42,.c _),(10,.c _),(2,.c _),(4,.c _),(9,.c _),(40,.c _),(41,.c _)],[_,_,_]⟩ (Weak.mk [true,true,true] ⟨zB,zB,zB,zB,zB,zB,zB,T⟩ O)<|qJ 2 1 O O (Nat×Value) (fun ⟨j,sv⟩=>[(42,vI j),(10,.c (.lit sv))]) (fun ⟨j,sv⟩=>[E.vec sv 59 2 ((d.Dims.take j).map fun a=>a.Size.cells)]) (fun ⟨j,sv⟩=>j<=d.Dims.length) (fun ⟨j,sv⟩=>d.Dims.length-j) ⟨⟨0,(.slice none 0 0)⟩,(by omega),Weak.mk [true,true,true] ⟨zB,zB,zB,zB,zB,zB,zB,T⟩ O⟩ ?_
   rintro ⟨j,sv⟩ hj
   show AWP _ _ _ _ _ ⟨[(42,vI j),(10,.c (.lit sv))]++_,[E.vec sv 59 2 ((d.Dims.take j).map fun a=>a.Size.cells)]++_⟩
   refine Y O<|yB O<|zA<|zH<|zE O (fun c4=>?_) (fun c4=>?_)
   ·try simp only [sx] at c4
    obtain ⟨a,ha⟩:=yD d.Dims j (by omega)
    refine zF<|zH<|zT<|Y O<|qD O el68 (by omega) (getm (by assumption))<|zM agg99 qH O<|zZ O O (qF [none,none,some 2] O zr99 O) ?_
    rintro _ _ ⟨b5,rfl,rfl⟩
    refine D 0 sz99 O<|zA<|zP O<|G O<|zD O fd99_1<|zM kE (J 0 O) O<|qK O ok183 (zGn a.Size (Nat.le_trans ((hP.ds d (qC hd)).2.2.1 a (qC ha)) (by decide))) ⟨zB,O,T⟩<|zR O (qS O el72 W O O O O)<|zZ O O (yH 1 O el72 O O O (by first|omega|(simp only [List.length_take,List.length_map,List.length_append,List.length_nil,List.length_cons];omega)) (by first|omega|(simp only [List.length_take,List.length_map,List.length_append,List.length_nil,List.length_cons];omega))) ?_
    rintro _ _ ⟨sv6,rfl,rfl⟩
    refine G O<|zA<|zP O<|qM O ⟨by omega,by omega⟩<|G O<|zA ?_
    refine ⟨⟨j+1,sv6⟩,(by omega),(by show d.Dims.length-(j+1)<d.Dims.length-j;omega),Weak.mk [false,true,true,true] ⟨zB,zB,zB,zB,zB,zB,zB,T⟩ (by show _=[E.vec sv6 _ 2 ((d.Dims.take (j+1)).map fun a=>a.Size.cells)]++_;rw [qW ha,List.map_append (f:=fun a:Ax=>a.Size.cells)];rfl)⟩
   ·try simp only [sx] at c4
    refine qP<|Y O<|zD O zIa<|zI one28 (J 2 O) O<|G O<|qD O el28 (by omega) (getm hd)<|zR O (qI O fd70_1 O)<|zM qZ qH O<|G O<|D 1 v O<|G O<|G O<|zA<|zU _ (yJ 0 O (regs':=[(10,_),(59,_),(5,_)]) (μ':=[_,_]) ⟨FLe.sl,FLe.sl,FLe.sl,T⟩ ⟨EFle.refl _,EFle.refl _,T⟩)<|zG<|fin3 (zY qZ O (J 0 O) O) (N O) (N O) ?_
    rw [hF,hfd,yC (l:=d.Dims) (k:=j) (by omega)];simp only [vLins,List.map_map];rfl
  ·try simp only [sx] at c3
   have hfd:=(find_def s p.Defs).2 (by omega)
   refine zF<|Y O<|yF O zr56 pl56<|D 0 v O<|qT 2 O<|G O<|zA<|zG<|fin3 (zY qZ O (J 0 O) O) (N O) (N O) ?_
   rw [hF,hfd];rfl
theorem zLt (b mb:Nat) (p:Pg) (m:Kn) (l:Lf) (hl:l.L.length<=4294967296):
    Con cfg 223 [vP b,vLin l] (tyE b mb p m) fun r μ'=>r=vI (formK (kn m) l)/\μ'=tyE b mb p m:=by
 refine zW Tryz.func223 O Tryz.ntmps223 Tryz.results223 O ?_
 intro z hz
 refine Y O<|zZ O O (qO O O) ?_
 rintro _ _ ⟨b1,rfl,rfl⟩
 refine G O<|zA<|zH<|Y O<|zD O zAe<|zI zEg (J 0 O) O<|qB O U<|G O<|zA<|zT<|zU ⟨[(10,.c _),(0,.c _),(8,.c _),(9,.c _)],[_,_]⟩ (Weak.mk [false,true,true] ⟨zB,zB,zB,zB,T⟩ O)<|qJ 1 0 O O (Nat) (fun k=>[(10,vI k)]) (fun k=>[]) (fun k=>k<=l.L.length/\(knL (kn m) (l.L.take k)=true)) (fun k=>l.L.length-k) ⟨0,⟨by omega,O⟩,Weak.mk [true,true] ⟨zB,zB,zB,zB,T⟩ O⟩ ?_
 rintro k ⟨hk,hp⟩
 refine Y O<|yB O<|zA<|zH<|zE O (fun c1=>?_) (fun c1=>?_)
 ·try simp only [sx] at c1
  obtain ⟨x,hx⟩:=yD l.L k (by omega)
  refine zF<|zH<|zT<|Y O<|qD O U (by omega) (getm (by assumption))<|zM zEf qH O<|zZ O O (qX O zEr) ?_
  rintro _ _ ⟨b2,rfl,rfl⟩
  refine D 0 sz139 O<|zA<|zH<|yL 8 mixed (by kernel_rfl) O O<|zQ O O (zS O O)<|zQ O O (qG O O)<|zQ O O (zJ O fd236_1 O)<|zQ O O (zK O zNe O (J 1 O) O)<|zQ O O (zJ O wS O)<|zQ O O (zK O one9 O (J 0 O) O)<|zQ O O (zDo 2 (0:Int) O sm117 O O O (fun _ _=>CRep.lit _ O))<|zQ O O (kC O O O)<|kL<|zA<|zE O (fun c2=>?_) (fun c2=>?_)
  ·try simp only [sx] at c2
   refine Y O<|G O<|zA<|zU _ (Weak.mem [false,true,true] O)<|zG<|zV O ?_
   exact ⟨by rw [formK_no (knF_no hx (kn_f c2))],O⟩
  ·try simp only [sx] at c2
   refine zF<|zP O<|qM O ⟨by omega,by omega⟩<|G O<|zA ?_
   refine ⟨k+1,⟨by omega,knF_next hx hp (kn_t c2)⟩,(by omega),Weak.mk [false,true,true] ⟨zB,zB,zB,zB,T⟩ O⟩
 ·try simp only [sx] at c1
  refine qP<|Y O<|G O<|zA<|zG<|zV O ?_
  exact ⟨by rw [yC (by omega)] at hp;rw [formK_ok hp],O⟩
theorem typer_index (b mb:Nat) (p:Pg) (m:Kn) (x:Ix) (hP:p.Ok) (hx:x.wt<=4294967296):
    Con cfg 262 [vP b,vIndex x] (tyE b mb p m) fun r μ'=>r=vI (indexK p.en (kn m) x)/\μ'=tyE b mb p m:=by
 refine zW Tryz.func262 O Tryz.ntmps262 Tryz.results262 O ?_
 intro z hz
 have hw:=hx
 unfold Ix.wt at hw
 clear hx
 refine Y O<|zZ O O (qO O O) ?_
 rintro _ _ ⟨b1,rfl,rfl⟩
 refine G O<|zA<|zH<|Y O<|zD O zJd<|zI one9 (J 0 O) O<|kY O<|zA<|zE O (fun c1=>?_) (fun c1=>?_)
 ·try simp only [sx] at c1
  refine Y O<|G O<|zD O zEl<|zM kE (J 0 O) O<|zR O (yQ [1,1] O ok223 (zLt b mb p m x.Lin (by omega)) ⟨zB,O,zB,O,T⟩ O)<|G O<|zA<|zU _ (Weak.mem [false,true,true] O)<|zG<|zV O ?_
  exact ⟨by rw [indexK,decide_eq_true c1];rfl,O⟩
 ·try simp only [sx] at c1
  refine zF<|zH<|zQn 12 14 [.q,.q,.q,.q,.q,.q,.q,.q,.q,.u,.u,.f]  mixed (by kernel_rfl) O O O<|kS O O (zS O O)<|kS O O (qG O O)<|kS O O (zJ O fd236_0 O)<|kS O O (qA O zEe O (J 1 O) O)<|kS O O (zJ O zJd O)<|kS O O (zK O one9 O (J 0 O) O)<|kS O O (qR O ok119 (zHg p x.From hP) ⟨zB,O,zB,O,T⟩)<|kS O O (yR O O)<|kS O O (yA O O O)<|zJw O O (kR O O O)<|zJw O O (kR O O O)<|zNx<|tdq_nil<|zAy<|zAy<|zAy<|zAy<|zAy<|zAy<|zAy<|zAy<|zAy<|tdf_u<|tdf_u<|zJx (zAh (qX O zr56))<|tdf_nil<|zIr ?_
  rintro _ _ ⟨b2,rfl,rfl⟩
  refine zLm ?_
  refine ⟨_,yT O v O O O (zCx 0 O O),(by rintro _ _ ⟨rfl,rfl⟩;exact ⟨[_],rfl⟩),?_⟩
  rintro _ _ ⟨rfl,rfl⟩
  refine zQ O O (yV O O)<|kL<|G O<|zA<|zH<|zT<|Y O<|G O<|wG O<|G O<|zA<|zE O (fun c2=>?_) (fun c2=>?_)
  ·try simp only [sx] at c2
   refine Y O<|G O<|zA<|zU _ (Weak.mem [false,false,true,true] O)<|zG<|zV O ?_
   exact ⟨by rw [indexK,decide_eq_false c1,c2];rfl,O⟩
  ·try simp only [sx] at c2
   refine Y O<|zD O zKw<|zI one3 (J 0 O) O<|yM O<|G O<|zA<|zE O (fun c3=>?_) (fun c3=>?_)
   ·try simp only [sx] at c3
    refine Y O<|G O<|zA<|zU _ (Weak.mem [false,false,true,true] O)<|zG<|zV O ?_
    exact ⟨by rw [indexK,decide_eq_false c1,c2,decide_eq_false c3];rfl,O⟩
   ·try simp only [sx] at c3
    refine Y O<|zD O zBj<|zI zEt (J 1 O) O<|qB O el72<|G O<|qB O el72<|yM O<|G O<|zA<|zE O (fun c4=>?_) (fun c4=>?_)
    ·try simp only [sx] at c4
     refine Y O<|G O<|zA<|zU _ (Weak.mem [false,false,true,true] O)<|zG<|zV O ?_
     exact ⟨by rw [indexK,decide_eq_false c1,c2,decide_eq_true c3,decide_eq_false (by omega)];rfl,O⟩
    ·try simp only [sx] at c4
     refine zF<|zH<|Y O<|zD O zBj<|zI zEt (J 1 O) O<|qB O el72<|G O<|zA<|zT<|zU ⟨[(46,.c _),(0,.c _),(44,.c _),(45,.c _)],[_,_]⟩ (Weak.mk [false,false,true,true] ⟨zB,zB,zB,zB,T⟩ O)<|qJ 1 0 O O (Nat) (fun k=>[(46,vI k)]) (fun k=>[]) (fun k=>k<=x.At.length/\((x.At.take k).all (fun x=>knL (kn m) x.L)=true)) (fun k=>x.At.length-k) ⟨0,⟨by omega,O⟩,Weak.mk [true,true] ⟨zB,zB,zB,zB,T⟩ O⟩ ?_
     rintro k ⟨hk,hp⟩
     refine Y O<|yB O<|zA<|zH<|zE O (fun c5=>?_) (fun c5=>?_)
     ·try simp only [sx] at c5
      obtain ⟨l,hl⟩:=yD x.At k (by omega)
      refine zF<|zH<|zT<|Y O<|qD O el72 (by omega) (getm (by assumption))<|zM kE qH O<|zZ O O (qF [none,some 2] O W O) ?_
      rintro _ _ ⟨b3,rfl,rfl⟩
      refine D 0 sz59 O<|zA<|Y O<|G O<|zM kE (J 0 O) O<|zR O (yQ [1,1] O ok223 (zLt b mb p m l (by have:=zCo (qC hl);omega)) ⟨zB,O,zB,O,T⟩ O)<|G O<|zA<|Y O<|G O<|yM O<|zA<|zE O (fun c6=>?_) (fun c6=>?_)
      ·try simp only [sx] at c6
       refine Y O<|G O<|G O<|zA<|zU _ (Weak.mem [false,true,true] O)<|zG<|zV O ?_
       exact ⟨by rw [indexK,decide_eq_false c1,c2,decide_eq_true c3,decide_eq_true (by omega)];simp only [cond_false,Bool.not_true];rw [formsK_no hl c6],O⟩
      ·try simp only [sx] at c6
       refine zF<|zP O<|qM O ⟨by omega,by omega⟩<|G O<|zA ?_
       refine ⟨k+1,⟨by omega,formsK_next hl hp c6⟩,(by omega),Weak.mk [false,true,true] ⟨zB,zB,zB,zB,T⟩ O⟩
     ·try simp only [sx] at c5
      refine qP<|Y O<|G O<|zA<|zG<|zV O ?_
      exact ⟨by rw [yC (by omega)] at hp;rw [indexK,decide_eq_false c1,c2,decide_eq_true c3,decide_eq_true (by omega)];simp only [cond_false,Bool.not_true];rw [formsK_ok hp],O⟩
end Go.W
