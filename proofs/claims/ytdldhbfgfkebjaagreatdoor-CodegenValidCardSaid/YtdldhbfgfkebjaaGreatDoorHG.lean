/-
  What functions compute.
  Conditions: none.
-/
import Derived.Test.YtdldhbfgfkebjaaGreatDoorHF
set_option linter.unusedSimpArgs false
set_option linter.unusedVariables false
set_option maxRecDepth 10000
namespace Go.W
open Go Go.Eng Go.Proofs Go.L41 Go.Br
attribute [local irreducible] AWP RWP TD fY
theorem fitN_not (n:Int):(decide (2147483647<n)||decide (n< -2147483647))= !rP n:=by
  unfold rP;rw [Bool.eq_iff_iff];simp
def ixE (l:List Ix):Ex:=.mk 0 (bs []) ⟨0,0⟩ zTy ⟨0,[]⟩ l []
theorem fit_ixE (l:List Ix):nD (ixE l)=l.all nY:=by
  rw [zSq];simp [ixE,mL,rP,Ex.Lin,Ex.Idx,Ex.Args]
theorem ixE_wt (s:St):(ixE s.Idx).wt<=s.wt:=by
  rw [Ex.wt_eq,St.wt_eq];simp only [ixE,Ex.Lin,Ex.Idx,Ex.Args,dQ,List.length_nil];omega
theorem ok27:bA Tryz.prog 27=true:=by kernel_rfl
theorem ok57:bA Tryz.prog 57=true:=by kernel_rfl
theorem ok58:bA Tryz.prog 58=true:=by kernel_rfl
theorem ok59:bA Tryz.prog 59=true:=by kernel_rfl
theorem ok106:bA Tryz.prog 106=true:=by kernel_rfl
theorem ok107:bA Tryz.prog 107=true:=by kernel_rfl
theorem ok109:bA Tryz.prog 109=true:=by kernel_rfl
theorem ok110:bA Tryz.prog 110=true:=by kernel_rfl
theorem ok111:bA Tryz.prog 111=true:=by kernel_rfl
theorem ok150:bA Tryz.prog 150=true:=by kernel_rfl
theorem ok152:bA Tryz.prog 152=true:=by kernel_rfl
theorem zKl (l:List Ex) (c:C) (p:Ex->Bool) (hl:l.length<=6000000000000) (hc:∀x,x∈l->FnPur cfg c [vE x] (vB (p x))):
    Pur cfg 152 [vEs l,.c c] (vI (fX p l)):=by
 refine zU Tryz.func152 O Tryz.ntmps152 Tryz.results152 O ?_
 intro z hz
 refine R O<|G O<|zA<|zI<|R O<|G O<|zZ O el55<|G O<|zA<|zP<|zT ⟨[(8,.c _),(0,.c _),(1,.c _),(7,.c _)],[]⟩ (Weak.mk [] ⟨zB,zB,zB,zB,T⟩ O)<|qG 1 0 O O (Nat) (fun k=>[(8,vI k)]) (fun k=>[]) (fun k=>k<=l.length/\((l.take k).any p=false)) (fun k=>l.length-k) ⟨0,⟨by omega,O⟩,Weak.mk [] ⟨zB,zB,zB,zB,T⟩ O⟩ ?_
 rintro k ⟨hk,hp⟩
 refine R O<|yB O<|zA<|zI<|zC O (fun c1=>?_) (fun c1=>?_)
 ·try simp only [sx] at c1
  obtain ⟨x,hx⟩:=qU l k (by omega)
  refine zJ<|zI<|zP<|R O<|G O<|G O<|zA<|R O<|G O<|G O<|G O<|qD O el55 (by omega) (zAa (by assumption))<|zO yP zQ O<|zW O (kW O O (hc _ (qA hx)) ⟨zB,O,T⟩)<|zA<|zC O (fun c2=>?_) (fun c2=>?_)
  ·exact j7
  ·exact p8
 ·exact m7
theorem zHo (l:List Ex) (c:C) (p:Ex->Bool) (hl:l.length<=6000000000000) (hc:∀x,x∈l->FnPur cfg c [vE x] (vB (p x))):
    Pur cfg 110 [vEs l,.c c] (vB (l.any p)):=by
 refine zU Tryz.func110 O Tryz.ntmps110 Tryz.results110 O ?_
 intro z hz
 refine R O<|G O<|zA<|R O<|G O<|G O<|qN O ok152 (zKl l c p hl hc) ⟨zB,O,zB,O,T⟩<|zW O (kN O O O)<|G O<|zA<|zK<|zR O ?_
 rw [zCb]
theorem zKi (l:List St) (c:C) (p:St->Bool) (hl:l.length<=6000000000000) (hc:∀x,x∈l->FnPur cfg c [vSt x] (vB (p x))):
    Pur cfg 106 [fV l,.c c] (vI (fX p l)):=by
 refine zU Tryz.func106 O Tryz.ntmps106 Tryz.results106 O ?_
 intro z hz
 refine R O<|G O<|zA<|zI<|R O<|G O<|zZ O el23<|G O<|zA<|zP<|zT ⟨[(8,.c _),(0,.c _),(1,.c _),(7,.c _)],[]⟩ (Weak.mk [] ⟨zB,zB,zB,zB,T⟩ O)<|qG 1 0 O O (Nat) (fun k=>[(8,vI k)]) (fun k=>[]) (fun k=>k<=l.length/\((l.take k).any p=false)) (fun k=>l.length-k) ⟨0,⟨by omega,O⟩,Weak.mk [] ⟨zB,zB,zB,zB,T⟩ O⟩ ?_
 rintro k ⟨hk,hp⟩
 refine R O<|yB O<|zA<|zI<|zC O (fun c1=>?_) (fun c1=>?_)
 ·try simp only [sx] at c1
  obtain ⟨x,hx⟩:=qU l k (by omega)
  refine zJ<|zI<|zP<|R O<|G O<|G O<|zA<|R O<|G O<|G O<|G O<|qD O el23 (by omega) (zEl (by assumption))<|zO zFo zQ O<|zW O (kW O O (hc _ (qA hx)) ⟨zB,O,T⟩)<|zA<|zC O (fun c2=>?_) (fun c2=>?_)
  ·exact j7
  ·exact p8
 ·exact m7
theorem zHm (l:List St) (c:C) (p:St->Bool) (hl:l.length<=6000000000000) (hc:∀x,x∈l->FnPur cfg c [vSt x] (vB (p x))):
    Pur cfg 57 [fV l,.c c] (vB (l.any p)):=by
 refine zU Tryz.func57 O Tryz.ntmps57 Tryz.results57 O ?_
 intro z hz
 refine R O<|G O<|zA<|R O<|G O<|G O<|qN O ok106 (zKi l c p hl hc) ⟨zB,O,zB,O,T⟩<|zW O (kN O O O)<|G O<|zA<|zK<|zR O ?_
 rw [zCb]
theorem zKj (l:List Lf) (c:C) (p:Lf->Bool) (hl:l.length<=6000000000000) (hc:∀x,x∈l->FnPur cfg c [mD x] (vB (p x))):
    Pur cfg 151 [pB l,.c c] (vI (fX p l)):=by
 refine zU Tryz.func151 O Tryz.ntmps151 Tryz.results151 O ?_
 intro z hz
 refine R O<|G O<|zA<|zI<|R O<|G O<|zZ O zAv<|G O<|zA<|zP<|zT ⟨[(8,.c _),(0,.c _),(1,.c _),(7,.c _)],[]⟩ (Weak.mk [] ⟨zB,zB,zB,zB,T⟩ O)<|qG 1 0 O O (Nat) (fun k=>[(8,vI k)]) (fun k=>[]) (fun k=>k<=l.length/\((l.take k).any p=false)) (fun k=>l.length-k) ⟨0,⟨by omega,O⟩,Weak.mk [] ⟨zB,zB,zB,zB,T⟩ O⟩ ?_
 rintro k ⟨hk,hp⟩
 refine R O<|yB O<|zA<|zI<|zC O (fun c1=>?_) (fun c1=>?_)
 ·try simp only [sx] at c1
  obtain ⟨x,hx⟩:=qU l k (by omega)
  refine zJ<|zI<|zP<|R O<|G O<|G O<|zA<|R O<|G O<|G O<|G O<|qD O zAv (by omega) (B (by assumption))<|zO zBa zQ O<|zW O (kW O O (hc _ (qA hx)) ⟨zB,O,T⟩)<|zA<|zC O (fun c2=>?_) (fun c2=>?_)
  ·exact j7
  ·exact p8
 ·exact m7
theorem zHn (l:List Lf) (c:C) (p:Lf->Bool) (hl:l.length<=6000000000000) (hc:∀x,x∈l->FnPur cfg c [mD x] (vB (p x))):
    Pur cfg 108 [pB l,.c c] (vB (l.any p)):=by
 refine zU Tryz.func108 O Tryz.ntmps108 Tryz.results108 O ?_
 intro z hz
 refine R O<|G O<|zA<|R O<|G O<|G O<|qN O ok151 (zKj l c p hl hc) ⟨zB,O,zB,O,T⟩<|zW O (kN O O O)<|G O<|zA<|zK<|zR O ?_
 rw [zCb]
theorem cg_fits_1 (m:Mono):
    Pur cfg 150 [nM m] (vB (!rP m.By)):=by
 refine zU Tryz.func150 O Tryz.ntmps150 Tryz.results150 O ?_
 intro z hz
 refine R O<|zV O O (qO O O) ?_
 rintro _ _ ⟨b1,rfl,rfl⟩
 refine G O<|zA<|R O<|zG O zKw<|zH W (Y 0 O) O<|zW O (yG O O O)<|G O<|rL0 O (fun g1_3=>zD O zKw O) O<|A 7 O (fun g1_3=>zF O W O (Y 0 O) O) O<|A 8 O (fun g1_3=>kM O O O) O<|r_or O (fun h=>(lzf h))<|G O<|zA<|zK<|zR O ?_
 exact congrArg vB (fitN_not m.By)
theorem cg_fits (f:Lf) (hl:f.L.length<=6000000000000):
    Pur cfg 107 [mD f] (vB (mL f)):=by
 refine zU Tryz.func107 O Tryz.ntmps107 Tryz.results107 O ?_
 intro z hz
 refine R O<|zV O O (qO O O) ?_
 rintro _ _ ⟨b1,rfl,rfl⟩
 refine G O<|zA<|zI<|R O<|zG O zKb<|zH W (Y 0 O) O<|zW O (yG O O O)<|G O<|rL0 O (fun g1_3=>zD O zKb O) O<|A 7 O (fun g1_3=>zF O W O (Y 0 O) O) O<|A 8 O (fun g1_3=>kM O O O) O<|r_or O (fun h=>(lzf h))<|zA<|zC O (fun c1=>?_) (fun c1=>?_)
 ·refine R O<|G O<|zA<|zK<|zR O ?_
  have h9:=(fitN_not f.K).symm.trans c1
  have h8:rP f.K=false:=by simpa using h9
  unfold mL;rw [h8];rfl
 ·refine zJ<|R O<|zG O zAy<|zH zDz (Y 0 O) O<|qN O ok149 (zFr f.L _ (fun m=> !rP m.By) hl (fun m _=>FnPur.of_pur (first:=[]) (cap:=[]) ok150 (cg_fits_1 m))) ⟨zB,O,zB,O,T⟩<|kP O<|G O<|zA<|zK<|zR O ?_
  have h9:=(fitN_not f.K).symm.trans c1
  have h8:rP f.K=true:=by simpa using h9
  unfold mL;rw [h8,Bool.true_and];exact congrArg vB (zBz _ _)
theorem cg_fitExpr_1 (f:Lf) (hl:f.L.length<=6000000000000):
    Pur cfg 109 [mD f] (vB (!mL f)):=by
 refine zU Tryz.func109 O Tryz.ntmps109 Tryz.results109 O ?_
 intro z hz
 refine R O<|zV O O (qO O O) ?_
 rintro _ _ ⟨b1,rfl,rfl⟩
 refine G O<|zA<|R O<|zO zBa (Y 0 O) O<|qN O ok107 (cg_fits f hl) ⟨zB,O,T⟩<|kP O<|G O<|zA<|zK<|zR O ?_
 exact O
theorem cg_fitExpr_2 (e:Ex) (h9:Pur cfg 59 [vE e] (vB (nD e))):
    Pur cfg 111 [vE e] (vB (!nD e)):=by
 refine zU Tryz.func111 O Tryz.ntmps111 Tryz.results111 O ?_
 intro z hz
 refine R O<|zV O O (qO O O) ?_
 rintro _ _ ⟨b1,rfl,rfl⟩
 refine G O<|zA<|R O<|zO yP (Y 0 O) O<|qN O ok59 h9 ⟨zB,O,T⟩<|kP O<|G O<|zA<|zK<|zR O ?_
 exact O
theorem all_false {α:Type} {l:List α} {p:α->Bool} {k:Nat} {x:α} (h:l[k]? =some x) (hp:p x=false):l.all p=false:=by
  cases c:l.all p with
  |false=>rfl
  |true=>rw [List.all_eq_true.1 c x (qA h)] at hp;cases hp
theorem zTm (e:Ex) (hw:e.wt<=1000000000) (ih:∀a,a∈e.Args->Pur cfg 59 [vE a] (vB (nD a))):
    Pur cfg 59 [vE e] (vB (nD e)):=by
 refine zU Tryz.func59 O Tryz.ntmps59 Tryz.results59 O ?_
 intro z hz
 have hwt:=e.wt_eq
 refine R O<|zV O O (qO O O) ?_
 rintro _ _ ⟨b1,rfl,rfl⟩
 refine G O<|zA<|zI<|R O<|zG O zFc<|zO zBa (Y 0 O) O<|qN O ok107 (cg_fits e.Lin (by omega)) ⟨zB,O,T⟩<|kP O<|zA<|zC O (fun c1=>?_) (fun c1=>?_)
 ·try simp only [sx] at c1
  refine R O<|G O<|zA<|zK<|zR O ?_
  rw [zSq]
  have h8:mL e.Lin=false:=by simpa using c1
  rw [h8];rfl
 ·try simp only [sx] at c1
  refine zJ<|zI<|R O<|zG O kR<|zH wJ (Y 0 O) O<|zZ O el51<|G O<|zA<|zP<|zT ⟨[(12,.c _),(1,.c _),(10,.c _),(11,.c _)],[_]⟩ (Weak.mk [true] ⟨zB,zB,zB,zB,T⟩ O)<|qG 1 0 O O (Nat) (fun k=>[(12,vI k)]) (fun k=>[]) (fun k=>k<=e.Idx.length/\((e.Idx.take k).all nY=true)) (fun k=>e.Idx.length-k) ⟨0,⟨by omega,O⟩,Weak.mk [true] ⟨zB,zB,zB,zB,T⟩ O⟩ ?_
  rintro k ⟨hk,hp⟩
  refine R O<|yB O<|zA<|zI<|zC O (fun c2=>?_) (fun c2=>?_)
  ·try simp only [sx] at c2
   obtain ⟨x,hx⟩:=qU e.Idx k (by omega)
   refine zJ<|zI<|zP<|R O<|qD O el51 (by omega) (B (by assumption))<|zO zDc zQ O<|zV O O (qR [none,some 2,none,some 2] O zPb O) ?_
   rintro _ _ ⟨b2,rfl,rfl⟩
   refine D 0 zPc O<|zA<|R O<|zG O zCy<|zO zBa (Y 0 O) O<|qN O ok107 (cg_fits x.Lin (by have:=zCv (qA hx);unfold Ix.wt at this;omega)) ⟨zB,O,T⟩<|kP O<|G O<|rL0 O (fun g6_4=>zD O zAr O) O<|A 21 O (fun g6_4=>zF O zCl O (Y 0 O) O) O<|A 22 O (fun g6_4=>qS O ok108 (zHn x.At _ (fun f=> !mL f) (by have:=zCv (qA hx);unfold Ix.wt at this;omega) (fun f hf=>FnPur.of_pur (first:=[]) (cap:=[]) ok109 (cg_fitExpr_1 f (by have:=zCv (qA hx);have:=zCn hf;unfold Ix.wt at *;omega)))) ⟨zB,O,zB,O,T⟩) O<|r_or O (fun h=>(lzf h))<|zA<|zC O (fun c3=>?_) (fun c3=>?_)
   ·have hfx:nY x=false:=by unfold nY;rw [←zBz x.At mL];cases h1:mL x.Lin<;>cases h2:(x.At.any fun f=> !mL f)<;>simp [h1,h2] at c3⊢
    refine R O<|G O<|zA<|zK<|zR O ?_
    rw [zSq,all_false hx hfx,Bool.and_false];rfl
   ·have hfx:nY x=true:=by unfold nY;rw [←zBz x.At mL];cases h1:mL x.Lin<;>cases h2:(x.At.any fun f=> !mL f)<;>simp [h1,h2] at c3⊢
    refine zJ<|zM O<|qB O ⟨by omega,by omega⟩<|G O<|zA ?_
    refine ⟨k+1,⟨by omega,by rw [yC hx,List.all_append,hp];simp [hfx]⟩,(by omega),Weak.mk [false,true] ⟨zB,zB,zB,zB,T⟩ O⟩
  ·try simp only [sx] at c2
   refine qH<|R O<|zG O kO<|zH wZ (Y 0 O) O<|qN O ok110 (zHo e.Args _ (fun a=> !nD a) (by have:=zOl e.Args;omega) (fun a ha=>FnPur.of_pur (first:=[]) (cap:=[]) ok111 (cg_fitExpr_2 a (ih a ha)))) ⟨zB,O,zB,O,T⟩<|kP O<|G O<|zA<|zK<|zR O ?_
   rw [yA (l:=e.Idx) (k:=k) (by omega)] at hp
   have h8:mL e.Lin=true:=by simpa using c1
   rw [zSq,h8,hp,Bool.true_and,Bool.true_and]
   exact congrArg vB (zBz _ _)
theorem cg_fitExpr (e:Ex) (hw:e.wt<=1000000000):Pur cfg 59 [vE e] (vB (nD e)):=by
  induction e using Ex.ind with
  |_ e ih=>exact zTm e hw fun a ha=>ih a ha (by have:=wI ha;have:=e.wt_eq;omega)
theorem cg_fitStmts_1 (s:St) (hw:s.wt<=1000000000) (h9:Pur cfg 27 [fV s.Body] (vB (jF s.Body))):
    Pur cfg 58 [vSt s] (vB (!tS s)):=by
 refine zU Tryz.func58 O Tryz.ntmps58 Tryz.results58 O ?_
 intro z hz
 have hwt:=St.wt_eq s
 have hix:=ixE_wt s
 refine R O<|zV O O (qO O O) ?_
 rintro _ _ ⟨b1,rfl,rfl⟩
 refine G O<|zA<|R O<|zG O zKa<|zH wJ (Y 0 O) O<|zW O (kY [none,none,none,none,none,none,none,none,none,none,some 2,none,some 13] O zr57 pl57 O O)<|qN O ok59 (cg_fitExpr (ixE s.Idx) (by omega)) ⟨zB,O,T⟩<|kP O<|G O<|rL0 O (fun g1_5=>zD O zDf O) O<|A 9 O (fun g1_5=>qC O yP O (Y 0 O) O) O<|A 10 O (fun g1_5=>qS O ok59 (cg_fitExpr s.E (by omega)) ⟨zB,O,T⟩) O<|A 11 O (fun g1_5=>wA O O) O<|r_or O (fun h=>(lzf h))<|G O<|rL0 O (fun g1_11=>zD O zCo O) O<|A 15 O (fun g1_11=>zF O zBm O (Y 0 O) O) O<|A 16 O (fun g1_11=>qS O ok27 h9 ⟨zB,O,T⟩) O<|A 17 O (fun g1_11=>wA O O) O<|r_or O (fun h=>(lzf h))<|G O<|zA<|zK<|zR O ?_
 rw [fitT_eq,←fit_ixE]
 exact congrArg vB (by cases nD (ixE s.Idx)<;>cases nD s.E<;>cases jF s.Body<;>rfl)
theorem zHj (l:List St) (hw:bL l<=1000000000) (ih:∀s,s∈l->Pur cfg 27 [fV s.Body] (vB (jF s.Body))):
    Pur cfg 27 [fV l] (vB (jF l)):=by
 refine zU Tryz.func27 O Tryz.ntmps27 Tryz.results27 O ?_
 intro z hz
 refine R O<|G O<|zA<|R O<|G O<|qN O ok57 (zHm l _ (fun s=> !tS s) (by have:=wL l;omega) (fun s hs=>FnPur.of_pur (first:=[]) (cap:=[]) ok58 (cg_fitStmts_1 s (by have:=kL hs;omega) (ih s hs)))) ⟨zB,O,zB,O,T⟩<|kP O<|G O<|zA<|zK<|zR O ?_
 rw [fitTs_eq];exact congrArg vB (zBz _ _)
theorem cg_fitStmts (l:List St) (hw:bL l<=1000000000):Pur cfg 27 [fV l] (vB (jF l)):=by
  have key:∀s:St,bL s.Body<=1000000000->Pur cfg 27 [fV s.Body] (vB (jF s.Body)):=fun s=>by
    induction s using St.ind with
    |_ s ih=>exact fun hs=>zHj s.Body hs fun a ha=>ih a ha (by have:=kL ha;have:=St.wt_eq a;omega)
  exact zHj l hw fun a ha=>key a (by have:=kL ha;have:=St.wt_eq a;omega)
end Go.W
