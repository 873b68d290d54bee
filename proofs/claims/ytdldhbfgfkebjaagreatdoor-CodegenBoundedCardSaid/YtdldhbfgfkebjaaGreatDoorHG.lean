/-
  Walks: what functions of the program compute. Printed by wip/gen/mk2.py.
  Conditions: none.
-/
import Derived.Test.YtdldhbfgfkebjaaGreatDoorHF
set_option linter.unusedSimpArgs false
set_option linter.unusedVariables false
set_option maxRecDepth 10000
namespace Go.W
open Go Go.Eng Go.Proofs Go.L41 Go.Br
attribute [local irreducible] AWP RWP TD finQ
theorem fitN_not (n:Int):(decide (2147483647<n)||decide (n< -2147483647))= !fitN n:=by
  unfold fitN;rw [Bool.eq_iff_iff];simp
def ixE (l:List Ix):Ex:=.mk 0 (bs []) ⟨0,0⟩ zTy ⟨0,[]⟩ l []
theorem fit_ixE (l:List Ix):fitE (ixE l)=l.all fitX:=by
  rw [fitE_eq];simp [ixE,fitF,fitN,Ex.Lin,Ex.Idx,Ex.Args]
theorem ixE_wt (s:St):(ixE s.Idx).wt<=s.wt:=by
  rw [Ex.wt_eq,St.wt_eq];simp only [ixE,Ex.Lin,Ex.Idx,Ex.Args,argsWt,List.length_nil];omega
theorem ok27:callOk Tryz.prog 27=true:=by kernel_rfl
theorem ok57:callOk Tryz.prog 57=true:=by kernel_rfl
theorem ok58:callOk Tryz.prog 58=true:=by kernel_rfl
theorem ok59:callOk Tryz.prog 59=true:=by kernel_rfl
theorem ok106:callOk Tryz.prog 106=true:=by kernel_rfl
theorem ok107:callOk Tryz.prog 107=true:=by kernel_rfl
theorem ok109:callOk Tryz.prog 109=true:=by kernel_rfl
theorem ok110:callOk Tryz.prog 110=true:=by kernel_rfl
theorem ok111:callOk Tryz.prog 111=true:=by kernel_rfl
theorem ok150:callOk Tryz.prog 150=true:=by kernel_rfl
theorem ok152:callOk Tryz.prog 152=true:=by kernel_rfl
theorem zHs (l:List Ex) (c:C) (p:Ex->Bool) (hl:l.length<=6000000000000) (hc:∀x,x∈l->FnPur cfg c [vE x] (vB (p x))):
    Pur cfg 152 [vEs l,.c c] (vI (idxOf p l)):=by
 refine zW Tryz.func152 O Tryz.ntmps152 Tryz.results152 O ?_
 intro z hz
 refine R O<|G O<|zA<|zF<|R O<|G O<|qH O el55<|G O<|zA<|zQ<|zS ⟨[(8,.c _),(0,.c _),(1,.c _),(7,.c _)],[]⟩ (Weak.mk [] ⟨zB,zB,zB,zB,T⟩ O)<|qJ 1 0 O O (Nat) (fun k=>[(8,vI k)]) (fun k=>[]) (fun k=>k<=l.length/\((l.take k).any p=false)) (fun k=>l.length-k) ⟨0,⟨by omega,O⟩,Weak.mk [] ⟨zB,zB,zB,zB,T⟩ O⟩ ?_
 rintro k ⟨hk,hp⟩
 refine R O<|yE O<|zA<|zF<|zC O (fun c1=>?_) (fun c1=>?_)
 ·try simp only [sx] at c1
  obtain ⟨x,hx⟩:=qX l k (by omega)
  refine zH<|zF<|zQ<|R O<|G O<|G O<|zA<|R O<|G O<|G O<|G O<|qI O el55 (by omega) (zBi (by assumption))<|zP kC Y O<|v O (yT O O (hc _ (qB hx)) ⟨zB,O,T⟩)<|zA<|zC O (fun c2=>?_) (fun c2=>?_)
  ·try simp only [sx] at c2
   refine R O<|G O<|G O<|zA<|zM<|zX O ?_
   rw [zCq hx c2 hp]
  ·try simp only [sx] at c2
   refine zH<|zI O<|qD O ⟨by omega,by omega⟩<|G O<|zA ?_
   refine ⟨k+1,⟨by omega,zBz hx hp c2⟩,(by omega),Weak.mk [] ⟨zB,zB,zB,zB,T⟩ O⟩
 ·try simp only [sx] at c1
  refine qL<|R O<|G O<|zA<|zM<|zX O ?_
  rw [zAx (by rw [yI (by omega)] at hp;exact hp)]
theorem zFg (l:List Ex) (c:C) (p:Ex->Bool) (hl:l.length<=6000000000000) (hc:∀x,x∈l->FnPur cfg c [vE x] (vB (p x))):
    Pur cfg 110 [vEs l,.c c] (vB (l.any p)):=by
 refine zW Tryz.func110 O Tryz.ntmps110 Tryz.results110 O ?_
 intro z hz
 refine R O<|G O<|zA<|R O<|G O<|G O<|qW O ok152 (zHs l c p hl hc) ⟨zB,O,zB,O,T⟩<|v O (wG O O O)<|G O<|zA<|zM<|zX O ?_
 rw [zBu]
theorem zHp (l:List St) (c:C) (p:St->Bool) (hl:l.length<=6000000000000) (hc:∀x,x∈l->FnPur cfg c [vSt x] (vB (p x))):
    Pur cfg 106 [vSts l,.c c] (vI (idxOf p l)):=by
 refine zW Tryz.func106 O Tryz.ntmps106 Tryz.results106 O ?_
 intro z hz
 refine R O<|G O<|zA<|zF<|R O<|G O<|qH O el23<|G O<|zA<|zQ<|zS ⟨[(8,.c _),(0,.c _),(1,.c _),(7,.c _)],[]⟩ (Weak.mk [] ⟨zB,zB,zB,zB,T⟩ O)<|qJ 1 0 O O (Nat) (fun k=>[(8,vI k)]) (fun k=>[]) (fun k=>k<=l.length/\((l.take k).any p=false)) (fun k=>l.length-k) ⟨0,⟨by omega,O⟩,Weak.mk [] ⟨zB,zB,zB,zB,T⟩ O⟩ ?_
 rintro k ⟨hk,hp⟩
 refine R O<|yE O<|zA<|zF<|zC O (fun c1=>?_) (fun c1=>?_)
 ·try simp only [sx] at c1
  obtain ⟨x,hx⟩:=qX l k (by omega)
  refine zH<|zF<|zQ<|R O<|G O<|G O<|zA<|R O<|G O<|G O<|G O<|qI O el23 (by omega) (zLv (by assumption))<|zP zHc Y O<|v O (yT O O (hc _ (qB hx)) ⟨zB,O,T⟩)<|zA<|zC O (fun c2=>?_) (fun c2=>?_)
  ·try simp only [sx] at c2
   refine R O<|G O<|G O<|zA<|zM<|zX O ?_
   rw [zCq hx c2 hp]
  ·try simp only [sx] at c2
   refine zH<|zI O<|qD O ⟨by omega,by omega⟩<|G O<|zA ?_
   refine ⟨k+1,⟨by omega,zBz hx hp c2⟩,(by omega),Weak.mk [] ⟨zB,zB,zB,zB,T⟩ O⟩
 ·try simp only [sx] at c1
  refine qL<|R O<|G O<|zA<|zM<|zX O ?_
  rw [zAx (by rw [yI (by omega)] at hp;exact hp)]
theorem zFe (l:List St) (c:C) (p:St->Bool) (hl:l.length<=6000000000000) (hc:∀x,x∈l->FnPur cfg c [vSt x] (vB (p x))):
    Pur cfg 57 [vSts l,.c c] (vB (l.any p)):=by
 refine zW Tryz.func57 O Tryz.ntmps57 Tryz.results57 O ?_
 intro z hz
 refine R O<|G O<|zA<|R O<|G O<|G O<|qW O ok106 (zHp l c p hl hc) ⟨zB,O,zB,O,T⟩<|v O (wG O O O)<|G O<|zA<|zM<|zX O ?_
 rw [zBu]
theorem zHq (l:List Lf) (c:C) (p:Lf->Bool) (hl:l.length<=6000000000000) (hc:∀x,x∈l->FnPur cfg c [vLin x] (vB (p x))):
    Pur cfg 151 [vLins l,.c c] (vI (idxOf p l)):=by
 refine zW Tryz.func151 O Tryz.ntmps151 Tryz.results151 O ?_
 intro z hz
 refine R O<|G O<|zA<|zF<|R O<|G O<|qH O zDb<|G O<|zA<|zQ<|zS ⟨[(8,.c _),(0,.c _),(1,.c _),(7,.c _)],[]⟩ (Weak.mk [] ⟨zB,zB,zB,zB,T⟩ O)<|qJ 1 0 O O (Nat) (fun k=>[(8,vI k)]) (fun k=>[]) (fun k=>k<=l.length/\((l.take k).any p=false)) (fun k=>l.length-k) ⟨0,⟨by omega,O⟩,Weak.mk [] ⟨zB,zB,zB,zB,T⟩ O⟩ ?_
 rintro k ⟨hk,hp⟩
 refine R O<|yE O<|zA<|zF<|zC O (fun c1=>?_) (fun c1=>?_)
 ·try simp only [sx] at c1
  obtain ⟨x,hx⟩:=qX l k (by omega)
  refine zH<|zF<|zQ<|R O<|G O<|G O<|zA<|R O<|G O<|G O<|G O<|qI O zDb (by omega) (getm (by assumption))<|zP zCd Y O<|v O (yT O O (hc _ (qB hx)) ⟨zB,O,T⟩)<|zA<|zC O (fun c2=>?_) (fun c2=>?_)
  ·try simp only [sx] at c2
   refine R O<|G O<|G O<|zA<|zM<|zX O ?_
   rw [zCq hx c2 hp]
  ·try simp only [sx] at c2
   refine zH<|zI O<|qD O ⟨by omega,by omega⟩<|G O<|zA ?_
   refine ⟨k+1,⟨by omega,zBz hx hp c2⟩,(by omega),Weak.mk [] ⟨zB,zB,zB,zB,T⟩ O⟩
 ·try simp only [sx] at c1
  refine qL<|R O<|G O<|zA<|zM<|zX O ?_
  rw [zAx (by rw [yI (by omega)] at hp;exact hp)]
theorem zFf (l:List Lf) (c:C) (p:Lf->Bool) (hl:l.length<=6000000000000) (hc:∀x,x∈l->FnPur cfg c [vLin x] (vB (p x))):
    Pur cfg 108 [vLins l,.c c] (vB (l.any p)):=by
 refine zW Tryz.func108 O Tryz.ntmps108 Tryz.results108 O ?_
 intro z hz
 refine R O<|G O<|zA<|R O<|G O<|G O<|qW O ok151 (zHq l c p hl hc) ⟨zB,O,zB,O,T⟩<|v O (wG O O O)<|G O<|zA<|zM<|zX O ?_
 rw [zBu]
theorem cg_fits_1 (m:Mono):
    Pur cfg 150 [vMono m] (vB (!fitN m.By)):=by
 refine zW Tryz.func150 O Tryz.ntmps150 Tryz.results150 O ?_
 intro z hz
 refine R O<|zU O O (qT O O) ?_
 rintro _ _ ⟨b1,rfl,rfl⟩
 refine G O<|zA<|R O<|zN O zKk<|zL one2 (A 0 O) O<|v O (kA O O O)<|G O<|rL0 O (fun g1_3=>zJ O zKk O) O<|B 7 O (fun g1_3=>zD O one2 O (A 0 O) O) O<|B 8 O (fun g1_3=>yR O O O) O<|v O (kK O O O O (fun h=>(lzf h)))<|G O<|zA<|zM<|zX O ?_
 exact congrArg vB (fitN_not m.By)
theorem cg_fits (f:Lf) (hl:f.L.length<=6000000000000):
    Pur cfg 107 [vLin f] (vB (fitF f)):=by
 refine zW Tryz.func107 O Tryz.ntmps107 Tryz.results107 O ?_
 intro z hz
 refine R O<|zU O O (qT O O) ?_
 rintro _ _ ⟨b1,rfl,rfl⟩
 refine G O<|zA<|zF<|R O<|zN O fd54_0<|zL one2 (A 0 O) O<|v O (kA O O O)<|G O<|rL0 O (fun g1_3=>zJ O fd54_0 O) O<|B 7 O (fun g1_3=>zD O one2 O (A 0 O) O) O<|B 8 O (fun g1_3=>yR O O O) O<|v O (kK O O O O (fun h=>(lzf h)))<|zA<|zC O (fun c1=>?_) (fun c1=>?_)
 ·refine R O<|G O<|zA<|zM<|zX O ?_
  have h9:=(fitN_not f.K).symm.trans c1
  have h8:fitN f.K=false:=by simpa using h9
  unfold fitF;rw [h8];rfl
 ·refine zH<|R O<|zN O zGb<|zL zNk (A 0 O) O<|qW O ok149 (zDv f.L _ (fun m=> !fitN m.By) hl (fun m _=>FnPur.of_pur (first:=[]) (cap:=[]) ok150 (cg_fits_1 m))) ⟨zB,O,zB,O,T⟩<|wK O<|G O<|zA<|zM<|zX O ?_
  have h9:=(fitN_not f.K).symm.trans c1
  have h8:fitN f.K=true:=by simpa using h9
  unfold fitF;rw [h8,Bool.true_and];exact congrArg vB (zBg _ _)
theorem cg_fitExpr_1 (f:Lf) (hl:f.L.length<=6000000000000):
    Pur cfg 109 [vLin f] (vB (!fitF f)):=by
 refine zW Tryz.func109 O Tryz.ntmps109 Tryz.results109 O ?_
 intro z hz
 refine R O<|zU O O (qT O O) ?_
 rintro _ _ ⟨b1,rfl,rfl⟩
 refine G O<|zA<|R O<|zP zCd (A 0 O) O<|qW O ok107 (cg_fits f hl) ⟨zB,O,T⟩<|wK O<|G O<|zA<|zM<|zX O ?_
 exact O
theorem cg_fitExpr_2 (e:Ex) (h9:Pur cfg 59 [vE e] (vB (fitE e))):
    Pur cfg 111 [vE e] (vB (!fitE e)):=by
 refine zW Tryz.func111 O Tryz.ntmps111 Tryz.results111 O ?_
 intro z hz
 refine R O<|zU O O (qT O O) ?_
 rintro _ _ ⟨b1,rfl,rfl⟩
 refine G O<|zA<|R O<|zP kC (A 0 O) O<|qW O ok59 h9 ⟨zB,O,T⟩<|wK O<|G O<|zA<|zM<|zX O ?_
 exact O
theorem all_false {α:Type} {l:List α} {p:α->Bool} {k:Nat} {x:α} (h:l[k]? =some x) (hp:p x=false):l.all p=false:=by
  cases c:l.all p with
  |false=>rfl
  |true=>rw [List.all_eq_true.1 c x (qB h)] at hp;cases hp
theorem zOw (e:Ex) (hw:e.wt<=1000000000) (ih:∀a,a∈e.Args->Pur cfg 59 [vE a] (vB (fitE a))):
    Pur cfg 59 [vE e] (vB (fitE e)):=by
 refine zW Tryz.func59 O Tryz.ntmps59 Tryz.results59 O ?_
 intro z hz
 have hwt:=e.wt_eq
 refine R O<|zU O O (qT O O) ?_
 rintro _ _ ⟨b1,rfl,rfl⟩
 refine G O<|zA<|zF<|R O<|zN O zLk<|zP zCd (A 0 O) O<|qW O ok107 (cg_fits e.Lin (by omega)) ⟨zB,O,T⟩<|wK O<|zA<|zC O (fun c1=>?_) (fun c1=>?_)
 ·try simp only [sx] at c1
  refine R O<|G O<|zA<|zM<|zX O ?_
  rw [fitE_eq]
  have h8:fitF e.Lin=false:=by simpa using c1
  rw [h8];rfl
 ·try simp only [sx] at c1
  refine zH<|zF<|R O<|zN O zBk<|zL zCa (A 0 O) O<|qH O el51<|G O<|zA<|zQ<|zS ⟨[(12,.c _),(1,.c _),(10,.c _),(11,.c _)],[_]⟩ (Weak.mk [true] ⟨zB,zB,zB,zB,T⟩ O)<|qJ 1 0 O O (Nat) (fun k=>[(12,vI k)]) (fun k=>[]) (fun k=>k<=e.Idx.length/\((e.Idx.take k).all fitX=true)) (fun k=>e.Idx.length-k) ⟨0,⟨by omega,O⟩,Weak.mk [true] ⟨zB,zB,zB,zB,T⟩ O⟩ ?_
  rintro k ⟨hk,hp⟩
  refine R O<|yE O<|zA<|zF<|zC O (fun c2=>?_) (fun c2=>?_)
  ·try simp only [sx] at c2
   obtain ⟨x,hx⟩:=qX e.Idx k (by omega)
   refine zH<|zF<|zQ<|R O<|qI O el51 (by omega) (getm (by assumption))<|zP zCo Y O<|zU O O (qR [none,some 2,none,some 2] O zMo O) ?_
   rintro _ _ ⟨b2,rfl,rfl⟩
   refine D 0 zMx O<|zA<|R O<|zN O zGd<|zP zCd (A 0 O) O<|qW O ok107 (cg_fits x.Lin (by have:=zCx (qB hx);unfold Ix.wt at this;omega)) ⟨zB,O,T⟩<|wK O<|G O<|rL0 O (fun g6_4=>zJ O zCk O) O<|B 21 O (fun g6_4=>zD O zEw O (A 0 O) O) O<|B 22 O (fun g6_4=>qY O ok108 (zFf x.At _ (fun f=> !fitF f) (by have:=zCx (qB hx);unfold Ix.wt at this;omega) (fun f hf=>FnPur.of_pur (first:=[]) (cap:=[]) ok109 (cg_fitExpr_1 f (by have:=zCx (qB hx);have:=zCu hf;unfold Ix.wt at *;omega)))) ⟨zB,O,zB,O,T⟩) O<|v O (kK O O O O (fun h=>(lzf h)))<|zA<|zC O (fun c3=>?_) (fun c3=>?_)
   ·have hfx:fitX x=false:=by unfold fitX;rw [←zBg x.At fitF];cases h1:fitF x.Lin<;>cases h2:(x.At.any fun f=> !fitF f)<;>simp [h1,h2] at c3⊢
    refine R O<|G O<|zA<|zM<|zX O ?_
    rw [fitE_eq,all_false hx hfx,Bool.and_false];rfl
   ·have hfx:fitX x=true:=by unfold fitX;rw [←zBg x.At fitF];cases h1:fitF x.Lin<;>cases h2:(x.At.any fun f=> !fitF f)<;>simp [h1,h2] at c3⊢
    refine zH<|zI O<|qD O ⟨by omega,by omega⟩<|G O<|zA ?_
    refine ⟨k+1,⟨by omega,by rw [yG hx,List.all_append,hp];simp [hfx]⟩,(by omega),Weak.mk [false,true] ⟨zB,zB,zB,zB,T⟩ O⟩
  ·try simp only [sx] at c2
   refine qL<|R O<|zN O wH<|zL zAw (A 0 O) O<|qW O ok110 (zFg e.Args _ (fun a=> !fitE a) (by have:=zLa e.Args;omega) (fun a ha=>FnPur.of_pur (first:=[]) (cap:=[]) ok111 (cg_fitExpr_2 a (ih a ha)))) ⟨zB,O,zB,O,T⟩<|wK O<|G O<|zA<|zM<|zX O ?_
   rw [yI (l:=e.Idx) (k:=k) (by omega)] at hp
   have h8:fitF e.Lin=true:=by simpa using c1
   rw [fitE_eq,h8,hp,Bool.true_and,Bool.true_and]
   exact congrArg vB (zBg _ _)
theorem cg_fitExpr (e:Ex) (hw:e.wt<=1000000000):Pur cfg 59 [vE e] (vB (fitE e)):=by
  induction e using Ex.ind with
  |_ e ih=>exact zOw e hw fun a ha=>ih a ha (by have:=kW ha;have:=e.wt_eq;omega)
theorem cg_fitStmts_1 (s:St) (hw:s.wt<=1000000000) (h9:Pur cfg 27 [vSts s.Body] (vB (fitTs s.Body))):
    Pur cfg 58 [vSt s] (vB (!fitT s)):=by
 refine zW Tryz.func58 O Tryz.ntmps58 Tryz.results58 O ?_
 intro z hz
 have hwt:=St.wt_eq s
 have hix:=ixE_wt s
 refine R O<|zU O O (qT O O) ?_
 rintro _ _ ⟨b1,rfl,rfl⟩
 refine G O<|zA<|R O<|zN O zOf<|zL zCa (A 0 O) O<|v O (wS [none,none,none,none,none,none,none,none,none,none,some 2,none,some 13] O zr57 pl57 O O)<|qW O ok59 (cg_fitExpr (ixE s.Idx) (by omega)) ⟨zB,O,T⟩<|wK O<|G O<|rL0 O (fun g1_5=>zJ O zEy O) O<|B 9 O (fun g1_5=>qG O kC O (A 0 O) O) O<|B 10 O (fun g1_5=>qY O ok59 (cg_fitExpr s.E (by omega)) ⟨zB,O,T⟩) O<|B 11 O (fun g1_5=>wR O O) O<|v O (kK O O O O (fun h=>(lzf h)))<|G O<|rL0 O (fun g1_11=>zJ O zDx O) O<|B 15 O (fun g1_11=>zD O zDa O (A 0 O) O) O<|B 16 O (fun g1_11=>qY O ok27 h9 ⟨zB,O,T⟩) O<|B 17 O (fun g1_11=>wR O O) O<|v O (kK O O O O (fun h=>(lzf h)))<|G O<|zA<|zM<|zX O ?_
 rw [fitT_eq,←fit_ixE]
 exact congrArg vB (by cases fitE (ixE s.Idx)<;>cases fitE s.E<;>cases fitTs s.Body<;>rfl)
theorem zFc (l:List St) (hw:stsWt l<=1000000000) (ih:∀s,s∈l->Pur cfg 27 [vSts s.Body] (vB (fitTs s.Body))):
    Pur cfg 27 [vSts l] (vB (fitTs l)):=by
 refine zW Tryz.func27 O Tryz.ntmps27 Tryz.results27 O ?_
 intro z hz
 refine R O<|G O<|zA<|R O<|G O<|qW O ok57 (zFe l _ (fun s=> !fitT s) (by have:=wT l;omega) (fun s hs=>FnPur.of_pur (first:=[]) (cap:=[]) ok58 (cg_fitStmts_1 s (by have:=kY hs;omega) (ih s hs)))) ⟨zB,O,zB,O,T⟩<|wK O<|G O<|zA<|zM<|zX O ?_
 rw [fitTs_eq];exact congrArg vB (zBg _ _)
theorem cg_fitStmts (l:List St) (hw:stsWt l<=1000000000):Pur cfg 27 [vSts l] (vB (fitTs l)):=by
  have key:∀s:St,stsWt s.Body<=1000000000->Pur cfg 27 [vSts s.Body] (vB (fitTs s.Body)):=fun s=>by
    induction s using St.ind with
    |_ s ih=>exact fun hs=>zFc s.Body hs fun a ha=>ih a ha (by have:=kY ha;have:=St.wt_eq a;omega)
  exact zFc l hw fun a ha=>key a (by have:=kY ha;have:=St.wt_eq a;omega)
end Go.W
