/-
  What functions compute.
  Conditions: none.
-/
import Derived.Test.YtdldhbfgfkebjaaGreatDoorHF
set_option linter.unusedSimpArgs false
set_option linter.unusedVariables false
set_option maxRecDepth 10000
namespace Go.W
open Go Go.Eng Go.Proofs Go.L41 Go.Br
attribute [local irreducible] AWP RWP TD fP
theorem zHq (n:Int):(decide (2147483647<n)||decide (n< -2147483647))= !nN n:=by
  unfold nN;rw [Bool.eq_iff_iff];simp
def ixE (l:List Ix):Ex:=.mk 0 (bs []) ⟨0,0⟩ zTy ⟨0,[]⟩ l []
theorem fit_ixE (l:List Ix):lH (ixE l)=l.all lM:=by
  rw [zLp];simp [ixE,hM,nN,Ex.Lin,Ex.Idx,Ex.Args]
theorem ixE_wt (s:St):(ixE s.Idx).wt<=s.wt:=by
  rw [Ex.wt_eq,St.wt_eq];simp only [ixE,Ex.Lin,Ex.Idx,Ex.Args,dK,List.length_nil];omega
theorem ok27:bA Tryz.prog 27=true:=by kernel_rfl
theorem ok57:bA Tryz.prog 57=true:=by kernel_rfl
theorem ok58:bA Tryz.prog 58=true:=by kernel_rfl
theorem ok59:bA Tryz.prog 59=true:=by kernel_rfl
theorem ok106:bA Tryz.prog 106=true:=by kernel_rfl
theorem ok107:bA Tryz.prog 107=true:=by kernel_rfl
theorem ok109:bA Tryz.prog 109=true:=by kernel_rfl
theorem ok110:bA Tryz.prog 110=true:=by kernel_rfl
theorem ok111:bA Tryz.prog 111=true:=by kernel_rfl
theorem ok150:bA Tryz.prog 150=true:=by kernel_rfl
theorem ok152:bA Tryz.prog 152=true:=by kernel_rfl
theorem zLc (l:List Ex) (c:C) (p:Ex->Bool) (hl:l.length<=6000000000000) (hc:∀x,x∈l->FnPur cfg c [vE x] (vB (p x))):
    Pur cfg 152 [vEs l,.c c] (vI (gE p l)):=by
 refine zW Tryz.func152 O Tryz.ntmps152 Tryz.results152 O ?_
 intro z hz
 refine R O<|G O<|zA<|zF<|R O<|G O<|qD O el55<|G O<|zA<|zP<|zU ⟨[(8,.c _),(0,.c _),(1,.c _),(7,.c _)],[]⟩ (Weak.mk [] ⟨zB,zB,zB,zB,T⟩ O)<|qF 1 0 O O (Nat) (fun k=>[(8,vI k)]) (fun k=>[]) (fun k=>k<=l.length/\((l.take k).any p=false)) (fun k=>l.length-k) ⟨0,⟨by omega,O⟩,Weak.mk [] ⟨zB,zB,zB,zB,T⟩ O⟩ ?_
 rintro k ⟨hk,hp⟩
 refine R O<|yC O<|zA<|zF<|zD O (fun c1=>?_) (fun c1=>?_)
 ·try simp only [sx] at c1
  obtain ⟨x,hx⟩:=qU l k (by omega)
  refine zI<|zF<|zP<|R O<|G O<|G O<|zA<|R O<|G O<|G O<|G O<|zY O el55 (by omega) (wF (by assumption))<|zQ yN zO O<|zZ O (wK O O (hc _ (qE hx)) ⟨zB,O,T⟩)<|zA<|zD O (fun c2=>?_) (fun c2=>?_)
  ·exact k8
  ·exact r6
 ·exact m7
theorem zIi (l:List Ex) (c:C) (p:Ex->Bool) (hl:l.length<=6000000000000) (hc:∀x,x∈l->FnPur cfg c [vE x] (vB (p x))):
    Pur cfg 110 [vEs l,.c c] (vB (l.any p)):=by
 refine zW Tryz.func110 O Tryz.ntmps110 Tryz.results110 O ?_
 intro z hz
 refine R O<|G O<|zA<|R O<|G O<|G O<|qS O ok152 (zLc l c p hl hc) ⟨zB,O,zB,O,T⟩<|zZ O (kY O O O)<|G O<|zA<|zN<|zV O ?_
 rw [zDi]
theorem zKz (l:List St) (c:C) (p:St->Bool) (hl:l.length<=6000000000000) (hc:∀x,x∈l->FnPur cfg c [vSt x] (vB (p x))):
    Pur cfg 106 [dM l,.c c] (vI (gE p l)):=by
 refine zW Tryz.func106 O Tryz.ntmps106 Tryz.results106 O ?_
 intro z hz
 refine R O<|G O<|zA<|zF<|R O<|G O<|qD O el23<|G O<|zA<|zP<|zU ⟨[(8,.c _),(0,.c _),(1,.c _),(7,.c _)],[]⟩ (Weak.mk [] ⟨zB,zB,zB,zB,T⟩ O)<|qF 1 0 O O (Nat) (fun k=>[(8,vI k)]) (fun k=>[]) (fun k=>k<=l.length/\((l.take k).any p=false)) (fun k=>l.length-k) ⟨0,⟨by omega,O⟩,Weak.mk [] ⟨zB,zB,zB,zB,T⟩ O⟩ ?_
 rintro k ⟨hk,hp⟩
 refine R O<|yC O<|zA<|zF<|zD O (fun c1=>?_) (fun c1=>?_)
 ·try simp only [sx] at c1
  obtain ⟨x,hx⟩:=qU l k (by omega)
  refine zI<|zF<|zP<|R O<|G O<|G O<|zA<|R O<|G O<|G O<|G O<|zY O el23 (by omega) (zCc (by assumption))<|zQ zEi zO O<|zZ O (wK O O (hc _ (qE hx)) ⟨zB,O,T⟩)<|zA<|zD O (fun c2=>?_) (fun c2=>?_)
  ·exact k8
  ·exact r6
 ·exact m7
theorem zIg (l:List St) (c:C) (p:St->Bool) (hl:l.length<=6000000000000) (hc:∀x,x∈l->FnPur cfg c [vSt x] (vB (p x))):
    Pur cfg 57 [dM l,.c c] (vB (l.any p)):=by
 refine zW Tryz.func57 O Tryz.ntmps57 Tryz.results57 O ?_
 intro z hz
 refine R O<|G O<|zA<|R O<|G O<|G O<|qS O ok106 (zKz l c p hl hc) ⟨zB,O,zB,O,T⟩<|zZ O (kY O O O)<|G O<|zA<|zN<|zV O ?_
 rw [zDi]
theorem zLa (l:List Lf) (c:C) (p:Lf->Bool) (hl:l.length<=6000000000000) (hc:∀x,x∈l->FnPur cfg c [jU x] (vB (p x))):
    Pur cfg 151 [nQ l,.c c] (vI (gE p l)):=by
 refine zW Tryz.func151 O Tryz.ntmps151 Tryz.results151 O ?_
 intro z hz
 refine R O<|G O<|zA<|zF<|R O<|G O<|qD O zAk<|G O<|zA<|zP<|zU ⟨[(8,.c _),(0,.c _),(1,.c _),(7,.c _)],[]⟩ (Weak.mk [] ⟨zB,zB,zB,zB,T⟩ O)<|qF 1 0 O O (Nat) (fun k=>[(8,vI k)]) (fun k=>[]) (fun k=>k<=l.length/\((l.take k).any p=false)) (fun k=>l.length-k) ⟨0,⟨by omega,O⟩,Weak.mk [] ⟨zB,zB,zB,zB,T⟩ O⟩ ?_
 rintro k ⟨hk,hp⟩
 refine R O<|yC O<|zA<|zF<|zD O (fun c1=>?_) (fun c1=>?_)
 ·try simp only [sx] at c1
  obtain ⟨x,hx⟩:=qU l k (by omega)
  refine zI<|zF<|zP<|R O<|G O<|G O<|zA<|R O<|G O<|G O<|G O<|zY O zAk (by omega) (v (by assumption))<|zQ zAj zO O<|zZ O (wK O O (hc _ (qE hx)) ⟨zB,O,T⟩)<|zA<|zD O (fun c2=>?_) (fun c2=>?_)
  ·exact k8
  ·exact r6
 ·exact m7
theorem zIh (l:List Lf) (c:C) (p:Lf->Bool) (hl:l.length<=6000000000000) (hc:∀x,x∈l->FnPur cfg c [jU x] (vB (p x))):
    Pur cfg 108 [nQ l,.c c] (vB (l.any p)):=by
 refine zW Tryz.func108 O Tryz.ntmps108 Tryz.results108 O ?_
 intro z hz
 refine R O<|G O<|zA<|R O<|G O<|G O<|qS O ok151 (zLa l c p hl hc) ⟨zB,O,zB,O,T⟩<|zZ O (kY O O O)<|G O<|zA<|zN<|zV O ?_
 rw [zDi]
theorem cg_fits_1 (m:Mono):
    Pur cfg 150 [mZ m] (vB (!nN m.By)):=by
 refine zW Tryz.func150 O Tryz.ntmps150 Tryz.results150 O ?_
 intro z hz
 refine R O<|zS O O (qP O O) ?_
 rintro _ _ ⟨b1,rfl,rfl⟩
 refine G O<|zA<|R O<|zJ O zFz<|zE one2 (A 0 O) O<|zZ O (yH O O O)<|G O<|rL0 O (fun g1_3=>zH O zFz O) O<|B 7 O (fun g1_3=>zC O one2 O (A 0 O) O) O<|B 8 O (fun g1_3=>kM O O O) O<|r_or O (fun h=>(lzf h))<|G O<|zA<|zN<|zV O ?_
 exact congrArg vB (zHq m.By)
theorem cg_fits (f:Lf) (hl:f.L.length<=6000000000000):
    Pur cfg 107 [jU f] (vB (hM f)):=by
 refine zW Tryz.func107 O Tryz.ntmps107 Tryz.results107 O ?_
 intro z hz
 refine R O<|zS O O (qP O O) ?_
 rintro _ _ ⟨b1,rfl,rfl⟩
 refine G O<|zA<|zF<|R O<|zJ O zFp<|zE one2 (A 0 O) O<|zZ O (yH O O O)<|G O<|rL0 O (fun g1_3=>zH O zFp O) O<|B 7 O (fun g1_3=>zC O one2 O (A 0 O) O) O<|B 8 O (fun g1_3=>kM O O O) O<|r_or O (fun h=>(lzf h))<|zA<|zD O (fun c1=>?_) (fun c1=>?_)
 ·refine R O<|G O<|zA<|zN<|zV O ?_
  have h9:=(zHq f.K).symm.trans c1
  have h8:nN f.K=false:=by simpa using h9
  unfold hM;rw [h8];rfl
 ·refine zI<|R O<|zJ O zAg<|zE zCj (A 0 O) O<|qS O ok149 (zGe f.L _ (fun m=> !nN m.By) hl (fun m _=>FnPur.of_pur (first:=[]) (cap:=[]) ok150 (cg_fits_1 m))) ⟨zB,O,zB,O,T⟩<|wE O<|G O<|zA<|zN<|zV O ?_
  have h9:=(zHq f.K).symm.trans c1
  have h8:nN f.K=true:=by simpa using h9
  unfold hM;rw [h8,Bool.true_and];exact congrArg vB (zCl _ _)
theorem cg_fitExpr_1 (f:Lf) (hl:f.L.length<=6000000000000):
    Pur cfg 109 [jU f] (vB (!hM f)):=by
 refine zW Tryz.func109 O Tryz.ntmps109 Tryz.results109 O ?_
 intro z hz
 refine R O<|zS O O (qP O O) ?_
 rintro _ _ ⟨b1,rfl,rfl⟩
 refine G O<|zA<|R O<|zQ zAj (A 0 O) O<|qS O ok107 (cg_fits f hl) ⟨zB,O,T⟩<|wE O<|G O<|zA<|zN<|zV O ?_
 exact O
theorem cg_fitExpr_2 (e:Ex) (h9:Pur cfg 59 [vE e] (vB (lH e))):
    Pur cfg 111 [vE e] (vB (!lH e)):=by
 refine zW Tryz.func111 O Tryz.ntmps111 Tryz.results111 O ?_
 intro z hz
 refine R O<|zS O O (qP O O) ?_
 rintro _ _ ⟨b1,rfl,rfl⟩
 refine G O<|zA<|R O<|zQ yN (A 0 O) O<|qS O ok59 h9 ⟨zB,O,T⟩<|wE O<|G O<|zA<|zN<|zV O ?_
 exact O
theorem zFc {α:Type} {l:List α} {p:α->Bool} {k:Nat} {x:α} (h:l[k]? =some x) (hp:p x=false):l.all p=false:=by
  cases c:l.all p with
  |false=>rfl
  |true=>rw [List.all_eq_true.1 c x (qE h)] at hp;cases hp
theorem zUe (e:Ex) (hw:e.wt<=1000000000) (ih:∀a,a∈e.Args->Pur cfg 59 [vE a] (vB (lH a))):
    Pur cfg 59 [vE e] (vB (lH e)):=by
 refine zW Tryz.func59 O Tryz.ntmps59 Tryz.results59 O ?_
 intro z hz
 have hwt:=e.wt_eq
 refine R O<|zS O O (qP O O) ?_
 rintro _ _ ⟨b1,rfl,rfl⟩
 refine G O<|zA<|zF<|R O<|zJ O zEd<|zQ zAj (A 0 O) O<|qS O ok107 (cg_fits e.Lin (by omega)) ⟨zB,O,T⟩<|wE O<|zA<|zD O (fun c1=>?_) (fun c1=>?_)
 ·try simp only [sx] at c1
  refine R O<|G O<|zA<|zN<|zV O ?_
  rw [zLp]
  have h8:hM e.Lin=false:=by simpa using c1
  rw [h8];rfl
 ·try simp only [sx] at c1
  refine zI<|zF<|R O<|zJ O kQ<|zE wI (A 0 O) O<|qD O el51<|G O<|zA<|zP<|zU ⟨[(12,.c _),(1,.c _),(10,.c _),(11,.c _)],[_]⟩ (Weak.mk [true] ⟨zB,zB,zB,zB,T⟩ O)<|qF 1 0 O O (Nat) (fun k=>[(12,vI k)]) (fun k=>[]) (fun k=>k<=e.Idx.length/\((e.Idx.take k).all lM=true)) (fun k=>e.Idx.length-k) ⟨0,⟨by omega,O⟩,Weak.mk [true] ⟨zB,zB,zB,zB,T⟩ O⟩ ?_
  rintro k ⟨hk,hp⟩
  refine R O<|yC O<|zA<|zF<|zD O (fun c2=>?_) (fun c2=>?_)
  ·try simp only [sx] at c2
   obtain ⟨x,hx⟩:=qU e.Idx k (by omega)
   refine zI<|zF<|zP<|R O<|zY O el51 (by omega) (v (by assumption))<|zQ zCr zO O<|zS O O (qQ [none,some 2,none,some 2] O zKx O) ?_
   rintro _ _ ⟨b2,rfl,rfl⟩
   refine Y 0 zOd O<|zA<|R O<|zJ O zBx<|zQ zAj (A 0 O) O<|qS O ok107 (cg_fits x.Lin (by have:=zBa (qE hx);unfold Ix.wt at this;omega)) ⟨zB,O,T⟩<|wE O<|G O<|rL0 O (fun g6_4=>zH O wU O) O<|B 21 O (fun g6_4=>zC O zAx O (A 0 O) O) O<|B 22 O (fun g6_4=>qR O ok108 (zIh x.At _ (fun f=> !hM f) (by have:=zBa (qE hx);unfold Ix.wt at this;omega) (fun f hf=>FnPur.of_pur (first:=[]) (cap:=[]) ok109 (cg_fitExpr_1 f (by have:=zBa (qE hx);have:=zAy hf;unfold Ix.wt at *;omega)))) ⟨zB,O,zB,O,T⟩) O<|r_or O (fun h=>(lzf h))<|zA<|zD O (fun c3=>?_) (fun c3=>?_)
   ·have hfx:lM x=false:=by unfold lM;rw [←zCl x.At hM];cases h1:hM x.Lin<;>cases h2:(x.At.any fun f=> !hM f)<;>simp [h1,h2] at c3⊢
    refine R O<|G O<|zA<|zN<|zV O ?_
    rw [zLp,zFc hx hfx,Bool.and_false];rfl
   ·have hfx:lM x=true:=by unfold lM;rw [←zCl x.At hM];cases h1:hM x.Lin<;>cases h2:(x.At.any fun f=> !hM f)<;>simp [h1,h2] at c3⊢
    refine zI<|zK O<|qA O ⟨by omega,by omega⟩<|G O<|zA ?_
    refine ⟨k+1,⟨by omega,by rw [yD hx,List.all_append,hp];simp [hfx]⟩,(by omega),Weak.mk [false,true] ⟨zB,zB,zB,zB,T⟩ O⟩
  ·try simp only [sx] at c2
   refine qK<|R O<|zJ O yU<|zE kW (A 0 O) O<|qS O ok110 (zIi e.Args _ (fun a=> !lH a) (by have:=zGx e.Args;omega) (fun a ha=>FnPur.of_pur (first:=[]) (cap:=[]) ok111 (cg_fitExpr_2 a (ih a ha)))) ⟨zB,O,zB,O,T⟩<|wE O<|G O<|zA<|zN<|zV O ?_
   rw [qX (l:=e.Idx) (k:=k) (by omega)] at hp
   have h8:hM e.Lin=true:=by simpa using c1
   rw [zLp,h8,hp,Bool.true_and,Bool.true_and]
   exact congrArg vB (zCl _ _)
theorem cg_fitExpr (e:Ex) (hw:e.wt<=1000000000):Pur cfg 59 [vE e] (vB (lH e)):=by
  induction e using Ex.ind with
  |_ e ih=>exact zUe e hw fun a ha=>ih a ha (by have:=kF ha;have:=e.wt_eq;omega)
theorem cg_fitStmts_1 (s:St) (hw:s.wt<=1000000000) (h9:Pur cfg 27 [dM s.Body] (vB (gA s.Body))):
    Pur cfg 58 [vSt s] (vB (!sE s)):=by
 refine zW Tryz.func58 O Tryz.ntmps58 Tryz.results58 O ?_
 intro z hz
 have hwt:=St.wt_eq s
 have hix:=ixE_wt s
 refine R O<|zS O O (qP O O) ?_
 rintro _ _ ⟨b1,rfl,rfl⟩
 refine G O<|zA<|R O<|zJ O zEz<|zE wI (A 0 O) O<|zZ O (kT [none,none,none,none,none,none,none,none,none,none,some 2,none,some 13] O zr57 pl57 O O)<|qS O ok59 (cg_fitExpr (ixE s.Idx) (by omega)) ⟨zB,O,T⟩<|wE O<|G O<|rL0 O (fun g1_5=>zH O zBi O) O<|B 9 O (fun g1_5=>qC O yN O (A 0 O) O) O<|B 10 O (fun g1_5=>qR O ok59 (cg_fitExpr s.E (by omega)) ⟨zB,O,T⟩) O<|B 11 O (fun g1_5=>wJ O O) O<|r_or O (fun h=>(lzf h))<|G O<|rL0 O (fun g1_11=>zH O zBb O) O<|B 15 O (fun g1_11=>zC O zAh O (A 0 O) O) O<|B 16 O (fun g1_11=>qR O ok27 h9 ⟨zB,O,T⟩) O<|B 17 O (fun g1_11=>wJ O O) O<|r_or O (fun h=>(lzf h))<|G O<|zA<|zN<|zV O ?_
 rw [fitT_eq,←fit_ixE]
 exact congrArg vB (by cases lH (ixE s.Idx)<;>cases lH s.E<;>cases gA s.Body<;>rfl)
theorem zIe (l:List St) (hw:bE l<=1000000000) (ih:∀s,s∈l->Pur cfg 27 [dM s.Body] (vB (gA s.Body))):
    Pur cfg 27 [dM l] (vB (gA l)):=by
 refine zW Tryz.func27 O Tryz.ntmps27 Tryz.results27 O ?_
 intro z hz
 refine R O<|G O<|zA<|R O<|G O<|qS O ok57 (zIg l _ (fun s=> !sE s) (by have:=wH l;omega) (fun s hs=>FnPur.of_pur (first:=[]) (cap:=[]) ok58 (cg_fitStmts_1 s (by have:=kC hs;omega) (ih s hs)))) ⟨zB,O,zB,O,T⟩<|wE O<|G O<|zA<|zN<|zV O ?_
 rw [fitTs_eq];exact congrArg vB (zCl _ _)
theorem cg_fitStmts (l:List St) (hw:bE l<=1000000000):Pur cfg 27 [dM l] (vB (gA l)):=by
  have key:∀s:St,bE s.Body<=1000000000->Pur cfg 27 [dM s.Body] (vB (gA s.Body)):=fun s=>by
    induction s using St.ind with
    |_ s ih=>exact fun hs=>zIe s.Body hs fun a ha=>ih a ha (by have:=kC ha;have:=St.wt_eq a;omega)
  exact zIe l hw fun a ha=>key a (by have:=kC ha;have:=St.wt_eq a;omega)
end Go.W
