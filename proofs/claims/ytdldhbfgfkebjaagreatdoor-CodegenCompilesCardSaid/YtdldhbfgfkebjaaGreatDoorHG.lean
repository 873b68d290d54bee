/-
  What functions compute.
  Conditions: none.
-/
import Derived.Test.YtdldhbfgfkebjaaGreatDoorHF
set_option linter.unusedSimpArgs false
set_option linter.unusedVariables false
set_option maxRecDepth 10000
namespace Go.W
open Go Go.Eng Go.Proofs Go.L41 Go.Br
attribute [local irreducible] AWP RWP TD fT
theorem zHl (n:Int):(decide (2147483647<n)||decide (n< -2147483647))= !nN n:=by
  unfold nN;rw [Bool.eq_iff_iff];simp
def ixE (l:List Ix):Ex:=.mk 0 (bs []) ⟨0,0⟩ zTy ⟨0,[]⟩ l []
theorem fit_ixE (l:List Ix):lH (ixE l)=l.all lM:=by
  rw [zLi];simp [ixE,hM,nN,Ex.Lin,Ex.Idx,Ex.Args]
theorem ixE_wt (s:St):(ixE s.Idx).wt<=s.wt:=by
  rw [Ex.wt_eq,St.wt_eq];simp only [ixE,Ex.Lin,Ex.Idx,Ex.Args,dM,List.length_nil];omega
theorem ok27:bA Tryz.prog 27=true:=by kernel_rfl
theorem ok57:bA Tryz.prog 57=true:=by kernel_rfl
theorem ok58:bA Tryz.prog 58=true:=by kernel_rfl
theorem ok59:bA Tryz.prog 59=true:=by kernel_rfl
theorem ok106:bA Tryz.prog 106=true:=by kernel_rfl
theorem ok107:bA Tryz.prog 107=true:=by kernel_rfl
theorem ok109:bA Tryz.prog 109=true:=by kernel_rfl
theorem ok110:bA Tryz.prog 110=true:=by kernel_rfl
theorem ok111:bA Tryz.prog 111=true:=by kernel_rfl
theorem ok150:bA Tryz.prog 150=true:=by kernel_rfl
theorem ok152:bA Tryz.prog 152=true:=by kernel_rfl
theorem zKu (l:List Ex) (c:C) (p:Ex->Bool) (hl:l.length<=6000000000000) (hc:∀x,x∈l->FnPur cfg c [vE x] (vB (p x))):
    Pur cfg 152 [vEs l,.c c] (vI (gE p l)):=by
 refine zW Tryz.func152 O Tryz.ntmps152 Tryz.results152 O ?_
 intro z hz
 refine R O<|G O<|zA<|zE<|R O<|G O<|qC O el55<|G O<|zA<|zP<|zU ⟨[(8,.c _),(0,.c _),(1,.c _),(7,.c _)],[]⟩ (Weak.mk [] ⟨zB,zB,zB,zB,T⟩ O)<|qF 1 0 O O (Nat) (fun k=>[(8,vI k)]) (fun k=>[]) (fun k=>k<=l.length/\((l.take k).any p=false)) (fun k=>l.length-k) ⟨0,⟨by omega,O⟩,Weak.mk [] ⟨zB,zB,zB,zB,T⟩ O⟩ ?_
 rintro k ⟨hk,hp⟩
 refine R O<|yC O<|zA<|zE<|zC O (fun c1=>?_) (fun c1=>?_)
 ·try simp only [sx] at c1
  obtain ⟨x,hx⟩:=qU l k (by omega)
  refine zI<|zE<|zP<|R O<|G O<|G O<|zA<|R O<|G O<|G O<|G O<|zX O el55 (by omega) (wF (by assumption))<|zQ yM Y O<|zZ O (wH O O (hc _ (qE hx)) ⟨zB,O,T⟩)<|zA<|zC O (fun c2=>?_) (fun c2=>?_)
  ·exact k8
  ·exact r6
 ·exact m7
theorem zIc (l:List Ex) (c:C) (p:Ex->Bool) (hl:l.length<=6000000000000) (hc:∀x,x∈l->FnPur cfg c [vE x] (vB (p x))):
    Pur cfg 110 [vEs l,.c c] (vB (l.any p)):=by
 refine zW Tryz.func110 O Tryz.ntmps110 Tryz.results110 O ?_
 intro z hz
 refine R O<|G O<|zA<|R O<|G O<|G O<|qS O ok152 (zKu l c p hl hc) ⟨zB,O,zB,O,T⟩<|zZ O (kU O O O)<|G O<|zA<|zN<|zV O ?_
 rw [zDe]
theorem zKr (l:List St) (c:C) (p:St->Bool) (hl:l.length<=6000000000000) (hc:∀x,x∈l->FnPur cfg c [vSt x] (vB (p x))):
    Pur cfg 106 [dS l,.c c] (vI (gE p l)):=by
 refine zW Tryz.func106 O Tryz.ntmps106 Tryz.results106 O ?_
 intro z hz
 refine R O<|G O<|zA<|zE<|R O<|G O<|qC O el23<|G O<|zA<|zP<|zU ⟨[(8,.c _),(0,.c _),(1,.c _),(7,.c _)],[]⟩ (Weak.mk [] ⟨zB,zB,zB,zB,T⟩ O)<|qF 1 0 O O (Nat) (fun k=>[(8,vI k)]) (fun k=>[]) (fun k=>k<=l.length/\((l.take k).any p=false)) (fun k=>l.length-k) ⟨0,⟨by omega,O⟩,Weak.mk [] ⟨zB,zB,zB,zB,T⟩ O⟩ ?_
 rintro k ⟨hk,hp⟩
 refine R O<|yC O<|zA<|zE<|zC O (fun c1=>?_) (fun c1=>?_)
 ·try simp only [sx] at c1
  obtain ⟨x,hx⟩:=qU l k (by omega)
  refine zI<|zE<|zP<|R O<|G O<|G O<|zA<|R O<|G O<|G O<|G O<|zX O el23 (by omega) (zCy (by assumption))<|zQ zEz Y O<|zZ O (wH O O (hc _ (qE hx)) ⟨zB,O,T⟩)<|zA<|zC O (fun c2=>?_) (fun c2=>?_)
  ·exact k8
  ·exact r6
 ·exact m7
theorem zIa (l:List St) (c:C) (p:St->Bool) (hl:l.length<=6000000000000) (hc:∀x,x∈l->FnPur cfg c [vSt x] (vB (p x))):
    Pur cfg 57 [dS l,.c c] (vB (l.any p)):=by
 refine zW Tryz.func57 O Tryz.ntmps57 Tryz.results57 O ?_
 intro z hz
 refine R O<|G O<|zA<|R O<|G O<|G O<|qS O ok106 (zKr l c p hl hc) ⟨zB,O,zB,O,T⟩<|zZ O (kU O O O)<|G O<|zA<|zN<|zV O ?_
 rw [zDe]
theorem zKs (l:List Lf) (c:C) (p:Lf->Bool) (hl:l.length<=6000000000000) (hc:∀x,x∈l->FnPur cfg c [jZ x] (vB (p x))):
    Pur cfg 151 [nQ l,.c c] (vI (gE p l)):=by
 refine zW Tryz.func151 O Tryz.ntmps151 Tryz.results151 O ?_
 intro z hz
 refine R O<|G O<|zA<|zE<|R O<|G O<|qC O zAq<|G O<|zA<|zP<|zU ⟨[(8,.c _),(0,.c _),(1,.c _),(7,.c _)],[]⟩ (Weak.mk [] ⟨zB,zB,zB,zB,T⟩ O)<|qF 1 0 O O (Nat) (fun k=>[(8,vI k)]) (fun k=>[]) (fun k=>k<=l.length/\((l.take k).any p=false)) (fun k=>l.length-k) ⟨0,⟨by omega,O⟩,Weak.mk [] ⟨zB,zB,zB,zB,T⟩ O⟩ ?_
 rintro k ⟨hk,hp⟩
 refine R O<|yC O<|zA<|zE<|zC O (fun c1=>?_) (fun c1=>?_)
 ·try simp only [sx] at c1
  obtain ⟨x,hx⟩:=qU l k (by omega)
  refine zI<|zE<|zP<|R O<|G O<|G O<|zA<|R O<|G O<|G O<|G O<|zX O zAq (by omega) (N (by assumption))<|zQ zAn Y O<|zZ O (wH O O (hc _ (qE hx)) ⟨zB,O,T⟩)<|zA<|zC O (fun c2=>?_) (fun c2=>?_)
  ·exact k8
  ·exact r6
 ·exact m7
theorem zIb (l:List Lf) (c:C) (p:Lf->Bool) (hl:l.length<=6000000000000) (hc:∀x,x∈l->FnPur cfg c [jZ x] (vB (p x))):
    Pur cfg 108 [nQ l,.c c] (vB (l.any p)):=by
 refine zW Tryz.func108 O Tryz.ntmps108 Tryz.results108 O ?_
 intro z hz
 refine R O<|G O<|zA<|R O<|G O<|G O<|qS O ok151 (zKs l c p hl hc) ⟨zB,O,zB,O,T⟩<|zZ O (kU O O O)<|G O<|zA<|zN<|zV O ?_
 rw [zDe]
theorem cg_fits_1 (m:Mono):
    Pur cfg 150 [mZ m] (vB (!nN m.By)):=by
 refine zW Tryz.func150 O Tryz.ntmps150 Tryz.results150 O ?_
 intro z hz
 refine R O<|zT O O (qP O O) ?_
 rintro _ _ ⟨b1,rfl,rfl⟩
 refine G O<|zA<|R O<|zM O zFv<|zF one2 (A 0 O) O<|zZ O (yH O O O)<|G O<|rL0 O (fun g1_3=>zG O zFv O) O<|B 7 O (fun g1_3=>zD O one2 O (A 0 O) O) O<|B 8 O (fun g1_3=>kL O O O) O<|r_or O (fun h=>(lzf h))<|G O<|zA<|zN<|zV O ?_
 exact congrArg vB (zHl m.By)
theorem cg_fits (f:Lf) (hl:f.L.length<=6000000000000):
    Pur cfg 107 [jZ f] (vB (hM f)):=by
 refine zW Tryz.func107 O Tryz.ntmps107 Tryz.results107 O ?_
 intro z hz
 refine R O<|zT O O (qP O O) ?_
 rintro _ _ ⟨b1,rfl,rfl⟩
 refine G O<|zA<|zE<|R O<|zM O zGl<|zF one2 (A 0 O) O<|zZ O (yH O O O)<|G O<|rL0 O (fun g1_3=>zG O zGl O) O<|B 7 O (fun g1_3=>zD O one2 O (A 0 O) O) O<|B 8 O (fun g1_3=>kL O O O) O<|r_or O (fun h=>(lzf h))<|zA<|zC O (fun c1=>?_) (fun c1=>?_)
 ·refine R O<|G O<|zA<|zN<|zV O ?_
  have h9:=(zHl f.K).symm.trans c1
  have h8:nN f.K=false:=by simpa using h9
  unfold hM;rw [h8];rfl
 ·refine zI<|R O<|zM O zAh<|zF zCs (A 0 O) O<|qS O ok149 (zGa f.L _ (fun m=> !nN m.By) hl (fun m _=>FnPur.of_pur (first:=[]) (cap:=[]) ok150 (cg_fits_1 m))) ⟨zB,O,zB,O,T⟩<|wD O<|G O<|zA<|zN<|zV O ?_
  have h9:=(zHl f.K).symm.trans c1
  have h8:nN f.K=true:=by simpa using h9
  unfold hM;rw [h8,Bool.true_and];exact congrArg vB (zCi _ _)
theorem cg_fitExpr_1 (f:Lf) (hl:f.L.length<=6000000000000):
    Pur cfg 109 [jZ f] (vB (!hM f)):=by
 refine zW Tryz.func109 O Tryz.ntmps109 Tryz.results109 O ?_
 intro z hz
 refine R O<|zT O O (qP O O) ?_
 rintro _ _ ⟨b1,rfl,rfl⟩
 refine G O<|zA<|R O<|zQ zAn (A 0 O) O<|qS O ok107 (cg_fits f hl) ⟨zB,O,T⟩<|wD O<|G O<|zA<|zN<|zV O ?_
 exact O
theorem cg_fitExpr_2 (e:Ex) (h9:Pur cfg 59 [vE e] (vB (lH e))):
    Pur cfg 111 [vE e] (vB (!lH e)):=by
 refine zW Tryz.func111 O Tryz.ntmps111 Tryz.results111 O ?_
 intro z hz
 refine R O<|zT O O (qP O O) ?_
 rintro _ _ ⟨b1,rfl,rfl⟩
 refine G O<|zA<|R O<|zQ yM (A 0 O) O<|qS O ok59 h9 ⟨zB,O,T⟩<|wD O<|G O<|zA<|zN<|zV O ?_
 exact O
theorem zEw {α:Type} {l:List α} {p:α->Bool} {k:Nat} {x:α} (h:l[k]? =some x) (hp:p x=false):l.all p=false:=by
  cases c:l.all p with
  |false=>rfl
  |true=>rw [List.all_eq_true.1 c x (qE h)] at hp;cases hp
theorem zUa (e:Ex) (hw:e.wt<=1000000000) (ih:∀a,a∈e.Args->Pur cfg 59 [vE a] (vB (lH a))):
    Pur cfg 59 [vE e] (vB (lH e)):=by
 refine zW Tryz.func59 O Tryz.ntmps59 Tryz.results59 O ?_
 intro z hz
 have hwt:=e.wt_eq
 refine R O<|zT O O (qP O O) ?_
 rintro _ _ ⟨b1,rfl,rfl⟩
 refine G O<|zA<|zE<|R O<|zM O zEg<|zQ zAn (A 0 O) O<|qS O ok107 (cg_fits e.Lin (by omega)) ⟨zB,O,T⟩<|wD O<|zA<|zC O (fun c1=>?_) (fun c1=>?_)
 ·try simp only [sx] at c1
  refine R O<|G O<|zA<|zN<|zV O ?_
  rw [zLi]
  have h8:hM e.Lin=false:=by simpa using c1
  rw [h8];rfl
 ·try simp only [sx] at c1
  refine zI<|zE<|R O<|zM O kX<|zF wM (A 0 O) O<|qC O el51<|G O<|zA<|zP<|zU ⟨[(12,.c _),(1,.c _),(10,.c _),(11,.c _)],[_]⟩ (Weak.mk [true] ⟨zB,zB,zB,zB,T⟩ O)<|qF 1 0 O O (Nat) (fun k=>[(12,vI k)]) (fun k=>[]) (fun k=>k<=e.Idx.length/\((e.Idx.take k).all lM=true)) (fun k=>e.Idx.length-k) ⟨0,⟨by omega,O⟩,Weak.mk [true] ⟨zB,zB,zB,zB,T⟩ O⟩ ?_
  rintro k ⟨hk,hp⟩
  refine R O<|yC O<|zA<|zE<|zC O (fun c2=>?_) (fun c2=>?_)
  ·try simp only [sx] at c2
   obtain ⟨x,hx⟩:=qU e.Idx k (by omega)
   refine zI<|zE<|zP<|R O<|zX O el51 (by omega) (N (by assumption))<|zQ zCw Y O<|zT O O (qQ [none,some 2,none,some 2] O zPv O) ?_
   rintro _ _ ⟨b2,rfl,rfl⟩
   refine D 0 zPw O<|zA<|R O<|zM O zCg<|zQ zAn (A 0 O) O<|qS O ok107 (cg_fits x.Lin (by have:=zAx (qE hx);unfold Ix.wt at this;omega)) ⟨zB,O,T⟩<|wD O<|G O<|rL0 O (fun g6_4=>zG O zAf O) O<|B 21 O (fun g6_4=>zD O zBn O (A 0 O) O) O<|B 22 O (fun g6_4=>qR O ok108 (zIb x.At _ (fun f=> !hM f) (by have:=zAx (qE hx);unfold Ix.wt at this;omega) (fun f hf=>FnPur.of_pur (first:=[]) (cap:=[]) ok109 (cg_fitExpr_1 f (by have:=zAx (qE hx);have:=zBg hf;unfold Ix.wt at *;omega)))) ⟨zB,O,zB,O,T⟩) O<|r_or O (fun h=>(lzf h))<|zA<|zC O (fun c3=>?_) (fun c3=>?_)
   ·have hfx:lM x=false:=by unfold lM;rw [←zCi x.At hM];cases h1:hM x.Lin<;>cases h2:(x.At.any fun f=> !hM f)<;>simp [h1,h2] at c3⊢
    refine R O<|G O<|zA<|zN<|zV O ?_
    rw [zLi,zEw hx hfx,Bool.and_false];rfl
   ·have hfx:lM x=true:=by unfold lM;rw [←zCi x.At hM];cases h1:hM x.Lin<;>cases h2:(x.At.any fun f=> !hM f)<;>simp [h1,h2] at c3⊢
    refine zI<|zJ O<|qB O ⟨by omega,by omega⟩<|G O<|zA ?_
    refine ⟨k+1,⟨by omega,by rw [yE hx,List.all_append,hp];simp [hfx]⟩,(by omega),Weak.mk [false,true] ⟨zB,zB,zB,zB,T⟩ O⟩
  ·try simp only [sx] at c2
   refine qK<|R O<|zM O yW<|zF kW (A 0 O) O<|qS O ok110 (zIc e.Args _ (fun a=> !lH a) (by have:=zGt e.Args;omega) (fun a ha=>FnPur.of_pur (first:=[]) (cap:=[]) ok111 (cg_fitExpr_2 a (ih a ha)))) ⟨zB,O,zB,O,T⟩<|wD O<|G O<|zA<|zN<|zV O ?_
   rw [qZ (l:=e.Idx) (k:=k) (by omega)] at hp
   have h8:hM e.Lin=true:=by simpa using c1
   rw [zLi,h8,hp,Bool.true_and,Bool.true_and]
   exact congrArg vB (zCi _ _)
theorem cg_fitExpr (e:Ex) (hw:e.wt<=1000000000):Pur cfg 59 [vE e] (vB (lH e)):=by
  induction e using Ex.ind with
  |_ e ih=>exact zUa e hw fun a ha=>ih a ha (by have:=kC ha;have:=e.wt_eq;omega)
theorem cg_fitStmts_1 (s:St) (hw:s.wt<=1000000000) (h9:Pur cfg 27 [dS s.Body] (vB (gA s.Body))):
    Pur cfg 58 [vSt s] (vB (!sC s)):=by
 refine zW Tryz.func58 O Tryz.ntmps58 Tryz.results58 O ?_
 intro z hz
 have hwt:=St.wt_eq s
 have hix:=ixE_wt s
 refine R O<|zT O O (qP O O) ?_
 rintro _ _ ⟨b1,rfl,rfl⟩
 refine G O<|zA<|R O<|zM O zGk<|zF wM (A 0 O) O<|zZ O (kS [none,none,none,none,none,none,none,none,none,none,some 2,none,some 13] O zr57 pl57 O O)<|qS O ok59 (cg_fitExpr (ixE s.Idx) (by omega)) ⟨zB,O,T⟩<|wD O<|G O<|rL0 O (fun g1_5=>zG O zBu O) O<|B 9 O (fun g1_5=>qD O yM O (A 0 O) O) O<|B 10 O (fun g1_5=>qR O ok59 (cg_fitExpr s.E (by omega)) ⟨zB,O,T⟩) O<|B 11 O (fun g1_5=>wG O O) O<|r_or O (fun h=>(lzf h))<|G O<|rL0 O (fun g1_11=>zG O zBe O) O<|B 15 O (fun g1_11=>zD O zAj O (A 0 O) O) O<|B 16 O (fun g1_11=>qR O ok27 h9 ⟨zB,O,T⟩) O<|B 17 O (fun g1_11=>wG O O) O<|r_or O (fun h=>(lzf h))<|G O<|zA<|zN<|zV O ?_
 rw [fitT_eq,←fit_ixE]
 exact congrArg vB (by cases lH (ixE s.Idx)<;>cases lH s.E<;>cases gA s.Body<;>rfl)
theorem zHy (l:List St) (hw:bH l<=1000000000) (ih:∀s,s∈l->Pur cfg 27 [dS s.Body] (vB (gA s.Body))):
    Pur cfg 27 [dS l] (vB (gA l)):=by
 refine zW Tryz.func27 O Tryz.ntmps27 Tryz.results27 O ?_
 intro z hz
 refine R O<|G O<|zA<|R O<|G O<|qS O ok57 (zIa l _ (fun s=> !sC s) (by have:=wI l;omega) (fun s hs=>FnPur.of_pur (first:=[]) (cap:=[]) ok58 (cg_fitStmts_1 s (by have:=kG hs;omega) (ih s hs)))) ⟨zB,O,zB,O,T⟩<|wD O<|G O<|zA<|zN<|zV O ?_
 rw [fitTs_eq];exact congrArg vB (zCi _ _)
theorem cg_fitStmts (l:List St) (hw:bH l<=1000000000):Pur cfg 27 [dS l] (vB (gA l)):=by
  have key:∀s:St,bH s.Body<=1000000000->Pur cfg 27 [dS s.Body] (vB (gA s.Body)):=fun s=>by
    induction s using St.ind with
    |_ s ih=>exact fun hs=>zHy s.Body hs fun a ha=>ih a ha (by have:=kG ha;have:=St.wt_eq a;omega)
  exact zHy l hw fun a ha=>key a (by have:=kG ha;have:=St.wt_eq a;omega)
end Go.W
