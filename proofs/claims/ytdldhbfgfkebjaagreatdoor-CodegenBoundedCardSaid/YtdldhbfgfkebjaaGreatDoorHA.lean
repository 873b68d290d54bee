/-
  Walks: what functions of the program compute. Printed by wip/gen/mk2.py.
  Conditions: none.
-/
import Derived.Test.YtdldhbfgfkebjaaGreatDoorNE
import Derived.Test.YtdldhbfgfkebjaaGreatDoorPlainG
import Derived.Test.YtdldhbfgfkebjaaGreatDoorEngV2
set_option linter.unusedSimpArgs false
set_option linter.unusedVariables false
set_option maxRecDepth 10000
namespace Go.W
open Go Go.Eng Go.Proofs Go.L41 Go.Br
attribute [local irreducible] AWP RWP TD finQ
abbrev tyV (sv:Value) (l:List Ty):List E:=[E.vec sv 31 5 (l.map tyC)]
theorem ty_t {a b:Ty} (h:litsEq (tyC a) (tyC b)=true):a=b:=of_decide_eq_true ((tyC_eq a b).symm.trans h)
theorem ty_f {a b:Ty} (h:litsEq (tyC a) (tyC b)=false):¬a=b:=of_decide_eq_false ((tyC_eq a b).symm.trans h)
theorem ok21:callOk Tryz.prog 21=true:=by kernel_rfl
theorem ok22:callOk Tryz.prog 22=true:=by kernel_rfl
theorem ok47:callOk Tryz.prog 47=true:=by kernel_rfl
theorem ok48:callOk Tryz.prog 48=true:=by kernel_rfl
theorem ok97:callOk Tryz.prog 97=true:=by kernel_rfl
theorem zFm (l:List Ty) (t:Ty) (hl:l.length<=4294967296):
    Pur cfg 97 [vTys l,vTy t] (vI (idxT l t)):=by
 refine zW Tryz.func97 O Tryz.ntmps97 Tryz.results97 O ?_
 intro z hz
 refine R O<|zU O O (qT O O) ?_
 rintro _ _ ⟨b1,rfl,rfl⟩
 refine G O<|zA<|zF<|R O<|G O<|qH O el28<|G O<|zA<|zQ<|zS ⟨[(8,.c _),(0,.c _),(3,.c _),(7,.c _)],[_]⟩ (Weak.mk [true] ⟨zB,zB,zB,zB,T⟩ O)<|qJ 1 0 O O (Nat) (fun k=>[(8,vI k)]) (fun k=>[]) (fun k=>k<=l.length/\(l.take k).any (fun x=>decide (t=x))=false) (fun k=>l.length-k) ⟨0,⟨by omega,O⟩,Weak.mk [true] ⟨zB,zB,zB,zB,T⟩ O⟩ ?_
 rintro k ⟨hk,hp⟩
 refine R O<|yE O<|zA<|zF<|zC O (fun c1=>?_) (fun c1=>?_)
 ·try simp only [sx] at c1
  obtain ⟨x,hx⟩:=qX l k (by omega)
  refine zH<|zF<|zQ<|R O<|G O<|G O<|zA<|zF<|qU 6 mixed (by kernel_rfl) O O<|zE O O (qG O yP O (A 0 O) O)<|zE O O (zG O O)<|zE O O (zG O O)<|zE O O (yA O el28 O O (by omega) (getm hx))<|zE O O (qG O yP O Y O)<|zE O O (det_aeql O fl31 O O O)<|yM<|zA<|zC O (fun c2=>?_) (fun c2=>?_)
  ·have hxt:t=x:=ty_t (a:=t) (b:=x) c2
   refine R O<|G O<|G O<|zA<|zM<|zX O ?_
   exact congrArg vI (zCq hx (decide_eq_true hxt) hp).symm
  ·have hxt:¬t=x:=ty_f (a:=t) (b:=x) c2
   refine zH<|zI O<|qD O ⟨by omega,by omega⟩<|G O<|zA ?_
   refine ⟨k+1,⟨by omega,zBz hx hp (decide_eq_false hxt)⟩,(by omega),Weak.mk [true] ⟨zB,zB,zB,zB,T⟩ O⟩
 ·try simp only [sx] at c1
  refine qL<|R O<|G O<|zA<|zM<|zX O ?_
  exact congrArg vI (zAx (by rw [yI (by omega)] at hp;exact hp)).symm
theorem zIo (l:List Ty) (t:Ty) (hl:l.length<=4294967296):
    Pur cfg 47 [vTys l,vTy t] (vB (hasT l t)):=by
 refine zW Tryz.func47 O Tryz.ntmps47 Tryz.results47 O ?_
 intro z hz
 refine R O<|zU O O (qT O O) ?_
 rintro _ _ ⟨b1,rfl,rfl⟩
 refine G O<|zA<|R O<|G O<|zP yP (A 0 O) O<|qW O ok97 (zFm l t hl) ⟨zB,O,zB,O,T⟩<|v O (wG O O O)<|G O<|zA<|zM<|zX O ?_
 exact congrArg vB (zBu _ _)
theorem cg_add (sv:Value) (l:List Ty) (t:Ty) (hl:l.length<=4000000):
    Con cfg 21 [.c (.lit sv),vTy t] (tyV sv l) fun r μ'=>∃sv',r=.c (.lit sv')/\μ'=tyV sv' (adT l t):=by
 refine zW Tryz.func21 O Tryz.ntmps21 Tryz.results21 O ?_
 intro z hz
 refine R O<|zU O O (qT O O) ?_
 rintro _ _ ⟨b1,rfl,rfl⟩
 refine v O (kP 5 O O)<|zA<|zF<|R O<|G O<|zP yP (A 0 O) O<|v O (zBx 1 O ok47 O (zIo l t (by omega)) O ⟨.inl ⟨O,O⟩,.inr ⟨zB,O⟩,T⟩)<|zA<|zC O (fun c1=>?_) (fun c1=>?_)
 ·try simp only [sx] at c1
  refine R O<|G O<|G O<|zA<|zS _ (Weak.mem [false,true] O)<|zM<|zX O ?_
  exact ⟨_,O,by rw [adT_t c1];rfl⟩
 ·try simp only [sx] at c1
  refine zH<|R O<|G O<|zP yP (A 0 O) O<|v O (kF O el28 zr31 O O O O)<|zU O O (kL 1 O el28 O O O (by simp only [List.length_map,List.length_append,List.length_cons,List.length_nil,List.length_take,List.length_drop];omega) (by simp only [List.length_map,List.length_append,List.length_cons,List.length_nil,List.length_take,List.length_drop];omega)) ?_
  rintro _ _ ⟨sv2,rfl,rfl⟩
  refine G O<|zA<|zS _ (Weak.mem [false,true] O)<|zM<|zX O ?_
  exact ⟨_,O,by rw [adT_f c1];show _=[E.vec _ _ _ ((l++[t]).map tyC)];rw [List.map_append];rfl⟩
theorem zKv (x:Ex) (ih:∀a,a∈x.Args->∀(sv:Value) (l:List Ty) (hl:l.length+a.wt<=3000000),Con cfg 48 [.c (.lit sv),vE a] (tyV sv l) fun r μ'=>∃sv',r=.c (.lit sv')/\μ'=tyV sv' (exTy a l)) (sv:Value) (l:List Ty) (hl:l.length+x.wt<=3000000):
    Con cfg 48 [.c (.lit sv),vE x] (tyV sv l) fun r μ'=>∃sv',r=.c (.lit sv')/\μ'=tyV sv' (exTy x l):=by
 refine zW Tryz.func48 O Tryz.ntmps48 Tryz.results48 O ?_
 intro z hz
 have hwt:=Ex.wt_eq x
 have hln:=zLa x.Args
 refine R O<|zU O O (qT O O) ?_
 rintro _ _ ⟨b1,rfl,rfl⟩
 refine qS _ (qK 0 O 3 _ PLe.ptr)<|v O (kP 5 O O)<|zA<|zF<|R O<|zZ O wY<|zL one3 Y O<|zA<|zQ<|zF<|R O<|yO O<|G O<|zA<|zC O (fun c1=>?_) (fun c1=>?_)
 ·have d1:x.Op=1:=of_decide_eq_true c1
  refine zH<|zC O (fun c2=>?_) (fun c2=>?_)
  ·have hN0:adT l x.Ty=exT1 l x:=by unfold exT1;rw [if_pos (by first|exact .inl d1|exact .inr (of_decide_eq_true c2))]
   refine zI O<|G O<|zZ O zFa<|zP yP Y O<|zU O O (kQ 0 O O ok21 (cg_add sv l x.Ty (by omega)) ⟨zB,O,zB,O,T⟩) ?_
   rintro _ _ ⟨sv2,rfl,rfl⟩
   refine G O<|zA<|zF<|R O<|zZ O wH<|zL zAw Y O<|qH O el55<|G O<|zA<|zQ<|zS ⟨[(24,.c _),(0,.c _),(22,.c _),(23,.c _)],[_]⟩ (Weak.mk [true] ⟨zB,zB,zB,zB,T⟩ O)<|qJ 2 1 O O (Nat×Value) (fun ⟨i,sw⟩=>[(24,vI i),(0,.c (.lit sw))]) (fun ⟨i,sw⟩=>[E.vec sw 31 5 ((exTyL (x.Args.take i) (exT1 l x)).map tyC)]) (fun ⟨i,sw⟩=>i<=x.Args.length) (fun ⟨i,sw⟩=>x.Args.length-i) ⟨⟨0,_⟩,(by omega),Weak.mk [true] ⟨zB,zB,zB,zB,T⟩ (by exact yL (congrArg (fun l=>l.map tyC) hN0))⟩ ?_
   rintro ⟨i,sw⟩ hi
   show AWP _ _ _ _ _ ⟨[(24,vI i),(0,.c (.lit sw))]++_,[E.vec sw 31 5 ((exTyL (x.Args.take i) (exT1 l x)).map tyC)]++_⟩
   refine R O<|yE O<|zA<|zF<|zC O (fun c4=>?_) (fun c4=>?_)
   ·try simp only [sx] at c4
    obtain ⟨y,hy⟩:=qX x.Args i (by omega)
    refine zH<|zF<|zQ<|R O<|qI O el55 (by omega) (zBi hy)<|zP kC Y O<|zU O O (qR [none,none,none,none,none,none,none,none,none,none,some 2,some 4,some 13] O zr57 O) ?_
    rintro _ _ ⟨b3,rfl,rfl⟩
    refine D 0 sz57 O<|zA<|zI O<|G O<|zP kC (A 0 O) O<|zU O O (kQ 1 O O ok48 (ih y (qB hy) sw (exTyL (x.Args.take i) (exT1 l x)) (by have h1:=zDy (x.Args.take i) (exT1 l x);have h2:=zJj l x;have h3:=zJv (l:=x.Args) hy;omega)) ⟨zB,O,zB,O,T⟩) ?_
    rintro _ _ ⟨sv4,rfl,rfl⟩
    refine G O<|zA<|zI O<|qD O ⟨by omega,by omega⟩<|G O<|zA ?_
    refine ⟨⟨i+1,sv4⟩,(by omega),(by show x.Args.length-(i+1)<x.Args.length-i;omega),Weak.mk [false,true] ⟨zB,zB,zB,zB,T⟩ (by exact yL (by rw [zGv hy]))⟩
   ·try simp only [sx] at c4
    refine qL<|R O<|G O<|G O<|zA<|zM<|zX O ?_
    exact ⟨_,O,by rw [exTy_eq,yI (l:=x.Args) (k:=i) (by omega)];rfl⟩
  ·exact absurd (c1.symm.trans c2) (by simp)
 ·have d1:¬x.Op=1:=of_decide_eq_false c1
  refine zI O<|yO O<|G O<|zA<|zC O (fun c2=>?_) (fun c2=>?_)
  ·have hN0:adT l x.Ty=exT1 l x:=by unfold exT1;rw [if_pos (by first|exact .inl d1|exact .inr (of_decide_eq_true c2))]
   refine zI O<|G O<|zZ O zFa<|zP yP Y O<|zU O O (kQ 0 O O ok21 (cg_add sv l x.Ty (by omega)) ⟨zB,O,zB,O,T⟩) ?_
   rintro _ _ ⟨sv5,rfl,rfl⟩
   refine G O<|zA<|zF<|R O<|zZ O wH<|zL zAw Y O<|qH O el55<|G O<|zA<|zQ<|zS ⟨[(24,.c _),(0,.c _),(22,.c _),(23,.c _)],[_]⟩ (Weak.mk [true] ⟨zB,zB,zB,zB,T⟩ O)<|qJ 2 1 O O (Nat×Value) (fun ⟨i,sw⟩=>[(24,vI i),(0,.c (.lit sw))]) (fun ⟨i,sw⟩=>[E.vec sw 31 5 ((exTyL (x.Args.take i) (exT1 l x)).map tyC)]) (fun ⟨i,sw⟩=>i<=x.Args.length) (fun ⟨i,sw⟩=>x.Args.length-i) ⟨⟨0,_⟩,(by omega),Weak.mk [true] ⟨zB,zB,zB,zB,T⟩ (by exact yL (congrArg (fun l=>l.map tyC) hN0))⟩ ?_
   rintro ⟨i,sw⟩ hi
   show AWP _ _ _ _ _ ⟨[(24,vI i),(0,.c (.lit sw))]++_,[E.vec sw 31 5 ((exTyL (x.Args.take i) (exT1 l x)).map tyC)]++_⟩
   refine R O<|yE O<|zA<|zF<|zC O (fun c4=>?_) (fun c4=>?_)
   ·try simp only [sx] at c4
    obtain ⟨y,hy⟩:=qX x.Args i (by omega)
    refine zH<|zF<|zQ<|R O<|qI O el55 (by omega) (zBi hy)<|zP kC Y O<|zU O O (qR [none,none,none,none,none,none,none,none,none,none,some 2,some 4,some 13] O zr57 O) ?_
    rintro _ _ ⟨b6,rfl,rfl⟩
    refine D 0 sz57 O<|zA<|zI O<|G O<|zP kC (A 0 O) O<|zU O O (kQ 1 O O ok48 (ih y (qB hy) sw (exTyL (x.Args.take i) (exT1 l x)) (by have h1:=zDy (x.Args.take i) (exT1 l x);have h2:=zJj l x;have h3:=zJv (l:=x.Args) hy;omega)) ⟨zB,O,zB,O,T⟩) ?_
    rintro _ _ ⟨sv7,rfl,rfl⟩
    refine G O<|zA<|zI O<|qD O ⟨by omega,by omega⟩<|G O<|zA ?_
    refine ⟨⟨i+1,sv7⟩,(by omega),(by show x.Args.length-(i+1)<x.Args.length-i;omega),Weak.mk [false,true] ⟨zB,zB,zB,zB,T⟩ (by exact yL (by rw [zGv hy]))⟩
   ·try simp only [sx] at c4
    refine qL<|R O<|G O<|G O<|zA<|zM<|zX O ?_
    exact ⟨_,O,by rw [exTy_eq,yI (l:=x.Args) (k:=i) (by omega)];rfl⟩
  ·have d2:¬x.Op=12:=of_decide_eq_false c2
   refine R O<|yO O<|G O<|zA<|zC O (fun c3=>?_) (fun c3=>?_)
   ·try simp only [sx] at c3
    have hN0:adT l iTy=exT1 l x:=by unfold exT1;rw [if_neg (by omega),if_pos c3]
    refine zI O<|G O<|v O (yB O zr31 pl31 O)<|zU O O (kQ 0 O O ok21 (cg_add sv l iTy (by omega)) ⟨zB,O,zB,O,T⟩) ?_
    rintro _ _ ⟨sv8,rfl,rfl⟩
    refine G O<|zA<|zF<|R O<|zZ O wH<|zL zAw Y O<|qH O el55<|G O<|zA<|zQ<|zS ⟨[(24,.c _),(0,.c _),(22,.c _),(23,.c _)],[_]⟩ (Weak.mk [true] ⟨zB,zB,zB,zB,T⟩ O)<|qJ 2 1 O O (Nat×Value) (fun ⟨i,sw⟩=>[(24,vI i),(0,.c (.lit sw))]) (fun ⟨i,sw⟩=>[E.vec sw 31 5 ((exTyL (x.Args.take i) (exT1 l x)).map tyC)]) (fun ⟨i,sw⟩=>i<=x.Args.length) (fun ⟨i,sw⟩=>x.Args.length-i) ⟨⟨0,_⟩,(by omega),Weak.mk [true] ⟨zB,zB,zB,zB,T⟩ (by exact yL (congrArg (fun l=>l.map tyC) hN0))⟩ ?_
    rintro ⟨i,sw⟩ hi
    show AWP _ _ _ _ _ ⟨[(24,vI i),(0,.c (.lit sw))]++_,[E.vec sw 31 5 ((exTyL (x.Args.take i) (exT1 l x)).map tyC)]++_⟩
    refine R O<|yE O<|zA<|zF<|zC O (fun c4=>?_) (fun c4=>?_)
    ·try simp only [sx] at c4
     obtain ⟨y,hy⟩:=qX x.Args i (by omega)
     refine zH<|zF<|zQ<|R O<|qI O el55 (by omega) (zBi hy)<|zP kC Y O<|zU O O (qR [none,none,none,none,none,none,none,none,none,none,some 2,some 4,some 13] O zr57 O) ?_
     rintro _ _ ⟨b9,rfl,rfl⟩
     refine D 0 sz57 O<|zA<|zI O<|G O<|zP kC (A 0 O) O<|zU O O (kQ 1 O O ok48 (ih y (qB hy) sw (exTyL (x.Args.take i) (exT1 l x)) (by have h1:=zDy (x.Args.take i) (exT1 l x);have h2:=zJj l x;have h3:=zJv (l:=x.Args) hy;omega)) ⟨zB,O,zB,O,T⟩) ?_
     rintro _ _ ⟨sv10,rfl,rfl⟩
     refine G O<|zA<|zI O<|qD O ⟨by omega,by omega⟩<|G O<|zA ?_
     refine ⟨⟨i+1,sv10⟩,(by omega),(by show x.Args.length-(i+1)<x.Args.length-i;omega),Weak.mk [false,true] ⟨zB,zB,zB,zB,T⟩ (by exact yL (by rw [zGv hy]))⟩
    ·try simp only [sx] at c4
     refine qL<|R O<|G O<|G O<|zA<|zM<|zX O ?_
     exact ⟨_,O,by rw [exTy_eq,yI (l:=x.Args) (k:=i) (by omega)];rfl⟩
   ·try simp only [sx] at c3
    have hN0:l=exT1 l x:=by unfold exT1;rw [if_neg (by omega),if_neg c3]
    refine zH<|zF<|R O<|zZ O wH<|zL zAw Y O<|qH O el55<|G O<|zA<|zQ<|zS ⟨[(24,.c _),(0,.c _),(22,.c _),(23,.c _)],[_]⟩ (Weak.mk [true] ⟨zB,zB,zB,zB,T⟩ O)<|qJ 2 1 O O (Nat×Value) (fun ⟨i,sw⟩=>[(24,vI i),(0,.c (.lit sw))]) (fun ⟨i,sw⟩=>[E.vec sw 31 5 ((exTyL (x.Args.take i) (exT1 l x)).map tyC)]) (fun ⟨i,sw⟩=>i<=x.Args.length) (fun ⟨i,sw⟩=>x.Args.length-i) ⟨⟨0,_⟩,(by omega),Weak.mk [true] ⟨zB,zB,zB,zB,T⟩ (by exact yL (congrArg (fun l=>l.map tyC) hN0))⟩ ?_
    rintro ⟨i,sw⟩ hi
    show AWP _ _ _ _ _ ⟨[(24,vI i),(0,.c (.lit sw))]++_,[E.vec sw 31 5 ((exTyL (x.Args.take i) (exT1 l x)).map tyC)]++_⟩
    refine R O<|yE O<|zA<|zF<|zC O (fun c4=>?_) (fun c4=>?_)
    ·try simp only [sx] at c4
     obtain ⟨y,hy⟩:=qX x.Args i (by omega)
     refine zH<|zF<|zQ<|R O<|qI O el55 (by omega) (zBi hy)<|zP kC Y O<|zU O O (qR [none,none,none,none,none,none,none,none,none,none,some 2,some 4,some 13] O zr57 O) ?_
     rintro _ _ ⟨b11,rfl,rfl⟩
     refine D 0 sz57 O<|zA<|zI O<|G O<|zP kC (A 0 O) O<|zU O O (kQ 1 O O ok48 (ih y (qB hy) sw (exTyL (x.Args.take i) (exT1 l x)) (by have h1:=zDy (x.Args.take i) (exT1 l x);have h2:=zJj l x;have h3:=zJv (l:=x.Args) hy;omega)) ⟨zB,O,zB,O,T⟩) ?_
     rintro _ _ ⟨sv12,rfl,rfl⟩
     refine G O<|zA<|zI O<|qD O ⟨by omega,by omega⟩<|G O<|zA ?_
     refine ⟨⟨i+1,sv12⟩,(by omega),(by show x.Args.length-(i+1)<x.Args.length-i;omega),Weak.mk [false,true] ⟨zB,zB,zB,zB,T⟩ (by exact yL (by rw [zGv hy]))⟩
    ·try simp only [sx] at c4
     refine qL<|R O<|G O<|G O<|zA<|zM<|zX O ?_
     exact ⟨_,O,by rw [exTy_eq,yI (l:=x.Args) (k:=i) (by omega)];rfl⟩
theorem cg_exprTypes (x:Ex):∀(sv:Value) (l:List Ty) (hl:l.length+x.wt<=3000000),Con cfg 48 [.c (.lit sv),vE x] (tyV sv l) fun r μ'=>∃sv',r=.c (.lit sv')/\μ'=tyV sv' (exTy x l):=by
  induction x using Ex.ind with
  |_ x ih=>exact fun sv l hl=>zKv x ih sv l hl
theorem zDz (b:List St) (ih:∀s,s∈b->∀(sv:Value) (l:List Ty) (hl:l.length+stsWt s.Body<=2000000),Con cfg 22 [.c (.lit sv),vSts s.Body] (tyV sv l) fun r μ'=>∃sv',r=.c (.lit sv')/\μ'=tyV sv' (stTyL s.Body l)) (sv:Value) (l:List Ty) (hl:l.length+stsWt b<=2000000):
    Con cfg 22 [.c (.lit sv),vSts b] (tyV sv l) fun r μ'=>∃sv',r=.c (.lit sv')/\μ'=tyV sv' (stTyL b l):=by
 refine zW Tryz.func22 O Tryz.ntmps22 Tryz.results22 O ?_
 intro z hz
 have hbl:=wT b
 refine R O<|v O (kP 5 O O)<|zA<|zF<|R O<|G O<|qH O el23<|G O<|zA<|zQ<|zS ⟨[(9,.c _),(0,.c _),(7,.c _),(8,.c _)],[_]⟩ (Weak.mk [true] ⟨zB,zB,zB,zB,T⟩ O)<|qJ 2 1 O O (Nat×Value) (fun ⟨k,sw⟩=>[(9,vI k),(0,.c (.lit sw))]) (fun ⟨k,sw⟩=>[E.vec sw 31 5 ((stTyL (b.take k) l).map tyC)]) (fun ⟨k,sw⟩=>k<=b.length) (fun ⟨k,sw⟩=>b.length-k) ⟨⟨0,sv⟩,(by omega),Weak.mk [true] ⟨zB,zB,zB,zB,T⟩ O⟩ ?_
 rintro ⟨k,sw⟩ hk
 show AWP _ _ _ _ _ ⟨[(9,vI k),(0,.c (.lit sw))]++_,[E.vec sw 31 5 ((stTyL (b.take k) l).map tyC)]++_⟩
 refine R O<|yE O<|zA<|zF<|zC O (fun c1=>?_) (fun c1=>?_)
 ·try simp only [sx] at c1
  obtain ⟨s,hs⟩:=qX b k (by omega)
  refine zH<|zF<|zQ<|R O<|qI O el23 (by omega) (zLv hs)<|zP zHc Y O<|zU O O (qR [none,none,none,none,none,some 4,none,none,none,none,none,none,none,none,none,none,some 2,some 4,some 13,some 20] O zr59 O) ?_
  rintro _ _ ⟨b1,rfl,rfl⟩
  refine D 0 sz59 O<|qS _ (qK 0 O 6 _ PLe.ptr)<|zA<|R O<|G O<|zZ O zEy<|zP kC Y O<|zU O O (kQ 0 O O ok48 (cg_exprTypes s.E sw (stTyL (b.take k) l) (by have h1:=zFl (b.take k) l;have h2:=sts_take hs;have h3:=St.wt_eq s;omega)) ⟨zB,O,zB,O,T⟩) ?_
  rintro _ _ ⟨sv2,rfl,rfl⟩
  refine G O<|zA<|zI O<|G O<|zZ O zDx<|zL zDa Y O<|zU O O (kQ 0 O O ok22 (ih s (qB hs) _ (exTy s.E (stTyL (b.take k) l)) (by have h1:=zFl (b.take k) l;have h2:=sts_take hs;have h3:=St.wt_eq s;have h4:=exTy_len s.E (stTyL (b.take k) l);omega)) ⟨zB,O,zB,O,T⟩) ?_
  rintro _ _ ⟨sv3,rfl,rfl⟩
  refine G O<|zA<|zI O<|qD O ⟨by omega,by omega⟩<|G O<|zA ?_
  refine ⟨⟨k+1,sv3⟩,(by omega),(by show b.length-(k+1)<b.length-k;omega),Weak.mk [true] ⟨zB,zB,zB,zB,T⟩ (by exact yL (by rw [stTyL_next hs,stTy_eq]))⟩
 ·try simp only [sx] at c1
  refine qL<|R O<|G O<|G O<|zA<|zM<|zX O ?_
  exact ⟨_,O,by rw [yI (l:=b) (k:=k) (by omega)];rfl⟩
theorem zKu (s:St):∀(sv:Value) (l:List Ty) (hl:l.length+stsWt s.Body<=2000000),Con cfg 22 [.c (.lit sv),vSts s.Body] (tyV sv l) fun r μ'=>∃sv',r=.c (.lit sv')/\μ'=tyV sv' (stTyL s.Body l):=by
  induction s using St.ind with
  |_ s ih=>exact fun sv l hl=>zDz s.Body ih sv l hl
theorem cg_stmtTypes (b:List St) (sv:Value) (l:List Ty) (hl:l.length+stsWt b<=2000000):Con cfg 22 [.c (.lit sv),vSts b] (tyV sv l) fun r μ'=>∃sv',r=.c (.lit sv')/\μ'=tyV sv' (stTyL b l):=zDz b (fun s _=>zKu s) sv l hl
theorem cg_Types (n:Ns) (hb:n.Bufs.length<=1000000) (hw:stsWt n.Body<=900000):
    OwnR cfg 10 [vNs n] 31 5 ((typN n).map tyC):=by
 refine zW Tryz.func10 O Tryz.ntmps10 Tryz.results10 O ?_
 intro z hz
 refine R O<|zU O O (qT O O) ?_
 rintro _ _ ⟨b1,rfl,rfl⟩
 refine qS _ (qK 0 O 1 _ PLe.ptr)<|G O<|zA<|R O<|G O<|qS _ (zAm 31 5)<|zA<|zF<|R O<|zZ O zFb<|zL zLr Y O<|qH O el22<|G O<|zA<|zQ<|zS ⟨[(9,.c _),(3,.c _),(1,.c _),(7,.c _),(8,.c _)],[_]⟩ (Weak.mk [true] ⟨zB,zB,zB,zB,zB,T⟩ O)<|qJ 2 1 O O (Nat×Value) (fun ⟨k,sw⟩=>[(9,vI k),(3,.c (.lit sw))]) (fun ⟨k,sw⟩=>[E.vec sw 31 5 ((bfTy (n.Bufs.take k)).map tyC)]) (fun ⟨k,sw⟩=>k<=n.Bufs.length) (fun ⟨k,sw⟩=>n.Bufs.length-k) ⟨⟨0,(.slice none 0 0)⟩,(by omega),Weak.mk [true] ⟨zB,zB,zB,zB,zB,T⟩ O⟩ ?_
 rintro ⟨k,sw⟩ hk
 show AWP _ _ _ _ _ ⟨[(9,vI k),(3,.c (.lit sw))]++_,[E.vec sw 31 5 ((bfTy (n.Bufs.take k)).map tyC)]++_⟩
 refine R O<|yE O<|zA<|zF<|zC O (fun c1=>?_) (fun c1=>?_)
 ·try simp only [sx] at c1
  obtain ⟨b,hb2⟩:=qX n.Bufs k (by omega)
  refine zH<|zF<|zQ<|R O<|qI O el22 (by omega) (getm hb2)<|zP zPd Y O<|zU O O (qR [none,none,none,none,none,none,some 1,none] O zr69 O) ?_
  rintro _ _ ⟨b3,rfl,rfl⟩
  refine D 0 sz69 O<|qS _ (qK 0 O 5 _ PLe.ptr)<|zA<|zI O<|G O<|zZ O zOe<|zP yP Y O<|zU O O (kQ 0 O O ok21 (cg_add sw (bfTy (n.Bufs.take k)) b.T (by have h1:=bfTy_len (n.Bufs.take k);rw [List.length_take] at h1;omega)) ⟨zB,O,zB,O,T⟩) ?_
  rintro _ _ ⟨sv4,rfl,rfl⟩
  refine G O<|zA<|zI O<|qD O ⟨by omega,by omega⟩<|G O<|zA ?_
  refine ⟨⟨k+1,sv4⟩,(by omega),(by show n.Bufs.length-(k+1)<n.Bufs.length-k;omega),Weak.mk [true] ⟨zB,zB,zB,zB,zB,T⟩ (by exact yL (by rw [bfTy_next hb2]))⟩
 ·try simp only [sx] at c1
  rw [yI (l:=n.Bufs) (k:=k) (by omega)]
  refine qL<|R O<|G O<|zZ O zJh<|zL zDa Y O<|zU O O (kQ 0 O O ok22 (cg_stmtTypes n.Body _ (bfTy n.Bufs) (by have h1:=bfTy_len n.Bufs;omega)) ⟨zB,O,zB,O,T⟩) ?_
  rintro _ _ ⟨sv5,rfl,rfl⟩
  refine G O<|zA<|zM<|zX O ?_
  exact ⟨_,O,O⟩
theorem shape_Strides (d:List Int) (hl:d.length<=17592186044416):
    Pur cfg 113 [vIs d] (vIs (strT d)):=by
 refine zW Tryz.func113 O Tryz.ntmps113 Tryz.results113 O ?_
 intro z hz
 refine R O<|v O (kP 1 O O)<|zA<|zF<|R O<|G O<|qW O ok103 (zDq d hl) ⟨zB,O,T⟩<|wL O<|zA<|zC O (fun c1=>?_) (fun c1=>?_)
 ·try simp only [sx] at c1
  refine R O<|v O (kP 1 O O)<|zA<|zM<|zX O ?_
  unfold strT;rw [if_neg c1];rfl
 ·try simp only [sx] at c1
  have hsl:=zMa d
  have hd6:=(zGi c1).1
  refine zH<|R O<|G O<|qH O el67<|zU O O (ope_make d.length O el67 zr3 O O (by simp) (by simp) (by omega) (by omega)) ?_
  rintro _ _ ⟨sv1,rfl,rfl⟩
  refine G O<|zA<|R O<|G O<|zA<|zF<|R O<|G O<|qH O el67<|yF O ⟨by omega,by omega⟩<|G O<|zA<|zQ<|zS ⟨[(5,.c _),(4,.c _),(0,.c _),(3,.c _)],[_]⟩ (Weak.mk [true] ⟨zB,zB,zB,zB,T⟩ O) ?_
  refine qJ 2 1 O O (Nat) (fun j=>[(5,vI ((j:Int)-1)),(4,vI (prodI (d.drop j)))]) (fun j=>[E.vec sv1 3 1 (List.replicate j [cI 0]++((strF d).drop j).map fun n=>[cI n])]) (fun j=>j<=d.length) (fun j=>j) ⟨d.length,(by omega),Weak.mk [true] ⟨zB,VLe.of_eq (congrArg vI (by rw [List.drop_length];rfl)),zB,zB,T⟩ (by exact yL (by rw [List.drop_eq_nil_of_le (by rw [zMa];exact Nat.le_refl _)];simp))⟩ ?_
  rintro j hj
  refine zF<|R O<|G O<|v O (wG O O O)<|zA<|zC O (fun c2=>?_) (fun c2=>?_)
  ·try simp only [sx] at c2
   obtain ⟨x,hx⟩:=qX d (j-1) (by omega)
   have hjx:0<j:=by omega
   refine zH<|zF<|zQ<|R O<|G O<|G O<|G O<|v O (qC 0 O el67 O O O (by omega) (by simp only [List.length_append,List.length_replicate,List.length_drop,List.length_map,zMa];omega))<|zAd O O (yY O sz3 O O O (zBr 0 O (st_get hjx _) O))<|zA<|zI O<|G O<|G O<|G O<|qI O el67 (by omega) (getm (show d[((j:Int)-1).toNat]? =some x by rw [show ((j:Int)-1).toNat=j-1 by omega];exact hx))<|zL one3 Y O<|v O (zAa O O O (by have h1:=zOp c1 (j-1);have h2:=zOp c1 j;have h3:=prod_next hx;rw [show j-1+1=j by omega] at h3;rw [Int.mul_comm,←h3];exact ⟨by omega,by omega⟩))<|G O<|zA<|zI O<|G O<|yF O ⟨by omega,by omega⟩<|G O<|zA ?_
   refine ⟨j-1,(by omega),(by omega),Weak.mk [true] ⟨VLe.of_eq (congrArg vI (by omega)),VLe.of_eq (congrArg vI (by have h3:=prod_next hx;rw [show j-1+1=j by omega] at h3;rw [h3,Int.mul_comm])),zB,zB,T⟩ (by exact yL (st_set hjx hx))⟩
  ·try simp only [sx] at c2
   refine qL<|zF<|zS _ (zAb 0 O (regs':=[(3,_)]) (μ':=[]) ⟨FLe.sl,T⟩ T)<|zI O<|G O<|G O<|zA<|zM<|zX O ?_
   unfold strT;rw [if_pos c1];have hj0:j=0:=by omega
   subst hj0
   rfl
theorem r48_Short (n:Ns) (hf:n.Fit):
    Pur cfg 8 [vNs n] (vB (decide ((n.Bufs.length:Int)<=40)&&decide ((weighB n.Body 300:Int)<=300))):=by
 refine zW Tryz.func8 O Tryz.ntmps8 Tryz.results8 O ?_
 intro z hz
 refine R O<|zU O O (qT O O) ?_
 rintro _ _ ⟨b1,rfl,rfl⟩
 refine G O<|zA<|R O<|zN O zFb<|zL zLr (A 0 O) O<|qH O el22<|v O (wI O O O)<|G O<|rL0 O (fun g1_4=>zJ O zJh O) O<|B 8 O (fun g1_4=>zD O zDa O (A 0 O) O) O<|B 9 O (fun g1_4=>qY O ok20 (zPa n.Body 300 300 hf.body hf.len (by omega) O) ⟨zB,O,zB,O,T⟩) O<|B 10 O (fun g1_4=>wI O O O) O<|kE O (fun h=>h)<|G O<|zA<|zM<|zX O ?_
 exact O
end Go.W
