/-
  Walks: what functions of the program compute. Printed by wip/gen/mk2.py.
  Conditions: none.
-/
import Derived.Test.YtdldhbfgfkebjaaGreatDoorNE
import Derived.Test.YtdldhbfgfkebjaaGreatDoorPlainG
import Derived.Test.YtdldhbfgfkebjaaGreatDoorEngV2
set_option linter.unusedSimpArgs false
set_option linter.unusedVariables false
set_option maxRecDepth 10000
namespace Go.W
open Go Go.Eng Go.Proofs Go.L41 Go.Br
attribute [local irreducible] AWP RWP TD finQ
abbrev tyV (sv:Value) (l:List Ty):List E:=[E.vec sv 31 5 (l.map tyC)]
theorem ty_t {a b:Ty} (h:litsEq (tyC a) (tyC b)=true):a=b:=of_decide_eq_true ((tyC_eq a b).symm.trans h)
theorem ty_f {a b:Ty} (h:litsEq (tyC a) (tyC b)=false):¬a=b:=of_decide_eq_false ((tyC_eq a b).symm.trans h)
theorem ok21:callOk Tryz.prog 21=true:=by kernel_rfl
theorem ok22:callOk Tryz.prog 22=true:=by kernel_rfl
theorem ok23:callOk Tryz.prog 23=true:=by kernel_rfl
theorem ok24:callOk Tryz.prog 24=true:=by kernel_rfl
theorem ok47:callOk Tryz.prog 47=true:=by kernel_rfl
theorem ok48:callOk Tryz.prog 48=true:=by kernel_rfl
theorem ok49:callOk Tryz.prog 49=true:=by kernel_rfl
theorem ok97:callOk Tryz.prog 97=true:=by kernel_rfl
theorem zFo (l:List Ty) (t:Ty) (hl:l.length<=4294967296):
    Pur cfg 97 [vTys l,vTy t] (vI (idxT l t)):=by
 refine zV Tryz.func97 O Tryz.ntmps97 Tryz.results97 O ?_
 intro z hz
 refine R O<|zU O O (qT O O) ?_
 rintro _ _ ⟨b1,rfl,rfl⟩
 refine G O<|zA<|zF<|R O<|G O<|qJ O el28<|G O<|zA<|zQ<|zR ⟨[(8,.c _),(0,.c _),(3,.c _),(7,.c _)],[_]⟩ (Weak.mk [true] ⟨zB,zB,zB,zB,T⟩ O)<|qH 1 0 O O (Nat) (fun k=>[(8,vI k)]) (fun k=>[]) (fun k=>k<=l.length/\(l.take k).any (fun x=>decide (t=x))=false) (fun k=>l.length-k) ⟨0,⟨by omega,O⟩,Weak.mk [true] ⟨zB,zB,zB,zB,T⟩ O⟩ ?_
 rintro k ⟨hk,hp⟩
 refine R O<|yC O<|zA<|zF<|zC O (fun c1=>?_) (fun c1=>?_)
 ·try simp only [sx] at c1
  obtain ⟨x,hx⟩:=qW l k (by omega)
  refine zH<|zF<|zQ<|R O<|G O<|G O<|zA<|zF<|qU 6 mixed (by kernel_rfl) O O<|zE O O (qD O yM O (Y 0 O) O)<|zE O O (zG O O)<|zE O O (zG O O)<|zE O O (yB O el28 O O (by omega) (getm hx))<|zE O O (qD O yM O N O)<|zE O O (det_aeql O fl31 O O O)<|yN<|zA<|zC O (fun c2=>?_) (fun c2=>?_)
  ·have hxt:t=x:=ty_t (a:=t) (b:=x) c2
   refine R O<|G O<|G O<|zA<|zM<|zW O ?_
   exact congrArg vI (zCr hx (decide_eq_true hxt) hp).symm
  ·have hxt:¬t=x:=ty_f (a:=t) (b:=x) c2
   refine zH<|zI O<|qC O ⟨by omega,by omega⟩<|G O<|zA ?_
   refine ⟨k+1,⟨by omega,zCg hx hp (decide_eq_false hxt)⟩,(by omega),Weak.mk [true] ⟨zB,zB,zB,zB,T⟩ O⟩
 ·try simp only [sx] at c1
  refine qL<|R O<|G O<|zA<|zM<|zW O ?_
  exact congrArg vI (zAv (by rw [yG (by omega)] at hp;exact hp)).symm
theorem zIs (l:List Ty) (t:Ty) (hl:l.length<=4294967296):
    Pur cfg 47 [vTys l,vTy t] (vB (hasT l t)):=by
 refine zV Tryz.func47 O Tryz.ntmps47 Tryz.results47 O ?_
 intro z hz
 refine R O<|zU O O (qT O O) ?_
 rintro _ _ ⟨b1,rfl,rfl⟩
 refine G O<|zA<|R O<|G O<|zO yM (Y 0 O) O<|qX O ok97 (zFo l t hl) ⟨zB,O,zB,O,T⟩<|v O (wG O O O)<|G O<|zA<|zM<|zW O ?_
 exact congrArg vB (zBv _ _)
theorem cg_add (sv:Value) (l:List Ty) (t:Ty) (hl:l.length<=4000000):
    Con cfg 21 [.c (.lit sv),vTy t] (tyV sv l) fun r μ'=>∃sv',r=.c (.lit sv')/\μ'=tyV sv' (adT l t):=by
 refine zV Tryz.func21 O Tryz.ntmps21 Tryz.results21 O ?_
 intro z hz
 refine R O<|zU O O (qT O O) ?_
 rintro _ _ ⟨b1,rfl,rfl⟩
 refine v O (kH 5 O O)<|zA<|zF<|R O<|G O<|zO yM (Y 0 O) O<|v O (zBy 1 O ok47 O (zIs l t (by omega)) O ⟨.inl ⟨O,O⟩,.inr ⟨zB,O⟩,T⟩)<|zA<|zC O (fun c1=>?_) (fun c1=>?_)
 ·try simp only [sx] at c1
  refine R O<|G O<|G O<|zA<|zR _ (Weak.mem [false,true] O)<|zM<|zW O ?_
  exact ⟨_,O,by rw [adT_t c1];rfl⟩
 ·try simp only [sx] at c1
  refine zH<|R O<|G O<|zO yM (Y 0 O) O<|v O (kD O el28 zr31 O O O O)<|zU O O (kL 1 O el28 O O O (by simp only [List.length_map,List.length_append,List.length_cons,List.length_nil,List.length_take,List.length_drop];omega) (by simp only [List.length_map,List.length_append,List.length_cons,List.length_nil,List.length_take,List.length_drop];omega)) ?_
  rintro _ _ ⟨sv2,rfl,rfl⟩
  refine G O<|zA<|zR _ (Weak.mem [false,true] O)<|zM<|zW O ?_
  exact ⟨_,O,by rw [adT_f c1];show _=[E.vec _ _ _ ((l++[t]).map tyC)];rw [List.map_append];rfl⟩
theorem zDi (sv:Value) (l:List Ty) (t:Ty) (hl:l.length<=4000000):
    Con cfg 23 [.c (.lit sv),vTy t] (tyV sv l) fun r μ'=>∃sv',r=.c (.lit sv')/\μ'=tyV sv' (adT l t):=by
 refine zV Tryz.func23 O Tryz.ntmps23 Tryz.results23 O ?_
 intro z hz
 refine R O<|zU O O (qT O O) ?_
 rintro _ _ ⟨b1,rfl,rfl⟩
 refine v O (kH 5 O O)<|zA<|zF<|R O<|G O<|zA<|zQ<|zR ⟨[(5,.c _),(0,.c _),(3,.c _)],[_,_]⟩ (Weak.mk [true,true] ⟨zB,zB,zB,T⟩ O)<|qH 1 0 O O (Nat) (fun k=>[(5,vI k)]) (fun k=>[]) (fun k=>k<=l.length/\(l.take k).any (fun x=>decide (t=x))=false) (fun k=>l.length-k) ⟨0,⟨by omega,O⟩,Weak.mk [true,true] ⟨zB,zB,zB,T⟩ O⟩ ?_
 rintro k ⟨hk,hp⟩
 refine zF<|R O<|G O<|G O<|v O (yI 1 O el28 O O)<|yC O<|zA<|zC O (fun c1=>?_) (fun c1=>?_)
 ·try simp only [sx] at c1
  have hkl:=hk
  obtain ⟨x,hx⟩:=qW l k (by omega)
  refine zH<|zF<|zQ<|zF<|qU 6 mixed (by kernel_rfl) O O<|zE O O (zG O O)<|zE O O (zG O O)<|zE O O (qB 1 O el28 O O O (by omega) (by simp only [List.length_map];omega))<|zE O O (qD O yM O (yK 1 O (getm hx)) O)<|zE O O (qD O yM O (Y 0 O) O)<|zE O O (det_aeql O fl31 O O O)<|yN<|zA<|zC O (fun c2=>?_) (fun c2=>?_)
  ·have hxt:t=x:=(ty_t (a:=x) (b:=t) c2).symm
   refine R O<|G O<|G O<|zA<|zR _ (Weak.mem [false,true] O)<|zM<|zW O ?_
   exact ⟨_,O,by rw [adT_t (hasT_iff.2 (by rw [hxt];exact qA hx))];rfl⟩
  ·have hxt:¬t=x:=fun e=>ty_f (a:=x) (b:=t) c2 e.symm
   refine zH<|zI O<|G O<|qC O ⟨by omega,by omega⟩<|G O<|zA ?_
   refine ⟨k+1,⟨by omega,zCg hx hp (decide_eq_false hxt)⟩,(by omega),Weak.mk [true,true] ⟨zB,zB,zB,T⟩ O⟩
 ·try simp only [sx] at c1
  refine qL<|R O<|G O<|zO yM (Y 0 O) O<|v O (kD O el28 zr31 O O O O)<|zU O O (kL 1 O el28 O O O (by simp only [List.length_map,List.length_append,List.length_cons,List.length_nil,List.length_take,List.length_drop];omega) (by simp only [List.length_map,List.length_append,List.length_cons,List.length_nil,List.length_take,List.length_drop];omega)) ?_
  rintro _ _ ⟨sv2,rfl,rfl⟩
  refine G O<|zA<|zR _ (Weak.mem [false,true] O)<|zM<|zW O ?_
  exact ⟨_,O,by rw [adT_f (show hasT l t=false by rw [yG (by omega)] at hp;exact hp)];show _=[E.vec _ _ _ ((l++[t]).map tyC)];rw [List.map_append];rfl⟩
theorem zKy (x:Ex) (ih:∀a,a∈x.Args->∀(sv:Value) (l:List Ty) (hl:l.length+a.wt<=3000000),Con cfg 48 [.c (.lit sv),vE a] (tyV sv l) fun r μ'=>∃sv',r=.c (.lit sv')/\μ'=tyV sv' (exTy a l)) (sv:Value) (l:List Ty) (hl:l.length+x.wt<=3000000):
    Con cfg 48 [.c (.lit sv),vE x] (tyV sv l) fun r μ'=>∃sv',r=.c (.lit sv')/\μ'=tyV sv' (exTy x l):=by
 refine zV Tryz.func48 O Tryz.ntmps48 Tryz.results48 O ?_
 intro z hz
 have hwt:=Ex.wt_eq x
 have hln:=zHd x.Args
 refine R O<|zU O O (qT O O) ?_
 rintro _ _ ⟨b1,rfl,rfl⟩
 refine qQ _ (qK 0 O 3 _ PLe.ptr)<|v O (kH 5 O O)<|zA<|zF<|R O<|zZ O wX<|zL one3 N O<|zA<|zQ<|zF<|R O<|yP O<|G O<|zA<|zC O (fun c1=>?_) (fun c1=>?_)
 ·have d1:x.Op=1:=of_decide_eq_true c1
  refine zH<|zC O (fun c2=>?_) (fun c2=>?_)
  ·have hN0:adT l x.Ty=exT1 l x:=by unfold exT1;rw [if_pos (by first|exact .inl d1|exact .inr (of_decide_eq_true c2))]
   refine zI O<|G O<|zZ O zDn<|zO yM N O<|zU O O (yL 0 O O ok21 (cg_add sv l x.Ty (by omega)) ⟨zB,O,zB,O,T⟩) ?_
   rintro _ _ ⟨sv2,rfl,rfl⟩
   refine G O<|zA<|zF<|R O<|zZ O kN<|zL wZ N O<|qJ O el55<|G O<|zA<|zQ<|zR ⟨[(24,.c _),(0,.c _),(22,.c _),(23,.c _)],[_]⟩ (Weak.mk [true] ⟨zB,zB,zB,zB,T⟩ O)<|qH 2 1 O O (Nat×Value) (fun ⟨i,sw⟩=>[(24,vI i),(0,.c (.lit sw))]) (fun ⟨i,sw⟩=>[E.vec sw 31 5 ((exTyL (x.Args.take i) (exT1 l x)).map tyC)]) (fun ⟨i,sw⟩=>i<=x.Args.length) (fun ⟨i,sw⟩=>x.Args.length-i) ⟨⟨0,_⟩,(by omega),Weak.mk [true] ⟨zB,zB,zB,zB,T⟩ (by exact yE (congrArg (fun l=>l.map tyC) hN0))⟩ ?_
   rintro ⟨i,sw⟩ hi
   show AWP _ _ _ _ _ ⟨[(24,vI i),(0,.c (.lit sw))]++_,[E.vec sw 31 5 ((exTyL (x.Args.take i) (exT1 l x)).map tyC)]++_⟩
   refine R O<|yC O<|zA<|zF<|zC O (fun c4=>?_) (fun c4=>?_)
   ·try simp only [sx] at c4
    obtain ⟨y,hy⟩:=qW x.Args i (by omega)
    refine zH<|zF<|zQ<|R O<|qI O el55 (by omega) (zAm hy)<|zO yW N O<|zU O O (qR [none,none,none,none,none,none,none,none,none,none,some 2,some 4,some 13] O zr57 O) ?_
    rintro _ _ ⟨b3,rfl,rfl⟩
    refine A 0 sz57 O<|zA<|zI O<|G O<|zO yW (Y 0 O) O<|zU O O (yL 1 O O ok48 (ih y (qA hy) sw (exTyL (x.Args.take i) (exT1 l x)) (by have h1:=zBj (x.Args.take i) (exT1 l x);have h2:=zCs l x;have h3:=zCj (l:=x.Args) hy;omega)) ⟨zB,O,zB,O,T⟩) ?_
    rintro _ _ ⟨sv4,rfl,rfl⟩
    refine G O<|zA<|zI O<|qC O ⟨by omega,by omega⟩<|G O<|zA ?_
    refine ⟨⟨i+1,sv4⟩,(by omega),(by show x.Args.length-(i+1)<x.Args.length-i;omega),Weak.mk [false,true] ⟨zB,zB,zB,zB,T⟩ (by exact yE (by rw [zBq hy]))⟩
   ·try simp only [sx] at c4
    refine qL<|R O<|G O<|G O<|zA<|zM<|zW O ?_
    exact ⟨_,O,by rw [zGk,yG (l:=x.Args) (k:=i) (by omega)];rfl⟩
  ·exact absurd (c1.symm.trans c2) (by simp)
 ·have d1:¬x.Op=1:=of_decide_eq_false c1
  refine zI O<|yP O<|G O<|zA<|zC O (fun c2=>?_) (fun c2=>?_)
  ·have hN0:adT l x.Ty=exT1 l x:=by unfold exT1;rw [if_pos (by first|exact .inl d1|exact .inr (of_decide_eq_true c2))]
   refine zI O<|G O<|zZ O zDn<|zO yM N O<|zU O O (yL 0 O O ok21 (cg_add sv l x.Ty (by omega)) ⟨zB,O,zB,O,T⟩) ?_
   rintro _ _ ⟨sv5,rfl,rfl⟩
   refine G O<|zA<|zF<|R O<|zZ O kN<|zL wZ N O<|qJ O el55<|G O<|zA<|zQ<|zR ⟨[(24,.c _),(0,.c _),(22,.c _),(23,.c _)],[_]⟩ (Weak.mk [true] ⟨zB,zB,zB,zB,T⟩ O)<|qH 2 1 O O (Nat×Value) (fun ⟨i,sw⟩=>[(24,vI i),(0,.c (.lit sw))]) (fun ⟨i,sw⟩=>[E.vec sw 31 5 ((exTyL (x.Args.take i) (exT1 l x)).map tyC)]) (fun ⟨i,sw⟩=>i<=x.Args.length) (fun ⟨i,sw⟩=>x.Args.length-i) ⟨⟨0,_⟩,(by omega),Weak.mk [true] ⟨zB,zB,zB,zB,T⟩ (by exact yE (congrArg (fun l=>l.map tyC) hN0))⟩ ?_
   rintro ⟨i,sw⟩ hi
   show AWP _ _ _ _ _ ⟨[(24,vI i),(0,.c (.lit sw))]++_,[E.vec sw 31 5 ((exTyL (x.Args.take i) (exT1 l x)).map tyC)]++_⟩
   refine R O<|yC O<|zA<|zF<|zC O (fun c4=>?_) (fun c4=>?_)
   ·try simp only [sx] at c4
    obtain ⟨y,hy⟩:=qW x.Args i (by omega)
    refine zH<|zF<|zQ<|R O<|qI O el55 (by omega) (zAm hy)<|zO yW N O<|zU O O (qR [none,none,none,none,none,none,none,none,none,none,some 2,some 4,some 13] O zr57 O) ?_
    rintro _ _ ⟨b6,rfl,rfl⟩
    refine A 0 sz57 O<|zA<|zI O<|G O<|zO yW (Y 0 O) O<|zU O O (yL 1 O O ok48 (ih y (qA hy) sw (exTyL (x.Args.take i) (exT1 l x)) (by have h1:=zBj (x.Args.take i) (exT1 l x);have h2:=zCs l x;have h3:=zCj (l:=x.Args) hy;omega)) ⟨zB,O,zB,O,T⟩) ?_
    rintro _ _ ⟨sv7,rfl,rfl⟩
    refine G O<|zA<|zI O<|qC O ⟨by omega,by omega⟩<|G O<|zA ?_
    refine ⟨⟨i+1,sv7⟩,(by omega),(by show x.Args.length-(i+1)<x.Args.length-i;omega),Weak.mk [false,true] ⟨zB,zB,zB,zB,T⟩ (by exact yE (by rw [zBq hy]))⟩
   ·try simp only [sx] at c4
    refine qL<|R O<|G O<|G O<|zA<|zM<|zW O ?_
    exact ⟨_,O,by rw [zGk,yG (l:=x.Args) (k:=i) (by omega)];rfl⟩
  ·have d2:¬x.Op=12:=of_decide_eq_false c2
   refine R O<|yP O<|G O<|zA<|zC O (fun c3=>?_) (fun c3=>?_)
   ·try simp only [sx] at c3
    have hN0:adT l iTy=exT1 l x:=by unfold exT1;rw [if_neg (by omega),if_pos c3]
    refine zI O<|G O<|kG O zr31 pl31<|zU O O (yL 0 O O ok21 (cg_add sv l iTy (by omega)) ⟨zB,O,zB,O,T⟩) ?_
    rintro _ _ ⟨sv8,rfl,rfl⟩
    refine G O<|zA<|zF<|R O<|zZ O kN<|zL wZ N O<|qJ O el55<|G O<|zA<|zQ<|zR ⟨[(24,.c _),(0,.c _),(22,.c _),(23,.c _)],[_]⟩ (Weak.mk [true] ⟨zB,zB,zB,zB,T⟩ O)<|qH 2 1 O O (Nat×Value) (fun ⟨i,sw⟩=>[(24,vI i),(0,.c (.lit sw))]) (fun ⟨i,sw⟩=>[E.vec sw 31 5 ((exTyL (x.Args.take i) (exT1 l x)).map tyC)]) (fun ⟨i,sw⟩=>i<=x.Args.length) (fun ⟨i,sw⟩=>x.Args.length-i) ⟨⟨0,_⟩,(by omega),Weak.mk [true] ⟨zB,zB,zB,zB,T⟩ (by exact yE (congrArg (fun l=>l.map tyC) hN0))⟩ ?_
    rintro ⟨i,sw⟩ hi
    show AWP _ _ _ _ _ ⟨[(24,vI i),(0,.c (.lit sw))]++_,[E.vec sw 31 5 ((exTyL (x.Args.take i) (exT1 l x)).map tyC)]++_⟩
    refine R O<|yC O<|zA<|zF<|zC O (fun c4=>?_) (fun c4=>?_)
    ·try simp only [sx] at c4
     obtain ⟨y,hy⟩:=qW x.Args i (by omega)
     refine zH<|zF<|zQ<|R O<|qI O el55 (by omega) (zAm hy)<|zO yW N O<|zU O O (qR [none,none,none,none,none,none,none,none,none,none,some 2,some 4,some 13] O zr57 O) ?_
     rintro _ _ ⟨b9,rfl,rfl⟩
     refine A 0 sz57 O<|zA<|zI O<|G O<|zO yW (Y 0 O) O<|zU O O (yL 1 O O ok48 (ih y (qA hy) sw (exTyL (x.Args.take i) (exT1 l x)) (by have h1:=zBj (x.Args.take i) (exT1 l x);have h2:=zCs l x;have h3:=zCj (l:=x.Args) hy;omega)) ⟨zB,O,zB,O,T⟩) ?_
     rintro _ _ ⟨sv10,rfl,rfl⟩
     refine G O<|zA<|zI O<|qC O ⟨by omega,by omega⟩<|G O<|zA ?_
     refine ⟨⟨i+1,sv10⟩,(by omega),(by show x.Args.length-(i+1)<x.Args.length-i;omega),Weak.mk [false,true] ⟨zB,zB,zB,zB,T⟩ (by exact yE (by rw [zBq hy]))⟩
    ·try simp only [sx] at c4
     refine qL<|R O<|G O<|G O<|zA<|zM<|zW O ?_
     exact ⟨_,O,by rw [zGk,yG (l:=x.Args) (k:=i) (by omega)];rfl⟩
   ·try simp only [sx] at c3
    have hN0:l=exT1 l x:=by unfold exT1;rw [if_neg (by omega),if_neg c3]
    refine zH<|zF<|R O<|zZ O kN<|zL wZ N O<|qJ O el55<|G O<|zA<|zQ<|zR ⟨[(24,.c _),(0,.c _),(22,.c _),(23,.c _)],[_]⟩ (Weak.mk [true] ⟨zB,zB,zB,zB,T⟩ O)<|qH 2 1 O O (Nat×Value) (fun ⟨i,sw⟩=>[(24,vI i),(0,.c (.lit sw))]) (fun ⟨i,sw⟩=>[E.vec sw 31 5 ((exTyL (x.Args.take i) (exT1 l x)).map tyC)]) (fun ⟨i,sw⟩=>i<=x.Args.length) (fun ⟨i,sw⟩=>x.Args.length-i) ⟨⟨0,_⟩,(by omega),Weak.mk [true] ⟨zB,zB,zB,zB,T⟩ (by exact yE (congrArg (fun l=>l.map tyC) hN0))⟩ ?_
    rintro ⟨i,sw⟩ hi
    show AWP _ _ _ _ _ ⟨[(24,vI i),(0,.c (.lit sw))]++_,[E.vec sw 31 5 ((exTyL (x.Args.take i) (exT1 l x)).map tyC)]++_⟩
    refine R O<|yC O<|zA<|zF<|zC O (fun c4=>?_) (fun c4=>?_)
    ·try simp only [sx] at c4
     obtain ⟨y,hy⟩:=qW x.Args i (by omega)
     refine zH<|zF<|zQ<|R O<|qI O el55 (by omega) (zAm hy)<|zO yW N O<|zU O O (qR [none,none,none,none,none,none,none,none,none,none,some 2,some 4,some 13] O zr57 O) ?_
     rintro _ _ ⟨b11,rfl,rfl⟩
     refine A 0 sz57 O<|zA<|zI O<|G O<|zO yW (Y 0 O) O<|zU O O (yL 1 O O ok48 (ih y (qA hy) sw (exTyL (x.Args.take i) (exT1 l x)) (by have h1:=zBj (x.Args.take i) (exT1 l x);have h2:=zCs l x;have h3:=zCj (l:=x.Args) hy;omega)) ⟨zB,O,zB,O,T⟩) ?_
     rintro _ _ ⟨sv12,rfl,rfl⟩
     refine G O<|zA<|zI O<|qC O ⟨by omega,by omega⟩<|G O<|zA ?_
     refine ⟨⟨i+1,sv12⟩,(by omega),(by show x.Args.length-(i+1)<x.Args.length-i;omega),Weak.mk [false,true] ⟨zB,zB,zB,zB,T⟩ (by exact yE (by rw [zBq hy]))⟩
    ·try simp only [sx] at c4
     refine qL<|R O<|G O<|G O<|zA<|zM<|zW O ?_
     exact ⟨_,O,by rw [zGk,yG (l:=x.Args) (k:=i) (by omega)];rfl⟩
theorem cg_exprTypes (x:Ex):∀(sv:Value) (l:List Ty) (hl:l.length+x.wt<=3000000),Con cfg 48 [.c (.lit sv),vE x] (tyV sv l) fun r μ'=>∃sv',r=.c (.lit sv')/\μ'=tyV sv' (exTy x l):=by
  induction x using Ex.ind with
  |_ x ih=>exact fun sv l hl=>zKy x ih sv l hl
theorem zIy (x:Ex) (ih:∀a,a∈x.Args->∀(sv:Value) (l:List Ty) (hl:l.length+a.wt<=3000000),Con cfg 49 [.c (.lit sv),vE a] (tyV sv l) fun r μ'=>∃sv',r=.c (.lit sv')/\μ'=tyV sv' (exTy a l)) (sv:Value) (l:List Ty) (hl:l.length+x.wt<=3000000):
    Con cfg 49 [.c (.lit sv),vE x] (tyV sv l) fun r μ'=>∃sv',r=.c (.lit sv')/\μ'=tyV sv' (exTy x l):=by
 refine zV Tryz.func49 O Tryz.ntmps49 Tryz.results49 O ?_
 intro z hz
 have hwt:=Ex.wt_eq x
 have hln:=zHd x.Args
 refine R O<|zU O O (qT O O) ?_
 rintro _ _ ⟨b1,rfl,rfl⟩
 refine qQ _ (qK 0 O 3 _ PLe.ptr)<|v O (kH 5 O O)<|zA<|zF<|R O<|zZ O wX<|zL one3 N O<|zA<|zQ<|zF<|R O<|yP O<|G O<|zA<|zC O (fun c1=>?_) (fun c1=>?_)
 ·have d1:x.Op=1:=of_decide_eq_true c1
  refine zH<|zC O (fun c2=>?_) (fun c2=>?_)
  ·have hN0:adT l x.Ty=exT1 l x:=by unfold exT1;rw [if_pos (by first|exact .inl d1|exact .inr (of_decide_eq_true c2))]
   refine zI O<|G O<|zZ O zDn<|zO yM N O<|zU O O (yL 0 O O ok23 (zDi sv l x.Ty (by omega)) ⟨zB,O,zB,O,T⟩) ?_
   rintro _ _ ⟨sv2,rfl,rfl⟩
   refine G O<|zA<|zF<|R O<|G O<|zA<|zQ<|zR ⟨[(5,.c _),(0,.c _),(3,.c _)],[_]⟩ (Weak.mk [true] ⟨zB,zB,zB,T⟩ O)<|qH 2 1 O O (Nat×Value) (fun ⟨i,sw⟩=>[(5,vI i),(0,.c (.lit sw))]) (fun ⟨i,sw⟩=>[E.vec sw 31 5 ((exTyL (x.Args.take i) (exT1 l x)).map tyC)]) (fun ⟨i,sw⟩=>i<=x.Args.length) (fun ⟨i,sw⟩=>x.Args.length-i) ⟨⟨0,_⟩,(by omega),Weak.mk [true] ⟨zB,zB,zB,T⟩ (by exact yE (congrArg (fun l=>l.map tyC) hN0))⟩ ?_
   rintro ⟨i,sw⟩ hi
   show AWP _ _ _ _ _ ⟨[(5,vI i),(0,.c (.lit sw))]++_,[E.vec sw 31 5 ((exTyL (x.Args.take i) (exT1 l x)).map tyC)]++_⟩
   refine zF<|R O<|G O<|zZ O kN<|zL wZ N O<|qJ O el55<|yC O<|zA<|zC O (fun c4=>?_) (fun c4=>?_)
   ·try simp only [sx] at c4
    obtain ⟨y,hy⟩:=qW x.Args i (by omega)
    refine zH<|zF<|zQ<|zI O<|G O<|zZ O kN<|zL wZ N O<|G O<|qI O el55 (by omega) (zAm hy)<|zO yW N O<|zU O O (yL 0 O O ok49 (ih y (qA hy) sw (exTyL (x.Args.take i) (exT1 l x)) (by have h1:=zBj (x.Args.take i) (exT1 l x);have h2:=zCs l x;have h3:=zCj (l:=x.Args) hy;omega)) ⟨zB,O,zB,O,T⟩) ?_
    rintro _ _ ⟨sv3,rfl,rfl⟩
    refine G O<|zA<|zI O<|G O<|qC O ⟨by omega,by omega⟩<|G O<|zA ?_
    refine ⟨⟨i+1,sv3⟩,(by omega),(by show x.Args.length-(i+1)<x.Args.length-i;omega),Weak.mk [true] ⟨zB,zB,zB,T⟩ (by exact yE (by rw [zBq hy]))⟩
   ·try simp only [sx] at c4
    refine qL<|R O<|G O<|G O<|zA<|zM<|zW O ?_
    exact ⟨_,O,by rw [zGk,yG (l:=x.Args) (k:=i) (by omega)];rfl⟩
  ·exact absurd (c1.symm.trans c2) (by simp)
 ·have d1:¬x.Op=1:=of_decide_eq_false c1
  refine zI O<|yP O<|G O<|zA<|zC O (fun c2=>?_) (fun c2=>?_)
  ·have hN0:adT l x.Ty=exT1 l x:=by unfold exT1;rw [if_pos (by first|exact .inl d1|exact .inr (of_decide_eq_true c2))]
   refine zI O<|G O<|zZ O zDn<|zO yM N O<|zU O O (yL 0 O O ok23 (zDi sv l x.Ty (by omega)) ⟨zB,O,zB,O,T⟩) ?_
   rintro _ _ ⟨sv4,rfl,rfl⟩
   refine G O<|zA<|zF<|R O<|G O<|zA<|zQ<|zR ⟨[(5,.c _),(0,.c _),(3,.c _)],[_]⟩ (Weak.mk [true] ⟨zB,zB,zB,T⟩ O)<|qH 2 1 O O (Nat×Value) (fun ⟨i,sw⟩=>[(5,vI i),(0,.c (.lit sw))]) (fun ⟨i,sw⟩=>[E.vec sw 31 5 ((exTyL (x.Args.take i) (exT1 l x)).map tyC)]) (fun ⟨i,sw⟩=>i<=x.Args.length) (fun ⟨i,sw⟩=>x.Args.length-i) ⟨⟨0,_⟩,(by omega),Weak.mk [true] ⟨zB,zB,zB,T⟩ (by exact yE (congrArg (fun l=>l.map tyC) hN0))⟩ ?_
   rintro ⟨i,sw⟩ hi
   show AWP _ _ _ _ _ ⟨[(5,vI i),(0,.c (.lit sw))]++_,[E.vec sw 31 5 ((exTyL (x.Args.take i) (exT1 l x)).map tyC)]++_⟩
   refine zF<|R O<|G O<|zZ O kN<|zL wZ N O<|qJ O el55<|yC O<|zA<|zC O (fun c4=>?_) (fun c4=>?_)
   ·try simp only [sx] at c4
    obtain ⟨y,hy⟩:=qW x.Args i (by omega)
    refine zH<|zF<|zQ<|zI O<|G O<|zZ O kN<|zL wZ N O<|G O<|qI O el55 (by omega) (zAm hy)<|zO yW N O<|zU O O (yL 0 O O ok49 (ih y (qA hy) sw (exTyL (x.Args.take i) (exT1 l x)) (by have h1:=zBj (x.Args.take i) (exT1 l x);have h2:=zCs l x;have h3:=zCj (l:=x.Args) hy;omega)) ⟨zB,O,zB,O,T⟩) ?_
    rintro _ _ ⟨sv5,rfl,rfl⟩
    refine G O<|zA<|zI O<|G O<|qC O ⟨by omega,by omega⟩<|G O<|zA ?_
    refine ⟨⟨i+1,sv5⟩,(by omega),(by show x.Args.length-(i+1)<x.Args.length-i;omega),Weak.mk [true] ⟨zB,zB,zB,T⟩ (by exact yE (by rw [zBq hy]))⟩
   ·try simp only [sx] at c4
    refine qL<|R O<|G O<|G O<|zA<|zM<|zW O ?_
    exact ⟨_,O,by rw [zGk,yG (l:=x.Args) (k:=i) (by omega)];rfl⟩
  ·have d2:¬x.Op=12:=of_decide_eq_false c2
   refine R O<|yP O<|G O<|zA<|zC O (fun c3=>?_) (fun c3=>?_)
   ·try simp only [sx] at c3
    have hN0:adT l iTy=exT1 l x:=by unfold exT1;rw [if_neg (by omega),if_pos c3]
    refine zI O<|G O<|kG O zr31 pl31<|zU O O (yL 0 O O ok23 (zDi sv l iTy (by omega)) ⟨zB,O,zB,O,T⟩) ?_
    rintro _ _ ⟨sv6,rfl,rfl⟩
    refine G O<|zA<|zF<|R O<|G O<|zA<|zQ<|zR ⟨[(5,.c _),(0,.c _),(3,.c _)],[_]⟩ (Weak.mk [true] ⟨zB,zB,zB,T⟩ O)<|qH 2 1 O O (Nat×Value) (fun ⟨i,sw⟩=>[(5,vI i),(0,.c (.lit sw))]) (fun ⟨i,sw⟩=>[E.vec sw 31 5 ((exTyL (x.Args.take i) (exT1 l x)).map tyC)]) (fun ⟨i,sw⟩=>i<=x.Args.length) (fun ⟨i,sw⟩=>x.Args.length-i) ⟨⟨0,_⟩,(by omega),Weak.mk [true] ⟨zB,zB,zB,T⟩ (by exact yE (congrArg (fun l=>l.map tyC) hN0))⟩ ?_
    rintro ⟨i,sw⟩ hi
    show AWP _ _ _ _ _ ⟨[(5,vI i),(0,.c (.lit sw))]++_,[E.vec sw 31 5 ((exTyL (x.Args.take i) (exT1 l x)).map tyC)]++_⟩
    refine zF<|R O<|G O<|zZ O kN<|zL wZ N O<|qJ O el55<|yC O<|zA<|zC O (fun c4=>?_) (fun c4=>?_)
    ·try simp only [sx] at c4
     obtain ⟨y,hy⟩:=qW x.Args i (by omega)
     refine zH<|zF<|zQ<|zI O<|G O<|zZ O kN<|zL wZ N O<|G O<|qI O el55 (by omega) (zAm hy)<|zO yW N O<|zU O O (yL 0 O O ok49 (ih y (qA hy) sw (exTyL (x.Args.take i) (exT1 l x)) (by have h1:=zBj (x.Args.take i) (exT1 l x);have h2:=zCs l x;have h3:=zCj (l:=x.Args) hy;omega)) ⟨zB,O,zB,O,T⟩) ?_
     rintro _ _ ⟨sv7,rfl,rfl⟩
     refine G O<|zA<|zI O<|G O<|qC O ⟨by omega,by omega⟩<|G O<|zA ?_
     refine ⟨⟨i+1,sv7⟩,(by omega),(by show x.Args.length-(i+1)<x.Args.length-i;omega),Weak.mk [true] ⟨zB,zB,zB,T⟩ (by exact yE (by rw [zBq hy]))⟩
    ·try simp only [sx] at c4
     refine qL<|R O<|G O<|G O<|zA<|zM<|zW O ?_
     exact ⟨_,O,by rw [zGk,yG (l:=x.Args) (k:=i) (by omega)];rfl⟩
   ·try simp only [sx] at c3
    have hN0:l=exT1 l x:=by unfold exT1;rw [if_neg (by omega),if_neg c3]
    refine zH<|zF<|R O<|G O<|zA<|zQ<|zR ⟨[(5,.c _),(0,.c _),(3,.c _)],[_]⟩ (Weak.mk [true] ⟨zB,zB,zB,T⟩ O)<|qH 2 1 O O (Nat×Value) (fun ⟨i,sw⟩=>[(5,vI i),(0,.c (.lit sw))]) (fun ⟨i,sw⟩=>[E.vec sw 31 5 ((exTyL (x.Args.take i) (exT1 l x)).map tyC)]) (fun ⟨i,sw⟩=>i<=x.Args.length) (fun ⟨i,sw⟩=>x.Args.length-i) ⟨⟨0,_⟩,(by omega),Weak.mk [true] ⟨zB,zB,zB,T⟩ (by exact yE (congrArg (fun l=>l.map tyC) hN0))⟩ ?_
    rintro ⟨i,sw⟩ hi
    show AWP _ _ _ _ _ ⟨[(5,vI i),(0,.c (.lit sw))]++_,[E.vec sw 31 5 ((exTyL (x.Args.take i) (exT1 l x)).map tyC)]++_⟩
    refine zF<|R O<|G O<|zZ O kN<|zL wZ N O<|qJ O el55<|yC O<|zA<|zC O (fun c4=>?_) (fun c4=>?_)
    ·try simp only [sx] at c4
     obtain ⟨y,hy⟩:=qW x.Args i (by omega)
     refine zH<|zF<|zQ<|zI O<|G O<|zZ O kN<|zL wZ N O<|G O<|qI O el55 (by omega) (zAm hy)<|zO yW N O<|zU O O (yL 0 O O ok49 (ih y (qA hy) sw (exTyL (x.Args.take i) (exT1 l x)) (by have h1:=zBj (x.Args.take i) (exT1 l x);have h2:=zCs l x;have h3:=zCj (l:=x.Args) hy;omega)) ⟨zB,O,zB,O,T⟩) ?_
     rintro _ _ ⟨sv8,rfl,rfl⟩
     refine G O<|zA<|zI O<|G O<|qC O ⟨by omega,by omega⟩<|G O<|zA ?_
     refine ⟨⟨i+1,sv8⟩,(by omega),(by show x.Args.length-(i+1)<x.Args.length-i;omega),Weak.mk [true] ⟨zB,zB,zB,T⟩ (by exact yE (by rw [zBq hy]))⟩
    ·try simp only [sx] at c4
     refine qL<|R O<|G O<|G O<|zA<|zM<|zW O ?_
     exact ⟨_,O,by rw [zGk,yG (l:=x.Args) (k:=i) (by omega)];rfl⟩
theorem r48_exprTypes (x:Ex):∀(sv:Value) (l:List Ty) (hl:l.length+x.wt<=3000000),Con cfg 49 [.c (.lit sv),vE x] (tyV sv l) fun r μ'=>∃sv',r=.c (.lit sv')/\μ'=tyV sv' (exTy x l):=by
  induction x using Ex.ind with
  |_ x ih=>exact fun sv l hl=>zIy x ih sv l hl
theorem zEg (b:List St) (ih:∀s,s∈b->∀(sv:Value) (l:List Ty) (hl:l.length+stsWt s.Body<=2000000),Con cfg 22 [.c (.lit sv),vSts s.Body] (tyV sv l) fun r μ'=>∃sv',r=.c (.lit sv')/\μ'=tyV sv' (stTyL s.Body l)) (sv:Value) (l:List Ty) (hl:l.length+stsWt b<=2000000):
    Con cfg 22 [.c (.lit sv),vSts b] (tyV sv l) fun r μ'=>∃sv',r=.c (.lit sv')/\μ'=tyV sv' (stTyL b l):=by
 refine zV Tryz.func22 O Tryz.ntmps22 Tryz.results22 O ?_
 intro z hz
 have hbl:=wP b
 refine R O<|v O (kH 5 O O)<|zA<|zF<|R O<|G O<|qJ O el23<|G O<|zA<|zQ<|zR ⟨[(9,.c _),(0,.c _),(7,.c _),(8,.c _)],[_]⟩ (Weak.mk [true] ⟨zB,zB,zB,zB,T⟩ O)<|qH 2 1 O O (Nat×Value) (fun ⟨k,sw⟩=>[(9,vI k),(0,.c (.lit sw))]) (fun ⟨k,sw⟩=>[E.vec sw 31 5 ((stTyL (b.take k) l).map tyC)]) (fun ⟨k,sw⟩=>k<=b.length) (fun ⟨k,sw⟩=>b.length-k) ⟨⟨0,sv⟩,(by omega),Weak.mk [true] ⟨zB,zB,zB,zB,T⟩ O⟩ ?_
 rintro ⟨k,sw⟩ hk
 show AWP _ _ _ _ _ ⟨[(9,vI k),(0,.c (.lit sw))]++_,[E.vec sw 31 5 ((stTyL (b.take k) l).map tyC)]++_⟩
 refine R O<|yC O<|zA<|zF<|zC O (fun c1=>?_) (fun c1=>?_)
 ·try simp only [sx] at c1
  obtain ⟨s,hs⟩:=qW b k (by omega)
  refine zH<|zF<|zQ<|R O<|qI O el23 (by omega) (zJk hs)<|zO zHi N O<|zU O O (qR [none,none,none,none,none,some 4,none,none,none,none,none,none,none,none,none,none,some 2,some 4,some 13,some 20] O zr59 O) ?_
  rintro _ _ ⟨b1,rfl,rfl⟩
  refine A 0 sz59 O<|qQ _ (qK 0 O 6 _ PLe.ptr)<|zA<|R O<|G O<|zZ O zEe<|zO yW N O<|zU O O (yL 0 O O ok48 (cg_exprTypes s.E sw (stTyL (b.take k) l) (by have h1:=zCv (b.take k) l;have h2:=zLx hs;have h3:=St.wt_eq s;omega)) ⟨zB,O,zB,O,T⟩) ?_
  rintro _ _ ⟨sv2,rfl,rfl⟩
  refine G O<|zA<|zI O<|G O<|zZ O zDm<|zL zCq N O<|zU O O (yL 0 O O ok22 (ih s (qA hs) _ (exTy s.E (stTyL (b.take k) l)) (by have h1:=zCv (b.take k) l;have h2:=zLx hs;have h3:=St.wt_eq s;have h4:=zMk s.E (stTyL (b.take k) l);omega)) ⟨zB,O,zB,O,T⟩) ?_
  rintro _ _ ⟨sv3,rfl,rfl⟩
  refine G O<|zA<|zI O<|qC O ⟨by omega,by omega⟩<|G O<|zA ?_
  refine ⟨⟨k+1,sv3⟩,(by omega),(by show b.length-(k+1)<b.length-k;omega),Weak.mk [true] ⟨zB,zB,zB,zB,T⟩ (by exact yE (by rw [stTyL_next hs,stTy_eq]))⟩
 ·try simp only [sx] at c1
  refine qL<|R O<|G O<|G O<|zA<|zM<|zW O ?_
  exact ⟨_,O,by rw [yG (l:=b) (k:=k) (by omega)];rfl⟩
theorem zKx (s:St):∀(sv:Value) (l:List Ty) (hl:l.length+stsWt s.Body<=2000000),Con cfg 22 [.c (.lit sv),vSts s.Body] (tyV sv l) fun r μ'=>∃sv',r=.c (.lit sv')/\μ'=tyV sv' (stTyL s.Body l):=by
  induction s using St.ind with
  |_ s ih=>exact fun sv l hl=>zEg s.Body ih sv l hl
theorem cg_stmtTypes (b:List St) (sv:Value) (l:List Ty) (hl:l.length+stsWt b<=2000000):Con cfg 22 [.c (.lit sv),vSts b] (tyV sv l) fun r μ'=>∃sv',r=.c (.lit sv')/\μ'=tyV sv' (stTyL b l):=zEg b (fun s _=>zKx s) sv l hl
theorem zDj (b:List St) (ih:∀s,s∈b->∀(sv:Value) (l:List Ty) (hl:l.length+stsWt s.Body<=2000000),Con cfg 24 [.c (.lit sv),vSts s.Body] (tyV sv l) fun r μ'=>∃sv',r=.c (.lit sv')/\μ'=tyV sv' (stTyL s.Body l)) (sv:Value) (l:List Ty) (hl:l.length+stsWt b<=2000000):
    Con cfg 24 [.c (.lit sv),vSts b] (tyV sv l) fun r μ'=>∃sv',r=.c (.lit sv')/\μ'=tyV sv' (stTyL b l):=by
 refine zV Tryz.func24 O Tryz.ntmps24 Tryz.results24 O ?_
 intro z hz
 have hbl:=wP b
 refine R O<|v O (kH 5 O O)<|zA<|zF<|R O<|G O<|zA<|zQ<|zR ⟨[(5,.c _),(0,.c _),(1,.c _)],[_]⟩ (Weak.mk [true] ⟨zB,zB,zB,T⟩ O)<|qH 2 1 O O (Nat×Value) (fun ⟨k,sw⟩=>[(5,vI k),(0,.c (.lit sw))]) (fun ⟨k,sw⟩=>[E.vec sw 31 5 ((stTyL (b.take k) l).map tyC)]) (fun ⟨k,sw⟩=>k<=b.length) (fun ⟨k,sw⟩=>b.length-k) ⟨⟨0,sv⟩,(by omega),Weak.mk [true] ⟨zB,zB,zB,T⟩ O⟩ ?_
 rintro ⟨k,sw⟩ hk
 show AWP _ _ _ _ _ ⟨[(5,vI k),(0,.c (.lit sw))]++_,[E.vec sw 31 5 ((stTyL (b.take k) l).map tyC)]++_⟩
 refine zF<|R O<|G O<|G O<|qJ O el23<|yC O<|zA<|zC O (fun c1=>?_) (fun c1=>?_)
 ·try simp only [sx] at c1
  obtain ⟨s,hs⟩:=qW b k (by omega)
  refine zH<|zF<|zQ<|R O<|G O<|G O<|G O<|qI O el23 (by omega) (zJk hs)<|zZ O zEe<|zO yW N O<|zU O O (yL 0 O O ok49 (r48_exprTypes s.E sw (stTyL (b.take k) l) (by have h1:=zCv (b.take k) l;have h2:=zLx hs;have h3:=St.wt_eq s;omega)) ⟨zB,O,zB,O,T⟩) ?_
  rintro _ _ ⟨sv1,rfl,rfl⟩
  refine G O<|zA<|zI O<|G O<|G O<|G O<|qI O el23 (by omega) (zJk hs)<|zZ O zDm<|zL zCq N O<|zU O O (yL 0 O O ok24 (ih s (qA hs) _ (exTy s.E (stTyL (b.take k) l)) (by have h1:=zCv (b.take k) l;have h2:=zLx hs;have h3:=St.wt_eq s;have h4:=zMk s.E (stTyL (b.take k) l);omega)) ⟨zB,O,zB,O,T⟩) ?_
  rintro _ _ ⟨sv2,rfl,rfl⟩
  refine G O<|zA<|zI O<|G O<|qC O ⟨by omega,by omega⟩<|G O<|zA ?_
  refine ⟨⟨k+1,sv2⟩,(by omega),(by show b.length-(k+1)<b.length-k;omega),Weak.mk [true] ⟨zB,zB,zB,T⟩ (by exact yE (by rw [stTyL_next hs,stTy_eq]))⟩
 ·try simp only [sx] at c1
  refine qL<|R O<|G O<|G O<|zA<|zM<|zW O ?_
  exact ⟨_,O,by rw [yG (l:=b) (k:=k) (by omega)];rfl⟩
theorem zIx (s:St):∀(sv:Value) (l:List Ty) (hl:l.length+stsWt s.Body<=2000000),Con cfg 24 [.c (.lit sv),vSts s.Body] (tyV sv l) fun r μ'=>∃sv',r=.c (.lit sv')/\μ'=tyV sv' (stTyL s.Body l):=by
  induction s using St.ind with
  |_ s ih=>exact fun sv l hl=>zDj s.Body ih sv l hl
theorem r48_stmtTypes (b:List St) (sv:Value) (l:List Ty) (hl:l.length+stsWt b<=2000000):Con cfg 24 [.c (.lit sv),vSts b] (tyV sv l) fun r μ'=>∃sv',r=.c (.lit sv')/\μ'=tyV sv' (stTyL b l):=zDj b (fun s _=>zIx s) sv l hl
theorem cg_Types (n:Ns) (hb:n.Bufs.length<=1000000) (hw:stsWt n.Body<=900000):
    OwnR cfg 10 [vNs n] 31 5 ((typN n).map tyC):=by
 refine zV Tryz.func10 O Tryz.ntmps10 Tryz.results10 O ?_
 intro z hz
 refine R O<|zU O O (qT O O) ?_
 rintro _ _ ⟨b1,rfl,rfl⟩
 refine qQ _ (qK 0 O 1 _ PLe.ptr)<|G O<|zA<|R O<|G O<|qQ _ (zAc 31 5)<|zA<|zF<|R O<|zZ O zGf<|zL zNl N O<|qJ O el22<|G O<|zA<|zQ<|zR ⟨[(9,.c _),(3,.c _),(1,.c _),(7,.c _),(8,.c _)],[_]⟩ (Weak.mk [true] ⟨zB,zB,zB,zB,zB,T⟩ O)<|qH 2 1 O O (Nat×Value) (fun ⟨k,sw⟩=>[(9,vI k),(3,.c (.lit sw))]) (fun ⟨k,sw⟩=>[E.vec sw 31 5 ((bfTy (n.Bufs.take k)).map tyC)]) (fun ⟨k,sw⟩=>k<=n.Bufs.length) (fun ⟨k,sw⟩=>n.Bufs.length-k) ⟨⟨0,(.slice none 0 0)⟩,(by omega),Weak.mk [true] ⟨zB,zB,zB,zB,zB,T⟩ O⟩ ?_
 rintro ⟨k,sw⟩ hk
 show AWP _ _ _ _ _ ⟨[(9,vI k),(3,.c (.lit sw))]++_,[E.vec sw 31 5 ((bfTy (n.Bufs.take k)).map tyC)]++_⟩
 refine R O<|yC O<|zA<|zF<|zC O (fun c1=>?_) (fun c1=>?_)
 ·try simp only [sx] at c1
  obtain ⟨b,hb2⟩:=qW n.Bufs k (by omega)
  refine zH<|zF<|zQ<|R O<|qI O el22 (by omega) (getm hb2)<|zO zPf N O<|zU O O (qR [none,none,none,none,none,none,some 1,none] O zr69 O) ?_
  rintro _ _ ⟨b3,rfl,rfl⟩
  refine A 0 sz69 O<|qQ _ (qK 0 O 5 _ PLe.ptr)<|zA<|zI O<|G O<|zZ O zLk<|zO yM N O<|zU O O (yL 0 O O ok21 (cg_add sw (bfTy (n.Bufs.take k)) b.T (by have h1:=zJx (n.Bufs.take k);rw [List.length_take] at h1;omega)) ⟨zB,O,zB,O,T⟩) ?_
  rintro _ _ ⟨sv4,rfl,rfl⟩
  refine G O<|zA<|zI O<|qC O ⟨by omega,by omega⟩<|G O<|zA ?_
  refine ⟨⟨k+1,sv4⟩,(by omega),(by show n.Bufs.length-(k+1)<n.Bufs.length-k;omega),Weak.mk [true] ⟨zB,zB,zB,zB,zB,T⟩ (by exact yE (by rw [bfTy_next hb2]))⟩
 ·try simp only [sx] at c1
  rw [yG (l:=n.Bufs) (k:=k) (by omega)]
  refine qL<|R O<|G O<|zZ O zHs<|zL zCq N O<|zU O O (yL 0 O O ok22 (cg_stmtTypes n.Body _ (bfTy n.Bufs) (by have h1:=zJx n.Bufs;omega)) ⟨zB,O,zB,O,T⟩) ?_
  rintro _ _ ⟨sv5,rfl,rfl⟩
  refine G O<|zA<|zM<|zW O ?_
  exact ⟨_,O,O⟩
theorem r48_Types (n:Ns) (hb:n.Bufs.length<=1000000) (hw:stsWt n.Body<=900000):
    OwnR cfg 11 [vNs n] 31 5 ((typN n).map tyC):=by
 refine zV Tryz.func11 O Tryz.ntmps11 Tryz.results11 O ?_
 intro z hz
 refine R O<|zU O O (qT O O) ?_
 rintro _ _ ⟨b1,rfl,rfl⟩
 refine qQ _ (qK 0 O 1 _ PLe.ptr)<|G O<|zA<|R O<|G O<|qQ _ (zAc 31 5)<|zA<|zF<|R O<|G O<|zA<|zQ<|zR ⟨[(4,.c _),(3,.c _),(1,.c _)],[_]⟩ (Weak.mk [true] ⟨zB,zB,zB,T⟩ O)<|qH 2 1 O O (Nat×Value) (fun ⟨k,sw⟩=>[(4,vI k),(3,.c (.lit sw))]) (fun ⟨k,sw⟩=>[E.vec sw 31 5 ((bfTy (n.Bufs.take k)).map tyC)]) (fun ⟨k,sw⟩=>k<=n.Bufs.length) (fun ⟨k,sw⟩=>n.Bufs.length-k) ⟨⟨0,(.slice none 0 0)⟩,(by omega),Weak.mk [true] ⟨zB,zB,zB,T⟩ O⟩ ?_
 rintro ⟨k,sw⟩ hk
 show AWP _ _ _ _ _ ⟨[(4,vI k),(3,.c (.lit sw))]++_,[E.vec sw 31 5 ((bfTy (n.Bufs.take k)).map tyC)]++_⟩
 refine zF<|R O<|G O<|zZ O zGf<|zL zNl N O<|qJ O el22<|yC O<|zA<|zC O (fun c1=>?_) (fun c1=>?_)
 ·try simp only [sx] at c1
  obtain ⟨b,hb2⟩:=qW n.Bufs k (by omega)
  refine zH<|zF<|zQ<|zI O<|G O<|zZ O zGf<|zL zNl N O<|G O<|qI O el22 (by omega) (getm hb2)<|zZ O zLk<|zO yM N O<|zU O O (yL 0 O O ok23 (zDi sw (bfTy (n.Bufs.take k)) b.T (by have h1:=zJx (n.Bufs.take k);rw [List.length_take] at h1;omega)) ⟨zB,O,zB,O,T⟩) ?_
  rintro _ _ ⟨sv3,rfl,rfl⟩
  refine G O<|zA<|zI O<|G O<|qC O ⟨by omega,by omega⟩<|G O<|zA ?_
  refine ⟨⟨k+1,sv3⟩,(by omega),(by show n.Bufs.length-(k+1)<n.Bufs.length-k;omega),Weak.mk [true] ⟨zB,zB,zB,T⟩ (by exact yE (by rw [bfTy_next hb2]))⟩
 ·try simp only [sx] at c1
  rw [yG (l:=n.Bufs) (k:=k) (by omega)]
  refine qL<|R O<|G O<|zZ O zHs<|zL zCq N O<|zU O O (yL 0 O O ok24 (r48_stmtTypes n.Body _ (bfTy n.Bufs) (by have h1:=zJx n.Bufs;omega)) ⟨zB,O,zB,O,T⟩) ?_
  rintro _ _ ⟨sv4,rfl,rfl⟩
  refine G O<|zA<|zM<|zW O ?_
  exact ⟨_,O,O⟩
theorem shape_Strides (d:List Int) (hl:d.length<=17592186044416):
    Pur cfg 113 [vIs d] (vIs (strT d)):=by
 refine zV Tryz.func113 O Tryz.ntmps113 Tryz.results113 O ?_
 intro z hz
 refine R O<|v O (kH 1 O O)<|zA<|zF<|R O<|G O<|qX O ok103 (zDw d hl) ⟨zB,O,T⟩<|wO O<|zA<|zC O (fun c1=>?_) (fun c1=>?_)
 ·try simp only [sx] at c1
  refine R O<|v O (kH 1 O O)<|zA<|zM<|zW O ?_
  unfold strT;rw [if_neg c1];rfl
 ·try simp only [sx] at c1
  have hsl:=zLz d
  have hd6:=(zGn c1).1
  refine zH<|R O<|G O<|qJ O el67<|zU O O (ope_make d.length O el67 zr3 O O (by simp) (by simp) (by omega) (by omega)) ?_
  rintro _ _ ⟨sv1,rfl,rfl⟩
  refine G O<|zA<|R O<|G O<|zA<|zF<|R O<|G O<|qJ O el67<|yF O ⟨by omega,by omega⟩<|G O<|zA<|zQ<|zR ⟨[(5,.c _),(4,.c _),(0,.c _),(3,.c _)],[_]⟩ (Weak.mk [true] ⟨zB,zB,zB,zB,T⟩ O) ?_
  refine qH 2 1 O O (Nat) (fun j=>[(5,vI ((j:Int)-1)),(4,vI (prodI (d.drop j)))]) (fun j=>[E.vec sv1 3 1 (List.replicate j [cI 0]++((strF d).drop j).map fun n=>[cI n])]) (fun j=>j<=d.length) (fun j=>j) ⟨d.length,(by omega),Weak.mk [true] ⟨zB,VLe.of_eq (congrArg vI (by rw [List.drop_length];rfl)),zB,zB,T⟩ (by exact yE (by rw [List.drop_eq_nil_of_le (by rw [zLz];exact Nat.le_refl _)];simp))⟩ ?_
  rintro j hj
  refine zF<|R O<|G O<|v O (wG O O O)<|zA<|zC O (fun c2=>?_) (fun c2=>?_)
  ·try simp only [sx] at c2
   obtain ⟨x,hx⟩:=qW d (j-1) (by omega)
   have hjx:0<j:=by omega
   refine zH<|zF<|zQ<|R O<|G O<|G O<|G O<|v O (qB 0 O el67 O O O (by omega) (by simp only [List.length_append,List.length_replicate,List.length_drop,List.length_map,zLz];omega))<|zAd O O (yX O sz3 O O O (zBs 0 O (st_get hjx _) O))<|zA<|zI O<|G O<|G O<|G O<|qI O el67 (by omega) (getm (show d[((j:Int)-1).toNat]? =some x by rw [show ((j:Int)-1).toNat=j-1 by omega];exact hx))<|zL one3 N O<|v O (zAa O O O (by have h1:=zOr c1 (j-1);have h2:=zOr c1 j;have h3:=prod_next hx;rw [show j-1+1=j by omega] at h3;rw [Int.mul_comm,←h3];exact ⟨by omega,by omega⟩))<|G O<|zA<|zI O<|G O<|yF O ⟨by omega,by omega⟩<|G O<|zA ?_
   refine ⟨j-1,(by omega),(by omega),Weak.mk [true] ⟨VLe.of_eq (congrArg vI (by omega)),VLe.of_eq (congrArg vI (by have h3:=prod_next hx;rw [show j-1+1=j by omega] at h3;rw [h3,Int.mul_comm])),zB,zB,T⟩ (by exact yE (st_set hjx hx))⟩
  ·try simp only [sx] at c2
   refine qL<|zF<|zR _ (wL 0 O (regs':=[(3,_)]) (μ':=[]) ⟨FLe.sl,T⟩ T)<|zI O<|G O<|G O<|zA<|zM<|zW O ?_
   unfold strT;rw [if_pos c1];have hj0:j=0:=by omega
   subst hj0
   rfl
theorem r48_Short (n:Ns) (hf:n.Fit):
    Pur cfg 8 [vNs n] (vB (decide ((n.Bufs.length:Int)<=40)&&decide ((weighB n.Body 300:Int)<=300))):=by
 refine zV Tryz.func8 O Tryz.ntmps8 Tryz.results8 O ?_
 intro z hz
 refine R O<|zU O O (qT O O) ?_
 rintro _ _ ⟨b1,rfl,rfl⟩
 refine G O<|zA<|R O<|zN O zGf<|zL zNl (Y 0 O) O<|qJ O el22<|v O (wH O O O)<|G O<|rL0 O (fun g1_4=>zJ O zHs O) O<|B 8 O (fun g1_4=>zD O zCq O (Y 0 O) O) O<|B 9 O (fun g1_4=>qY O ok20 (zPc n.Body 300 300 hf.body hf.len (by omega) O) ⟨zB,O,zB,O,T⟩) O<|B 10 O (fun g1_4=>wH O O O) O<|kF O (fun h=>h)<|G O<|zA<|zM<|zW O ?_
 exact O
end Go.W
