/-
  What functions compute.
  Conditions: none.
-/
import Derived.Test.YtdldhbfgfkebjaaGreatDoorNE
import Derived.Test.YtdldhbfgfkebjaaGreatDoorPlainG
import Derived.Test.YtdldhbfgfkebjaaGreatDoorEngV2
set_option linter.unusedSimpArgs false
set_option linter.unusedVariables false
set_option maxRecDepth 10000
namespace Go.W
open Go Go.Eng Go.Proofs Go.L41 Go.Br
attribute [local irreducible] AWP RWP TD fY
abbrev tyV (sv:Value) (l:List Ty):List E:=[E.vec sv 31 5 (l.map tyC)]
theorem ty_t {a b:Ty} (h:bH (tyC a) (tyC b)=true):a=b:=of_decide_eq_true ((tyC_eq a b).symm.trans h)
theorem ty_f {a b:Ty} (h:bH (tyC a) (tyC b)=false):¬a=b:=of_decide_eq_false ((tyC_eq a b).symm.trans h)
theorem ok21:bA Tryz.prog 21=true:=by kernel_rfl
theorem ok22:bA Tryz.prog 22=true:=by kernel_rfl
theorem ok47:bA Tryz.prog 47=true:=by kernel_rfl
theorem ok48:bA Tryz.prog 48=true:=by kernel_rfl
theorem ok97:bA Tryz.prog 97=true:=by kernel_rfl
theorem zHx (l:List Ty) (t:Ty) (hl:l.length<=4294967296):
    Pur cfg 97 [xR l,vTy t] (vI (vT l t)):=by
 refine zU Tryz.func97 O Tryz.ntmps97 Tryz.results97 O ?_
 intro z hz
 refine R O<|zV O O (qO O O) ?_
 rintro _ _ ⟨b1,rfl,rfl⟩
 refine G O<|zA<|zI<|R O<|G O<|zZ O el28<|G O<|zA<|zP<|zT ⟨[(8,.c _),(0,.c _),(3,.c _),(7,.c _)],[_]⟩ (Weak.mk [true] ⟨zB,zB,zB,zB,T⟩ O)<|qG 1 0 O O (Nat) (fun k=>[(8,vI k)]) (fun k=>[]) (fun k=>k<=l.length/\(l.take k).any (fun x=>decide (t=x))=false) (fun k=>l.length-k) ⟨0,⟨by omega,O⟩,Weak.mk [true] ⟨zB,zB,zB,zB,T⟩ O⟩ ?_
 rintro k ⟨hk,hp⟩
 refine R O<|yB O<|zA<|zI<|zC O (fun c1=>?_) (fun c1=>?_)
 ·try simp only [sx] at c1
  obtain ⟨x,hx⟩:=qU l k (by omega)
  refine zJ<|zI<|zP<|R O<|G O<|G O<|zA<|zI<|qW 6 mixed (by kernel_rfl) O O<|zL O O (qC O yH O (Y 0 O) O)<|zL O O (zN O O)<|zL O O (zN O O)<|zL O O (qL O el28 O O (by omega) (B hx))<|zL O O (qC O yH O zQ O)<|zL O O (zQh O fl31 O O O)<|yJ<|zA<|zC O (fun c2=>?_) (fun c2=>?_)
  ·have hxt:t=x:=ty_t (a:=t) (b:=x) c2
   refine R O<|G O<|G O<|zA<|zK<|zR O ?_
   exact congrArg vI (zDq hx (decide_eq_true hxt) hp).symm
  ·have hxt:¬t=x:=ty_f (a:=t) (b:=x) c2
   refine zJ<|zM O<|qB O ⟨by omega,by omega⟩<|G O<|zA ?_
   refine ⟨k+1,⟨by omega,zCi hx hp (decide_eq_false hxt)⟩,(by omega),Weak.mk [true] ⟨zB,zB,zB,zB,T⟩ O⟩
 ·try simp only [sx] at c1
  refine qH<|R O<|G O<|zA<|zK<|zR O ?_
  exact congrArg vI (zBb (by rw [yA (by omega)] at hp;exact hp)).symm
theorem zLi (l:List Ty) (t:Ty) (hl:l.length<=4294967296):
    Pur cfg 47 [xR l,vTy t] (vB (xK l t)):=by
 refine zU Tryz.func47 O Tryz.ntmps47 Tryz.results47 O ?_
 intro z hz
 refine R O<|zV O O (qO O O) ?_
 rintro _ _ ⟨b1,rfl,rfl⟩
 refine G O<|zA<|R O<|G O<|zO yH (Y 0 O) O<|qN O ok97 (zHx l t hl) ⟨zB,O,zB,O,T⟩<|zW O (kN O O O)<|G O<|zA<|zK<|zR O ?_
 exact congrArg vB (zCb _ _)
theorem cg_add (sv:Value) (l:List Ty) (t:Ty) (hl:l.length<=4000000):
    Con cfg 21 [.c (.lit sv),vTy t] (tyV sv l) fun r μ'=>∃sv',r=.c (.lit sv')/\μ'=tyV sv' (adT l t):=by
 refine zU Tryz.func21 O Tryz.ntmps21 Tryz.results21 O ?_
 intro z hz
 refine R O<|zV O O (qO O O) ?_
 rintro _ _ ⟨b1,rfl,rfl⟩
 refine zW O (yX 5 O O)<|zA<|zI<|R O<|G O<|zO yH (Y 0 O) O<|zW O (zDb 1 O ok47 O (zLi l t (by omega)) O ⟨.inl ⟨O,O⟩,.inr ⟨zB,O⟩,T⟩)<|zA<|zC O (fun c1=>?_) (fun c1=>?_)
 ·try simp only [sx] at c1
  refine R O<|G O<|G O<|zA<|zT _ (Weak.mem [false,true] O)<|zK<|zR O ?_
  exact ⟨_,O,by rw [adT_t c1];rfl⟩
 ·try simp only [sx] at c1
  refine zJ<|R O<|G O<|zO yH (Y 0 O) O<|zW O (yM O el28 zr31 O O O O)<|zV O O (yQ 1 O el28 O O O (by simp only [List.length_map,List.length_append,List.length_cons,List.length_nil,List.length_take,List.length_drop];omega) (by simp only [List.length_map,List.length_append,List.length_cons,List.length_nil,List.length_take,List.length_drop];omega)) ?_
  rintro _ _ ⟨sv2,rfl,rfl⟩
  refine G O<|zA<|zT _ (Weak.mem [false,true] O)<|zK<|zR O ?_
  exact ⟨_,O,by rw [adT_f c1];show _=[E.vec _ _ _ ((l++[t]).map tyC)];rw [List.map_append];rfl⟩
theorem zOg (x:Ex) (ih:∀a,a∈x.Args->∀(sv:Value) (l:List Ty) (hl:l.length+a.wt<=3000000),Con cfg 48 [.c (.lit sv),vE a] (tyV sv l) fun r μ'=>∃sv',r=.c (.lit sv')/\μ'=tyV sv' (mN a l)) (sv:Value) (l:List Ty) (hl:l.length+x.wt<=3000000):
    Con cfg 48 [.c (.lit sv),vE x] (tyV sv l) fun r μ'=>∃sv',r=.c (.lit sv')/\μ'=tyV sv' (mN x l):=by
 refine zU Tryz.func48 O Tryz.ntmps48 Tryz.results48 O ?_
 intro z hz
 have hwt:=Ex.wt_eq x
 have hln:=zOl x.Args
 refine R O<|zV O O (qO O O) ?_
 rintro _ _ ⟨b1,rfl,rfl⟩
 refine qX _ (qK 0 O 3 _ PLe.ptr)<|zW O (yX 5 O O)<|zA<|zI<|R O<|zX O kS<|zH one3 zQ O<|zA<|zP<|zI<|R O<|qZ O<|G O<|zA<|zC O (fun c1=>?_) (fun c1=>?_)
 ·have d1:x.Op=1:=of_decide_eq_true c1
  refine zJ<|zC O (fun c2=>?_) (fun c2=>?_)
  ·have hN0:adT l x.Ty=gR l x:=by unfold gR;rw [if_pos (by first|exact .inl d1|exact .inr (of_decide_eq_true c2))]
   refine zM O<|G O<|zX O zCx<|zO yH zQ O<|zV O O (wE 0 O O ok21 (cg_add sv l x.Ty (by omega)) ⟨zB,O,zB,O,T⟩) ?_
   rintro _ _ ⟨sv2,rfl,rfl⟩
   refine G O<|zA<|zI<|R O<|zX O kO<|zH wZ zQ O<|zZ O el55<|G O<|zA<|zP<|zT ⟨[(24,.c _),(0,.c _),(22,.c _),(23,.c _)],[_]⟩ (Weak.mk [true] ⟨zB,zB,zB,zB,T⟩ O)<|qG 2 1 O O (Nat×Value) (fun ⟨i,sw⟩=>[(24,vI i),(0,.c (.lit sw))]) (fun ⟨i,sw⟩=>[E.vec sw 31 5 ((fK (x.Args.take i) (gR l x)).map tyC)]) (fun ⟨i,sw⟩=>i<=x.Args.length) (fun ⟨i,sw⟩=>x.Args.length-i) ⟨⟨0,_⟩,(by omega),Weak.mk [true] ⟨zB,zB,zB,zB,T⟩ (by exact kC (congrArg (fun l=>l.map tyC) hN0))⟩ ?_
   rintro ⟨i,sw⟩ hi
   show AWP _ _ _ _ _ ⟨[(24,vI i),(0,.c (.lit sw))]++_,[E.vec sw 31 5 ((fK (x.Args.take i) (gR l x)).map tyC)]++_⟩
   refine R O<|yB O<|zA<|zI<|zC O (fun c4=>?_) (fun c4=>?_)
   ·try simp only [sx] at c4
    obtain ⟨y,hy⟩:=qU x.Args i (by omega)
    refine zJ<|zI<|zP<|R O<|qD O el55 (by omega) (zAa hy)<|zO yP zQ O<|zV O O (qR [none,none,none,none,none,none,none,none,none,none,some 2,some 4,some 13] O zr57 O) ?_
    rintro _ _ ⟨b3,rfl,rfl⟩
    refine D 0 sz57 O<|zA<|zM O<|G O<|zO yP (Y 0 O) O<|zV O O (wE 1 O O ok48 (ih y (qA hy) sw (fK (x.Args.take i) (gR l x)) (by have h1:=zGb (x.Args.take i) (gR l x);have h2:=zMm l x;have h3:=zNc (l:=x.Args) hy;omega)) ⟨zB,O,zB,O,T⟩) ?_
    rintro _ _ ⟨sv4,rfl,rfl⟩
    refine G O<|zA<|zM O<|qB O ⟨by omega,by omega⟩<|G O<|zA ?_
    refine ⟨⟨i+1,sv4⟩,(by omega),(by show x.Args.length-(i+1)<x.Args.length-i;omega),Weak.mk [false,true] ⟨zB,zB,zB,zB,T⟩ (by exact kC (by rw [zJj hy]))⟩
   ·exact j6
  ·exact absurd (c1.symm.trans c2) (by simp)
 ·have d1:¬x.Op=1:=of_decide_eq_false c1
  refine zM O<|qZ O<|G O<|zA<|zC O (fun c2=>?_) (fun c2=>?_)
  ·have hN0:adT l x.Ty=gR l x:=by unfold gR;rw [if_pos (by first|exact .inl d1|exact .inr (of_decide_eq_true c2))]
   refine zM O<|G O<|zX O zCx<|zO yH zQ O<|zV O O (wE 0 O O ok21 (cg_add sv l x.Ty (by omega)) ⟨zB,O,zB,O,T⟩) ?_
   rintro _ _ ⟨sv5,rfl,rfl⟩
   refine G O<|zA<|zI<|R O<|zX O kO<|zH wZ zQ O<|zZ O el55<|G O<|zA<|zP<|zT ⟨[(24,.c _),(0,.c _),(22,.c _),(23,.c _)],[_]⟩ (Weak.mk [true] ⟨zB,zB,zB,zB,T⟩ O)<|qG 2 1 O O (Nat×Value) (fun ⟨i,sw⟩=>[(24,vI i),(0,.c (.lit sw))]) (fun ⟨i,sw⟩=>[E.vec sw 31 5 ((fK (x.Args.take i) (gR l x)).map tyC)]) (fun ⟨i,sw⟩=>i<=x.Args.length) (fun ⟨i,sw⟩=>x.Args.length-i) ⟨⟨0,_⟩,(by omega),Weak.mk [true] ⟨zB,zB,zB,zB,T⟩ (by exact kC (congrArg (fun l=>l.map tyC) hN0))⟩ ?_
   rintro ⟨i,sw⟩ hi
   show AWP _ _ _ _ _ ⟨[(24,vI i),(0,.c (.lit sw))]++_,[E.vec sw 31 5 ((fK (x.Args.take i) (gR l x)).map tyC)]++_⟩
   refine R O<|yB O<|zA<|zI<|zC O (fun c4=>?_) (fun c4=>?_)
   ·try simp only [sx] at c4
    obtain ⟨y,hy⟩:=qU x.Args i (by omega)
    refine zJ<|zI<|zP<|R O<|qD O el55 (by omega) (zAa hy)<|zO yP zQ O<|zV O O (qR [none,none,none,none,none,none,none,none,none,none,some 2,some 4,some 13] O zr57 O) ?_
    rintro _ _ ⟨b6,rfl,rfl⟩
    refine D 0 sz57 O<|zA<|zM O<|G O<|zO yP (Y 0 O) O<|zV O O (wE 1 O O ok48 (ih y (qA hy) sw (fK (x.Args.take i) (gR l x)) (by have h1:=zGb (x.Args.take i) (gR l x);have h2:=zMm l x;have h3:=zNc (l:=x.Args) hy;omega)) ⟨zB,O,zB,O,T⟩) ?_
    rintro _ _ ⟨sv7,rfl,rfl⟩
    refine G O<|zA<|zM O<|qB O ⟨by omega,by omega⟩<|G O<|zA ?_
    refine ⟨⟨i+1,sv7⟩,(by omega),(by show x.Args.length-(i+1)<x.Args.length-i;omega),Weak.mk [false,true] ⟨zB,zB,zB,zB,T⟩ (by exact kC (by rw [zJj hy]))⟩
   ·exact j6
  ·have d2:¬x.Op=12:=of_decide_eq_false c2
   refine R O<|qZ O<|G O<|zA<|zC O (fun c3=>?_) (fun c3=>?_)
   ·try simp only [sx] at c3
    have hN0:adT l iTy=gR l x:=by unfold gR;rw [if_neg (by omega),if_pos c3]
    refine zM O<|G O<|yZ O zr31 pl31<|zV O O (wE 0 O O ok21 (cg_add sv l iTy (by omega)) ⟨zB,O,zB,O,T⟩) ?_
    rintro _ _ ⟨sv8,rfl,rfl⟩
    refine G O<|zA<|zI<|R O<|zX O kO<|zH wZ zQ O<|zZ O el55<|G O<|zA<|zP<|zT ⟨[(24,.c _),(0,.c _),(22,.c _),(23,.c _)],[_]⟩ (Weak.mk [true] ⟨zB,zB,zB,zB,T⟩ O)<|qG 2 1 O O (Nat×Value) (fun ⟨i,sw⟩=>[(24,vI i),(0,.c (.lit sw))]) (fun ⟨i,sw⟩=>[E.vec sw 31 5 ((fK (x.Args.take i) (gR l x)).map tyC)]) (fun ⟨i,sw⟩=>i<=x.Args.length) (fun ⟨i,sw⟩=>x.Args.length-i) ⟨⟨0,_⟩,(by omega),Weak.mk [true] ⟨zB,zB,zB,zB,T⟩ (by exact kC (congrArg (fun l=>l.map tyC) hN0))⟩ ?_
    rintro ⟨i,sw⟩ hi
    show AWP _ _ _ _ _ ⟨[(24,vI i),(0,.c (.lit sw))]++_,[E.vec sw 31 5 ((fK (x.Args.take i) (gR l x)).map tyC)]++_⟩
    refine R O<|yB O<|zA<|zI<|zC O (fun c4=>?_) (fun c4=>?_)
    ·try simp only [sx] at c4
     obtain ⟨y,hy⟩:=qU x.Args i (by omega)
     refine zJ<|zI<|zP<|R O<|qD O el55 (by omega) (zAa hy)<|zO yP zQ O<|zV O O (qR [none,none,none,none,none,none,none,none,none,none,some 2,some 4,some 13] O zr57 O) ?_
     rintro _ _ ⟨b9,rfl,rfl⟩
     refine D 0 sz57 O<|zA<|zM O<|G O<|zO yP (Y 0 O) O<|zV O O (wE 1 O O ok48 (ih y (qA hy) sw (fK (x.Args.take i) (gR l x)) (by have h1:=zGb (x.Args.take i) (gR l x);have h2:=zMm l x;have h3:=zNc (l:=x.Args) hy;omega)) ⟨zB,O,zB,O,T⟩) ?_
     rintro _ _ ⟨sv10,rfl,rfl⟩
     refine G O<|zA<|zM O<|qB O ⟨by omega,by omega⟩<|G O<|zA ?_
     refine ⟨⟨i+1,sv10⟩,(by omega),(by show x.Args.length-(i+1)<x.Args.length-i;omega),Weak.mk [false,true] ⟨zB,zB,zB,zB,T⟩ (by exact kC (by rw [zJj hy]))⟩
    ·exact j6
   ·try simp only [sx] at c3
    have hN0:l=gR l x:=by unfold gR;rw [if_neg (by omega),if_neg c3]
    refine zJ<|zI<|R O<|zX O kO<|zH wZ zQ O<|zZ O el55<|G O<|zA<|zP<|zT ⟨[(24,.c _),(0,.c _),(22,.c _),(23,.c _)],[_]⟩ (Weak.mk [true] ⟨zB,zB,zB,zB,T⟩ O)<|qG 2 1 O O (Nat×Value) (fun ⟨i,sw⟩=>[(24,vI i),(0,.c (.lit sw))]) (fun ⟨i,sw⟩=>[E.vec sw 31 5 ((fK (x.Args.take i) (gR l x)).map tyC)]) (fun ⟨i,sw⟩=>i<=x.Args.length) (fun ⟨i,sw⟩=>x.Args.length-i) ⟨⟨0,_⟩,(by omega),Weak.mk [true] ⟨zB,zB,zB,zB,T⟩ (by exact kC (congrArg (fun l=>l.map tyC) hN0))⟩ ?_
    rintro ⟨i,sw⟩ hi
    show AWP _ _ _ _ _ ⟨[(24,vI i),(0,.c (.lit sw))]++_,[E.vec sw 31 5 ((fK (x.Args.take i) (gR l x)).map tyC)]++_⟩
    refine R O<|yB O<|zA<|zI<|zC O (fun c4=>?_) (fun c4=>?_)
    ·try simp only [sx] at c4
     obtain ⟨y,hy⟩:=qU x.Args i (by omega)
     refine zJ<|zI<|zP<|R O<|qD O el55 (by omega) (zAa hy)<|zO yP zQ O<|zV O O (qR [none,none,none,none,none,none,none,none,none,none,some 2,some 4,some 13] O zr57 O) ?_
     rintro _ _ ⟨b11,rfl,rfl⟩
     refine D 0 sz57 O<|zA<|zM O<|G O<|zO yP (Y 0 O) O<|zV O O (wE 1 O O ok48 (ih y (qA hy) sw (fK (x.Args.take i) (gR l x)) (by have h1:=zGb (x.Args.take i) (gR l x);have h2:=zMm l x;have h3:=zNc (l:=x.Args) hy;omega)) ⟨zB,O,zB,O,T⟩) ?_
     rintro _ _ ⟨sv12,rfl,rfl⟩
     refine G O<|zA<|zM O<|qB O ⟨by omega,by omega⟩<|G O<|zA ?_
     refine ⟨⟨i+1,sv12⟩,(by omega),(by show x.Args.length-(i+1)<x.Args.length-i;omega),Weak.mk [false,true] ⟨zB,zB,zB,zB,T⟩ (by exact kC (by rw [zJj hy]))⟩
    ·exact j6
theorem cg_exprTypes (x:Ex):∀(sv:Value) (l:List Ty) (hl:l.length+x.wt<=3000000),Con cfg 48 [.c (.lit sv),vE x] (tyV sv l) fun r μ'=>∃sv',r=.c (.lit sv')/\μ'=tyV sv' (mN x l):=by
  induction x using Ex.ind with
  |_ x ih=>exact fun sv l hl=>zOg x ih sv l hl
theorem zGc (b:List St) (ih:∀s,s∈b->∀(sv:Value) (l:List Ty) (hl:l.length+bL s.Body<=2000000),Con cfg 22 [.c (.lit sv),fV s.Body] (tyV sv l) fun r μ'=>∃sv',r=.c (.lit sv')/\μ'=tyV sv' (fR s.Body l)) (sv:Value) (l:List Ty) (hl:l.length+bL b<=2000000):
    Con cfg 22 [.c (.lit sv),fV b] (tyV sv l) fun r μ'=>∃sv',r=.c (.lit sv')/\μ'=tyV sv' (fR b l):=by
 refine zU Tryz.func22 O Tryz.ntmps22 Tryz.results22 O ?_
 intro z hz
 have hbl:=wL b
 refine R O<|zW O (yX 5 O O)<|zA<|zI<|R O<|G O<|zZ O el23<|G O<|zA<|zP<|zT ⟨[(9,.c _),(0,.c _),(7,.c _),(8,.c _)],[_]⟩ (Weak.mk [true] ⟨zB,zB,zB,zB,T⟩ O)<|qG 2 1 O O (Nat×Value) (fun ⟨k,sw⟩=>[(9,vI k),(0,.c (.lit sw))]) (fun ⟨k,sw⟩=>[E.vec sw 31 5 ((fR (b.take k) l).map tyC)]) (fun ⟨k,sw⟩=>k<=b.length) (fun ⟨k,sw⟩=>b.length-k) ⟨⟨0,sv⟩,(by omega),Weak.mk [true] ⟨zB,zB,zB,zB,T⟩ O⟩ ?_
 rintro ⟨k,sw⟩ hk
 show AWP _ _ _ _ _ ⟨[(9,vI k),(0,.c (.lit sw))]++_,[E.vec sw 31 5 ((fR (b.take k) l).map tyC)]++_⟩
 refine R O<|yB O<|zA<|zI<|zC O (fun c1=>?_) (fun c1=>?_)
 ·try simp only [sx] at c1
  obtain ⟨s,hs⟩:=qU b k (by omega)
  refine zJ<|zI<|zP<|R O<|qD O el23 (by omega) (zEl hs)<|zO zFo zQ O<|zV O O (qR [none,none,none,none,none,some 4,none,none,none,none,none,none,none,none,none,none,some 2,some 4,some 13,some 20] O zr59 O) ?_
  rintro _ _ ⟨b1,rfl,rfl⟩
  refine D 0 sz59 O<|qX _ (qK 0 O 6 _ PLe.ptr)<|zA<|R O<|G O<|zX O zDf<|zO yP zQ O<|zV O O (wE 0 O O ok48 (cg_exprTypes s.E sw (fR (b.take k) l) (by have h1:=zHv (b.take k) l;have h2:=sts_take hs;have h3:=St.wt_eq s;omega)) ⟨zB,O,zB,O,T⟩) ?_
  rintro _ _ ⟨sv2,rfl,rfl⟩
  refine G O<|zA<|zM O<|G O<|zX O zCo<|zH zBm zQ O<|zV O O (wE 0 O O ok22 (ih s (qA hs) _ (mN s.E (fR (b.take k) l)) (by have h1:=zHv (b.take k) l;have h2:=sts_take hs;have h3:=St.wt_eq s;have h4:=exTy_len s.E (fR (b.take k) l);omega)) ⟨zB,O,zB,O,T⟩) ?_
  rintro _ _ ⟨sv3,rfl,rfl⟩
  refine G O<|zA<|zM O<|qB O ⟨by omega,by omega⟩<|G O<|zA ?_
  refine ⟨⟨k+1,sv3⟩,(by omega),(by show b.length-(k+1)<b.length-k;omega),Weak.mk [true] ⟨zB,zB,zB,zB,T⟩ (by exact kC (by rw [stTyL_next hs,stTy_eq]))⟩
 ·try simp only [sx] at c1
  refine qH<|R O<|G O<|G O<|zA<|zK<|zR O ?_
  exact ⟨_,O,by rw [yA (l:=b) (k:=k) (by omega)];rfl⟩
theorem zOf (s:St):∀(sv:Value) (l:List Ty) (hl:l.length+bL s.Body<=2000000),Con cfg 22 [.c (.lit sv),fV s.Body] (tyV sv l) fun r μ'=>∃sv',r=.c (.lit sv')/\μ'=tyV sv' (fR s.Body l):=by
  induction s using St.ind with
  |_ s ih=>exact fun sv l hl=>zGc s.Body ih sv l hl
theorem cg_stmtTypes (b:List St) (sv:Value) (l:List Ty) (hl:l.length+bL b<=2000000):Con cfg 22 [.c (.lit sv),fV b] (tyV sv l) fun r μ'=>∃sv',r=.c (.lit sv')/\μ'=tyV sv' (fR b l):=zGc b (fun s _=>zOf s) sv l hl
theorem cg_Types (n:Ns) (hb:n.Bufs.length<=1000000) (hw:bL n.Body<=900000):
    OwnR cfg 10 [vNs n] 31 5 ((jA n).map tyC):=by
 refine zU Tryz.func10 O Tryz.ntmps10 Tryz.results10 O ?_
 intro z hz
 refine R O<|zV O O (qO O O) ?_
 rintro _ _ ⟨b1,rfl,rfl⟩
 refine qX _ (qK 0 O 1 _ PLe.ptr)<|G O<|zA<|R O<|G O<|qX _ (wV 31 5)<|zA<|zI<|R O<|zX O zDh<|zH zHq zQ O<|zZ O el22<|G O<|zA<|zP<|zT ⟨[(9,.c _),(3,.c _),(1,.c _),(7,.c _),(8,.c _)],[_]⟩ (Weak.mk [true] ⟨zB,zB,zB,zB,zB,T⟩ O)<|qG 2 1 O O (Nat×Value) (fun ⟨k,sw⟩=>[(9,vI k),(3,.c (.lit sw))]) (fun ⟨k,sw⟩=>[E.vec sw 31 5 ((rS (n.Bufs.take k)).map tyC)]) (fun ⟨k,sw⟩=>k<=n.Bufs.length) (fun ⟨k,sw⟩=>n.Bufs.length-k) ⟨⟨0,(.slice none 0 0)⟩,(by omega),Weak.mk [true] ⟨zB,zB,zB,zB,zB,T⟩ O⟩ ?_
 rintro ⟨k,sw⟩ hk
 show AWP _ _ _ _ _ ⟨[(9,vI k),(3,.c (.lit sw))]++_,[E.vec sw 31 5 ((rS (n.Bufs.take k)).map tyC)]++_⟩
 refine R O<|yB O<|zA<|zI<|zC O (fun c1=>?_) (fun c1=>?_)
 ·try simp only [sx] at c1
  obtain ⟨b,hb2⟩:=qU n.Bufs k (by omega)
  refine zJ<|zI<|zP<|R O<|qD O el22 (by omega) (B hb2)<|zO zJs zQ O<|zV O O (qR [none,none,none,none,none,none,some 1,none] O zr69 O) ?_
  rintro _ _ ⟨b3,rfl,rfl⟩
  refine D 0 sz69 O<|qX _ (qK 0 O 5 _ PLe.ptr)<|zA<|zM O<|G O<|zX O zHg<|zO yH zQ O<|zV O O (wE 0 O O ok21 (cg_add sw (rS (n.Bufs.take k)) b.T (by have h1:=bfTy_len (n.Bufs.take k);rw [List.length_take] at h1;omega)) ⟨zB,O,zB,O,T⟩) ?_
  rintro _ _ ⟨sv4,rfl,rfl⟩
  refine G O<|zA<|zM O<|qB O ⟨by omega,by omega⟩<|G O<|zA ?_
  refine ⟨⟨k+1,sv4⟩,(by omega),(by show n.Bufs.length-(k+1)<n.Bufs.length-k;omega),Weak.mk [true] ⟨zB,zB,zB,zB,zB,T⟩ (by exact kC (by rw [bfTy_next hb2]))⟩
 ·try simp only [sx] at c1
  rw [yA (l:=n.Bufs) (k:=k) (by omega)]
  refine qH<|R O<|G O<|zX O zEn<|zH zBm zQ O<|zV O O (wE 0 O O ok22 (cg_stmtTypes n.Body _ (rS n.Bufs) (by have h1:=bfTy_len n.Bufs;omega)) ⟨zB,O,zB,O,T⟩) ?_
  rintro _ _ ⟨sv5,rfl,rfl⟩
  refine G O<|zA<|zK<|zR O ?_
  exact ⟨_,O,O⟩
theorem shape_Strides (d:List Int) (hl:d.length<=17592186044416):
    Pur cfg 113 [vIs d] (vIs (mF d)):=by
 refine zU Tryz.func113 O Tryz.ntmps113 Tryz.results113 O ?_
 intro z hz
 refine R O<|zW O (yX 1 O O)<|zA<|zI<|R O<|G O<|qN O ok103 (zFj d hl) ⟨zB,O,T⟩<|kU O<|zA<|zC O (fun c1=>?_) (fun c1=>?_)
 ·try simp only [sx] at c1
  refine R O<|zW O (yX 1 O O)<|zA<|zK<|zR O ?_
  unfold mF;rw [if_neg c1];rfl
 ·try simp only [sx] at c1
  have hsl:=zPo d
  have hd6:=(zDw c1).1
  refine zJ<|R O<|G O<|zZ O el67<|zV O O (ope_make d.length O el67 zr3 O O (by simp) (by simp) (by omega) (by omega)) ?_
  rintro _ _ ⟨sv1,rfl,rfl⟩
  refine G O<|zA<|R O<|G O<|zA<|zI<|R O<|G O<|zZ O el67<|yY O ⟨by omega,by omega⟩<|G O<|zA<|zP<|zT ⟨[(5,.c _),(4,.c _),(0,.c _),(3,.c _)],[_]⟩ (Weak.mk [true] ⟨zB,zB,zB,zB,T⟩ O) ?_
  refine qG 2 1 O O (Nat) (fun j=>[(5,vI ((j:Int)-1)),(4,vI (dN (d.drop j)))]) (fun j=>[E.vec sv1 3 1 (List.replicate j [cI 0]++((sM d).drop j).map fun n=>[cI n])]) (fun j=>j<=d.length) (fun j=>j) ⟨d.length,(by omega),Weak.mk [true] ⟨zB,VLe.of_eq (congrArg vI (by rw [List.drop_length];rfl)),zB,zB,T⟩ (by exact kC (by rw [List.drop_eq_nil_of_le (by rw [zPo];exact Nat.le_refl _)];simp))⟩ ?_
  rintro j hj
  refine zI<|R O<|G O<|zW O (kN O O O)<|zA<|zC O (fun c2=>?_) (fun c2=>?_)
  ·try simp only [sx] at c2
   obtain ⟨x,hx⟩:=qU d (j-1) (by omega)
   have hjx:0<j:=by omega
   refine zJ<|zI<|zP<|R O<|G O<|G O<|G O<|zW O (qP 0 O el67 O O O (by omega) (by simp only [List.length_append,List.length_replicate,List.length_drop,List.length_map,zPo];omega))<|zCs O O (kX O sz3 O O O (zHs 0 O (st_get hjx _) O))<|zA<|zM O<|G O<|G O<|G O<|qD O el67 (by omega) (B (show d[((j:Int)-1).toNat]? =some x by rw [show ((j:Int)-1).toNat=j-1 by omega];exact hx))<|zH one3 zQ O<|zW O (zBs O O O (by have h1:=zEo c1 (j-1);have h2:=zEo c1 j;have h3:=zLq hx;rw [show j-1+1=j by omega] at h3;rw [Int.mul_comm,←h3];exact ⟨by omega,by omega⟩))<|G O<|zA<|zM O<|G O<|yY O ⟨by omega,by omega⟩<|G O<|zA ?_
   refine ⟨j-1,(by omega),(by omega),Weak.mk [true] ⟨VLe.of_eq (congrArg vI (by omega)),VLe.of_eq (congrArg vI (by have h3:=zLq hx;rw [show j-1+1=j by omega] at h3;rw [h3,Int.mul_comm])),zB,zB,T⟩ (by exact kC (st_set hjx hx))⟩
  ·try simp only [sx] at c2
   refine qH<|zI<|zT _ (wD 0 O (regs':=[(3,_)]) (μ':=[]) ⟨FLe.sl,T⟩ T)<|zM O<|G O<|G O<|zA<|zK<|zR O ?_
   unfold mF;rw [if_pos c1];have hj0:j=0:=by omega
   subst hj0
   rfl
theorem r48_Short (n:Ns) (hf:n.Fit):
    Pur cfg 8 [vNs n] (vB (decide ((n.Bufs.length:Int)<=40)&&decide ((gV n.Body 300:Int)<=300))):=by
 refine zU Tryz.func8 O Tryz.ntmps8 Tryz.results8 O ?_
 intro z hz
 refine R O<|zV O O (qO O O) ?_
 rintro _ _ ⟨b1,rfl,rfl⟩
 refine G O<|zA<|R O<|zG O zDh<|zH zHq (Y 0 O) O<|zZ O el22<|zW O (kQ O O O)<|G O<|rL0 O (fun g1_4=>zD O zEn O) O<|A 8 O (fun g1_4=>zF O zBm O (Y 0 O) O) O<|A 9 O (fun g1_4=>qS O ok20 (zTr n.Body 300 300 hf.body hf.len (by omega) O) ⟨zB,O,zB,O,T⟩) O<|A 10 O (fun g1_4=>kQ O O O) O<|yK O (fun h=>h)<|G O<|zA<|zK<|zR O ?_
 exact O
end Go.W
