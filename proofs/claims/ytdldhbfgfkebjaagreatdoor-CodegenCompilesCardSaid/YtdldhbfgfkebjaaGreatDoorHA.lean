/-
  What functions compute.
  Conditions: none.
-/
import Derived.Test.YtdldhbfgfkebjaaGreatDoorNE
import Derived.Test.YtdldhbfgfkebjaaGreatDoorPlainG
import Derived.Test.YtdldhbfgfkebjaaGreatDoorEngV2
set_option linter.unusedSimpArgs false
set_option linter.unusedVariables false
set_option maxRecDepth 10000
namespace Go.W
open Go Go.Eng Go.Proofs Go.L41 Go.Br
attribute [local irreducible] AWP RWP TD fT
abbrev tyV (sv:Value) (l:List Ty):List E:=[E.vec sv 31 5 (l.map tyC)]
theorem ty_t {a b:Ty} (h:bE (tyC a) (tyC b)=true):a=b:=of_decide_eq_true ((tyC_eq a b).symm.trans h)
theorem ty_f {a b:Ty} (h:bE (tyC a) (tyC b)=false):¬a=b:=of_decide_eq_false ((tyC_eq a b).symm.trans h)
theorem ok21:bA Tryz.prog 21=true:=by kernel_rfl
theorem ok22:bA Tryz.prog 22=true:=by kernel_rfl
theorem ok23:bA Tryz.prog 23=true:=by kernel_rfl
theorem ok24:bA Tryz.prog 24=true:=by kernel_rfl
theorem ok47:bA Tryz.prog 47=true:=by kernel_rfl
theorem ok48:bA Tryz.prog 48=true:=by kernel_rfl
theorem ok49:bA Tryz.prog 49=true:=by kernel_rfl
theorem ok97:bA Tryz.prog 97=true:=by kernel_rfl
theorem zIi (l:List Ty) (t:Ty) (hl:l.length<=4294967296):
    Pur cfg 97 [xI l,vTy t] (vI (tY l t)):=by
 refine zW Tryz.func97 O Tryz.ntmps97 Tryz.results97 O ?_
 intro z hz
 refine R O<|zT O O (qP O O) ?_
 rintro _ _ ⟨b1,rfl,rfl⟩
 refine G O<|zA<|zE<|R O<|G O<|qC O el28<|G O<|zA<|zP<|zU ⟨[(8,.c _),(0,.c _),(3,.c _),(7,.c _)],[_]⟩ (Weak.mk [true] ⟨zB,zB,zB,zB,T⟩ O)<|qF 1 0 O O (Nat) (fun k=>[(8,vI k)]) (fun k=>[]) (fun k=>k<=l.length/\(l.take k).any (fun x=>decide (t=x))=false) (fun k=>l.length-k) ⟨0,⟨by omega,O⟩,Weak.mk [true] ⟨zB,zB,zB,zB,T⟩ O⟩ ?_
 rintro k ⟨hk,hp⟩
 refine R O<|yC O<|zA<|zE<|zC O (fun c1=>?_) (fun c1=>?_)
 ·try simp only [sx] at c1
  obtain ⟨x,hx⟩:=qU l k (by omega)
  refine zI<|zE<|zP<|R O<|G O<|G O<|zA<|zE<|qV 6 mixed (by kernel_rfl) O O<|zL O O (qD O yG O (A 0 O) O)<|zL O O (zK O O)<|zL O O (zK O O)<|zL O O (qI O el28 O O (by omega) (N hx))<|zL O O (qD O yG O Y O)<|zL O O (zJw O fl31 O O O)<|yJ<|zA<|zC O (fun c2=>?_) (fun c2=>?_)
  ·have hxt:t=x:=ty_t (a:=t) (b:=x) c2
   refine R O<|G O<|G O<|zA<|zN<|zV O ?_
   exact congrArg vI (zDu hx (decide_eq_true hxt) hp).symm
  ·have hxt:¬t=x:=ty_f (a:=t) (b:=x) c2
   refine zI<|zJ O<|qB O ⟨by omega,by omega⟩<|G O<|zA ?_
   refine ⟨k+1,⟨by omega,zDl hx hp (decide_eq_false hxt)⟩,(by omega),Weak.mk [true] ⟨zB,zB,zB,zB,T⟩ O⟩
 ·try simp only [sx] at c1
  refine qK<|R O<|G O<|zA<|zN<|zV O ?_
  exact congrArg vI (zBz (by rw [qZ (by omega)] at hp;exact hp)).symm
theorem zLv (l:List Ty) (t:Ty) (hl:l.length<=4294967296):
    Pur cfg 47 [xI l,vTy t] (vB (tB l t)):=by
 refine zW Tryz.func47 O Tryz.ntmps47 Tryz.results47 O ?_
 intro z hz
 refine R O<|zT O O (qP O O) ?_
 rintro _ _ ⟨b1,rfl,rfl⟩
 refine G O<|zA<|R O<|G O<|zQ yG (A 0 O) O<|qS O ok97 (zIi l t hl) ⟨zB,O,zB,O,T⟩<|zZ O (kU O O O)<|G O<|zA<|zN<|zV O ?_
 exact congrArg vB (zDe _ _)
theorem cg_add (sv:Value) (l:List Ty) (t:Ty) (hl:l.length<=4000000):
    Con cfg 21 [.c (.lit sv),vTy t] (tyV sv l) fun r μ'=>∃sv',r=.c (.lit sv')/\μ'=tyV sv' (adT l t):=by
 refine zW Tryz.func21 O Tryz.ntmps21 Tryz.results21 O ?_
 intro z hz
 refine R O<|zT O O (qP O O) ?_
 rintro _ _ ⟨b1,rfl,rfl⟩
 refine zZ O (yN 5 O O)<|zA<|zE<|R O<|G O<|zQ yG (A 0 O) O<|zZ O (zCb 1 O ok47 O (zLv l t (by omega)) O ⟨.inl ⟨O,O⟩,.inr ⟨zB,O⟩,T⟩)<|zA<|zC O (fun c1=>?_) (fun c1=>?_)
 ·try simp only [sx] at c1
  refine R O<|G O<|G O<|zA<|zU _ (Weak.mem [false,true] O)<|zN<|zV O ?_
  exact ⟨_,O,by rw [adT_t c1];rfl⟩
 ·try simp only [sx] at c1
  refine zI<|R O<|G O<|zQ yG (A 0 O) O<|zZ O (yO O el28 zr31 O O O O)<|zT O O (yQ 1 O el28 O O O (by simp only [List.length_map,List.length_append,List.length_cons,List.length_nil,List.length_take,List.length_drop];omega) (by simp only [List.length_map,List.length_append,List.length_cons,List.length_nil,List.length_take,List.length_drop];omega)) ?_
  rintro _ _ ⟨sv2,rfl,rfl⟩
  refine G O<|zA<|zU _ (Weak.mem [false,true] O)<|zN<|zV O ?_
  exact ⟨_,O,by rw [adT_f c1];show _=[E.vec _ _ _ ((l++[t]).map tyC)];rw [List.map_append];rfl⟩
theorem zFe (sv:Value) (l:List Ty) (t:Ty) (hl:l.length<=4000000):
    Con cfg 23 [.c (.lit sv),vTy t] (tyV sv l) fun r μ'=>∃sv',r=.c (.lit sv')/\μ'=tyV sv' (adT l t):=by
 refine zW Tryz.func23 O Tryz.ntmps23 Tryz.results23 O ?_
 intro z hz
 refine R O<|zT O O (qP O O) ?_
 rintro _ _ ⟨b1,rfl,rfl⟩
 refine zZ O (yN 5 O O)<|zA<|zE<|R O<|G O<|zA<|zP<|zU ⟨[(5,.c _),(0,.c _),(3,.c _)],[_,_]⟩ (Weak.mk [true,true] ⟨zB,zB,zB,T⟩ O)<|qF 1 0 O O (Nat) (fun k=>[(5,vI k)]) (fun k=>[]) (fun k=>k<=l.length/\(l.take k).any (fun x=>decide (t=x))=false) (fun k=>l.length-k) ⟨0,⟨by omega,O⟩,Weak.mk [true,true] ⟨zB,zB,zB,T⟩ O⟩ ?_
 rintro k ⟨hk,hp⟩
 refine zE<|R O<|G O<|G O<|zZ O (yI 1 O el28 O O)<|yC O<|zA<|zC O (fun c1=>?_) (fun c1=>?_)
 ·try simp only [sx] at c1
  have hkl:=hk
  obtain ⟨x,hx⟩:=qU l k (by omega)
  refine zI<|zE<|zP<|zE<|qV 6 mixed (by kernel_rfl) O O<|zL O O (zK O O)<|zL O O (zK O O)<|zL O O (qO 1 O el28 O O O (by omega) (by simp only [List.length_map];omega))<|zL O O (qD O yG O (kH 1 O (N hx)) O)<|zL O O (qD O yG O (A 0 O) O)<|zL O O (zJw O fl31 O O O)<|yJ<|zA<|zC O (fun c2=>?_) (fun c2=>?_)
  ·have hxt:t=x:=(ty_t (a:=x) (b:=t) c2).symm
   refine R O<|G O<|G O<|zA<|zU _ (Weak.mem [false,true] O)<|zN<|zV O ?_
   exact ⟨_,O,by rw [adT_t (zQt.2 (by rw [hxt];exact qE hx))];rfl⟩
  ·have hxt:¬t=x:=fun e=>ty_f (a:=x) (b:=t) c2 e.symm
   refine zI<|zJ O<|G O<|qB O ⟨by omega,by omega⟩<|G O<|zA ?_
   refine ⟨k+1,⟨by omega,zDl hx hp (decide_eq_false hxt)⟩,(by omega),Weak.mk [true,true] ⟨zB,zB,zB,T⟩ O⟩
 ·try simp only [sx] at c1
  refine qK<|R O<|G O<|zQ yG (A 0 O) O<|zZ O (yO O el28 zr31 O O O O)<|zT O O (yQ 1 O el28 O O O (by simp only [List.length_map,List.length_append,List.length_cons,List.length_nil,List.length_take,List.length_drop];omega) (by simp only [List.length_map,List.length_append,List.length_cons,List.length_nil,List.length_take,List.length_drop];omega)) ?_
  rintro _ _ ⟨sv2,rfl,rfl⟩
  refine G O<|zA<|zU _ (Weak.mem [false,true] O)<|zN<|zV O ?_
  exact ⟨_,O,by rw [adT_f (show tB l t=false by rw [qZ (by omega)] at hp;exact hp)];show _=[E.vec _ _ _ ((l++[t]).map tyC)];rw [List.map_append];rfl⟩
theorem zOx (x:Ex) (ih:∀a,a∈x.Args->∀(sv:Value) (l:List Ty) (hl:l.length+a.wt<=3000000),Con cfg 48 [.c (.lit sv),vE a] (tyV sv l) fun r μ'=>∃sv',r=.c (.lit sv')/\μ'=tyV sv' (lN a l)) (sv:Value) (l:List Ty) (hl:l.length+x.wt<=3000000):
    Con cfg 48 [.c (.lit sv),vE x] (tyV sv l) fun r μ'=>∃sv',r=.c (.lit sv')/\μ'=tyV sv' (lN x l):=by
 refine zW Tryz.func48 O Tryz.ntmps48 Tryz.results48 O ?_
 intro z hz
 have hwt:=Ex.wt_eq x
 have hln:=zGt x.Args
 refine R O<|zT O O (qP O O) ?_
 rintro _ _ ⟨b1,rfl,rfl⟩
 refine qW _ (qM 0 O 3 _ PLe.ptr)<|zZ O (yN 5 O O)<|zA<|zE<|R O<|zS O kQ<|zF one3 Y O<|zA<|zP<|zE<|R O<|yD O<|G O<|zA<|zC O (fun c1=>?_) (fun c1=>?_)
 ·have d1:x.Op=1:=of_decide_eq_true c1
  refine zI<|zC O (fun c2=>?_) (fun c2=>?_)
  ·have hN0:adT l x.Ty=dO l x:=by unfold dO;rw [if_pos (by first|exact .inl d1|exact .inr (of_decide_eq_true c2))]
   refine zJ O<|G O<|zS O zBp<|zQ yG Y O<|zT O O (yY 0 O O ok21 (cg_add sv l x.Ty (by omega)) ⟨zB,O,zB,O,T⟩) ?_
   rintro _ _ ⟨sv2,rfl,rfl⟩
   refine G O<|zA<|zE<|R O<|zS O yW<|zF kW Y O<|qC O el55<|G O<|zA<|zP<|zU ⟨[(24,.c _),(0,.c _),(22,.c _),(23,.c _)],[_]⟩ (Weak.mk [true] ⟨zB,zB,zB,zB,T⟩ O)<|qF 2 1 O O (Nat×Value) (fun ⟨i,sw⟩=>[(24,vI i),(0,.c (.lit sw))]) (fun ⟨i,sw⟩=>[E.vec sw 31 5 ((dG (x.Args.take i) (dO l x)).map tyC)]) (fun ⟨i,sw⟩=>i<=x.Args.length) (fun ⟨i,sw⟩=>x.Args.length-i) ⟨⟨0,_⟩,(by omega),Weak.mk [true] ⟨zB,zB,zB,zB,T⟩ (by exact yP (congrArg (fun l=>l.map tyC) hN0))⟩ ?_
   rintro ⟨i,sw⟩ hi
   show AWP _ _ _ _ _ ⟨[(24,vI i),(0,.c (.lit sw))]++_,[E.vec sw 31 5 ((dG (x.Args.take i) (dO l x)).map tyC)]++_⟩
   refine R O<|yC O<|zA<|zE<|zC O (fun c4=>?_) (fun c4=>?_)
   ·try simp only [sx] at c4
    obtain ⟨y,hy⟩:=qU x.Args i (by omega)
    refine zI<|zE<|zP<|R O<|zX O el55 (by omega) (wF hy)<|zQ yM Y O<|zT O O (qQ [none,none,none,none,none,none,none,none,none,none,some 2,some 4,some 13] O zr57 O) ?_
    rintro _ _ ⟨b3,rfl,rfl⟩
    refine D 0 sz57 O<|zA<|zJ O<|G O<|zQ yM (A 0 O) O<|zT O O (yY 1 O O ok48 (ih y (qE hy) sw (dG (x.Args.take i) (dO l x)) (by have h1:=zCk (x.Args.take i) (dO l x);have h2:=zEj l x;have h3:=zEc (l:=x.Args) hy;omega)) ⟨zB,O,zB,O,T⟩) ?_
    rintro _ _ ⟨sv4,rfl,rfl⟩
    refine G O<|zA<|zJ O<|qB O ⟨by omega,by omega⟩<|G O<|zA ?_
    refine ⟨⟨i+1,sv4⟩,(by omega),(by show x.Args.length-(i+1)<x.Args.length-i;omega),Weak.mk [false,true] ⟨zB,zB,zB,zB,T⟩ (by exact yP (by rw [zCv hy]))⟩
   ·exact r4
  ·exact absurd (c1.symm.trans c2) (by simp)
 ·have d1:¬x.Op=1:=of_decide_eq_false c1
  refine zJ O<|yD O<|G O<|zA<|zC O (fun c2=>?_) (fun c2=>?_)
  ·have hN0:adT l x.Ty=dO l x:=by unfold dO;rw [if_pos (by first|exact .inl d1|exact .inr (of_decide_eq_true c2))]
   refine zJ O<|G O<|zS O zBp<|zQ yG Y O<|zT O O (yY 0 O O ok21 (cg_add sv l x.Ty (by omega)) ⟨zB,O,zB,O,T⟩) ?_
   rintro _ _ ⟨sv5,rfl,rfl⟩
   refine G O<|zA<|zE<|R O<|zS O yW<|zF kW Y O<|qC O el55<|G O<|zA<|zP<|zU ⟨[(24,.c _),(0,.c _),(22,.c _),(23,.c _)],[_]⟩ (Weak.mk [true] ⟨zB,zB,zB,zB,T⟩ O)<|qF 2 1 O O (Nat×Value) (fun ⟨i,sw⟩=>[(24,vI i),(0,.c (.lit sw))]) (fun ⟨i,sw⟩=>[E.vec sw 31 5 ((dG (x.Args.take i) (dO l x)).map tyC)]) (fun ⟨i,sw⟩=>i<=x.Args.length) (fun ⟨i,sw⟩=>x.Args.length-i) ⟨⟨0,_⟩,(by omega),Weak.mk [true] ⟨zB,zB,zB,zB,T⟩ (by exact yP (congrArg (fun l=>l.map tyC) hN0))⟩ ?_
   rintro ⟨i,sw⟩ hi
   show AWP _ _ _ _ _ ⟨[(24,vI i),(0,.c (.lit sw))]++_,[E.vec sw 31 5 ((dG (x.Args.take i) (dO l x)).map tyC)]++_⟩
   refine R O<|yC O<|zA<|zE<|zC O (fun c4=>?_) (fun c4=>?_)
   ·try simp only [sx] at c4
    obtain ⟨y,hy⟩:=qU x.Args i (by omega)
    refine zI<|zE<|zP<|R O<|zX O el55 (by omega) (wF hy)<|zQ yM Y O<|zT O O (qQ [none,none,none,none,none,none,none,none,none,none,some 2,some 4,some 13] O zr57 O) ?_
    rintro _ _ ⟨b6,rfl,rfl⟩
    refine D 0 sz57 O<|zA<|zJ O<|G O<|zQ yM (A 0 O) O<|zT O O (yY 1 O O ok48 (ih y (qE hy) sw (dG (x.Args.take i) (dO l x)) (by have h1:=zCk (x.Args.take i) (dO l x);have h2:=zEj l x;have h3:=zEc (l:=x.Args) hy;omega)) ⟨zB,O,zB,O,T⟩) ?_
    rintro _ _ ⟨sv7,rfl,rfl⟩
    refine G O<|zA<|zJ O<|qB O ⟨by omega,by omega⟩<|G O<|zA ?_
    refine ⟨⟨i+1,sv7⟩,(by omega),(by show x.Args.length-(i+1)<x.Args.length-i;omega),Weak.mk [false,true] ⟨zB,zB,zB,zB,T⟩ (by exact yP (by rw [zCv hy]))⟩
   ·exact r4
  ·have d2:¬x.Op=12:=of_decide_eq_false c2
   refine R O<|yD O<|G O<|zA<|zC O (fun c3=>?_) (fun c3=>?_)
   ·try simp only [sx] at c3
    have hN0:adT l iTy=dO l x:=by unfold dO;rw [if_neg (by omega),if_pos c3]
    refine zJ O<|G O<|yT O zr31 pl31<|zT O O (yY 0 O O ok21 (cg_add sv l iTy (by omega)) ⟨zB,O,zB,O,T⟩) ?_
    rintro _ _ ⟨sv8,rfl,rfl⟩
    refine G O<|zA<|zE<|R O<|zS O yW<|zF kW Y O<|qC O el55<|G O<|zA<|zP<|zU ⟨[(24,.c _),(0,.c _),(22,.c _),(23,.c _)],[_]⟩ (Weak.mk [true] ⟨zB,zB,zB,zB,T⟩ O)<|qF 2 1 O O (Nat×Value) (fun ⟨i,sw⟩=>[(24,vI i),(0,.c (.lit sw))]) (fun ⟨i,sw⟩=>[E.vec sw 31 5 ((dG (x.Args.take i) (dO l x)).map tyC)]) (fun ⟨i,sw⟩=>i<=x.Args.length) (fun ⟨i,sw⟩=>x.Args.length-i) ⟨⟨0,_⟩,(by omega),Weak.mk [true] ⟨zB,zB,zB,zB,T⟩ (by exact yP (congrArg (fun l=>l.map tyC) hN0))⟩ ?_
    rintro ⟨i,sw⟩ hi
    show AWP _ _ _ _ _ ⟨[(24,vI i),(0,.c (.lit sw))]++_,[E.vec sw 31 5 ((dG (x.Args.take i) (dO l x)).map tyC)]++_⟩
    refine R O<|yC O<|zA<|zE<|zC O (fun c4=>?_) (fun c4=>?_)
    ·try simp only [sx] at c4
     obtain ⟨y,hy⟩:=qU x.Args i (by omega)
     refine zI<|zE<|zP<|R O<|zX O el55 (by omega) (wF hy)<|zQ yM Y O<|zT O O (qQ [none,none,none,none,none,none,none,none,none,none,some 2,some 4,some 13] O zr57 O) ?_
     rintro _ _ ⟨b9,rfl,rfl⟩
     refine D 0 sz57 O<|zA<|zJ O<|G O<|zQ yM (A 0 O) O<|zT O O (yY 1 O O ok48 (ih y (qE hy) sw (dG (x.Args.take i) (dO l x)) (by have h1:=zCk (x.Args.take i) (dO l x);have h2:=zEj l x;have h3:=zEc (l:=x.Args) hy;omega)) ⟨zB,O,zB,O,T⟩) ?_
     rintro _ _ ⟨sv10,rfl,rfl⟩
     refine G O<|zA<|zJ O<|qB O ⟨by omega,by omega⟩<|G O<|zA ?_
     refine ⟨⟨i+1,sv10⟩,(by omega),(by show x.Args.length-(i+1)<x.Args.length-i;omega),Weak.mk [false,true] ⟨zB,zB,zB,zB,T⟩ (by exact yP (by rw [zCv hy]))⟩
    ·exact r4
   ·try simp only [sx] at c3
    have hN0:l=dO l x:=by unfold dO;rw [if_neg (by omega),if_neg c3]
    refine zI<|zE<|R O<|zS O yW<|zF kW Y O<|qC O el55<|G O<|zA<|zP<|zU ⟨[(24,.c _),(0,.c _),(22,.c _),(23,.c _)],[_]⟩ (Weak.mk [true] ⟨zB,zB,zB,zB,T⟩ O)<|qF 2 1 O O (Nat×Value) (fun ⟨i,sw⟩=>[(24,vI i),(0,.c (.lit sw))]) (fun ⟨i,sw⟩=>[E.vec sw 31 5 ((dG (x.Args.take i) (dO l x)).map tyC)]) (fun ⟨i,sw⟩=>i<=x.Args.length) (fun ⟨i,sw⟩=>x.Args.length-i) ⟨⟨0,_⟩,(by omega),Weak.mk [true] ⟨zB,zB,zB,zB,T⟩ (by exact yP (congrArg (fun l=>l.map tyC) hN0))⟩ ?_
    rintro ⟨i,sw⟩ hi
    show AWP _ _ _ _ _ ⟨[(24,vI i),(0,.c (.lit sw))]++_,[E.vec sw 31 5 ((dG (x.Args.take i) (dO l x)).map tyC)]++_⟩
    refine R O<|yC O<|zA<|zE<|zC O (fun c4=>?_) (fun c4=>?_)
    ·try simp only [sx] at c4
     obtain ⟨y,hy⟩:=qU x.Args i (by omega)
     refine zI<|zE<|zP<|R O<|zX O el55 (by omega) (wF hy)<|zQ yM Y O<|zT O O (qQ [none,none,none,none,none,none,none,none,none,none,some 2,some 4,some 13] O zr57 O) ?_
     rintro _ _ ⟨b11,rfl,rfl⟩
     refine D 0 sz57 O<|zA<|zJ O<|G O<|zQ yM (A 0 O) O<|zT O O (yY 1 O O ok48 (ih y (qE hy) sw (dG (x.Args.take i) (dO l x)) (by have h1:=zCk (x.Args.take i) (dO l x);have h2:=zEj l x;have h3:=zEc (l:=x.Args) hy;omega)) ⟨zB,O,zB,O,T⟩) ?_
     rintro _ _ ⟨sv12,rfl,rfl⟩
     refine G O<|zA<|zJ O<|qB O ⟨by omega,by omega⟩<|G O<|zA ?_
     refine ⟨⟨i+1,sv12⟩,(by omega),(by show x.Args.length-(i+1)<x.Args.length-i;omega),Weak.mk [false,true] ⟨zB,zB,zB,zB,T⟩ (by exact yP (by rw [zCv hy]))⟩
    ·exact r4
theorem cg_exprTypes (x:Ex):∀(sv:Value) (l:List Ty) (hl:l.length+x.wt<=3000000),Con cfg 48 [.c (.lit sv),vE x] (tyV sv l) fun r μ'=>∃sv',r=.c (.lit sv')/\μ'=tyV sv' (lN x l):=by
  induction x using Ex.ind with
  |_ x ih=>exact fun sv l hl=>zOx x ih sv l hl
theorem zMh (x:Ex) (ih:∀a,a∈x.Args->∀(sv:Value) (l:List Ty) (hl:l.length+a.wt<=3000000),Con cfg 49 [.c (.lit sv),vE a] (tyV sv l) fun r μ'=>∃sv',r=.c (.lit sv')/\μ'=tyV sv' (lN a l)) (sv:Value) (l:List Ty) (hl:l.length+x.wt<=3000000):
    Con cfg 49 [.c (.lit sv),vE x] (tyV sv l) fun r μ'=>∃sv',r=.c (.lit sv')/\μ'=tyV sv' (lN x l):=by
 refine zW Tryz.func49 O Tryz.ntmps49 Tryz.results49 O ?_
 intro z hz
 have hwt:=Ex.wt_eq x
 have hln:=zGt x.Args
 refine R O<|zT O O (qP O O) ?_
 rintro _ _ ⟨b1,rfl,rfl⟩
 refine qW _ (qM 0 O 3 _ PLe.ptr)<|zZ O (yN 5 O O)<|zA<|zE<|R O<|zS O kQ<|zF one3 Y O<|zA<|zP<|zE<|R O<|yD O<|G O<|zA<|zC O (fun c1=>?_) (fun c1=>?_)
 ·have d1:x.Op=1:=of_decide_eq_true c1
  refine zI<|zC O (fun c2=>?_) (fun c2=>?_)
  ·have hN0:adT l x.Ty=dO l x:=by unfold dO;rw [if_pos (by first|exact .inl d1|exact .inr (of_decide_eq_true c2))]
   refine zJ O<|G O<|zS O zBp<|zQ yG Y O<|zT O O (yY 0 O O ok23 (zFe sv l x.Ty (by omega)) ⟨zB,O,zB,O,T⟩) ?_
   rintro _ _ ⟨sv2,rfl,rfl⟩
   refine G O<|zA<|zE<|R O<|G O<|zA<|zP<|zU ⟨[(5,.c _),(0,.c _),(3,.c _)],[_]⟩ (Weak.mk [true] ⟨zB,zB,zB,T⟩ O)<|qF 2 1 O O (Nat×Value) (fun ⟨i,sw⟩=>[(5,vI i),(0,.c (.lit sw))]) (fun ⟨i,sw⟩=>[E.vec sw 31 5 ((dG (x.Args.take i) (dO l x)).map tyC)]) (fun ⟨i,sw⟩=>i<=x.Args.length) (fun ⟨i,sw⟩=>x.Args.length-i) ⟨⟨0,_⟩,(by omega),Weak.mk [true] ⟨zB,zB,zB,T⟩ (by exact yP (congrArg (fun l=>l.map tyC) hN0))⟩ ?_
   rintro ⟨i,sw⟩ hi
   show AWP _ _ _ _ _ ⟨[(5,vI i),(0,.c (.lit sw))]++_,[E.vec sw 31 5 ((dG (x.Args.take i) (dO l x)).map tyC)]++_⟩
   refine zE<|R O<|G O<|zS O yW<|zF kW Y O<|qC O el55<|yC O<|zA<|zC O (fun c4=>?_) (fun c4=>?_)
   ·try simp only [sx] at c4
    obtain ⟨y,hy⟩:=qU x.Args i (by omega)
    refine zI<|zE<|zP<|zJ O<|G O<|zS O yW<|zF kW Y O<|G O<|zX O el55 (by omega) (wF hy)<|zQ yM Y O<|zT O O (yY 0 O O ok49 (ih y (qE hy) sw (dG (x.Args.take i) (dO l x)) (by have h1:=zCk (x.Args.take i) (dO l x);have h2:=zEj l x;have h3:=zEc (l:=x.Args) hy;omega)) ⟨zB,O,zB,O,T⟩) ?_
    rintro _ _ ⟨sv3,rfl,rfl⟩
    refine G O<|zA<|zJ O<|G O<|qB O ⟨by omega,by omega⟩<|G O<|zA ?_
    refine ⟨⟨i+1,sv3⟩,(by omega),(by show x.Args.length-(i+1)<x.Args.length-i;omega),Weak.mk [true] ⟨zB,zB,zB,T⟩ (by exact yP (by rw [zCv hy]))⟩
   ·exact r4
  ·exact absurd (c1.symm.trans c2) (by simp)
 ·have d1:¬x.Op=1:=of_decide_eq_false c1
  refine zJ O<|yD O<|G O<|zA<|zC O (fun c2=>?_) (fun c2=>?_)
  ·have hN0:adT l x.Ty=dO l x:=by unfold dO;rw [if_pos (by first|exact .inl d1|exact .inr (of_decide_eq_true c2))]
   refine zJ O<|G O<|zS O zBp<|zQ yG Y O<|zT O O (yY 0 O O ok23 (zFe sv l x.Ty (by omega)) ⟨zB,O,zB,O,T⟩) ?_
   rintro _ _ ⟨sv4,rfl,rfl⟩
   refine G O<|zA<|zE<|R O<|G O<|zA<|zP<|zU ⟨[(5,.c _),(0,.c _),(3,.c _)],[_]⟩ (Weak.mk [true] ⟨zB,zB,zB,T⟩ O)<|qF 2 1 O O (Nat×Value) (fun ⟨i,sw⟩=>[(5,vI i),(0,.c (.lit sw))]) (fun ⟨i,sw⟩=>[E.vec sw 31 5 ((dG (x.Args.take i) (dO l x)).map tyC)]) (fun ⟨i,sw⟩=>i<=x.Args.length) (fun ⟨i,sw⟩=>x.Args.length-i) ⟨⟨0,_⟩,(by omega),Weak.mk [true] ⟨zB,zB,zB,T⟩ (by exact yP (congrArg (fun l=>l.map tyC) hN0))⟩ ?_
   rintro ⟨i,sw⟩ hi
   show AWP _ _ _ _ _ ⟨[(5,vI i),(0,.c (.lit sw))]++_,[E.vec sw 31 5 ((dG (x.Args.take i) (dO l x)).map tyC)]++_⟩
   refine zE<|R O<|G O<|zS O yW<|zF kW Y O<|qC O el55<|yC O<|zA<|zC O (fun c4=>?_) (fun c4=>?_)
   ·try simp only [sx] at c4
    obtain ⟨y,hy⟩:=qU x.Args i (by omega)
    refine zI<|zE<|zP<|zJ O<|G O<|zS O yW<|zF kW Y O<|G O<|zX O el55 (by omega) (wF hy)<|zQ yM Y O<|zT O O (yY 0 O O ok49 (ih y (qE hy) sw (dG (x.Args.take i) (dO l x)) (by have h1:=zCk (x.Args.take i) (dO l x);have h2:=zEj l x;have h3:=zEc (l:=x.Args) hy;omega)) ⟨zB,O,zB,O,T⟩) ?_
    rintro _ _ ⟨sv5,rfl,rfl⟩
    refine G O<|zA<|zJ O<|G O<|qB O ⟨by omega,by omega⟩<|G O<|zA ?_
    refine ⟨⟨i+1,sv5⟩,(by omega),(by show x.Args.length-(i+1)<x.Args.length-i;omega),Weak.mk [true] ⟨zB,zB,zB,T⟩ (by exact yP (by rw [zCv hy]))⟩
   ·exact r4
  ·have d2:¬x.Op=12:=of_decide_eq_false c2
   refine R O<|yD O<|G O<|zA<|zC O (fun c3=>?_) (fun c3=>?_)
   ·try simp only [sx] at c3
    have hN0:adT l iTy=dO l x:=by unfold dO;rw [if_neg (by omega),if_pos c3]
    refine zJ O<|G O<|yT O zr31 pl31<|zT O O (yY 0 O O ok23 (zFe sv l iTy (by omega)) ⟨zB,O,zB,O,T⟩) ?_
    rintro _ _ ⟨sv6,rfl,rfl⟩
    refine G O<|zA<|zE<|R O<|G O<|zA<|zP<|zU ⟨[(5,.c _),(0,.c _),(3,.c _)],[_]⟩ (Weak.mk [true] ⟨zB,zB,zB,T⟩ O)<|qF 2 1 O O (Nat×Value) (fun ⟨i,sw⟩=>[(5,vI i),(0,.c (.lit sw))]) (fun ⟨i,sw⟩=>[E.vec sw 31 5 ((dG (x.Args.take i) (dO l x)).map tyC)]) (fun ⟨i,sw⟩=>i<=x.Args.length) (fun ⟨i,sw⟩=>x.Args.length-i) ⟨⟨0,_⟩,(by omega),Weak.mk [true] ⟨zB,zB,zB,T⟩ (by exact yP (congrArg (fun l=>l.map tyC) hN0))⟩ ?_
    rintro ⟨i,sw⟩ hi
    show AWP _ _ _ _ _ ⟨[(5,vI i),(0,.c (.lit sw))]++_,[E.vec sw 31 5 ((dG (x.Args.take i) (dO l x)).map tyC)]++_⟩
    refine zE<|R O<|G O<|zS O yW<|zF kW Y O<|qC O el55<|yC O<|zA<|zC O (fun c4=>?_) (fun c4=>?_)
    ·try simp only [sx] at c4
     obtain ⟨y,hy⟩:=qU x.Args i (by omega)
     refine zI<|zE<|zP<|zJ O<|G O<|zS O yW<|zF kW Y O<|G O<|zX O el55 (by omega) (wF hy)<|zQ yM Y O<|zT O O (yY 0 O O ok49 (ih y (qE hy) sw (dG (x.Args.take i) (dO l x)) (by have h1:=zCk (x.Args.take i) (dO l x);have h2:=zEj l x;have h3:=zEc (l:=x.Args) hy;omega)) ⟨zB,O,zB,O,T⟩) ?_
     rintro _ _ ⟨sv7,rfl,rfl⟩
     refine G O<|zA<|zJ O<|G O<|qB O ⟨by omega,by omega⟩<|G O<|zA ?_
     refine ⟨⟨i+1,sv7⟩,(by omega),(by show x.Args.length-(i+1)<x.Args.length-i;omega),Weak.mk [true] ⟨zB,zB,zB,T⟩ (by exact yP (by rw [zCv hy]))⟩
    ·exact r4
   ·try simp only [sx] at c3
    have hN0:l=dO l x:=by unfold dO;rw [if_neg (by omega),if_neg c3]
    refine zI<|zE<|R O<|G O<|zA<|zP<|zU ⟨[(5,.c _),(0,.c _),(3,.c _)],[_]⟩ (Weak.mk [true] ⟨zB,zB,zB,T⟩ O)<|qF 2 1 O O (Nat×Value) (fun ⟨i,sw⟩=>[(5,vI i),(0,.c (.lit sw))]) (fun ⟨i,sw⟩=>[E.vec sw 31 5 ((dG (x.Args.take i) (dO l x)).map tyC)]) (fun ⟨i,sw⟩=>i<=x.Args.length) (fun ⟨i,sw⟩=>x.Args.length-i) ⟨⟨0,_⟩,(by omega),Weak.mk [true] ⟨zB,zB,zB,T⟩ (by exact yP (congrArg (fun l=>l.map tyC) hN0))⟩ ?_
    rintro ⟨i,sw⟩ hi
    show AWP _ _ _ _ _ ⟨[(5,vI i),(0,.c (.lit sw))]++_,[E.vec sw 31 5 ((dG (x.Args.take i) (dO l x)).map tyC)]++_⟩
    refine zE<|R O<|G O<|zS O yW<|zF kW Y O<|qC O el55<|yC O<|zA<|zC O (fun c4=>?_) (fun c4=>?_)
    ·try simp only [sx] at c4
     obtain ⟨y,hy⟩:=qU x.Args i (by omega)
     refine zI<|zE<|zP<|zJ O<|G O<|zS O yW<|zF kW Y O<|G O<|zX O el55 (by omega) (wF hy)<|zQ yM Y O<|zT O O (yY 0 O O ok49 (ih y (qE hy) sw (dG (x.Args.take i) (dO l x)) (by have h1:=zCk (x.Args.take i) (dO l x);have h2:=zEj l x;have h3:=zEc (l:=x.Args) hy;omega)) ⟨zB,O,zB,O,T⟩) ?_
     rintro _ _ ⟨sv8,rfl,rfl⟩
     refine G O<|zA<|zJ O<|G O<|qB O ⟨by omega,by omega⟩<|G O<|zA ?_
     refine ⟨⟨i+1,sv8⟩,(by omega),(by show x.Args.length-(i+1)<x.Args.length-i;omega),Weak.mk [true] ⟨zB,zB,zB,T⟩ (by exact yP (by rw [zCv hy]))⟩
    ·exact r4
theorem r48_exprTypes (x:Ex):∀(sv:Value) (l:List Ty) (hl:l.length+x.wt<=3000000),Con cfg 49 [.c (.lit sv),vE x] (tyV sv l) fun r μ'=>∃sv',r=.c (.lit sv')/\μ'=tyV sv' (lN x l):=by
  induction x using Ex.ind with
  |_ x ih=>exact fun sv l hl=>zMh x ih sv l hl
theorem zGp (b:List St) (ih:∀s,s∈b->∀(sv:Value) (l:List Ty) (hl:l.length+bH s.Body<=2000000),Con cfg 22 [.c (.lit sv),dS s.Body] (tyV sv l) fun r μ'=>∃sv',r=.c (.lit sv')/\μ'=tyV sv' (dN s.Body l)) (sv:Value) (l:List Ty) (hl:l.length+bH b<=2000000):
    Con cfg 22 [.c (.lit sv),dS b] (tyV sv l) fun r μ'=>∃sv',r=.c (.lit sv')/\μ'=tyV sv' (dN b l):=by
 refine zW Tryz.func22 O Tryz.ntmps22 Tryz.results22 O ?_
 intro z hz
 have hbl:=wI b
 refine R O<|zZ O (yN 5 O O)<|zA<|zE<|R O<|G O<|qC O el23<|G O<|zA<|zP<|zU ⟨[(9,.c _),(0,.c _),(7,.c _),(8,.c _)],[_]⟩ (Weak.mk [true] ⟨zB,zB,zB,zB,T⟩ O)<|qF 2 1 O O (Nat×Value) (fun ⟨k,sw⟩=>[(9,vI k),(0,.c (.lit sw))]) (fun ⟨k,sw⟩=>[E.vec sw 31 5 ((dN (b.take k) l).map tyC)]) (fun ⟨k,sw⟩=>k<=b.length) (fun ⟨k,sw⟩=>b.length-k) ⟨⟨0,sv⟩,(by omega),Weak.mk [true] ⟨zB,zB,zB,zB,T⟩ O⟩ ?_
 rintro ⟨k,sw⟩ hk
 show AWP _ _ _ _ _ ⟨[(9,vI k),(0,.c (.lit sw))]++_,[E.vec sw 31 5 ((dN (b.take k) l).map tyC)]++_⟩
 refine R O<|yC O<|zA<|zE<|zC O (fun c1=>?_) (fun c1=>?_)
 ·try simp only [sx] at c1
  obtain ⟨s,hs⟩:=qU b k (by omega)
  refine zI<|zE<|zP<|R O<|zX O el23 (by omega) (zCy hs)<|zQ zEz Y O<|zT O O (qQ [none,none,none,none,none,some 4,none,none,none,none,none,none,none,none,none,none,some 2,some 4,some 13,some 20] O zr59 O) ?_
  rintro _ _ ⟨b1,rfl,rfl⟩
  refine D 0 sz59 O<|qW _ (qM 0 O 6 _ PLe.ptr)<|zA<|R O<|G O<|zS O zBu<|zQ yM Y O<|zT O O (yY 0 O O ok48 (cg_exprTypes s.E sw (dN (b.take k) l) (by have h1:=zEo (b.take k) l;have h2:=zQh hs;have h3:=St.wt_eq s;omega)) ⟨zB,O,zB,O,T⟩) ?_
  rintro _ _ ⟨sv2,rfl,rfl⟩
  refine G O<|zA<|zJ O<|G O<|zS O zBe<|zF zAj Y O<|zT O O (yY 0 O O ok22 (ih s (qE hs) _ (lN s.E (dN (b.take k) l)) (by have h1:=zEo (b.take k) l;have h2:=zQh hs;have h3:=St.wt_eq s;have h4:=zRa s.E (dN (b.take k) l);omega)) ⟨zB,O,zB,O,T⟩) ?_
  rintro _ _ ⟨sv3,rfl,rfl⟩
  refine G O<|zA<|zJ O<|qB O ⟨by omega,by omega⟩<|G O<|zA ?_
  refine ⟨⟨k+1,sv3⟩,(by omega),(by show b.length-(k+1)<b.length-k;omega),Weak.mk [true] ⟨zB,zB,zB,zB,T⟩ (by exact yP (by rw [stTyL_next hs,stTy_eq]))⟩
 ·try simp only [sx] at c1
  refine qK<|R O<|G O<|G O<|zA<|zN<|zV O ?_
  exact ⟨_,O,by rw [qZ (l:=b) (k:=k) (by omega)];rfl⟩
theorem zOw (s:St):∀(sv:Value) (l:List Ty) (hl:l.length+bH s.Body<=2000000),Con cfg 22 [.c (.lit sv),dS s.Body] (tyV sv l) fun r μ'=>∃sv',r=.c (.lit sv')/\μ'=tyV sv' (dN s.Body l):=by
  induction s using St.ind with
  |_ s ih=>exact fun sv l hl=>zGp s.Body ih sv l hl
theorem cg_stmtTypes (b:List St) (sv:Value) (l:List Ty) (hl:l.length+bH b<=2000000):Con cfg 22 [.c (.lit sv),dS b] (tyV sv l) fun r μ'=>∃sv',r=.c (.lit sv')/\μ'=tyV sv' (dN b l):=zGp b (fun s _=>zOw s) sv l hl
theorem zFg (b:List St) (ih:∀s,s∈b->∀(sv:Value) (l:List Ty) (hl:l.length+bH s.Body<=2000000),Con cfg 24 [.c (.lit sv),dS s.Body] (tyV sv l) fun r μ'=>∃sv',r=.c (.lit sv')/\μ'=tyV sv' (dN s.Body l)) (sv:Value) (l:List Ty) (hl:l.length+bH b<=2000000):
    Con cfg 24 [.c (.lit sv),dS b] (tyV sv l) fun r μ'=>∃sv',r=.c (.lit sv')/\μ'=tyV sv' (dN b l):=by
 refine zW Tryz.func24 O Tryz.ntmps24 Tryz.results24 O ?_
 intro z hz
 have hbl:=wI b
 refine R O<|zZ O (yN 5 O O)<|zA<|zE<|R O<|G O<|zA<|zP<|zU ⟨[(5,.c _),(0,.c _),(1,.c _)],[_]⟩ (Weak.mk [true] ⟨zB,zB,zB,T⟩ O)<|qF 2 1 O O (Nat×Value) (fun ⟨k,sw⟩=>[(5,vI k),(0,.c (.lit sw))]) (fun ⟨k,sw⟩=>[E.vec sw 31 5 ((dN (b.take k) l).map tyC)]) (fun ⟨k,sw⟩=>k<=b.length) (fun ⟨k,sw⟩=>b.length-k) ⟨⟨0,sv⟩,(by omega),Weak.mk [true] ⟨zB,zB,zB,T⟩ O⟩ ?_
 rintro ⟨k,sw⟩ hk
 show AWP _ _ _ _ _ ⟨[(5,vI k),(0,.c (.lit sw))]++_,[E.vec sw 31 5 ((dN (b.take k) l).map tyC)]++_⟩
 refine zE<|R O<|G O<|G O<|qC O el23<|yC O<|zA<|zC O (fun c1=>?_) (fun c1=>?_)
 ·try simp only [sx] at c1
  obtain ⟨s,hs⟩:=qU b k (by omega)
  refine zI<|zE<|zP<|R O<|G O<|G O<|G O<|zX O el23 (by omega) (zCy hs)<|zS O zBu<|zQ yM Y O<|zT O O (yY 0 O O ok49 (r48_exprTypes s.E sw (dN (b.take k) l) (by have h1:=zEo (b.take k) l;have h2:=zQh hs;have h3:=St.wt_eq s;omega)) ⟨zB,O,zB,O,T⟩) ?_
  rintro _ _ ⟨sv1,rfl,rfl⟩
  refine G O<|zA<|zJ O<|G O<|G O<|G O<|zX O el23 (by omega) (zCy hs)<|zS O zBe<|zF zAj Y O<|zT O O (yY 0 O O ok24 (ih s (qE hs) _ (lN s.E (dN (b.take k) l)) (by have h1:=zEo (b.take k) l;have h2:=zQh hs;have h3:=St.wt_eq s;have h4:=zRa s.E (dN (b.take k) l);omega)) ⟨zB,O,zB,O,T⟩) ?_
  rintro _ _ ⟨sv2,rfl,rfl⟩
  refine G O<|zA<|zJ O<|G O<|qB O ⟨by omega,by omega⟩<|G O<|zA ?_
  refine ⟨⟨k+1,sv2⟩,(by omega),(by show b.length-(k+1)<b.length-k;omega),Weak.mk [true] ⟨zB,zB,zB,T⟩ (by exact yP (by rw [stTyL_next hs,stTy_eq]))⟩
 ·try simp only [sx] at c1
  refine qK<|R O<|G O<|G O<|zA<|zN<|zV O ?_
  exact ⟨_,O,by rw [qZ (l:=b) (k:=k) (by omega)];rfl⟩
theorem zMf (s:St):∀(sv:Value) (l:List Ty) (hl:l.length+bH s.Body<=2000000),Con cfg 24 [.c (.lit sv),dS s.Body] (tyV sv l) fun r μ'=>∃sv',r=.c (.lit sv')/\μ'=tyV sv' (dN s.Body l):=by
  induction s using St.ind with
  |_ s ih=>exact fun sv l hl=>zFg s.Body ih sv l hl
theorem r48_stmtTypes (b:List St) (sv:Value) (l:List Ty) (hl:l.length+bH b<=2000000):Con cfg 24 [.c (.lit sv),dS b] (tyV sv l) fun r μ'=>∃sv',r=.c (.lit sv')/\μ'=tyV sv' (dN b l):=zFg b (fun s _=>zMf s) sv l hl
theorem cg_Types (n:Ns) (hb:n.Bufs.length<=1000000) (hw:bH n.Body<=900000):
    OwnR cfg 10 [vNs n] 31 5 ((jB n).map tyC):=by
 refine zW Tryz.func10 O Tryz.ntmps10 Tryz.results10 O ?_
 intro z hz
 refine R O<|zT O O (qP O O) ?_
 rintro _ _ ⟨b1,rfl,rfl⟩
 refine qW _ (qM 0 O 1 _ PLe.ptr)<|G O<|zA<|R O<|G O<|qW _ (wO 31 5)<|zA<|zE<|R O<|zS O zAz<|zF zDx Y O<|qC O el22<|G O<|zA<|zP<|zU ⟨[(9,.c _),(3,.c _),(1,.c _),(7,.c _),(8,.c _)],[_]⟩ (Weak.mk [true] ⟨zB,zB,zB,zB,zB,T⟩ O)<|qF 2 1 O O (Nat×Value) (fun ⟨k,sw⟩=>[(9,vI k),(3,.c (.lit sw))]) (fun ⟨k,sw⟩=>[E.vec sw 31 5 ((nO (n.Bufs.take k)).map tyC)]) (fun ⟨k,sw⟩=>k<=n.Bufs.length) (fun ⟨k,sw⟩=>n.Bufs.length-k) ⟨⟨0,(.slice none 0 0)⟩,(by omega),Weak.mk [true] ⟨zB,zB,zB,zB,zB,T⟩ O⟩ ?_
 rintro ⟨k,sw⟩ hk
 show AWP _ _ _ _ _ ⟨[(9,vI k),(3,.c (.lit sw))]++_,[E.vec sw 31 5 ((nO (n.Bufs.take k)).map tyC)]++_⟩
 refine R O<|yC O<|zA<|zE<|zC O (fun c1=>?_) (fun c1=>?_)
 ·try simp only [sx] at c1
  obtain ⟨b,hb2⟩:=qU n.Bufs k (by omega)
  refine zI<|zE<|zP<|R O<|zX O el22 (by omega) (N hb2)<|zQ zKe Y O<|zT O O (qQ [none,none,none,none,none,none,some 1,none] O zr69 O) ?_
  rintro _ _ ⟨b3,rfl,rfl⟩
  refine D 0 sz69 O<|qW _ (qM 0 O 5 _ PLe.ptr)<|zA<|zJ O<|G O<|zS O zEt<|zQ yG Y O<|zT O O (yY 0 O O ok21 (cg_add sw (nO (n.Bufs.take k)) b.T (by have h1:=zNp (n.Bufs.take k);rw [List.length_take] at h1;omega)) ⟨zB,O,zB,O,T⟩) ?_
  rintro _ _ ⟨sv4,rfl,rfl⟩
  refine G O<|zA<|zJ O<|qB O ⟨by omega,by omega⟩<|G O<|zA ?_
  refine ⟨⟨k+1,sv4⟩,(by omega),(by show n.Bufs.length-(k+1)<n.Bufs.length-k;omega),Weak.mk [true] ⟨zB,zB,zB,zB,zB,T⟩ (by exact yP (by rw [bfTy_next hb2]))⟩
 ·try simp only [sx] at c1
  rw [qZ (l:=n.Bufs) (k:=k) (by omega)]
  refine qK<|R O<|G O<|zS O zDh<|zF zAj Y O<|zT O O (yY 0 O O ok22 (cg_stmtTypes n.Body _ (nO n.Bufs) (by have h1:=zNp n.Bufs;omega)) ⟨zB,O,zB,O,T⟩) ?_
  rintro _ _ ⟨sv5,rfl,rfl⟩
  refine G O<|zA<|zN<|zV O ?_
  exact ⟨_,O,O⟩
theorem r48_Types (n:Ns) (hb:n.Bufs.length<=1000000) (hw:bH n.Body<=900000):
    OwnR cfg 11 [vNs n] 31 5 ((jB n).map tyC):=by
 refine zW Tryz.func11 O Tryz.ntmps11 Tryz.results11 O ?_
 intro z hz
 refine R O<|zT O O (qP O O) ?_
 rintro _ _ ⟨b1,rfl,rfl⟩
 refine qW _ (qM 0 O 1 _ PLe.ptr)<|G O<|zA<|R O<|G O<|qW _ (wO 31 5)<|zA<|zE<|R O<|G O<|zA<|zP<|zU ⟨[(4,.c _),(3,.c _),(1,.c _)],[_]⟩ (Weak.mk [true] ⟨zB,zB,zB,T⟩ O)<|qF 2 1 O O (Nat×Value) (fun ⟨k,sw⟩=>[(4,vI k),(3,.c (.lit sw))]) (fun ⟨k,sw⟩=>[E.vec sw 31 5 ((nO (n.Bufs.take k)).map tyC)]) (fun ⟨k,sw⟩=>k<=n.Bufs.length) (fun ⟨k,sw⟩=>n.Bufs.length-k) ⟨⟨0,(.slice none 0 0)⟩,(by omega),Weak.mk [true] ⟨zB,zB,zB,T⟩ O⟩ ?_
 rintro ⟨k,sw⟩ hk
 show AWP _ _ _ _ _ ⟨[(4,vI k),(3,.c (.lit sw))]++_,[E.vec sw 31 5 ((nO (n.Bufs.take k)).map tyC)]++_⟩
 refine zE<|R O<|G O<|zS O zAz<|zF zDx Y O<|qC O el22<|yC O<|zA<|zC O (fun c1=>?_) (fun c1=>?_)
 ·try simp only [sx] at c1
  obtain ⟨b,hb2⟩:=qU n.Bufs k (by omega)
  refine zI<|zE<|zP<|zJ O<|G O<|zS O zAz<|zF zDx Y O<|G O<|zX O el22 (by omega) (N hb2)<|zS O zEt<|zQ yG Y O<|zT O O (yY 0 O O ok23 (zFe sw (nO (n.Bufs.take k)) b.T (by have h1:=zNp (n.Bufs.take k);rw [List.length_take] at h1;omega)) ⟨zB,O,zB,O,T⟩) ?_
  rintro _ _ ⟨sv3,rfl,rfl⟩
  refine G O<|zA<|zJ O<|G O<|qB O ⟨by omega,by omega⟩<|G O<|zA ?_
  refine ⟨⟨k+1,sv3⟩,(by omega),(by show n.Bufs.length-(k+1)<n.Bufs.length-k;omega),Weak.mk [true] ⟨zB,zB,zB,T⟩ (by exact yP (by rw [bfTy_next hb2]))⟩
 ·try simp only [sx] at c1
  rw [qZ (l:=n.Bufs) (k:=k) (by omega)]
  refine qK<|R O<|G O<|zS O zDh<|zF zAj Y O<|zT O O (yY 0 O O ok24 (r48_stmtTypes n.Body _ (nO n.Bufs) (by have h1:=zNp n.Bufs;omega)) ⟨zB,O,zB,O,T⟩) ?_
  rintro _ _ ⟨sv4,rfl,rfl⟩
  refine G O<|zA<|zN<|zV O ?_
  exact ⟨_,O,O⟩
theorem shape_Strides (d:List Int) (hl:d.length<=17592186044416):
    Pur cfg 113 [vIs d] (vIs (jD d)):=by
 refine zW Tryz.func113 O Tryz.ntmps113 Tryz.results113 O ?_
 intro z hz
 refine R O<|zZ O (yN 1 O O)<|zA<|zE<|R O<|G O<|qS O ok103 (zFr d hl) ⟨zB,O,T⟩<|kZ O<|zA<|zC O (fun c1=>?_) (fun c1=>?_)
 ·try simp only [sx] at c1
  refine R O<|zZ O (yN 1 O O)<|zA<|zN<|zV O ?_
  unfold jD;rw [if_neg c1];rfl
 ·try simp only [sx] at c1
  have hsl:=zLr d
  have hd6:=(zGo c1).1
  refine zI<|R O<|G O<|qC O el67<|zT O O (ope_make d.length O el67 zr3 O O (by simp) (by simp) (by omega) (by omega)) ?_
  rintro _ _ ⟨sv1,rfl,rfl⟩
  refine G O<|zA<|R O<|G O<|zA<|zE<|R O<|G O<|qC O el67<|yX O ⟨by omega,by omega⟩<|G O<|zA<|zP<|zU ⟨[(5,.c _),(4,.c _),(0,.c _),(3,.c _)],[_]⟩ (Weak.mk [true] ⟨zB,zB,zB,zB,T⟩ O) ?_
  refine qF 2 1 O O (Nat) (fun j=>[(5,vI ((j:Int)-1)),(4,vI (fE (d.drop j)))]) (fun j=>[E.vec sv1 3 1 (List.replicate j [cI 0]++((pB d).drop j).map fun n=>[cI n])]) (fun j=>j<=d.length) (fun j=>j) ⟨d.length,(by omega),Weak.mk [true] ⟨zB,VLe.of_eq (congrArg vI (by rw [List.drop_length];rfl)),zB,zB,T⟩ (by exact yP (by rw [List.drop_eq_nil_of_le (by rw [zLr];exact Nat.le_refl _)];simp))⟩ ?_
  rintro j hj
  refine zE<|R O<|G O<|zZ O (kU O O O)<|zA<|zC O (fun c2=>?_) (fun c2=>?_)
  ·try simp only [sx] at c2
   obtain ⟨x,hx⟩:=qU d (j-1) (by omega)
   have hjx:0<j:=by omega
   refine zI<|zE<|zP<|R O<|G O<|G O<|G O<|zZ O (qO 0 O el67 O O O (by omega) (by simp only [List.length_append,List.length_replicate,List.length_drop,List.length_map,zLr];omega))<|zAt O O (kO O sz3 O O O (zEe 0 O (st_get hjx _) O))<|zA<|zJ O<|G O<|G O<|G O<|zX O el67 (by omega) (N (show d[((j:Int)-1).toNat]? =some x by rw [show ((j:Int)-1).toNat=j-1 by omega];exact hx))<|zF one3 Y O<|zZ O (zCa O O O (by have h1:=zNc c1 (j-1);have h2:=zNc c1 j;have h3:=prod_next hx;rw [show j-1+1=j by omega] at h3;rw [Int.mul_comm,←h3];exact ⟨by omega,by omega⟩))<|G O<|zA<|zJ O<|G O<|yX O ⟨by omega,by omega⟩<|G O<|zA ?_
   refine ⟨j-1,(by omega),(by omega),Weak.mk [true] ⟨VLe.of_eq (congrArg vI (by omega)),VLe.of_eq (congrArg vI (by have h3:=prod_next hx;rw [show j-1+1=j by omega] at h3;rw [h3,Int.mul_comm])),zB,zB,T⟩ (by exact yP (st_set hjx hx))⟩
  ·try simp only [sx] at c2
   refine qK<|zE<|zU _ (kN 0 O (regs':=[(3,_)]) (μ':=[]) ⟨FLe.sl,T⟩ T)<|zJ O<|G O<|G O<|zA<|zN<|zV O ?_
   unfold jD;rw [if_pos c1];have hj0:j=0:=by omega
   subst hj0
   rfl
theorem ref11_Strides (d:List Int) (hl:d.length<=17592186044416):
    Pur cfg 125 [vIs d] (vIs (jD d)):=by
 refine zW Tryz.func125 O Tryz.ntmps125 Tryz.results125 O ?_
 intro z hz
 refine R O<|zZ O (yN 1 O O)<|zA<|zE<|R O<|G O<|qS O ok93 (zFs d hl) ⟨zB,O,T⟩<|kZ O<|zA<|zC O (fun c1=>?_) (fun c1=>?_)
 ·try simp only [sx] at c1
  refine R O<|zZ O (yN 1 O O)<|zA<|zN<|zV O ?_
  unfold jD;rw [if_neg c1];rfl
 ·try simp only [sx] at c1
  refine zI<|R O<|G O<|qW _ (wO 3 1)<|zA<|zE<|R O<|G O<|zA<|zP<|zU ⟨[(4,.c _),(3,.c _),(0,.c _)],[_]⟩ (Weak.mk [true] ⟨zB,zB,zB,T⟩ O)<|qF 2 1 O O (Nat×Value) (fun ⟨k,sv⟩=>[(4,vI k),(3,.c (.lit sv))]) (fun ⟨k,sv⟩=>[E.vec sv 3 1 (((pB d).take k).map fun n=>[cI n])]) (fun ⟨k,sv⟩=>k<=d.length) (fun ⟨k,sv⟩=>d.length-k) ⟨⟨0,(.slice none 0 0)⟩,(by omega),Weak.mk [true] ⟨zB,zB,zB,T⟩ O⟩ ?_
  rintro ⟨k,sv⟩ hk
  show AWP _ _ _ _ _ ⟨[(4,vI k),(3,.c (.lit sv))]++_,[E.vec sv 3 1 (((pB d).take k).map fun n=>[cI n])]++_⟩
  refine zE<|R O<|G O<|G O<|qC O el67<|yC O<|zA<|zC O (fun c2=>?_) (fun c2=>?_)
  ·try simp only [sx] at c2
   obtain ⟨x,hx⟩:=qU d k (by omega)
   refine zI<|zE<|zP<|zJ O<|G O<|G O<|G O<|qB O ⟨by omega,by omega⟩<|zZ O (zPp (k:=k+1) O el67 O O (by omega))<|qS O ok41 (zOb (d.drop (k+1)) (by rw [List.length_drop];omega)) ⟨zB,O,T⟩<|zZ O (yO O el67 zr3 O O O O)<|zT O O (yQ 0 O el67 O O O (by simp only [List.length_map,List.length_append,List.length_cons,List.length_nil,List.length_take,List.length_drop];omega) (by simp only [List.length_map,List.length_append,List.length_cons,List.length_nil,List.length_take,List.length_drop];omega)) ?_
   rintro _ _ ⟨sv2,rfl,rfl⟩
   refine G O<|zA<|zJ O<|G O<|qB O ⟨by omega,by omega⟩<|G O<|zA ?_
   refine ⟨⟨k+1,sv2⟩,(by omega),(by show d.length-(k+1)<d.length-k;omega),Weak.mk [true] ⟨zB,zB,zB,T⟩ (by exact yP (by rw [strF_take hx,List.map_append,(zNc c1 (k+1)).2.1];rfl))⟩
  ·try simp only [sx] at c2
   refine qK<|zE<|zU _ (kN 0 O (regs':=[(3,_)]) (μ':=[]) ⟨FLe.sl,T⟩ T)<|zJ O<|G O<|G O<|zA<|zN<|zV O ?_
   unfold jD;rw [if_pos c1,List.take_of_length_le (by rw [zLr];omega)]
theorem r48_Short (n:Ns) (hf:n.Fit):
    Pur cfg 8 [vNs n] (vB (decide ((n.Bufs.length:Int)<=40)&&decide ((gJ n.Body 300:Int)<=300))):=by
 refine zW Tryz.func8 O Tryz.ntmps8 Tryz.results8 O ?_
 intro z hz
 refine R O<|zT O O (qP O O) ?_
 rintro _ _ ⟨b1,rfl,rfl⟩
 refine G O<|zA<|R O<|zM O zAz<|zF zDx (A 0 O) O<|qC O el22<|zZ O (wJ O O O)<|G O<|rL0 O (fun g1_4=>zG O zDh O) O<|B 8 O (fun g1_4=>zD O zAj O (A 0 O) O) O<|B 9 O (fun g1_4=>qR O ok20 (zUf n.Body 300 300 hf.body hf.len (by omega) O) ⟨zB,O,zB,O,T⟩) O<|B 10 O (fun g1_4=>wJ O O O) O<|yU O (fun h=>h)<|G O<|zA<|zN<|zV O ?_
 exact O
end Go.W
