/-
  What functions compute.
  Conditions: none.
-/
import Derived.Test.YtdldhbfgfkebjaaGreatDoorNE
import Derived.Test.YtdldhbfgfkebjaaGreatDoorPlainG
import Derived.Test.YtdldhbfgfkebjaaGreatDoorEngV2
set_option linter.unusedSimpArgs false
set_option linter.unusedVariables false
set_option maxRecDepth 10000
namespace Go.W
open Go Go.Eng Go.Proofs Go.L41 Go.Br
attribute [local irreducible] AWP RWP TD fP
abbrev tyV (sv:Value) (l:List Ty):List E:=[E.vec sv 31 5 (l.map tyC)]
theorem ty_t {a b:Ty} (h:bF (tyC a) (tyC b)=true):a=b:=of_decide_eq_true ((tyC_eq a b).symm.trans h)
theorem ty_f {a b:Ty} (h:bF (tyC a) (tyC b)=false):¬a=b:=of_decide_eq_false ((tyC_eq a b).symm.trans h)
theorem ok21:bA Tryz.prog 21=true:=by kernel_rfl
theorem ok22:bA Tryz.prog 22=true:=by kernel_rfl
theorem ok23:bA Tryz.prog 23=true:=by kernel_rfl
theorem ok24:bA Tryz.prog 24=true:=by kernel_rfl
theorem ok47:bA Tryz.prog 47=true:=by kernel_rfl
theorem ok48:bA Tryz.prog 48=true:=by kernel_rfl
theorem ok49:bA Tryz.prog 49=true:=by kernel_rfl
theorem ok97:bA Tryz.prog 97=true:=by kernel_rfl
theorem zIp (l:List Ty) (t:Ty) (hl:l.length<=4294967296):
    Pur cfg 97 [xL l,vTy t] (vI (vC l t)):=by
 refine zW Tryz.func97 O Tryz.ntmps97 Tryz.results97 O ?_
 intro z hz
 refine R O<|zS O O (qP O O) ?_
 rintro _ _ ⟨b1,rfl,rfl⟩
 refine G O<|zA<|zF<|R O<|G O<|qD O el28<|G O<|zA<|zP<|zU ⟨[(8,.c _),(0,.c _),(3,.c _),(7,.c _)],[_]⟩ (Weak.mk [true] ⟨zB,zB,zB,zB,T⟩ O)<|qF 1 0 O O (Nat) (fun k=>[(8,vI k)]) (fun k=>[]) (fun k=>k<=l.length/\(l.take k).any (fun x=>decide (t=x))=false) (fun k=>l.length-k) ⟨0,⟨by omega,O⟩,Weak.mk [true] ⟨zB,zB,zB,zB,T⟩ O⟩ ?_
 rintro k ⟨hk,hp⟩
 refine R O<|yC O<|zA<|zF<|zD O (fun c1=>?_) (fun c1=>?_)
 ·try simp only [sx] at c1
  obtain ⟨x,hx⟩:=qU l k (by omega)
  refine zI<|zF<|zP<|R O<|G O<|G O<|zA<|zF<|qW 6 mixed (by kernel_rfl) O O<|zL O O (qC O yG O (A 0 O) O)<|zL O O (zM O O)<|zL O O (zM O O)<|zL O O (qH O el28 O O (by omega) (v hx))<|zL O O (qC O yG O zO O)<|zL O O (zKe O fl31 O O O)<|yM<|zA<|zD O (fun c2=>?_) (fun c2=>?_)
  ·have hxt:t=x:=ty_t (a:=t) (b:=x) c2
   refine R O<|G O<|G O<|zA<|zN<|zV O ?_
   exact congrArg vI (zDx hx (decide_eq_true hxt) hp).symm
  ·have hxt:¬t=x:=ty_f (a:=t) (b:=x) c2
   refine zI<|zK O<|qA O ⟨by omega,by omega⟩<|G O<|zA ?_
   refine ⟨k+1,⟨by omega,zDo hx hp (decide_eq_false hxt)⟩,(by omega),Weak.mk [true] ⟨zB,zB,zB,zB,T⟩ O⟩
 ·try simp only [sx] at c1
  refine qK<|R O<|G O<|zA<|zN<|zV O ?_
  exact congrArg vI (zCb (by rw [qX (by omega)] at hp;exact hp)).symm
theorem zMb (l:List Ty) (t:Ty) (hl:l.length<=4294967296):
    Pur cfg 47 [xL l,vTy t] (vB (tE l t)):=by
 refine zW Tryz.func47 O Tryz.ntmps47 Tryz.results47 O ?_
 intro z hz
 refine R O<|zS O O (qP O O) ?_
 rintro _ _ ⟨b1,rfl,rfl⟩
 refine G O<|zA<|R O<|G O<|zQ yG (A 0 O) O<|qS O ok97 (zIp l t hl) ⟨zB,O,zB,O,T⟩<|zZ O (kY O O O)<|G O<|zA<|zN<|zV O ?_
 exact congrArg vB (zDi _ _)
theorem cg_add (sv:Value) (l:List Ty) (t:Ty) (hl:l.length<=4000000):
    Con cfg 21 [.c (.lit sv),vTy t] (tyV sv l) fun r μ'=>∃sv',r=.c (.lit sv')/\μ'=tyV sv' (adT l t):=by
 refine zW Tryz.func21 O Tryz.ntmps21 Tryz.results21 O ?_
 intro z hz
 refine R O<|zS O O (qP O O) ?_
 rintro _ _ ⟨b1,rfl,rfl⟩
 refine zZ O (yO 5 O O)<|zA<|zF<|R O<|G O<|zQ yG (A 0 O) O<|zZ O (zCe 1 O ok47 O (zMb l t (by omega)) O ⟨.inl ⟨O,O⟩,.inr ⟨zB,O⟩,T⟩)<|zA<|zD O (fun c1=>?_) (fun c1=>?_)
 ·try simp only [sx] at c1
  refine R O<|G O<|G O<|zA<|zU _ (Weak.mem [false,true] O)<|zN<|zV O ?_
  exact ⟨_,O,by rw [adT_t c1];rfl⟩
 ·try simp only [sx] at c1
  refine zI<|R O<|G O<|zQ yG (A 0 O) O<|zZ O (yJ O el28 zr31 O O O O)<|zS O O (yI 1 O el28 O O O (by simp only [List.length_map,List.length_append,List.length_cons,List.length_nil,List.length_take,List.length_drop];omega) (by simp only [List.length_map,List.length_append,List.length_cons,List.length_nil,List.length_take,List.length_drop];omega)) ?_
  rintro _ _ ⟨sv2,rfl,rfl⟩
  refine G O<|zA<|zU _ (Weak.mem [false,true] O)<|zN<|zV O ?_
  exact ⟨_,O,by rw [adT_f c1];show _=[E.vec _ _ _ ((l++[t]).map tyC)];rw [List.map_append];rfl⟩
theorem zFi (sv:Value) (l:List Ty) (t:Ty) (hl:l.length<=4000000):
    Con cfg 23 [.c (.lit sv),vTy t] (tyV sv l) fun r μ'=>∃sv',r=.c (.lit sv')/\μ'=tyV sv' (adT l t):=by
 refine zW Tryz.func23 O Tryz.ntmps23 Tryz.results23 O ?_
 intro z hz
 refine R O<|zS O O (qP O O) ?_
 rintro _ _ ⟨b1,rfl,rfl⟩
 refine zZ O (yO 5 O O)<|zA<|zF<|R O<|G O<|zA<|zP<|zU ⟨[(5,.c _),(0,.c _),(3,.c _)],[_,_]⟩ (Weak.mk [true,true] ⟨zB,zB,zB,T⟩ O)<|qF 1 0 O O (Nat) (fun k=>[(5,vI k)]) (fun k=>[]) (fun k=>k<=l.length/\(l.take k).any (fun x=>decide (t=x))=false) (fun k=>l.length-k) ⟨0,⟨by omega,O⟩,Weak.mk [true,true] ⟨zB,zB,zB,T⟩ O⟩ ?_
 rintro k ⟨hk,hp⟩
 refine zF<|R O<|G O<|G O<|zZ O (yK 1 O el28 O O)<|yC O<|zA<|zD O (fun c1=>?_) (fun c1=>?_)
 ·try simp only [sx] at c1
  have hkl:=hk
  obtain ⟨x,hx⟩:=qU l k (by omega)
  refine zI<|zF<|zP<|zF<|qW 6 mixed (by kernel_rfl) O O<|zL O O (zM O O)<|zL O O (zM O O)<|zL O O (qO 1 O el28 O O O (by omega) (by simp only [List.length_map];omega))<|zL O O (qC O yG O (kG 1 O (v hx)) O)<|zL O O (qC O yG O (A 0 O) O)<|zL O O (zKe O fl31 O O O)<|yM<|zA<|zD O (fun c2=>?_) (fun c2=>?_)
  ·have hxt:t=x:=(ty_t (a:=x) (b:=t) c2).symm
   refine R O<|G O<|G O<|zA<|zU _ (Weak.mem [false,true] O)<|zN<|zV O ?_
   exact ⟨_,O,by rw [adT_t (zQx.2 (by rw [hxt];exact qE hx))];rfl⟩
  ·have hxt:¬t=x:=fun e=>ty_f (a:=x) (b:=t) c2 e.symm
   refine zI<|zK O<|G O<|qA O ⟨by omega,by omega⟩<|G O<|zA ?_
   refine ⟨k+1,⟨by omega,zDo hx hp (decide_eq_false hxt)⟩,(by omega),Weak.mk [true,true] ⟨zB,zB,zB,T⟩ O⟩
 ·try simp only [sx] at c1
  refine qK<|R O<|G O<|zQ yG (A 0 O) O<|zZ O (yJ O el28 zr31 O O O O)<|zS O O (yI 1 O el28 O O O (by simp only [List.length_map,List.length_append,List.length_cons,List.length_nil,List.length_take,List.length_drop];omega) (by simp only [List.length_map,List.length_append,List.length_cons,List.length_nil,List.length_take,List.length_drop];omega)) ?_
  rintro _ _ ⟨sv2,rfl,rfl⟩
  refine G O<|zA<|zU _ (Weak.mem [false,true] O)<|zN<|zV O ?_
  exact ⟨_,O,by rw [adT_f (show tE l t=false by rw [qX (by omega)] at hp;exact hp)];show _=[E.vec _ _ _ ((l++[t]).map tyC)];rw [List.map_append];rfl⟩
theorem zPg (x:Ex) (ih:∀a,a∈x.Args->∀(sv:Value) (l:List Ty) (hl:l.length+a.wt<=3000000),Con cfg 48 [.c (.lit sv),vE a] (tyV sv l) fun r μ'=>∃sv',r=.c (.lit sv')/\μ'=tyV sv' (lN a l)) (sv:Value) (l:List Ty) (hl:l.length+x.wt<=3000000):
    Con cfg 48 [.c (.lit sv),vE x] (tyV sv l) fun r μ'=>∃sv',r=.c (.lit sv')/\μ'=tyV sv' (lN x l):=by
 refine zW Tryz.func48 O Tryz.ntmps48 Tryz.results48 O ?_
 intro z hz
 have hwt:=Ex.wt_eq x
 have hln:=zGx x.Args
 refine R O<|zS O O (qP O O) ?_
 rintro _ _ ⟨b1,rfl,rfl⟩
 refine qT _ (qM 0 O 3 _ PLe.ptr)<|zZ O (yO 5 O O)<|zA<|zF<|R O<|zT O kR<|zE one3 zO O<|zA<|zP<|zF<|R O<|yE O<|G O<|zA<|zD O (fun c1=>?_) (fun c1=>?_)
 ·have d1:x.Op=1:=of_decide_eq_true c1
  refine zI<|zD O (fun c2=>?_) (fun c2=>?_)
  ·have hN0:adT l x.Ty=dQ l x:=by unfold dQ;rw [if_pos (by first|exact .inl d1|exact .inr (of_decide_eq_true c2))]
   refine zK O<|G O<|zT O zBj<|zQ yG zO O<|zS O O (kA 0 O O ok21 (cg_add sv l x.Ty (by omega)) ⟨zB,O,zB,O,T⟩) ?_
   rintro _ _ ⟨sv2,rfl,rfl⟩
   refine G O<|zA<|zF<|R O<|zT O yU<|zE kW zO O<|qD O el55<|G O<|zA<|zP<|zU ⟨[(24,.c _),(0,.c _),(22,.c _),(23,.c _)],[_]⟩ (Weak.mk [true] ⟨zB,zB,zB,zB,T⟩ O)<|qF 2 1 O O (Nat×Value) (fun ⟨i,sw⟩=>[(24,vI i),(0,.c (.lit sw))]) (fun ⟨i,sw⟩=>[E.vec sw 31 5 ((dG (x.Args.take i) (dQ l x)).map tyC)]) (fun ⟨i,sw⟩=>i<=x.Args.length) (fun ⟨i,sw⟩=>x.Args.length-i) ⟨⟨0,_⟩,(by omega),Weak.mk [true] ⟨zB,zB,zB,zB,T⟩ (by exact yQ (congrArg (fun l=>l.map tyC) hN0))⟩ ?_
   rintro ⟨i,sw⟩ hi
   show AWP _ _ _ _ _ ⟨[(24,vI i),(0,.c (.lit sw))]++_,[E.vec sw 31 5 ((dG (x.Args.take i) (dQ l x)).map tyC)]++_⟩
   refine R O<|yC O<|zA<|zF<|zD O (fun c4=>?_) (fun c4=>?_)
   ·try simp only [sx] at c4
    obtain ⟨y,hy⟩:=qU x.Args i (by omega)
    refine zI<|zF<|zP<|R O<|zY O el55 (by omega) (wF hy)<|zQ yN zO O<|zS O O (qQ [none,none,none,none,none,none,none,none,none,none,some 2,some 4,some 13] O zr57 O) ?_
    rintro _ _ ⟨b3,rfl,rfl⟩
    refine Y 0 sz57 O<|zA<|zK O<|G O<|zQ yN (A 0 O) O<|zS O O (kA 1 O O ok48 (ih y (qE hy) sw (dG (x.Args.take i) (dQ l x)) (by have h1:=zCp (x.Args.take i) (dQ l x);have h2:=zEm l x;have h3:=zEg (l:=x.Args) hy;omega)) ⟨zB,O,zB,O,T⟩) ?_
    rintro _ _ ⟨sv4,rfl,rfl⟩
    refine G O<|zA<|zK O<|qA O ⟨by omega,by omega⟩<|G O<|zA ?_
    refine ⟨⟨i+1,sv4⟩,(by omega),(by show x.Args.length-(i+1)<x.Args.length-i;omega),Weak.mk [false,true] ⟨zB,zB,zB,zB,T⟩ (by exact yQ (by rw [zDb hy]))⟩
   ·exact r4
  ·exact absurd (c1.symm.trans c2) (by simp)
 ·have d1:¬x.Op=1:=of_decide_eq_false c1
  refine zK O<|yE O<|G O<|zA<|zD O (fun c2=>?_) (fun c2=>?_)
  ·have hN0:adT l x.Ty=dQ l x:=by unfold dQ;rw [if_pos (by first|exact .inl d1|exact .inr (of_decide_eq_true c2))]
   refine zK O<|G O<|zT O zBj<|zQ yG zO O<|zS O O (kA 0 O O ok21 (cg_add sv l x.Ty (by omega)) ⟨zB,O,zB,O,T⟩) ?_
   rintro _ _ ⟨sv5,rfl,rfl⟩
   refine G O<|zA<|zF<|R O<|zT O yU<|zE kW zO O<|qD O el55<|G O<|zA<|zP<|zU ⟨[(24,.c _),(0,.c _),(22,.c _),(23,.c _)],[_]⟩ (Weak.mk [true] ⟨zB,zB,zB,zB,T⟩ O)<|qF 2 1 O O (Nat×Value) (fun ⟨i,sw⟩=>[(24,vI i),(0,.c (.lit sw))]) (fun ⟨i,sw⟩=>[E.vec sw 31 5 ((dG (x.Args.take i) (dQ l x)).map tyC)]) (fun ⟨i,sw⟩=>i<=x.Args.length) (fun ⟨i,sw⟩=>x.Args.length-i) ⟨⟨0,_⟩,(by omega),Weak.mk [true] ⟨zB,zB,zB,zB,T⟩ (by exact yQ (congrArg (fun l=>l.map tyC) hN0))⟩ ?_
   rintro ⟨i,sw⟩ hi
   show AWP _ _ _ _ _ ⟨[(24,vI i),(0,.c (.lit sw))]++_,[E.vec sw 31 5 ((dG (x.Args.take i) (dQ l x)).map tyC)]++_⟩
   refine R O<|yC O<|zA<|zF<|zD O (fun c4=>?_) (fun c4=>?_)
   ·try simp only [sx] at c4
    obtain ⟨y,hy⟩:=qU x.Args i (by omega)
    refine zI<|zF<|zP<|R O<|zY O el55 (by omega) (wF hy)<|zQ yN zO O<|zS O O (qQ [none,none,none,none,none,none,none,none,none,none,some 2,some 4,some 13] O zr57 O) ?_
    rintro _ _ ⟨b6,rfl,rfl⟩
    refine Y 0 sz57 O<|zA<|zK O<|G O<|zQ yN (A 0 O) O<|zS O O (kA 1 O O ok48 (ih y (qE hy) sw (dG (x.Args.take i) (dQ l x)) (by have h1:=zCp (x.Args.take i) (dQ l x);have h2:=zEm l x;have h3:=zEg (l:=x.Args) hy;omega)) ⟨zB,O,zB,O,T⟩) ?_
    rintro _ _ ⟨sv7,rfl,rfl⟩
    refine G O<|zA<|zK O<|qA O ⟨by omega,by omega⟩<|G O<|zA ?_
    refine ⟨⟨i+1,sv7⟩,(by omega),(by show x.Args.length-(i+1)<x.Args.length-i;omega),Weak.mk [false,true] ⟨zB,zB,zB,zB,T⟩ (by exact yQ (by rw [zDb hy]))⟩
   ·exact r4
  ·have d2:¬x.Op=12:=of_decide_eq_false c2
   refine R O<|yE O<|G O<|zA<|zD O (fun c3=>?_) (fun c3=>?_)
   ·try simp only [sx] at c3
    have hN0:adT l iTy=dQ l x:=by unfold dQ;rw [if_neg (by omega),if_pos c3]
    refine zK O<|G O<|yS O zr31 pl31<|zS O O (kA 0 O O ok21 (cg_add sv l iTy (by omega)) ⟨zB,O,zB,O,T⟩) ?_
    rintro _ _ ⟨sv8,rfl,rfl⟩
    refine G O<|zA<|zF<|R O<|zT O yU<|zE kW zO O<|qD O el55<|G O<|zA<|zP<|zU ⟨[(24,.c _),(0,.c _),(22,.c _),(23,.c _)],[_]⟩ (Weak.mk [true] ⟨zB,zB,zB,zB,T⟩ O)<|qF 2 1 O O (Nat×Value) (fun ⟨i,sw⟩=>[(24,vI i),(0,.c (.lit sw))]) (fun ⟨i,sw⟩=>[E.vec sw 31 5 ((dG (x.Args.take i) (dQ l x)).map tyC)]) (fun ⟨i,sw⟩=>i<=x.Args.length) (fun ⟨i,sw⟩=>x.Args.length-i) ⟨⟨0,_⟩,(by omega),Weak.mk [true] ⟨zB,zB,zB,zB,T⟩ (by exact yQ (congrArg (fun l=>l.map tyC) hN0))⟩ ?_
    rintro ⟨i,sw⟩ hi
    show AWP _ _ _ _ _ ⟨[(24,vI i),(0,.c (.lit sw))]++_,[E.vec sw 31 5 ((dG (x.Args.take i) (dQ l x)).map tyC)]++_⟩
    refine R O<|yC O<|zA<|zF<|zD O (fun c4=>?_) (fun c4=>?_)
    ·try simp only [sx] at c4
     obtain ⟨y,hy⟩:=qU x.Args i (by omega)
     refine zI<|zF<|zP<|R O<|zY O el55 (by omega) (wF hy)<|zQ yN zO O<|zS O O (qQ [none,none,none,none,none,none,none,none,none,none,some 2,some 4,some 13] O zr57 O) ?_
     rintro _ _ ⟨b9,rfl,rfl⟩
     refine Y 0 sz57 O<|zA<|zK O<|G O<|zQ yN (A 0 O) O<|zS O O (kA 1 O O ok48 (ih y (qE hy) sw (dG (x.Args.take i) (dQ l x)) (by have h1:=zCp (x.Args.take i) (dQ l x);have h2:=zEm l x;have h3:=zEg (l:=x.Args) hy;omega)) ⟨zB,O,zB,O,T⟩) ?_
     rintro _ _ ⟨sv10,rfl,rfl⟩
     refine G O<|zA<|zK O<|qA O ⟨by omega,by omega⟩<|G O<|zA ?_
     refine ⟨⟨i+1,sv10⟩,(by omega),(by show x.Args.length-(i+1)<x.Args.length-i;omega),Weak.mk [false,true] ⟨zB,zB,zB,zB,T⟩ (by exact yQ (by rw [zDb hy]))⟩
    ·exact r4
   ·try simp only [sx] at c3
    have hN0:l=dQ l x:=by unfold dQ;rw [if_neg (by omega),if_neg c3]
    refine zI<|zF<|R O<|zT O yU<|zE kW zO O<|qD O el55<|G O<|zA<|zP<|zU ⟨[(24,.c _),(0,.c _),(22,.c _),(23,.c _)],[_]⟩ (Weak.mk [true] ⟨zB,zB,zB,zB,T⟩ O)<|qF 2 1 O O (Nat×Value) (fun ⟨i,sw⟩=>[(24,vI i),(0,.c (.lit sw))]) (fun ⟨i,sw⟩=>[E.vec sw 31 5 ((dG (x.Args.take i) (dQ l x)).map tyC)]) (fun ⟨i,sw⟩=>i<=x.Args.length) (fun ⟨i,sw⟩=>x.Args.length-i) ⟨⟨0,_⟩,(by omega),Weak.mk [true] ⟨zB,zB,zB,zB,T⟩ (by exact yQ (congrArg (fun l=>l.map tyC) hN0))⟩ ?_
    rintro ⟨i,sw⟩ hi
    show AWP _ _ _ _ _ ⟨[(24,vI i),(0,.c (.lit sw))]++_,[E.vec sw 31 5 ((dG (x.Args.take i) (dQ l x)).map tyC)]++_⟩
    refine R O<|yC O<|zA<|zF<|zD O (fun c4=>?_) (fun c4=>?_)
    ·try simp only [sx] at c4
     obtain ⟨y,hy⟩:=qU x.Args i (by omega)
     refine zI<|zF<|zP<|R O<|zY O el55 (by omega) (wF hy)<|zQ yN zO O<|zS O O (qQ [none,none,none,none,none,none,none,none,none,none,some 2,some 4,some 13] O zr57 O) ?_
     rintro _ _ ⟨b11,rfl,rfl⟩
     refine Y 0 sz57 O<|zA<|zK O<|G O<|zQ yN (A 0 O) O<|zS O O (kA 1 O O ok48 (ih y (qE hy) sw (dG (x.Args.take i) (dQ l x)) (by have h1:=zCp (x.Args.take i) (dQ l x);have h2:=zEm l x;have h3:=zEg (l:=x.Args) hy;omega)) ⟨zB,O,zB,O,T⟩) ?_
     rintro _ _ ⟨sv12,rfl,rfl⟩
     refine G O<|zA<|zK O<|qA O ⟨by omega,by omega⟩<|G O<|zA ?_
     refine ⟨⟨i+1,sv12⟩,(by omega),(by show x.Args.length-(i+1)<x.Args.length-i;omega),Weak.mk [false,true] ⟨zB,zB,zB,zB,T⟩ (by exact yQ (by rw [zDb hy]))⟩
    ·exact r4
theorem cg_exprTypes (x:Ex):∀(sv:Value) (l:List Ty) (hl:l.length+x.wt<=3000000),Con cfg 48 [.c (.lit sv),vE x] (tyV sv l) fun r μ'=>∃sv',r=.c (.lit sv')/\μ'=tyV sv' (lN x l):=by
  induction x using Ex.ind with
  |_ x ih=>exact fun sv l hl=>zPg x ih sv l hl
theorem zMn (x:Ex) (ih:∀a,a∈x.Args->∀(sv:Value) (l:List Ty) (hl:l.length+a.wt<=3000000),Con cfg 49 [.c (.lit sv),vE a] (tyV sv l) fun r μ'=>∃sv',r=.c (.lit sv')/\μ'=tyV sv' (lN a l)) (sv:Value) (l:List Ty) (hl:l.length+x.wt<=3000000):
    Con cfg 49 [.c (.lit sv),vE x] (tyV sv l) fun r μ'=>∃sv',r=.c (.lit sv')/\μ'=tyV sv' (lN x l):=by
 refine zW Tryz.func49 O Tryz.ntmps49 Tryz.results49 O ?_
 intro z hz
 have hwt:=Ex.wt_eq x
 have hln:=zGx x.Args
 refine R O<|zS O O (qP O O) ?_
 rintro _ _ ⟨b1,rfl,rfl⟩
 refine qT _ (qM 0 O 3 _ PLe.ptr)<|zZ O (yO 5 O O)<|zA<|zF<|R O<|zT O kR<|zE one3 zO O<|zA<|zP<|zF<|R O<|yE O<|G O<|zA<|zD O (fun c1=>?_) (fun c1=>?_)
 ·have d1:x.Op=1:=of_decide_eq_true c1
  refine zI<|zD O (fun c2=>?_) (fun c2=>?_)
  ·have hN0:adT l x.Ty=dQ l x:=by unfold dQ;rw [if_pos (by first|exact .inl d1|exact .inr (of_decide_eq_true c2))]
   refine zK O<|G O<|zT O zBj<|zQ yG zO O<|zS O O (kA 0 O O ok23 (zFi sv l x.Ty (by omega)) ⟨zB,O,zB,O,T⟩) ?_
   rintro _ _ ⟨sv2,rfl,rfl⟩
   refine G O<|zA<|zF<|R O<|G O<|zA<|zP<|zU ⟨[(5,.c _),(0,.c _),(3,.c _)],[_]⟩ (Weak.mk [true] ⟨zB,zB,zB,T⟩ O)<|qF 2 1 O O (Nat×Value) (fun ⟨i,sw⟩=>[(5,vI i),(0,.c (.lit sw))]) (fun ⟨i,sw⟩=>[E.vec sw 31 5 ((dG (x.Args.take i) (dQ l x)).map tyC)]) (fun ⟨i,sw⟩=>i<=x.Args.length) (fun ⟨i,sw⟩=>x.Args.length-i) ⟨⟨0,_⟩,(by omega),Weak.mk [true] ⟨zB,zB,zB,T⟩ (by exact yQ (congrArg (fun l=>l.map tyC) hN0))⟩ ?_
   rintro ⟨i,sw⟩ hi
   show AWP _ _ _ _ _ ⟨[(5,vI i),(0,.c (.lit sw))]++_,[E.vec sw 31 5 ((dG (x.Args.take i) (dQ l x)).map tyC)]++_⟩
   refine zF<|R O<|G O<|zT O yU<|zE kW zO O<|qD O el55<|yC O<|zA<|zD O (fun c4=>?_) (fun c4=>?_)
   ·try simp only [sx] at c4
    obtain ⟨y,hy⟩:=qU x.Args i (by omega)
    refine zI<|zF<|zP<|zK O<|G O<|zT O yU<|zE kW zO O<|G O<|zY O el55 (by omega) (wF hy)<|zQ yN zO O<|zS O O (kA 0 O O ok49 (ih y (qE hy) sw (dG (x.Args.take i) (dQ l x)) (by have h1:=zCp (x.Args.take i) (dQ l x);have h2:=zEm l x;have h3:=zEg (l:=x.Args) hy;omega)) ⟨zB,O,zB,O,T⟩) ?_
    rintro _ _ ⟨sv3,rfl,rfl⟩
    refine G O<|zA<|zK O<|G O<|qA O ⟨by omega,by omega⟩<|G O<|zA ?_
    refine ⟨⟨i+1,sv3⟩,(by omega),(by show x.Args.length-(i+1)<x.Args.length-i;omega),Weak.mk [true] ⟨zB,zB,zB,T⟩ (by exact yQ (by rw [zDb hy]))⟩
   ·exact r4
  ·exact absurd (c1.symm.trans c2) (by simp)
 ·have d1:¬x.Op=1:=of_decide_eq_false c1
  refine zK O<|yE O<|G O<|zA<|zD O (fun c2=>?_) (fun c2=>?_)
  ·have hN0:adT l x.Ty=dQ l x:=by unfold dQ;rw [if_pos (by first|exact .inl d1|exact .inr (of_decide_eq_true c2))]
   refine zK O<|G O<|zT O zBj<|zQ yG zO O<|zS O O (kA 0 O O ok23 (zFi sv l x.Ty (by omega)) ⟨zB,O,zB,O,T⟩) ?_
   rintro _ _ ⟨sv4,rfl,rfl⟩
   refine G O<|zA<|zF<|R O<|G O<|zA<|zP<|zU ⟨[(5,.c _),(0,.c _),(3,.c _)],[_]⟩ (Weak.mk [true] ⟨zB,zB,zB,T⟩ O)<|qF 2 1 O O (Nat×Value) (fun ⟨i,sw⟩=>[(5,vI i),(0,.c (.lit sw))]) (fun ⟨i,sw⟩=>[E.vec sw 31 5 ((dG (x.Args.take i) (dQ l x)).map tyC)]) (fun ⟨i,sw⟩=>i<=x.Args.length) (fun ⟨i,sw⟩=>x.Args.length-i) ⟨⟨0,_⟩,(by omega),Weak.mk [true] ⟨zB,zB,zB,T⟩ (by exact yQ (congrArg (fun l=>l.map tyC) hN0))⟩ ?_
   rintro ⟨i,sw⟩ hi
   show AWP _ _ _ _ _ ⟨[(5,vI i),(0,.c (.lit sw))]++_,[E.vec sw 31 5 ((dG (x.Args.take i) (dQ l x)).map tyC)]++_⟩
   refine zF<|R O<|G O<|zT O yU<|zE kW zO O<|qD O el55<|yC O<|zA<|zD O (fun c4=>?_) (fun c4=>?_)
   ·try simp only [sx] at c4
    obtain ⟨y,hy⟩:=qU x.Args i (by omega)
    refine zI<|zF<|zP<|zK O<|G O<|zT O yU<|zE kW zO O<|G O<|zY O el55 (by omega) (wF hy)<|zQ yN zO O<|zS O O (kA 0 O O ok49 (ih y (qE hy) sw (dG (x.Args.take i) (dQ l x)) (by have h1:=zCp (x.Args.take i) (dQ l x);have h2:=zEm l x;have h3:=zEg (l:=x.Args) hy;omega)) ⟨zB,O,zB,O,T⟩) ?_
    rintro _ _ ⟨sv5,rfl,rfl⟩
    refine G O<|zA<|zK O<|G O<|qA O ⟨by omega,by omega⟩<|G O<|zA ?_
    refine ⟨⟨i+1,sv5⟩,(by omega),(by show x.Args.length-(i+1)<x.Args.length-i;omega),Weak.mk [true] ⟨zB,zB,zB,T⟩ (by exact yQ (by rw [zDb hy]))⟩
   ·exact r4
  ·have d2:¬x.Op=12:=of_decide_eq_false c2
   refine R O<|yE O<|G O<|zA<|zD O (fun c3=>?_) (fun c3=>?_)
   ·try simp only [sx] at c3
    have hN0:adT l iTy=dQ l x:=by unfold dQ;rw [if_neg (by omega),if_pos c3]
    refine zK O<|G O<|yS O zr31 pl31<|zS O O (kA 0 O O ok23 (zFi sv l iTy (by omega)) ⟨zB,O,zB,O,T⟩) ?_
    rintro _ _ ⟨sv6,rfl,rfl⟩
    refine G O<|zA<|zF<|R O<|G O<|zA<|zP<|zU ⟨[(5,.c _),(0,.c _),(3,.c _)],[_]⟩ (Weak.mk [true] ⟨zB,zB,zB,T⟩ O)<|qF 2 1 O O (Nat×Value) (fun ⟨i,sw⟩=>[(5,vI i),(0,.c (.lit sw))]) (fun ⟨i,sw⟩=>[E.vec sw 31 5 ((dG (x.Args.take i) (dQ l x)).map tyC)]) (fun ⟨i,sw⟩=>i<=x.Args.length) (fun ⟨i,sw⟩=>x.Args.length-i) ⟨⟨0,_⟩,(by omega),Weak.mk [true] ⟨zB,zB,zB,T⟩ (by exact yQ (congrArg (fun l=>l.map tyC) hN0))⟩ ?_
    rintro ⟨i,sw⟩ hi
    show AWP _ _ _ _ _ ⟨[(5,vI i),(0,.c (.lit sw))]++_,[E.vec sw 31 5 ((dG (x.Args.take i) (dQ l x)).map tyC)]++_⟩
    refine zF<|R O<|G O<|zT O yU<|zE kW zO O<|qD O el55<|yC O<|zA<|zD O (fun c4=>?_) (fun c4=>?_)
    ·try simp only [sx] at c4
     obtain ⟨y,hy⟩:=qU x.Args i (by omega)
     refine zI<|zF<|zP<|zK O<|G O<|zT O yU<|zE kW zO O<|G O<|zY O el55 (by omega) (wF hy)<|zQ yN zO O<|zS O O (kA 0 O O ok49 (ih y (qE hy) sw (dG (x.Args.take i) (dQ l x)) (by have h1:=zCp (x.Args.take i) (dQ l x);have h2:=zEm l x;have h3:=zEg (l:=x.Args) hy;omega)) ⟨zB,O,zB,O,T⟩) ?_
     rintro _ _ ⟨sv7,rfl,rfl⟩
     refine G O<|zA<|zK O<|G O<|qA O ⟨by omega,by omega⟩<|G O<|zA ?_
     refine ⟨⟨i+1,sv7⟩,(by omega),(by show x.Args.length-(i+1)<x.Args.length-i;omega),Weak.mk [true] ⟨zB,zB,zB,T⟩ (by exact yQ (by rw [zDb hy]))⟩
    ·exact r4
   ·try simp only [sx] at c3
    have hN0:l=dQ l x:=by unfold dQ;rw [if_neg (by omega),if_neg c3]
    refine zI<|zF<|R O<|G O<|zA<|zP<|zU ⟨[(5,.c _),(0,.c _),(3,.c _)],[_]⟩ (Weak.mk [true] ⟨zB,zB,zB,T⟩ O)<|qF 2 1 O O (Nat×Value) (fun ⟨i,sw⟩=>[(5,vI i),(0,.c (.lit sw))]) (fun ⟨i,sw⟩=>[E.vec sw 31 5 ((dG (x.Args.take i) (dQ l x)).map tyC)]) (fun ⟨i,sw⟩=>i<=x.Args.length) (fun ⟨i,sw⟩=>x.Args.length-i) ⟨⟨0,_⟩,(by omega),Weak.mk [true] ⟨zB,zB,zB,T⟩ (by exact yQ (congrArg (fun l=>l.map tyC) hN0))⟩ ?_
    rintro ⟨i,sw⟩ hi
    show AWP _ _ _ _ _ ⟨[(5,vI i),(0,.c (.lit sw))]++_,[E.vec sw 31 5 ((dG (x.Args.take i) (dQ l x)).map tyC)]++_⟩
    refine zF<|R O<|G O<|zT O yU<|zE kW zO O<|qD O el55<|yC O<|zA<|zD O (fun c4=>?_) (fun c4=>?_)
    ·try simp only [sx] at c4
     obtain ⟨y,hy⟩:=qU x.Args i (by omega)
     refine zI<|zF<|zP<|zK O<|G O<|zT O yU<|zE kW zO O<|G O<|zY O el55 (by omega) (wF hy)<|zQ yN zO O<|zS O O (kA 0 O O ok49 (ih y (qE hy) sw (dG (x.Args.take i) (dQ l x)) (by have h1:=zCp (x.Args.take i) (dQ l x);have h2:=zEm l x;have h3:=zEg (l:=x.Args) hy;omega)) ⟨zB,O,zB,O,T⟩) ?_
     rintro _ _ ⟨sv8,rfl,rfl⟩
     refine G O<|zA<|zK O<|G O<|qA O ⟨by omega,by omega⟩<|G O<|zA ?_
     refine ⟨⟨i+1,sv8⟩,(by omega),(by show x.Args.length-(i+1)<x.Args.length-i;omega),Weak.mk [true] ⟨zB,zB,zB,T⟩ (by exact yQ (by rw [zDb hy]))⟩
    ·exact r4
theorem r48_exprTypes (x:Ex):∀(sv:Value) (l:List Ty) (hl:l.length+x.wt<=3000000),Con cfg 49 [.c (.lit sv),vE x] (tyV sv l) fun r μ'=>∃sv',r=.c (.lit sv')/\μ'=tyV sv' (lN x l):=by
  induction x using Ex.ind with
  |_ x ih=>exact fun sv l hl=>zMn x ih sv l hl
theorem zGt (b:List St) (ih:∀s,s∈b->∀(sv:Value) (l:List Ty) (hl:l.length+bE s.Body<=2000000),Con cfg 22 [.c (.lit sv),dM s.Body] (tyV sv l) fun r μ'=>∃sv',r=.c (.lit sv')/\μ'=tyV sv' (dP s.Body l)) (sv:Value) (l:List Ty) (hl:l.length+bE b<=2000000):
    Con cfg 22 [.c (.lit sv),dM b] (tyV sv l) fun r μ'=>∃sv',r=.c (.lit sv')/\μ'=tyV sv' (dP b l):=by
 refine zW Tryz.func22 O Tryz.ntmps22 Tryz.results22 O ?_
 intro z hz
 have hbl:=wH b
 refine R O<|zZ O (yO 5 O O)<|zA<|zF<|R O<|G O<|qD O el23<|G O<|zA<|zP<|zU ⟨[(9,.c _),(0,.c _),(7,.c _),(8,.c _)],[_]⟩ (Weak.mk [true] ⟨zB,zB,zB,zB,T⟩ O)<|qF 2 1 O O (Nat×Value) (fun ⟨k,sw⟩=>[(9,vI k),(0,.c (.lit sw))]) (fun ⟨k,sw⟩=>[E.vec sw 31 5 ((dP (b.take k) l).map tyC)]) (fun ⟨k,sw⟩=>k<=b.length) (fun ⟨k,sw⟩=>b.length-k) ⟨⟨0,sv⟩,(by omega),Weak.mk [true] ⟨zB,zB,zB,zB,T⟩ O⟩ ?_
 rintro ⟨k,sw⟩ hk
 show AWP _ _ _ _ _ ⟨[(9,vI k),(0,.c (.lit sw))]++_,[E.vec sw 31 5 ((dP (b.take k) l).map tyC)]++_⟩
 refine R O<|yC O<|zA<|zF<|zD O (fun c1=>?_) (fun c1=>?_)
 ·try simp only [sx] at c1
  obtain ⟨s,hs⟩:=qU b k (by omega)
  refine zI<|zF<|zP<|R O<|zY O el23 (by omega) (zCc hs)<|zQ zEi zO O<|zS O O (qQ [none,none,none,none,none,some 4,none,none,none,none,none,none,none,none,none,none,some 2,some 4,some 13,some 20] O zr59 O) ?_
  rintro _ _ ⟨b1,rfl,rfl⟩
  refine Y 0 sz59 O<|qT _ (qM 0 O 6 _ PLe.ptr)<|zA<|R O<|G O<|zT O zBi<|zQ yN zO O<|zS O O (kA 0 O O ok48 (cg_exprTypes s.E sw (dP (b.take k) l) (by have h1:=zEr (b.take k) l;have h2:=zQm hs;have h3:=St.wt_eq s;omega)) ⟨zB,O,zB,O,T⟩) ?_
  rintro _ _ ⟨sv2,rfl,rfl⟩
  refine G O<|zA<|zK O<|G O<|zT O zBb<|zE zAh zO O<|zS O O (kA 0 O O ok22 (ih s (qE hs) _ (lN s.E (dP (b.take k) l)) (by have h1:=zEr (b.take k) l;have h2:=zQm hs;have h3:=St.wt_eq s;have h4:=zRd s.E (dP (b.take k) l);omega)) ⟨zB,O,zB,O,T⟩) ?_
  rintro _ _ ⟨sv3,rfl,rfl⟩
  refine G O<|zA<|zK O<|qA O ⟨by omega,by omega⟩<|G O<|zA ?_
  refine ⟨⟨k+1,sv3⟩,(by omega),(by show b.length-(k+1)<b.length-k;omega),Weak.mk [true] ⟨zB,zB,zB,zB,T⟩ (by exact yQ (by rw [stTyL_next hs,stTy_eq]))⟩
 ·try simp only [sx] at c1
  refine qK<|R O<|G O<|G O<|zA<|zN<|zV O ?_
  exact ⟨_,O,by rw [qX (l:=b) (k:=k) (by omega)];rfl⟩
theorem zPf (s:St):∀(sv:Value) (l:List Ty) (hl:l.length+bE s.Body<=2000000),Con cfg 22 [.c (.lit sv),dM s.Body] (tyV sv l) fun r μ'=>∃sv',r=.c (.lit sv')/\μ'=tyV sv' (dP s.Body l):=by
  induction s using St.ind with
  |_ s ih=>exact fun sv l hl=>zGt s.Body ih sv l hl
theorem cg_stmtTypes (b:List St) (sv:Value) (l:List Ty) (hl:l.length+bE b<=2000000):Con cfg 22 [.c (.lit sv),dM b] (tyV sv l) fun r μ'=>∃sv',r=.c (.lit sv')/\μ'=tyV sv' (dP b l):=zGt b (fun s _=>zPf s) sv l hl
theorem zFk (b:List St) (ih:∀s,s∈b->∀(sv:Value) (l:List Ty) (hl:l.length+bE s.Body<=2000000),Con cfg 24 [.c (.lit sv),dM s.Body] (tyV sv l) fun r μ'=>∃sv',r=.c (.lit sv')/\μ'=tyV sv' (dP s.Body l)) (sv:Value) (l:List Ty) (hl:l.length+bE b<=2000000):
    Con cfg 24 [.c (.lit sv),dM b] (tyV sv l) fun r μ'=>∃sv',r=.c (.lit sv')/\μ'=tyV sv' (dP b l):=by
 refine zW Tryz.func24 O Tryz.ntmps24 Tryz.results24 O ?_
 intro z hz
 have hbl:=wH b
 refine R O<|zZ O (yO 5 O O)<|zA<|zF<|R O<|G O<|zA<|zP<|zU ⟨[(5,.c _),(0,.c _),(1,.c _)],[_]⟩ (Weak.mk [true] ⟨zB,zB,zB,T⟩ O)<|qF 2 1 O O (Nat×Value) (fun ⟨k,sw⟩=>[(5,vI k),(0,.c (.lit sw))]) (fun ⟨k,sw⟩=>[E.vec sw 31 5 ((dP (b.take k) l).map tyC)]) (fun ⟨k,sw⟩=>k<=b.length) (fun ⟨k,sw⟩=>b.length-k) ⟨⟨0,sv⟩,(by omega),Weak.mk [true] ⟨zB,zB,zB,T⟩ O⟩ ?_
 rintro ⟨k,sw⟩ hk
 show AWP _ _ _ _ _ ⟨[(5,vI k),(0,.c (.lit sw))]++_,[E.vec sw 31 5 ((dP (b.take k) l).map tyC)]++_⟩
 refine zF<|R O<|G O<|G O<|qD O el23<|yC O<|zA<|zD O (fun c1=>?_) (fun c1=>?_)
 ·try simp only [sx] at c1
  obtain ⟨s,hs⟩:=qU b k (by omega)
  refine zI<|zF<|zP<|R O<|G O<|G O<|G O<|zY O el23 (by omega) (zCc hs)<|zT O zBi<|zQ yN zO O<|zS O O (kA 0 O O ok49 (r48_exprTypes s.E sw (dP (b.take k) l) (by have h1:=zEr (b.take k) l;have h2:=zQm hs;have h3:=St.wt_eq s;omega)) ⟨zB,O,zB,O,T⟩) ?_
  rintro _ _ ⟨sv1,rfl,rfl⟩
  refine G O<|zA<|zK O<|G O<|G O<|G O<|zY O el23 (by omega) (zCc hs)<|zT O zBb<|zE zAh zO O<|zS O O (kA 0 O O ok24 (ih s (qE hs) _ (lN s.E (dP (b.take k) l)) (by have h1:=zEr (b.take k) l;have h2:=zQm hs;have h3:=St.wt_eq s;have h4:=zRd s.E (dP (b.take k) l);omega)) ⟨zB,O,zB,O,T⟩) ?_
  rintro _ _ ⟨sv2,rfl,rfl⟩
  refine G O<|zA<|zK O<|G O<|qA O ⟨by omega,by omega⟩<|G O<|zA ?_
  refine ⟨⟨k+1,sv2⟩,(by omega),(by show b.length-(k+1)<b.length-k;omega),Weak.mk [true] ⟨zB,zB,zB,T⟩ (by exact yQ (by rw [stTyL_next hs,stTy_eq]))⟩
 ·try simp only [sx] at c1
  refine qK<|R O<|G O<|G O<|zA<|zN<|zV O ?_
  exact ⟨_,O,by rw [qX (l:=b) (k:=k) (by omega)];rfl⟩
theorem zMl (s:St):∀(sv:Value) (l:List Ty) (hl:l.length+bE s.Body<=2000000),Con cfg 24 [.c (.lit sv),dM s.Body] (tyV sv l) fun r μ'=>∃sv',r=.c (.lit sv')/\μ'=tyV sv' (dP s.Body l):=by
  induction s using St.ind with
  |_ s ih=>exact fun sv l hl=>zFk s.Body ih sv l hl
theorem r48_stmtTypes (b:List St) (sv:Value) (l:List Ty) (hl:l.length+bE b<=2000000):Con cfg 24 [.c (.lit sv),dM b] (tyV sv l) fun r μ'=>∃sv',r=.c (.lit sv')/\μ'=tyV sv' (dP b l):=zFk b (fun s _=>zMl s) sv l hl
theorem cg_Types (n:Ns) (hb:n.Bufs.length<=1000000) (hw:bE n.Body<=900000):
    OwnR cfg 10 [vNs n] 31 5 ((jB n).map tyC):=by
 refine zW Tryz.func10 O Tryz.ntmps10 Tryz.results10 O ?_
 intro z hz
 refine R O<|zS O O (qP O O) ?_
 rintro _ _ ⟨b1,rfl,rfl⟩
 refine qT _ (qM 0 O 1 _ PLe.ptr)<|G O<|zA<|R O<|G O<|qT _ (kZ 31 5)<|zA<|zF<|R O<|zT O zAn<|zE zDg zO O<|qD O el22<|G O<|zA<|zP<|zU ⟨[(9,.c _),(3,.c _),(1,.c _),(7,.c _),(8,.c _)],[_]⟩ (Weak.mk [true] ⟨zB,zB,zB,zB,zB,T⟩ O)<|qF 2 1 O O (Nat×Value) (fun ⟨k,sw⟩=>[(9,vI k),(3,.c (.lit sw))]) (fun ⟨k,sw⟩=>[E.vec sw 31 5 ((nO (n.Bufs.take k)).map tyC)]) (fun ⟨k,sw⟩=>k<=n.Bufs.length) (fun ⟨k,sw⟩=>n.Bufs.length-k) ⟨⟨0,(.slice none 0 0)⟩,(by omega),Weak.mk [true] ⟨zB,zB,zB,zB,zB,T⟩ O⟩ ?_
 rintro ⟨k,sw⟩ hk
 show AWP _ _ _ _ _ ⟨[(9,vI k),(3,.c (.lit sw))]++_,[E.vec sw 31 5 ((nO (n.Bufs.take k)).map tyC)]++_⟩
 refine R O<|yC O<|zA<|zF<|zD O (fun c1=>?_) (fun c1=>?_)
 ·try simp only [sx] at c1
  obtain ⟨b,hb2⟩:=qU n.Bufs k (by omega)
  refine zI<|zF<|zP<|R O<|zY O el22 (by omega) (v hb2)<|zQ zIm zO O<|zS O O (qQ [none,none,none,none,none,none,some 1,none] O zr69 O) ?_
  rintro _ _ ⟨b3,rfl,rfl⟩
  refine Y 0 sz69 O<|qT _ (qM 0 O 5 _ PLe.ptr)<|zA<|zK O<|G O<|zT O zEy<|zQ yG zO O<|zS O O (kA 0 O O ok21 (cg_add sw (nO (n.Bufs.take k)) b.T (by have h1:=zNv (n.Bufs.take k);rw [List.length_take] at h1;omega)) ⟨zB,O,zB,O,T⟩) ?_
  rintro _ _ ⟨sv4,rfl,rfl⟩
  refine G O<|zA<|zK O<|qA O ⟨by omega,by omega⟩<|G O<|zA ?_
  refine ⟨⟨k+1,sv4⟩,(by omega),(by show n.Bufs.length-(k+1)<n.Bufs.length-k;omega),Weak.mk [true] ⟨zB,zB,zB,zB,zB,T⟩ (by exact yQ (by rw [bfTy_next hb2]))⟩
 ·try simp only [sx] at c1
  rw [qX (l:=n.Bufs) (k:=k) (by omega)]
  refine qK<|R O<|G O<|zT O zBs<|zE zAh zO O<|zS O O (kA 0 O O ok22 (cg_stmtTypes n.Body _ (nO n.Bufs) (by have h1:=zNv n.Bufs;omega)) ⟨zB,O,zB,O,T⟩) ?_
  rintro _ _ ⟨sv5,rfl,rfl⟩
  refine G O<|zA<|zN<|zV O ?_
  exact ⟨_,O,O⟩
theorem r48_Types (n:Ns) (hb:n.Bufs.length<=1000000) (hw:bE n.Body<=900000):
    OwnR cfg 11 [vNs n] 31 5 ((jB n).map tyC):=by
 refine zW Tryz.func11 O Tryz.ntmps11 Tryz.results11 O ?_
 intro z hz
 refine R O<|zS O O (qP O O) ?_
 rintro _ _ ⟨b1,rfl,rfl⟩
 refine qT _ (qM 0 O 1 _ PLe.ptr)<|G O<|zA<|R O<|G O<|qT _ (kZ 31 5)<|zA<|zF<|R O<|G O<|zA<|zP<|zU ⟨[(4,.c _),(3,.c _),(1,.c _)],[_]⟩ (Weak.mk [true] ⟨zB,zB,zB,T⟩ O)<|qF 2 1 O O (Nat×Value) (fun ⟨k,sw⟩=>[(4,vI k),(3,.c (.lit sw))]) (fun ⟨k,sw⟩=>[E.vec sw 31 5 ((nO (n.Bufs.take k)).map tyC)]) (fun ⟨k,sw⟩=>k<=n.Bufs.length) (fun ⟨k,sw⟩=>n.Bufs.length-k) ⟨⟨0,(.slice none 0 0)⟩,(by omega),Weak.mk [true] ⟨zB,zB,zB,T⟩ O⟩ ?_
 rintro ⟨k,sw⟩ hk
 show AWP _ _ _ _ _ ⟨[(4,vI k),(3,.c (.lit sw))]++_,[E.vec sw 31 5 ((nO (n.Bufs.take k)).map tyC)]++_⟩
 refine zF<|R O<|G O<|zT O zAn<|zE zDg zO O<|qD O el22<|yC O<|zA<|zD O (fun c1=>?_) (fun c1=>?_)
 ·try simp only [sx] at c1
  obtain ⟨b,hb2⟩:=qU n.Bufs k (by omega)
  refine zI<|zF<|zP<|zK O<|G O<|zT O zAn<|zE zDg zO O<|G O<|zY O el22 (by omega) (v hb2)<|zT O zEy<|zQ yG zO O<|zS O O (kA 0 O O ok23 (zFi sw (nO (n.Bufs.take k)) b.T (by have h1:=zNv (n.Bufs.take k);rw [List.length_take] at h1;omega)) ⟨zB,O,zB,O,T⟩) ?_
  rintro _ _ ⟨sv3,rfl,rfl⟩
  refine G O<|zA<|zK O<|G O<|qA O ⟨by omega,by omega⟩<|G O<|zA ?_
  refine ⟨⟨k+1,sv3⟩,(by omega),(by show n.Bufs.length-(k+1)<n.Bufs.length-k;omega),Weak.mk [true] ⟨zB,zB,zB,T⟩ (by exact yQ (by rw [bfTy_next hb2]))⟩
 ·try simp only [sx] at c1
  rw [qX (l:=n.Bufs) (k:=k) (by omega)]
  refine qK<|R O<|G O<|zT O zBs<|zE zAh zO O<|zS O O (kA 0 O O ok24 (r48_stmtTypes n.Body _ (nO n.Bufs) (by have h1:=zNv n.Bufs;omega)) ⟨zB,O,zB,O,T⟩) ?_
  rintro _ _ ⟨sv4,rfl,rfl⟩
  refine G O<|zA<|zN<|zV O ?_
  exact ⟨_,O,O⟩
theorem shape_Strides (d:List Int) (hl:d.length<=17592186044416):
    Pur cfg 113 [vIs d] (vIs (jD d)):=by
 refine zW Tryz.func113 O Tryz.ntmps113 Tryz.results113 O ?_
 intro z hz
 refine R O<|zZ O (yO 1 O O)<|zA<|zF<|R O<|G O<|qS O ok103 (zFv d hl) ⟨zB,O,T⟩<|wA O<|zA<|zD O (fun c1=>?_) (fun c1=>?_)
 ·try simp only [sx] at c1
  refine R O<|zZ O (yO 1 O O)<|zA<|zN<|zV O ?_
  unfold jD;rw [if_neg c1];rfl
 ·try simp only [sx] at c1
  have hsl:=zLx d
  have hd6:=(zGs c1).1
  refine zI<|R O<|G O<|qD O el67<|zS O O (ope_make d.length O el67 zr3 O O (by simp) (by simp) (by omega) (by omega)) ?_
  rintro _ _ ⟨sv1,rfl,rfl⟩
  refine G O<|zA<|R O<|G O<|zA<|zF<|R O<|G O<|qD O el67<|yY O ⟨by omega,by omega⟩<|G O<|zA<|zP<|zU ⟨[(5,.c _),(4,.c _),(0,.c _),(3,.c _)],[_]⟩ (Weak.mk [true] ⟨zB,zB,zB,zB,T⟩ O) ?_
  refine qF 2 1 O O (Nat) (fun j=>[(5,vI ((j:Int)-1)),(4,vI (fE (d.drop j)))]) (fun j=>[E.vec sv1 3 1 (List.replicate j [cI 0]++((pC d).drop j).map fun n=>[cI n])]) (fun j=>j<=d.length) (fun j=>j) ⟨d.length,(by omega),Weak.mk [true] ⟨zB,VLe.of_eq (congrArg vI (by rw [List.drop_length];rfl)),zB,zB,T⟩ (by exact yQ (by rw [List.drop_eq_nil_of_le (by rw [zLx];exact Nat.le_refl _)];simp))⟩ ?_
  rintro j hj
  refine zF<|R O<|G O<|zZ O (kY O O O)<|zA<|zD O (fun c2=>?_) (fun c2=>?_)
  ·try simp only [sx] at c2
   obtain ⟨x,hx⟩:=qU d (j-1) (by omega)
   have hjx:0<j:=by omega
   refine zI<|zF<|zP<|R O<|G O<|G O<|G O<|zZ O (qO 0 O el67 O O O (by omega) (by simp only [List.length_append,List.length_replicate,List.length_drop,List.length_map,zLx];omega))<|zAo O O (kN O sz3 O O O (zDz 0 O (st_get hjx _) O))<|zA<|zK O<|G O<|G O<|G O<|zY O el67 (by omega) (v (show d[((j:Int)-1).toNat]? =some x by rw [show ((j:Int)-1).toNat=j-1 by omega];exact hx))<|zE one3 zO O<|zZ O (zCd O O O (by have h1:=zNj c1 (j-1);have h2:=zNj c1 j;have h3:=prod_next hx;rw [show j-1+1=j by omega] at h3;rw [Int.mul_comm,←h3];exact ⟨by omega,by omega⟩))<|G O<|zA<|zK O<|G O<|yY O ⟨by omega,by omega⟩<|G O<|zA ?_
   refine ⟨j-1,(by omega),(by omega),Weak.mk [true] ⟨VLe.of_eq (congrArg vI (by omega)),VLe.of_eq (congrArg vI (by have h3:=prod_next hx;rw [show j-1+1=j by omega] at h3;rw [h3,Int.mul_comm])),zB,zB,T⟩ (by exact yQ (st_set hjx hx))⟩
  ·try simp only [sx] at c2
   refine qK<|zF<|zU _ (yT 0 O (regs':=[(3,_)]) (μ':=[]) ⟨FLe.sl,T⟩ T)<|zK O<|G O<|G O<|zA<|zN<|zV O ?_
   unfold jD;rw [if_pos c1];have hj0:j=0:=by omega
   subst hj0
   rfl
theorem ref11_Strides (d:List Int) (hl:d.length<=17592186044416):
    Pur cfg 125 [vIs d] (vIs (jD d)):=by
 refine zW Tryz.func125 O Tryz.ntmps125 Tryz.results125 O ?_
 intro z hz
 refine R O<|zZ O (yO 1 O O)<|zA<|zF<|R O<|G O<|qS O ok93 (zFw d hl) ⟨zB,O,T⟩<|wA O<|zA<|zD O (fun c1=>?_) (fun c1=>?_)
 ·try simp only [sx] at c1
  refine R O<|zZ O (yO 1 O O)<|zA<|zN<|zV O ?_
  unfold jD;rw [if_neg c1];rfl
 ·try simp only [sx] at c1
  refine zI<|R O<|G O<|qT _ (kZ 3 1)<|zA<|zF<|R O<|G O<|zA<|zP<|zU ⟨[(4,.c _),(3,.c _),(0,.c _)],[_]⟩ (Weak.mk [true] ⟨zB,zB,zB,T⟩ O)<|qF 2 1 O O (Nat×Value) (fun ⟨k,sv⟩=>[(4,vI k),(3,.c (.lit sv))]) (fun ⟨k,sv⟩=>[E.vec sv 3 1 (((pC d).take k).map fun n=>[cI n])]) (fun ⟨k,sv⟩=>k<=d.length) (fun ⟨k,sv⟩=>d.length-k) ⟨⟨0,(.slice none 0 0)⟩,(by omega),Weak.mk [true] ⟨zB,zB,zB,T⟩ O⟩ ?_
  rintro ⟨k,sv⟩ hk
  show AWP _ _ _ _ _ ⟨[(4,vI k),(3,.c (.lit sv))]++_,[E.vec sv 3 1 (((pC d).take k).map fun n=>[cI n])]++_⟩
  refine zF<|R O<|G O<|G O<|qD O el67<|yC O<|zA<|zD O (fun c2=>?_) (fun c2=>?_)
  ·try simp only [sx] at c2
   obtain ⟨x,hx⟩:=qU d k (by omega)
   refine zI<|zF<|zP<|zK O<|G O<|G O<|G O<|qA O ⟨by omega,by omega⟩<|zZ O (zPw (k:=k+1) O el67 O O (by omega))<|qS O ok41 (zOk (d.drop (k+1)) (by rw [List.length_drop];omega)) ⟨zB,O,T⟩<|zZ O (yJ O el67 zr3 O O O O)<|zS O O (yI 0 O el67 O O O (by simp only [List.length_map,List.length_append,List.length_cons,List.length_nil,List.length_take,List.length_drop];omega) (by simp only [List.length_map,List.length_append,List.length_cons,List.length_nil,List.length_take,List.length_drop];omega)) ?_
   rintro _ _ ⟨sv2,rfl,rfl⟩
   refine G O<|zA<|zK O<|G O<|qA O ⟨by omega,by omega⟩<|G O<|zA ?_
   refine ⟨⟨k+1,sv2⟩,(by omega),(by show d.length-(k+1)<d.length-k;omega),Weak.mk [true] ⟨zB,zB,zB,T⟩ (by exact yQ (by rw [strF_take hx,List.map_append,(zNj c1 (k+1)).2.1];rfl))⟩
  ·try simp only [sx] at c2
   refine qK<|zF<|zU _ (yT 0 O (regs':=[(3,_)]) (μ':=[]) ⟨FLe.sl,T⟩ T)<|zK O<|G O<|G O<|zA<|zN<|zV O ?_
   unfold jD;rw [if_pos c1,List.take_of_length_le (by rw [zLx];omega)]
theorem r48_Short (n:Ns) (hf:n.Fit):
    Pur cfg 8 [vNs n] (vB (decide ((n.Bufs.length:Int)<=40)&&decide ((gJ n.Body 300:Int)<=300))):=by
 refine zW Tryz.func8 O Tryz.ntmps8 Tryz.results8 O ?_
 intro z hz
 refine R O<|zS O O (qP O O) ?_
 rintro _ _ ⟨b1,rfl,rfl⟩
 refine G O<|zA<|R O<|zJ O zAn<|zE zDg (A 0 O) O<|qD O el22<|zZ O (wL O O O)<|G O<|rL0 O (fun g1_4=>zH O zBs O) O<|B 8 O (fun g1_4=>zC O zAh O (A 0 O) O) O<|B 9 O (fun g1_4=>qR O ok20 (zUj n.Body 300 300 hf.body hf.len (by omega) O) ⟨zB,O,zB,O,T⟩) O<|B 10 O (fun g1_4=>wL O O O) O<|yW O (fun h=>h)<|G O<|zA<|zN<|zV O ?_
 exact O
end Go.W
