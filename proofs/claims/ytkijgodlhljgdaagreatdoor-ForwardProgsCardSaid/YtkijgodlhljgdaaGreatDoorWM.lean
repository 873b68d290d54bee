/-
  Walks: what functions of the program compute. Printed by wip/gen/mk2.py.
  Conditions: none.
-/
import Derived.Test.YtkijgodlhljgdaaGreatDoorWL
import Derived.Test.YtkijgodlhljgdaaGreatDoorPlain
set_option linter.unusedSimpArgs false
set_option linter.unusedVariables false
set_option maxRecDepth 10000
namespace Go.W
open Go Go.Eng Go.Proofs Go.L41 Go.Br
attribute [local irreducible] AWP RWP TD finQ
theorem zDd:elemT Tryz.prog 173=some (31,5,40):=by kernel_rfl
theorem ok66:callOk Tryz.prog 66=true:=by kernel_rfl
theorem ok147:callOk Tryz.prog 147=true:=by kernel_rfl
theorem ok149:callOk Tryz.prog 149=true:=by kernel_rfl
theorem ok203:callOk Tryz.prog 203=true:=by kernel_rfl
theorem pl113:placesT Tryz.prog 113=some [(0,5),(5,1)]:=by kernel_rfl
theorem zr113:zeroT Tryz.prog 113=some [(Value.slice none 0 0),(Value.slice none 0 0),(Value.slice none 0 0),(Value.slice none 0 0),(Value.slice none 0 0),(Value.map none)]:=by kernel_rfl
theorem typer_read (b mb:Nat) (p:Pg) (m:Kn) (e:Ex) (hP:p.Ok) (he:e.wt<=4294967296):
    Con cfg 149 [vP b,vE e] (tyE b mb p m) fun r μ'=>r=.tup [vTy (readK p.en (kn m) e).1,vI (readK p.en (kn m) e).2]/\μ'=tyE b mb p m:=by
 refine Con.drop<|zV Tryz.func149 O Tryz.ntmps149 Tryz.results149 O ?_
 intro z hz
 obtain ⟨hLl,hIl,hAl⟩:=e.parts he
 have hwt:=Ex.wt_eq e
 refine B O<|zW O O (qJ O O) ?_
 rintro _ _ ⟨b1,rfl,rfl⟩
 refine zW O O (yA O zr31) ?_
 rintro _ _ ⟨b2,rfl,rfl⟩
 refine F O<|H<|U<|zPy 12 14 [.q,.q,.q,.q,.q,.q,.q,.q,.q,.u,.u,.f]  mixed (by kernel_rfl) O O O<|kN O O (zQ O O)<|kN O O (yW O O)<|kN O O (zD O fd113_0 O)<|kN O O (zN O kC O (K 2 O) O)<|kN O O (zD O zBm O)<|kN O O (zF O i O (K 1 O) O)<|kN O O (qF O ok202 (zLw p e.Name hP) ⟨G,O,G,O,T⟩)<|kN O O (qU O O)<|kN O O (yN O O O)<|zJc O O (yG O O O)<|zJc O O (yG O O O)<|zMq<|tdq_nil<|zBj<|zBj<|zBj<|zBj<|zBj<|zBj<|zBj<|zBj<|zBj<|tdf_u<|tdf_u<|zJd (wN (yA O zr31))<|tdf_nil<|zHp ?_
 rintro _ _ ⟨b3,rfl,rfl⟩
 refine zKe ?_
 refine ⟨_,kT O sz31 O O O (zDo 0 O O),(by rintro _ _ ⟨rfl,rfl⟩;exact ⟨[_],rfl⟩),?_⟩
 rintro _ _ ⟨rfl,rfl⟩
 refine Y O O (yX O O)<|yK<|F O<|H<|U<|B O<|F O<|wI O<|H<|g O (fun c1=>?_) (fun c1=>?_)
 ·try simp only [I] at c1
  refine B O<|kA O zr31 pl31<|N 1 sz31 O<|F O<|H<|zT _ (Weak.mem [false,true,false,true,true] O)<|W<|fin2 (zS yF O (K 0 O) O) (o O) ?_
  exact ⟨by rw [readK_9 c1];rfl,[_],O⟩
 ·try simp only [I] at c1
  refine zJ<|U<|B O<|zG O kL<|zK wX (K 2 O) O<|zZ O d<|F O<|zZ O el63<|yP O<|H<|g O (fun c2=>?_) (fun c2=>?_)
  ·try simp only [I] at c2
   refine B O<|kA O zr31 pl31<|N 1 sz31 O<|F O<|H<|zT _ (Weak.mem [false,true,false,true,true] O)<|W<|fin2 (zS yF O (K 0 O) O) (o O) ?_
   exact ⟨by rw [readK_11 c1 (by omega)];rfl,[_],O⟩
  ·try simp only [I] at c2
   refine zJ<|U<|B O<|zG O kL<|zK wX (K 2 O) O<|zZ O d<|F O<|H<|zP<|zT ⟨[(36,.c _),(0,.c _),(4,.c _),(6,.c _),(34,.c _),(35,.c _)],[_,_,_,_]⟩ (Weak.mk [true,true,false,true,true] ⟨G,G,G,G,G,G,T⟩ O)<|qG 1 0 O O (Nat) (fun k=>[(36,vI k)]) (fun k=>[]) (fun k=>k<=e.Idx.length/\(indexL p.en (kn m) e.Idx=indexL p.en (kn m) (e.Idx.drop k))) (fun k=>e.Idx.length-k) ⟨0,⟨by omega,O⟩,Weak.mk [true,true,true,true] ⟨G,G,G,G,G,G,T⟩ O⟩ ?_
   rintro k ⟨hk,hp⟩
   refine B O<|yB O<|H<|U<|g O (fun c3=>?_) (fun c3=>?_)
   ·try simp only [I] at c3
    obtain ⟨x,hx⟩:=qP e.Idx k (by omega)
    refine zJ<|U<|zP<|B O<|qE O d (by omega) (Q (by assumption))<|zL zKg qA O<|zW O O (qI [none,some 2,none,some 2] O zr67 O) ?_
    rintro _ _ ⟨b4,rfl,rfl⟩
    refine N 0 sz67 O<|H<|B O<|F O<|zL zKg (K 0 O) O<|qB O (yY [3,3] O ok203 (typer_index b mb p m x hP (by have:=zEz (qD hx);omega)) ⟨G,O,G,O,T⟩ O)<|F O<|H<|B O<|F O<|yP O<|H<|g O (fun c4=>?_) (fun c4=>?_)
    ·try simp only [I] at c4
     refine B O<|kA O zr31 pl31<|F O<|N 2 sz31 O<|F O<|H<|zT _ (Weak.mem [false,false,true,true,true] O)<|W<|fin2 (zS yF O (K 0 O) O) (o O) ?_
     exact ⟨by rw [readK_x c1 (by omega) (by rw [hp,zOx hx c4];exact c4),hp,zOx hx c4];rfl,[_],O⟩
    ·try simp only [I] at c4
     refine zJ<|zU O<|qL O ⟨by omega,by omega⟩<|F O<|H ?_
     refine ⟨k+1,⟨by omega,hp.trans (zIr hx c4)⟩,(by omega),Weak.mk [false,true,true,true,true] ⟨G,G,G,G,G,G,T⟩ O⟩
   ·try simp only [I] at c3
    refine qM<|B O<|zL yF (K 0 O) O<|N 1 sz31 O<|F O<|H<|zT _ (Weak.mem [false,true,true,true] O)<|W<|fin2 (zS yF O (K 0 O) O) (o O) ?_
    exact ⟨by rw [readK_0 c1 (by omega) (by rw [hp,wK (by omega)];rfl)];rfl,[_],O⟩
theorem zEr (a b:Ty):
    Pur cfg 147 [vTy a,vTy b] (vI (unlike a b)):=by
 refine zV Tryz.func147 O Tryz.ntmps147 Tryz.results147 O ?_
 intro z hz
 refine B O<|zW O O (qJ O O) ?_
 rintro _ _ ⟨b1,rfl,rfl⟩
 refine zW O O (qJ O O) ?_
 rintro _ _ ⟨b2,rfl,rfl⟩
 refine F O<|H<|U<|B O<|zL yF (K 1 O) O<|zL yF (K 0 O) O<|qB O (zCj O fl31 O O O)<|H<|g O (fun c1=>?_) (fun c1=>?_)
 ·have hu:=unlike_10 (zIz c1)
  refine B O<|F O<|H<|W<|R O ?_
  rw [hu]
 ·have hu:=unlike_0 (zGx c1)
  refine zJ<|B O<|F O<|H<|W<|R O ?_
  rw [hu]
theorem typer_of_step (b mb:Nat) (p:Pg) (m:Kn) (hP:p.Ok) (e:Ex) (ih:∀a,a∈e.Args->partE a=0->a.wt<=4294967296->Con cfg 66 [vP b,vE a] (tyE b mb p m) fun r μ'=>r=.tup [vTy (nodeT (ofN p.en (kn m)) a).1,vI (nodeT (ofN p.en (kn m)) a).2]/\μ'=tyE b mb p m) (hpart:partE e=0) (he:e.wt<=4294967296):
    Con cfg 66 [vP b,vE e] (tyE b mb p m) fun r μ'=>r=.tup [vTy (nodeT (ofN p.en (kn m)) e).1,vI (nodeT (ofN p.en (kn m)) e).2]/\μ'=tyE b mb p m:=by
 refine Con.drop<|zV Tryz.func66 O Tryz.ntmps66 Tryz.results66 O ?_
 intro z hz
 obtain ⟨hLl,hIl,hAl⟩:=e.parts he
 have hwt:=Ex.wt_eq e
 refine B O<|zW O O (qJ O O) ?_
 rintro _ _ ⟨b1,rfl,rfl⟩
 refine zW O O (yA O zr31) ?_
 rintro _ _ ⟨b2,rfl,rfl⟩
 refine F O<|H<|B O<|F O<|yV _ (kG 31 5)<|H<|U<|B O<|zG O kF<|zK wJ (K 2 O) O<|zZ O A<|F O<|H<|zP<|zT ⟨[(15,.c _),(6,.c _),(0,.c _),(3,.c _),(4,.c _),(13,.c _),(14,.c _)],[_,_,_,_,_]⟩ (Weak.mk [true,true,true,true,true] ⟨G,G,G,G,G,G,G,T⟩ O)<|qG 2 1 O O (Nat×Value) (fun ⟨k,sv⟩=>[(15,vI k),(6,.c (.lit sv))]) (fun ⟨k,sv⟩=>[E.vec sv 31 5 ((nodeL (ofN p.en (kn m)) (e.Args.take k)).1.map tyC)]) (fun ⟨k,sv⟩=>k<=e.Args.length/\((nodeL (ofN p.en (kn m)) (e.Args.take k)).2=0)) (fun ⟨k,sv⟩=>e.Args.length-k) ⟨⟨0,(.slice none 0 0)⟩,⟨by omega,O⟩,Weak.mk [true,true,true,true,true] ⟨G,G,G,G,G,G,G,T⟩ O⟩ ?_
 rintro ⟨k,sv⟩ ⟨hk,hp⟩
 show AWP _ _ _ _ _ ⟨[(15,vI k),(6,.c (.lit sv))]++_,[E.vec sv 31 5 ((nodeL (ofN p.en (kn m)) (e.Args.take k)).1.map tyC)]++_⟩
 refine B O<|yB O<|H<|U<|g O (fun c1=>?_) (fun c1=>?_)
 ·try simp only [I] at c1
  obtain ⟨x,hx⟩:=qP e.Args k (by omega)
  have hll:=zGj _ _ hp
  refine zJ<|U<|zP<|B O<|qE O A (by omega) (yU (by assumption))<|zL qH qA O<|zW O O (qI [none,none,none,none,none,none,none,none,none,none,some 2,some 4,some 13] O zr38 O) ?_
  rintro _ _ ⟨b4,rfl,rfl⟩
  refine N 0 v O<|H<|B O<|F O<|zL qH (K 0 O) O<|qB O (yY [4,4] O ok66 (ih x (qD hx) (wQ hpart (qD hx)) (by have:=Ex.arg_wt (qD hx);omega)) ⟨G,O,G,O,T⟩ O)<|qB O (qU O O)<|qB O (yN O O O)<|qB O (yG O O O)<|zW O O (yA O zr31) ?_
  rintro _ _ ⟨b5,rfl,rfl⟩
  refine N 0 sz31 O<|F O<|H<|U<|B O<|F O<|yP O<|H<|g O (fun c2=>?_) (fun c2=>?_)
  ·try simp only [I] at c2
   refine B O<|kA O zr31 pl31<|F O<|N 3 sz31 O<|F O<|H<|zT _ (Weak.mem [false,false,false,true,false,true,true] O)<|W<|fin2 (zS yF O (K 0 O) O) (o O) ?_
   exact ⟨by rw [nodeT_no hx hp c2];rfl,[_],O⟩
  ·try simp only [I] at c2
   refine zJ<|zU O<|F O<|zL yF (K 0 O) O<|qZ O zDd zr31<|zW O O (qS 2 O zDd O O O (by simp only [List.length_map,List.length_cons,List.length_nil,hll,List.length_take];omega) (by simp only [List.length_map,List.length_cons,List.length_nil,hll,List.length_take];omega)) ?_
   rintro _ _ ⟨sv6,rfl,rfl⟩
   refine F O<|H<|zU O<|qL O ⟨by omega,by omega⟩<|F O<|H ?_
   refine ⟨⟨k+1,sv6⟩,⟨by omega,by rw [zHb hx hp c2]⟩,(by show e.Args.length-(k+1)<e.Args.length-k;omega),Weak.mk [false,false,true,true,true,true,true] ⟨G,G,G,G,G,G,G,T⟩ (by show _=[E.vec sv6 _ 5 ((nodeL (ofN p.en (kn m)) (e.Args.take (k+1))).1.map tyC)]++_;rw [zHb hx hp c2];simp only [List.map_append];rfl)⟩
 ·try simp only [I] at c1
  have hll:=zGj _ _ hp
  have hta:e.Args.take k=e.Args:=qY (by omega)
  rw [hta] at hll
  have hg:∀i,i<e.Args.length->((nodeL (ofN p.en (kn m)) (e.Args.take k)).1.map tyC)[i]? =some (tyC (tyAt (nodeL (ofN p.en (kn m)) (e.Args.take k)).1 i)):=fun i hi=>tyAt_get (by rw [hta];omega)
  have hT:nodeT (ofN p.en (kn m)) e=(ofN p.en (kn m)) e (nodeL (ofN p.en (kn m)) (e.Args.take k)).1:=nodeT_ok hta hp
  have hlk:(nodeL (ofN p.en (kn m)) (e.Args.take k)).1.length=e.Args.length:=by rw [hta];exact hll
  refine qM<|B O<|F O<|H<|U<|B O<|zG O yT<|zK w (K 2 O) O<|H<|zP<|U<|B O<|qX O<|F O<|H<|g O (fun c3=>?_) (fun c3=>?_)
  ·try simp only [I] at c3
   refine zJ<|g O (fun c4=>?_) (fun c4=>?_)
   ·try simp only [I] at c4
    refine B O<|zG O zCz<|zL yF (K 2 O) O<|N 1 sz31 O<|F O<|H<|zT _ (Weak.mem [false,true,false,true,true] O)<|W<|fin2 (zS yF O (K 0 O) O) (o O) ?_
    exact ⟨by rw [hT];first|(rw [zKz (by omega)];rfl)|(rw [zKy (by omega)];rfl)|(rw [zJm (by omega)];rfl)|(rw [zKx (by omega)];rfl)|(rw [zEw (by omega)];rfl)|(rw [zEu (by omega)];rfl)|(rw [zEv (by omega)];rfl)|(rw [zKw (by omega)];rfl),[_],O⟩
   ·try simp only [I] at c4
    exact absurd c3 c4
  ·try simp only [I] at c3
   refine zU O<|qX O<|F O<|H<|g O (fun c4=>?_) (fun c4=>?_)
   ·try simp only [I] at c4
    refine B O<|zG O zCz<|zL yF (K 2 O) O<|N 1 sz31 O<|F O<|H<|zT _ (Weak.mem [false,true,false,true,true] O)<|W<|fin2 (zS yF O (K 0 O) O) (o O) ?_
    exact ⟨by rw [hT];first|(rw [zKz (by omega)];rfl)|(rw [zKy (by omega)];rfl)|(rw [zJm (by omega)];rfl)|(rw [zKx (by omega)];rfl)|(rw [zEw (by omega)];rfl)|(rw [zEu (by omega)];rfl)|(rw [zEv (by omega)];rfl)|(rw [zKw (by omega)];rfl),[_],O⟩
   ·try simp only [I] at c4
    refine B O<|qX O<|F O<|H<|g O (fun c5=>?_) (fun c5=>?_)
    ·try simp only [I] at c5
     refine B O<|kA O zr31 pl31<|F O<|zG O zDy<|zL kP (K 2 O) O<|qB O (yY [3,3] O ok148 (zKk b mb p m e.Lin hLl) ⟨G,O,G,O,T⟩ O)<|N 1 sz31 O<|F O<|H<|zT _ (Weak.mem [false,true,false,true,true] O)<|W<|fin2 (zS yF O (K 0 O) O) (o O) ?_
     exact ⟨by rw [hT];first|(rw [zKz (by omega)];rfl)|(rw [zKy (by omega)];rfl)|(rw [zJm (by omega)];rfl)|(rw [zKx (by omega)];rfl)|(rw [zEw (by omega)];rfl)|(rw [zEu (by omega)];rfl)|(rw [zEv (by omega)];rfl)|(rw [zKw (by omega)];rfl),[_],O⟩
    ·try simp only [I] at c5
     refine B O<|qX O<|F O<|H<|g O (fun c6=>?_) (fun c6=>?_)
     ·try simp only [I] at c6
      refine B O<|F O<|zL qH (K 2 O) O<|qB O (yY [3,3] O ok149 (typer_read b mb p m e hP he) ⟨G,O,G,O,T⟩ O)<|qB O (yN O O O)<|qB O (yG O O O)<|N 1 sz31 O<|F O<|H<|zT _ (Weak.mem [false,true,false,true,true] O)<|W<|fin2 (zS yF O (K 0 O) O) (o O) ?_
      exact ⟨by rw [hT];first|(rw [zKz (by omega)];rfl)|(rw [zKy (by omega)];rfl)|(rw [zJm (by omega)];rfl)|(rw [zKx (by omega)];rfl)|(rw [zEw (by omega)];rfl)|(rw [zEu (by omega)];rfl)|(rw [zEv (by omega)];rfl)|(rw [zKw (by omega)];rfl),[_],O⟩
     ·try simp only [I] at c6
      refine B O<|qX O<|F O<|H<|g O (fun c7=>?_) (fun c7=>?_)
      ·try simp only [I] at c7
       have hlen1:=args_len hpart (by omega)
       refine B O<|F O<|qB O (yC 0 O zDd O O O (by omega) (by simp only [List.length_map];omega))<|zL yF (zAb 0 O (hg 0 (by omega))) O<|N 1 sz31 O<|F O<|H<|zT _ (Weak.mem [false,true,false,true,true] O)<|W<|fin2 (zS yF O (K 0 O) O) (o O) ?_
       exact ⟨by rw [hT];first|(rw [zKz (by omega)];rfl)|(rw [zKy (by omega)];rfl)|(rw [zJm (by omega)];rfl)|(rw [zKx (by omega)];rfl)|(rw [zEw (by omega)];rfl)|(rw [zEu (by omega)];rfl)|(rw [zEv (by omega)];rfl)|(rw [zKw (by omega)];rfl),[_],O⟩
      ·try simp only [I] at c7
       refine B O<|qX O<|F O<|H<|g O (fun c8=>?_) (fun c8=>?_)
       ·try simp only [I] at c8
        have hlen3:=args_len3 hpart c8
        refine U<|qO 11 mixed (by kernel_rfl) O O<|Y O O (zQ O O)<|Y O O (yC 0 O zDd O O O (by omega) (by simp only [List.length_map];omega))<|Y O O (zN O yF O (zAb 0 O (hg 1 (by omega))) O)<|Y O O (zQ O O)<|Y O O (zQ O O)<|Y O O (yC 0 O zDd O O O (by omega) (by simp only [List.length_map];omega))<|Y O O (zN O yF O (zAb 0 O (hg 1 (by omega))) O)<|Y O O (zQ O O)<|Y O O (yC 0 O zDd O O O (by omega) (by simp only [List.length_map];omega))<|Y O O (zN O yF O (zAb 0 O (hg 2 (by omega))) O)<|Y O O (zBz O O ok147 (zEr _ _) ⟨G,O,G,O,T⟩)<|yK<|N 1 sz31 O<|F O<|H<|zT _ (Weak.mem [false,true,false,true,true] O)<|W<|fin2 (zS yF O (K 0 O) O) (o O) ?_
        exact ⟨by rw [hT];first|(rw [zKz (by omega)];rfl)|(rw [zKy (by omega)];rfl)|(rw [zJm (by omega)];rfl)|(rw [zKx (by omega)];rfl)|(rw [zEw (by omega)];rfl)|(rw [zEu (by omega)];rfl)|(rw [zEv (by omega)];rfl)|(rw [zKw (by omega)];rfl),[_],O⟩
       ·try simp only [I] at c8
        refine U<|B O<|qX O<|F O<|H<|g O (fun c9=>?_) (fun c9=>?_)
        ·try simp only [I] at c9
         refine zJ<|g O (fun c11=>?_) (fun c11=>?_)
         ·try simp only [I] at c11
          refine B O<|kA O zr31 pl31<|N 1 sz31 O<|F O<|H<|zT _ (Weak.mem [false,true,false,true,true] O)<|W<|fin2 (zS yF O (K 0 O) O) (o O) ?_
          exact ⟨by rw [hT];first|(rw [zKz (by omega)];rfl)|(rw [zKy (by omega)];rfl)|(rw [zJm (by omega)];rfl)|(rw [zKx (by omega)];rfl)|(rw [zEw (by omega)];rfl)|(rw [zEu (by omega)];rfl)|(rw [zEv (by omega)];rfl)|(rw [zKw (by omega)];rfl),[_],O⟩
         ·try simp only [I] at c11
          exact absurd c9 c11
        ·try simp only [I] at c9
         refine B O<|qX O<|F O<|H<|g O (fun c10=>?_) (fun c10=>?_)
         ·try simp only [I] at c10
          refine zJ<|g O (fun c11=>?_) (fun c11=>?_)
          ·try simp only [I] at c11
           refine B O<|kA O zr31 pl31<|N 1 sz31 O<|F O<|H<|zT _ (Weak.mem [false,true,false,true,true] O)<|W<|fin2 (zS yF O (K 0 O) O) (o O) ?_
           exact ⟨by rw [hT];first|(rw [zKz (by omega)];rfl)|(rw [zKy (by omega)];rfl)|(rw [zJm (by omega)];rfl)|(rw [zKx (by omega)];rfl)|(rw [zEw (by omega)];rfl)|(rw [zEu (by omega)];rfl)|(rw [zEv (by omega)];rfl)|(rw [zKw (by omega)];rfl),[_],O⟩
          ·try simp only [I] at c11
           exact absurd c10 c11
         ·try simp only [I] at c10
          refine zU O<|qX O<|F O<|H<|g O (fun c11=>?_) (fun c11=>?_)
          ·try simp only [I] at c11
           refine B O<|kA O zr31 pl31<|N 1 sz31 O<|F O<|H<|zT _ (Weak.mem [false,true,false,true,true] O)<|W<|fin2 (zS yF O (K 0 O) O) (o O) ?_
           exact ⟨by rw [hT];first|(rw [zKz (by omega)];rfl)|(rw [zKy (by omega)];rfl)|(rw [zJm (by omega)];rfl)|(rw [zKx (by omega)];rfl)|(rw [zEw (by omega)];rfl)|(rw [zEu (by omega)];rfl)|(rw [zEv (by omega)];rfl)|(rw [zKw (by omega)];rfl),[_],O⟩
          ·try simp only [I] at c11
           refine U<|B O<|qX O<|F O<|H<|g O (fun c12=>?_) (fun c12=>?_)
           ·try simp only [I] at c12
            refine zJ<|g O (fun c14=>?_) (fun c14=>?_)
            ·try simp only [I] at c14
             have hlen2:=zGv hpart (by omega)
             refine U<|qO 9 mixed (by kernel_rfl) O O<|Y O O (kZ O zr31 pl31 O)<|Y O O (zQ O O)<|Y O O (zQ O O)<|Y O O (yC 0 O zDd O O O (by omega) (by simp only [List.length_map];omega))<|Y O O (zN O yF O (zAb 0 O (hg 0 (by omega))) O)<|Y O O (zQ O O)<|Y O O (yC 0 O zDd O O O (by omega) (by simp only [List.length_map];omega))<|Y O O (zN O yF O (zAb 0 O (hg 1 (by omega))) O)<|Y O O (zBz O O ok147 (zEr _ _) ⟨G,O,G,O,T⟩)<|yK<|N 1 sz31 O<|F O<|H<|zT _ (Weak.mem [false,true,false,true,true] O)<|W<|fin2 (zS yF O (K 0 O) O) (o O) ?_
             exact ⟨by rw [hT];first|(rw [zKz (by omega)];rfl)|(rw [zKy (by omega)];rfl)|(rw [zJm (by omega)];rfl)|(rw [zKx (by omega)];rfl)|(rw [zEw (by omega)];rfl)|(rw [zEu (by omega)];rfl)|(rw [zEv (by omega)];rfl)|(rw [zKw (by omega)];rfl),[_],O⟩
            ·try simp only [I] at c14
             exact absurd c12 c14
           ·try simp only [I] at c12
            refine B O<|qX O<|F O<|H<|g O (fun c13=>?_) (fun c13=>?_)
            ·try simp only [I] at c13
             refine zJ<|g O (fun c14=>?_) (fun c14=>?_)
             ·try simp only [I] at c14
              have hlen2:=zGv hpart (by omega)
              refine U<|qO 9 mixed (by kernel_rfl) O O<|Y O O (kZ O zr31 pl31 O)<|Y O O (zQ O O)<|Y O O (zQ O O)<|Y O O (yC 0 O zDd O O O (by omega) (by simp only [List.length_map];omega))<|Y O O (zN O yF O (zAb 0 O (hg 0 (by omega))) O)<|Y O O (zQ O O)<|Y O O (yC 0 O zDd O O O (by omega) (by simp only [List.length_map];omega))<|Y O O (zN O yF O (zAb 0 O (hg 1 (by omega))) O)<|Y O O (zBz O O ok147 (zEr _ _) ⟨G,O,G,O,T⟩)<|yK<|N 1 sz31 O<|F O<|H<|zT _ (Weak.mem [false,true,false,true,true] O)<|W<|fin2 (zS yF O (K 0 O) O) (o O) ?_
              exact ⟨by rw [hT];first|(rw [zKz (by omega)];rfl)|(rw [zKy (by omega)];rfl)|(rw [zJm (by omega)];rfl)|(rw [zKx (by omega)];rfl)|(rw [zEw (by omega)];rfl)|(rw [zEu (by omega)];rfl)|(rw [zEv (by omega)];rfl)|(rw [zKw (by omega)];rfl),[_],O⟩
             ·try simp only [I] at c14
              exact absurd c13 c14
            ·try simp only [I] at c13
             refine zU O<|qX O<|F O<|H<|g O (fun c14=>?_) (fun c14=>?_)
             ·try simp only [I] at c14
              have hlen2:=zGv hpart (by omega)
              refine U<|qO 9 mixed (by kernel_rfl) O O<|Y O O (kZ O zr31 pl31 O)<|Y O O (zQ O O)<|Y O O (zQ O O)<|Y O O (yC 0 O zDd O O O (by omega) (by simp only [List.length_map];omega))<|Y O O (zN O yF O (zAb 0 O (hg 0 (by omega))) O)<|Y O O (zQ O O)<|Y O O (yC 0 O zDd O O O (by omega) (by simp only [List.length_map];omega))<|Y O O (zN O yF O (zAb 0 O (hg 1 (by omega))) O)<|Y O O (zBz O O ok147 (zEr _ _) ⟨G,O,G,O,T⟩)<|yK<|N 1 sz31 O<|F O<|H<|zT _ (Weak.mem [false,true,false,true,true] O)<|W<|fin2 (zS yF O (K 0 O) O) (o O) ?_
              exact ⟨by rw [hT];first|(rw [zKz (by omega)];rfl)|(rw [zKy (by omega)];rfl)|(rw [zJm (by omega)];rfl)|(rw [zKx (by omega)];rfl)|(rw [zEw (by omega)];rfl)|(rw [zEu (by omega)];rfl)|(rw [zEv (by omega)];rfl)|(rw [zKw (by omega)];rfl),[_],O⟩
             ·try simp only [I] at c14
              have hlen2:=zGv hpart (by omega)
              refine zJ<|U<|qO 11 mixed (by kernel_rfl) O O<|Y O O (zQ O O)<|Y O O (yC 0 O zDd O O O (by omega) (by simp only [List.length_map];omega))<|Y O O (zN O yF O (zAb 0 O (hg 0 (by omega))) O)<|Y O O (zQ O O)<|Y O O (zQ O O)<|Y O O (yC 0 O zDd O O O (by omega) (by simp only [List.length_map];omega))<|Y O O (zN O yF O (zAb 0 O (hg 0 (by omega))) O)<|Y O O (zQ O O)<|Y O O (yC 0 O zDd O O O (by omega) (by simp only [List.length_map];omega))<|Y O O (zN O yF O (zAb 0 O (hg 1 (by omega))) O)<|Y O O (zBz O O ok147 (zEr _ _) ⟨G,O,G,O,T⟩)<|yK<|N 1 sz31 O<|F O<|H<|zT _ (Weak.mem [false,true,false,true,true] O)<|W<|fin2 (zS yF O (K 0 O) O) (o O) ?_
              exact ⟨by rw [hT];first|(rw [zKz (by omega)];rfl)|(rw [zKy (by omega)];rfl)|(rw [zJm (by omega)];rfl)|(rw [zKx (by omega)];rfl)|(rw [zEw (by omega)];rfl)|(rw [zEu (by omega)];rfl)|(rw [zEv (by omega)];rfl)|(rw [zKw (by omega)];rfl),[_],O⟩
theorem typer_of (b mb:Nat) (p:Pg) (m:Kn) (hP:p.Ok) (e:Ex) (hpart:partE e=0) (he:e.wt<=4294967296):Con cfg 66 [vP b,vE e] (tyE b mb p m) fun r μ'=>r=.tup [vTy (nodeT (ofN p.en (kn m)) e).1,vI (nodeT (ofN p.en (kn m)) e).2]/\μ'=tyE b mb p m:=by
  induction e using Ex.ind with
  |_ e ih=>exact typer_of_step b mb p m hP e (fun a ha h1 h2=>ih a ha h1 h2) hpart he
theorem zCq (p:Pg) (vars:List ByteArray) (e:Ex) (hP:p.Ok) (hv:vars.length<=4294967296) (he:e.wt<=4294967296):
    Pur cfg 27 [vPg p,vSs vars,vE e] (.tup [vTy (typeT p.en vars e).1,vI (typeT p.en vars e).2]):=by
 refine zV Tryz.func27 O Tryz.ntmps27 Tryz.results27 O ?_
 intro z hz
 have hsz:=hP.sizes
 refine B O<|zW O O (qJ O O) ?_
 rintro _ _ ⟨b1,rfl,rfl⟩
 refine zW O O (qJ O O) ?_
 rintro _ _ ⟨b2,rfl,rfl⟩
 refine zW O O (yA O zr31) ?_
 rintro _ _ ⟨b3,rfl,rfl⟩
 refine F O<|H<|U<|B O<|zL qH (K 1 O) O<|qK O ok31 (zFl e (by omega)) ⟨G,O,T⟩<|F O<|H<|B O<|F O<|yP O<|H<|g O (fun c1=>?_) (fun c1=>?_)
 ·try simp only [I] at c1
  refine B O<|kA O zr31 pl31<|F O<|N 0 sz31 O<|F O<|H<|W<|fin2 (zS yF O (K 0 O) O) (o O) ?_
  rw [typeT_bad c1];rfl
 ·try simp only [I] at c1
  refine zJ<|U<|B O<|zL qH (K 1 O) O<|qK O ok65 (zFx e) ⟨G,O,T⟩<|H<|g O (fun c2=>?_) (fun c2=>?_)
  ·try simp only [I] at c2
   refine B O<|kA O zr31 pl31<|N 0 sz31 O<|F O<|H<|W<|fin2 (zS yF O (K 0 O) O) (o O) ?_
   rw [typeT_cond c1 c2];rfl
  ·try simp only [I] at c2
   refine zJ<|B O<|zL kC (K 2 O) O<|zW O O (zOg vI O O) ?_
   rintro _ _ ⟨b4,rfl,rfl⟩
   refine kA O zr113 pl113<|zW O O (qJ O O) ?_
   rintro _ _ ⟨b5,rfl,rfl⟩
   refine F O<|H<|U<|B O<|zG O zBy<|zK wT (K 4 O) O<|zZ O el22<|F O<|H<|zP<|zT ⟨[(32,.c _),(1,.c _),(5,.c _),(6,.c _),(9,.c _),(30,.c _),(31,.c _)],[_,_,_,_]⟩ (Weak.mk [true,true,true,true,false] ⟨G,G,G,G,G,G,G,T⟩ O)<|qG 1 2 O O (Nat) (fun k=>[(32,vI k)]) (fun k=>[pRow 113 b5 b4 p,E.blk b4 (MapR vI (tabV [] (p.Sizes.take k) 1))]) (fun k=>k<=p.Sizes.length) (fun k=>p.Sizes.length-k) ⟨0,(by omega),Weak.mk [true,true,true,true] ⟨G,G,G,G,G,G,G,T⟩ O⟩ ?_
   rintro k hk
   refine B O<|yB O<|H<|U<|g O (fun c3=>?_) (fun c3=>?_)
   ·try simp only [I] at c3
    obtain ⟨x,hx⟩:=qP p.Sizes k (by omega)
    refine zJ<|U<|zP<|B O<|qE O el22 (by omega) (Q (by assumption))<|zK i qA O<|F O<|H<|zU O<|F O<|qB O (yW O O)<|zG O fd113_1<|zK zLy (K 0 O) O<|F O<|zJi O O (zHl 1 1 O sm111 O O O (G) O)<|H<|zU O<|qL O ⟨by omega,by omega⟩<|F O<|H ?_
    refine ⟨k+1,(by omega),(by omega),Weak.mk [true,true,true,true] ⟨G,G,G,G,G,G,G,T⟩ (by show _=[pRow 113 b5 b4 p,E.blk b4 (MapR vI (tabV [] (p.Sizes.take (k+1)) 1))]++_;rw [zJf hx];rfl)⟩
   ·try simp only [I] at c3
    rw [qY (l:=p.Sizes) (k:=k) (by omega)]
    refine qM<|U<|B O<|F O<|zZ O el22<|F O<|H<|zP<|zT ⟨[(44,.c _),(5,.c _),(6,.c _),(9,.c _),(42,.c _),(43,.c _)],[_,_,_,_]⟩ (Weak.mk [true,true,true,true] ⟨G,G,G,G,G,G,T⟩ O)<|qG 1 2 O O (Nat) (fun j=>[(44,vI j)]) (fun j=>[pRow 113 b5 b4 p,E.blk b4 (MapR vI (tabV (tabV [] p.Sizes 1) (vars.take j) 3))]) (fun j=>j<=vars.length) (fun j=>vars.length-j) ⟨0,(by omega),Weak.mk [true,true,true,true] ⟨G,G,G,G,G,G,T⟩ O⟩ ?_
    rintro j hj
    refine B O<|yB O<|H<|U<|g O (fun c4=>?_) (fun c4=>?_)
    ·try simp only [I] at c4
     obtain ⟨y,hy⟩:=qP vars j (by omega)
     refine zJ<|U<|zP<|B O<|qE O el22 (by omega) (Q (by assumption))<|zK i qA O<|F O<|H<|zU O<|F O<|qB O (yW O O)<|zG O fd113_1<|zK zLy (K 0 O) O<|F O<|zJi O O (zHl 1 3 O sm111 O O O (G) O)<|H<|zU O<|qL O ⟨by omega,by omega⟩<|F O<|H ?_
     refine ⟨j+1,(by omega),(by omega),Weak.mk [true,true,true,true] ⟨G,G,G,G,G,G,T⟩ (by show _=[pRow 113 b5 b4 p,E.blk b4 (MapR vI (tabV (tabV [] p.Sizes 1) (vars.take (j+1)) 3))]++_;rw [zJf hy];rfl)⟩
    ·try simp only [I] at c4
     rw [qY (l:=vars) (k:=j) (by omega)]
     have hTo:=typeT_of (n:=p.en) (kn_tab p.Sizes vars) c1 c2
     refine qM<|B O<|F O<|zL qH (K 3 O) O<|qB O (yY [0,0] O ok66 (typer_of b5 b4 p _ hP e (zDh c1) he) ⟨G,O,G,O,T⟩ O)<|qB O (qU O O)<|qB O (yN O O O)<|qB O (yG O O O)<|zW O O (yA O zr31) ?_
     rintro _ _ ⟨b6,rfl,rfl⟩
     refine N 0 sz31 O<|F O<|H<|U<|B O<|F O<|yP O<|H<|g O (fun c5=>?_) (fun c5=>?_)
     ·try simp only [I] at c5
      refine B O<|kA O zr31 pl31<|F O<|N 3 sz31 O<|F O<|H<|W<|fin2 (zS yF O (K 3 O) O) (o O) ?_
      rw [hTo,if_neg c5];rfl
     ·try simp only [I] at c5
      refine zJ<|B O<|zL yF (K 0 O) O<|N 3 sz31 O<|F O<|H<|W<|fin2 (zS yF O (K 3 O) O) (o O) ?_
      rw [hTo,if_pos c5];rfl
end Go.W
