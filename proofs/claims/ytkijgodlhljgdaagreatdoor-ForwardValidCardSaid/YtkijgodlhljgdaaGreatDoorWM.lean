/-
  Walks: what functions of the program compute. Printed by wip/gen/mk2.py.
  Conditions: none.
-/
import Derived.Test.YtkijgodlhljgdaaGreatDoorWL
import Derived.Test.YtkijgodlhljgdaaGreatDoorPlain
set_option linter.unusedSimpArgs false
set_option linter.unusedVariables false
set_option maxRecDepth 10000
namespace Go.W
open Go Go.Eng Go.Proofs Go.L41 Go.Br
attribute [local irreducible] AWP RWP TD finQ
theorem zCs:elemT Tryz.prog 173=some (31,5,40):=by kernel_rfl
theorem ok66:callOk Tryz.prog 66=true:=by kernel_rfl
theorem ok147:callOk Tryz.prog 147=true:=by kernel_rfl
theorem ok149:callOk Tryz.prog 149=true:=by kernel_rfl
theorem ok203:callOk Tryz.prog 203=true:=by kernel_rfl
theorem pl113:placesT Tryz.prog 113=some [(0,5),(5,1)]:=by kernel_rfl
theorem zr113:zeroT Tryz.prog 113=some [(Value.slice none 0 0),(Value.slice none 0 0),(Value.slice none 0 0),(Value.slice none 0 0),(Value.slice none 0 0),(Value.map none)]:=by kernel_rfl
theorem typer_read (b mb:Nat) (p:Pg) (m:Kn) (e:Ex) (hP:p.Ok) (he:e.wt<=4294967296):
    Con cfg 149 [vP b,vE e] (tyE b mb p m) fun r μ'=>r=.tup [vTy (readK p.en (kn m) e).1,vI (readK p.en (kn m) e).2]/\μ'=tyE b mb p m:=by
 refine Con.drop<|zT Tryz.func149 O Tryz.ntmps149 Tryz.results149 O ?_
 intro z hz
 obtain ⟨hLl,hIl,hAl⟩:=e.parts he
 have hwt:=Ex.wt_eq e
 refine B O<|zZ O O (qI O O) ?_
 rintro _ _ ⟨b1,rfl,rfl⟩
 refine zZ O O (yB O zr31) ?_
 rintro _ _ ⟨b2,rfl,rfl⟩
 refine G O<|U<|zI<|zOk 12 14 [.q,.q,.q,.q,.q,.q,.q,.q,.q,.u,.u,.f]  mixed (by kernel_rfl) O O O<|kF O O (zR O O)<|kF O O (yP O O)<|kF O O (zD O fd113_0 O)<|kF O O (zN O kO O (J 2 O) O)<|kF O O (zD O zBw O)<|kF O O (zF O one9 O (J 1 O) O)<|kF O O (qG O ok202 (zKo p e.Name hP) ⟨Y,O,Y,O,T⟩)<|kF O O (qV O O)<|kF O O (yJ O O O)<|zHx O O (yI O O O)<|zHx O O (yI O O O)<|zLi<|tdq_nil<|zAx<|zAx<|zAx<|zAx<|zAx<|zAx<|zAx<|zAx<|zAx<|tdf_u<|tdf_u<|zHy (zAc (yB O zr31))<|tdf_nil<|zGr ?_
 rintro _ _ ⟨b3,rfl,rfl⟩
 refine zJc ?_
 refine ⟨_,kW O sz31 O O O (zEe 0 O O),(by rintro _ _ ⟨rfl,rfl⟩;exact ⟨[_],rfl⟩),?_⟩
 rintro _ _ ⟨rfl,rfl⟩
 refine zM O O (yQ O O)<|yM<|G O<|U<|zI<|B O<|G O<|wB O<|U<|zE O (fun c1=>?_) (fun c1=>?_)
 ·try simp only [W] at c1
  refine B O<|yV O zr31 pl31<|N 1 sz31 O<|G O<|U<|zU _ (Weak.mem [false,true,false,true,true] O)<|zH<|fin2 (zV qZ O (J 0 O) O) (v O) ?_
  exact ⟨by rw [readK_9 c1];rfl,[_],O⟩
 ·try simp only [W] at c1
  refine zJ<|zI<|B O<|zG O kL<|zK zAd (J 2 O) O<|zY O el35<|G O<|zY O el63<|yN O<|U<|zE O (fun c2=>?_) (fun c2=>?_)
  ·try simp only [W] at c2
   refine B O<|yV O zr31 pl31<|N 1 sz31 O<|G O<|U<|zU _ (Weak.mem [false,true,false,true,true] O)<|zH<|fin2 (zV qZ O (J 0 O) O) (v O) ?_
   exact ⟨by rw [readK_11 c1 (by omega)];rfl,[_],O⟩
  ·try simp only [W] at c2
   refine zJ<|zI<|B O<|zG O kL<|zK zAd (J 2 O) O<|zY O el35<|G O<|U<|zP<|zU ⟨[(36,.c _),(0,.c _),(4,.c _),(6,.c _),(34,.c _),(35,.c _)],[_,_,_,_]⟩ (Weak.mk [true,true,false,true,true] ⟨Y,Y,Y,Y,Y,Y,T⟩ O)<|qF 1 0 O O (Nat) (fun k=>[(36,vI k)]) (fun k=>[]) (fun k=>k<=e.Idx.length/\(indexL p.en (kn m) e.Idx=indexL p.en (kn m) (e.Idx.drop k))) (fun k=>e.Idx.length-k) ⟨0,⟨by omega,O⟩,Weak.mk [true,true,true,true] ⟨Y,Y,Y,Y,Y,Y,T⟩ O⟩ ?_
   rintro k ⟨hk,hp⟩
   refine B O<|yA O<|U<|zI<|zE O (fun c3=>?_) (fun c3=>?_)
   ·try simp only [W] at c3
    obtain ⟨x,hx⟩:=qQ e.Idx k (by omega)
    refine zJ<|zI<|zP<|B O<|qE O el35 (by omega) (getm (by assumption))<|zL zJe qB O<|zZ O O (qH [none,some 2,none,some 2] O zr67 O) ?_
    rintro _ _ ⟨b4,rfl,rfl⟩
    refine N 0 sz67 O<|U<|B O<|G O<|zL zJe (J 0 O) O<|zX O (yR [3,3] O ok203 (typer_index b mb p m x hP (by have:=zFw (qD hx);omega)) ⟨Y,O,Y,O,T⟩ O)<|G O<|U<|B O<|G O<|yN O<|U<|zE O (fun c4=>?_) (fun c4=>?_)
    ·try simp only [W] at c4
     refine B O<|yV O zr31 pl31<|G O<|N 2 sz31 O<|G O<|U<|zU _ (Weak.mem [false,false,true,true,true] O)<|zH<|fin2 (zV qZ O (J 0 O) O) (v O) ?_
     exact ⟨by rw [readK_x c1 (by omega) (by rw [hp,zNl hx c4];exact c4),hp,zNl hx c4];rfl,[_],O⟩
    ·try simp only [W] at c4
     refine zJ<|zS O<|qJ O ⟨by omega,by omega⟩<|G O<|U ?_
     refine ⟨k+1,⟨by omega,hp.trans (zHn hx c4)⟩,(by omega),Weak.mk [false,true,true,true,true] ⟨Y,Y,Y,Y,Y,Y,T⟩ O⟩
   ·try simp only [W] at c3
    refine qO<|B O<|zL qZ (J 0 O) O<|N 1 sz31 O<|G O<|U<|zU _ (Weak.mem [false,true,true,true] O)<|zH<|fin2 (zV qZ O (J 0 O) O) (v O) ?_
    exact ⟨by rw [readK_0 c1 (by omega) (by rw [hp,wC (by omega)];rfl)];rfl,[_],O⟩
theorem zEd (a b:Ty):
    Pur cfg 147 [vTy a,vTy b] (vI (unlike a b)):=by
 refine zT Tryz.func147 O Tryz.ntmps147 Tryz.results147 O ?_
 intro z hz
 refine B O<|zZ O O (qI O O) ?_
 rintro _ _ ⟨b1,rfl,rfl⟩
 refine zZ O O (qI O O) ?_
 rintro _ _ ⟨b2,rfl,rfl⟩
 refine G O<|U<|zI<|B O<|zL qZ (J 1 O) O<|zL qZ (J 0 O) O<|zX O (zCf O fl31 O O O)<|U<|zE O (fun c1=>?_) (fun c1=>?_)
 ·have hu:=unlike_10 (zHv c1)
  refine B O<|G O<|U<|zH<|zQ O ?_
  rw [hu]
 ·have hu:=unlike_0 (zGe c1)
  refine zJ<|B O<|G O<|U<|zH<|zQ O ?_
  rw [hu]
theorem typer_of_step (b mb:Nat) (p:Pg) (m:Kn) (hP:p.Ok) (e:Ex) (ih:∀a,a∈e.Args->partE a=0->a.wt<=4294967296->Con cfg 66 [vP b,vE a] (tyE b mb p m) fun r μ'=>r=.tup [vTy (nodeT (ofN p.en (kn m)) a).1,vI (nodeT (ofN p.en (kn m)) a).2]/\μ'=tyE b mb p m) (hpart:partE e=0) (he:e.wt<=4294967296):
    Con cfg 66 [vP b,vE e] (tyE b mb p m) fun r μ'=>r=.tup [vTy (nodeT (ofN p.en (kn m)) e).1,vI (nodeT (ofN p.en (kn m)) e).2]/\μ'=tyE b mb p m:=by
 refine Con.drop<|zT Tryz.func66 O Tryz.ntmps66 Tryz.results66 O ?_
 intro z hz
 obtain ⟨hLl,hIl,hAl⟩:=e.parts he
 have hwt:=Ex.wt_eq e
 refine B O<|zZ O O (qI O O) ?_
 rintro _ _ ⟨b1,rfl,rfl⟩
 refine zZ O O (yB O zr31) ?_
 rintro _ _ ⟨b2,rfl,rfl⟩
 refine G O<|U<|B O<|G O<|yY _ (kM 31 5)<|U<|zI<|B O<|zG O kZ<|zK zAy (J 2 O) O<|zY O D<|G O<|U<|zP<|zU ⟨[(15,.c _),(6,.c _),(0,.c _),(3,.c _),(4,.c _),(13,.c _),(14,.c _)],[_,_,_,_,_]⟩ (Weak.mk [true,true,true,true,true] ⟨Y,Y,Y,Y,Y,Y,Y,T⟩ O)<|qF 2 1 O O (Nat×Value) (fun ⟨k,sv⟩=>[(15,vI k),(6,.c (.lit sv))]) (fun ⟨k,sv⟩=>[E.vec sv 31 5 ((nodeL (ofN p.en (kn m)) (e.Args.take k)).1.map tyC)]) (fun ⟨k,sv⟩=>k<=e.Args.length/\((nodeL (ofN p.en (kn m)) (e.Args.take k)).2=0)) (fun ⟨k,sv⟩=>e.Args.length-k) ⟨⟨0,(.slice none 0 0)⟩,⟨by omega,O⟩,Weak.mk [true,true,true,true,true] ⟨Y,Y,Y,Y,Y,Y,Y,T⟩ O⟩ ?_
 rintro ⟨k,sv⟩ ⟨hk,hp⟩
 show AWP _ _ _ _ _ ⟨[(15,vI k),(6,.c (.lit sv))]++_,[E.vec sv 31 5 ((nodeL (ofN p.en (kn m)) (e.Args.take k)).1.map tyC)]++_⟩
 refine B O<|yA O<|U<|zI<|zE O (fun c1=>?_) (fun c1=>?_)
 ·try simp only [W] at c1
  obtain ⟨x,hx⟩:=qQ e.Args k (by omega)
  have hll:=zFr _ _ hp
  refine zJ<|zI<|zP<|B O<|qE O D (by omega) (yZ (by assumption))<|zL qN qB O<|zZ O O (qH [none,none,none,none,none,none,none,none,none,none,some 2,some 4,some 13] O zr38 O) ?_
  rintro _ _ ⟨b4,rfl,rfl⟩
  refine N 0 sz38 O<|U<|B O<|G O<|zL qN (J 0 O) O<|zX O (yR [4,4] O ok66 (ih x (qD hx) (wW hpart (qD hx)) (by have:=Ex.arg_wt (qD hx);omega)) ⟨Y,O,Y,O,T⟩ O)<|zX O (qV O O)<|zX O (yJ O O O)<|zX O (yI O O O)<|zZ O O (yB O zr31) ?_
  rintro _ _ ⟨b5,rfl,rfl⟩
  refine N 0 sz31 O<|G O<|U<|zI<|B O<|G O<|yN O<|U<|zE O (fun c2=>?_) (fun c2=>?_)
  ·try simp only [W] at c2
   refine B O<|yV O zr31 pl31<|G O<|N 3 sz31 O<|G O<|U<|zU _ (Weak.mem [false,false,false,true,false,true,true] O)<|zH<|fin2 (zV qZ O (J 0 O) O) (v O) ?_
   exact ⟨by rw [nodeT_no hx hp c2];rfl,[_],O⟩
  ·try simp only [W] at c2
   refine zJ<|zS O<|G O<|zL qZ (J 0 O) O<|yE O zCs zr31<|zZ O O (qY 2 O zCs O O O (by simp only [List.length_map,List.length_cons,List.length_nil,hll,List.length_take];omega) (by simp only [List.length_map,List.length_cons,List.length_nil,hll,List.length_take];omega)) ?_
   rintro _ _ ⟨sv6,rfl,rfl⟩
   refine G O<|U<|zS O<|qJ O ⟨by omega,by omega⟩<|G O<|U ?_
   refine ⟨⟨k+1,sv6⟩,⟨by omega,by rw [zGh hx hp c2]⟩,(by show e.Args.length-(k+1)<e.Args.length-k;omega),Weak.mk [false,false,true,true,true,true,true] ⟨Y,Y,Y,Y,Y,Y,Y,T⟩ (by show _=[E.vec sv6 _ 5 ((nodeL (ofN p.en (kn m)) (e.Args.take (k+1))).1.map tyC)]++_;rw [zGh hx hp c2];simp only [List.map_append];rfl)⟩
 ·try simp only [W] at c1
  have hll:=zFr _ _ hp
  have hta:e.Args.take k=e.Args:=qX (by omega)
  rw [hta] at hll
  have hg:∀i,i<e.Args.length->((nodeL (ofN p.en (kn m)) (e.Args.take k)).1.map tyC)[i]? =some (tyC (tyAt (nodeL (ofN p.en (kn m)) (e.Args.take k)).1 i)):=fun i hi=>tyAt_get (by rw [hta];omega)
  have hT:nodeT (ofN p.en (kn m)) e=(ofN p.en (kn m)) e (nodeL (ofN p.en (kn m)) (e.Args.take k)).1:=nodeT_ok hta hp
  have hlk:(nodeL (ofN p.en (kn m)) (e.Args.take k)).1.length=e.Args.length:=by rw [hta];exact hll
  refine qO<|B O<|G O<|U<|zI<|B O<|zG O yS<|zK one3 (J 2 O) O<|U<|zP<|zI<|B O<|L O<|G O<|U<|zE O (fun c3=>?_) (fun c3=>?_)
  ·try simp only [W] at c3
   refine zJ<|zE O (fun c4=>?_) (fun c4=>?_)
   ·try simp only [W] at c4
    refine B O<|zG O zDm<|zL qZ (J 2 O) O<|N 1 sz31 O<|G O<|U<|zU _ (Weak.mem [false,true,false,true,true] O)<|zH<|fin2 (zV qZ O (J 0 O) O) (v O) ?_
    exact ⟨by rw [hT];first|(rw [zJx (by omega)];rfl)|(rw [zJw (by omega)];rfl)|(rw [zIj (by omega)];rfl)|(rw [zJv (by omega)];rfl)|(rw [zEj (by omega)];rfl)|(rw [zEh (by omega)];rfl)|(rw [zEi (by omega)];rfl)|(rw [zJu (by omega)];rfl),[_],O⟩
   ·try simp only [W] at c4
    exact absurd c3 c4
  ·try simp only [W] at c3
   refine zS O<|L O<|G O<|U<|zE O (fun c4=>?_) (fun c4=>?_)
   ·try simp only [W] at c4
    refine B O<|zG O zDm<|zL qZ (J 2 O) O<|N 1 sz31 O<|G O<|U<|zU _ (Weak.mem [false,true,false,true,true] O)<|zH<|fin2 (zV qZ O (J 0 O) O) (v O) ?_
    exact ⟨by rw [hT];first|(rw [zJx (by omega)];rfl)|(rw [zJw (by omega)];rfl)|(rw [zIj (by omega)];rfl)|(rw [zJv (by omega)];rfl)|(rw [zEj (by omega)];rfl)|(rw [zEh (by omega)];rfl)|(rw [zEi (by omega)];rfl)|(rw [zJu (by omega)];rfl),[_],O⟩
   ·try simp only [W] at c4
    refine B O<|L O<|G O<|U<|zE O (fun c5=>?_) (fun c5=>?_)
    ·try simp only [W] at c5
     refine B O<|yV O zr31 pl31<|G O<|zG O zDw<|zL kK (J 2 O) O<|zX O (yR [3,3] O ok148 (zJi b mb p m e.Lin hLl) ⟨Y,O,Y,O,T⟩ O)<|N 1 sz31 O<|G O<|U<|zU _ (Weak.mem [false,true,false,true,true] O)<|zH<|fin2 (zV qZ O (J 0 O) O) (v O) ?_
     exact ⟨by rw [hT];first|(rw [zJx (by omega)];rfl)|(rw [zJw (by omega)];rfl)|(rw [zIj (by omega)];rfl)|(rw [zJv (by omega)];rfl)|(rw [zEj (by omega)];rfl)|(rw [zEh (by omega)];rfl)|(rw [zEi (by omega)];rfl)|(rw [zJu (by omega)];rfl),[_],O⟩
    ·try simp only [W] at c5
     refine B O<|L O<|G O<|U<|zE O (fun c6=>?_) (fun c6=>?_)
     ·try simp only [W] at c6
      refine B O<|G O<|zL qN (J 2 O) O<|zX O (yR [3,3] O ok149 (typer_read b mb p m e hP he) ⟨Y,O,Y,O,T⟩ O)<|zX O (yJ O O O)<|zX O (yI O O O)<|N 1 sz31 O<|G O<|U<|zU _ (Weak.mem [false,true,false,true,true] O)<|zH<|fin2 (zV qZ O (J 0 O) O) (v O) ?_
      exact ⟨by rw [hT];first|(rw [zJx (by omega)];rfl)|(rw [zJw (by omega)];rfl)|(rw [zIj (by omega)];rfl)|(rw [zJv (by omega)];rfl)|(rw [zEj (by omega)];rfl)|(rw [zEh (by omega)];rfl)|(rw [zEi (by omega)];rfl)|(rw [zJu (by omega)];rfl),[_],O⟩
     ·try simp only [W] at c6
      refine B O<|L O<|G O<|U<|zE O (fun c7=>?_) (fun c7=>?_)
      ·try simp only [W] at c7
       have hlen1:=args_len hpart (by omega)
       refine B O<|G O<|zX O (qW 0 O zCs O O O (by omega) (by simp only [List.length_map];omega))<|zL qZ (wQ 0 O (hg 0 (by omega))) O<|N 1 sz31 O<|G O<|U<|zU _ (Weak.mem [false,true,false,true,true] O)<|zH<|fin2 (zV qZ O (J 0 O) O) (v O) ?_
       exact ⟨by rw [hT];first|(rw [zJx (by omega)];rfl)|(rw [zJw (by omega)];rfl)|(rw [zIj (by omega)];rfl)|(rw [zJv (by omega)];rfl)|(rw [zEj (by omega)];rfl)|(rw [zEh (by omega)];rfl)|(rw [zEi (by omega)];rfl)|(rw [zJu (by omega)];rfl),[_],O⟩
      ·try simp only [W] at c7
       refine B O<|L O<|G O<|U<|zE O (fun c8=>?_) (fun c8=>?_)
       ·try simp only [W] at c8
        have hlen3:=args_len3 hpart c8
        refine zI<|qT 11 mixed (by kernel_rfl) O O<|zM O O (zR O O)<|zM O O (qW 0 O zCs O O O (by omega) (by simp only [List.length_map];omega))<|zM O O (zN O qZ O (wQ 0 O (hg 1 (by omega))) O)<|zM O O (zR O O)<|zM O O (zR O O)<|zM O O (qW 0 O zCs O O O (by omega) (by simp only [List.length_map];omega))<|zM O O (zN O qZ O (wQ 0 O (hg 1 (by omega))) O)<|zM O O (zR O O)<|zM O O (qW 0 O zCs O O O (by omega) (by simp only [List.length_map];omega))<|zM O O (zN O qZ O (wQ 0 O (hg 2 (by omega))) O)<|zM O O (zBq O O ok147 (zEd _ _) ⟨Y,O,Y,O,T⟩)<|yM<|N 1 sz31 O<|G O<|U<|zU _ (Weak.mem [false,true,false,true,true] O)<|zH<|fin2 (zV qZ O (J 0 O) O) (v O) ?_
        exact ⟨by rw [hT];first|(rw [zJx (by omega)];rfl)|(rw [zJw (by omega)];rfl)|(rw [zIj (by omega)];rfl)|(rw [zJv (by omega)];rfl)|(rw [zEj (by omega)];rfl)|(rw [zEh (by omega)];rfl)|(rw [zEi (by omega)];rfl)|(rw [zJu (by omega)];rfl),[_],O⟩
       ·try simp only [W] at c8
        refine zI<|B O<|L O<|G O<|U<|zE O (fun c9=>?_) (fun c9=>?_)
        ·try simp only [W] at c9
         refine zJ<|zE O (fun c11=>?_) (fun c11=>?_)
         ·try simp only [W] at c11
          refine B O<|yV O zr31 pl31<|N 1 sz31 O<|G O<|U<|zU _ (Weak.mem [false,true,false,true,true] O)<|zH<|fin2 (zV qZ O (J 0 O) O) (v O) ?_
          exact ⟨by rw [hT];first|(rw [zJx (by omega)];rfl)|(rw [zJw (by omega)];rfl)|(rw [zIj (by omega)];rfl)|(rw [zJv (by omega)];rfl)|(rw [zEj (by omega)];rfl)|(rw [zEh (by omega)];rfl)|(rw [zEi (by omega)];rfl)|(rw [zJu (by omega)];rfl),[_],O⟩
         ·try simp only [W] at c11
          exact absurd c9 c11
        ·try simp only [W] at c9
         refine B O<|L O<|G O<|U<|zE O (fun c10=>?_) (fun c10=>?_)
         ·try simp only [W] at c10
          refine zJ<|zE O (fun c11=>?_) (fun c11=>?_)
          ·try simp only [W] at c11
           refine B O<|yV O zr31 pl31<|N 1 sz31 O<|G O<|U<|zU _ (Weak.mem [false,true,false,true,true] O)<|zH<|fin2 (zV qZ O (J 0 O) O) (v O) ?_
           exact ⟨by rw [hT];first|(rw [zJx (by omega)];rfl)|(rw [zJw (by omega)];rfl)|(rw [zIj (by omega)];rfl)|(rw [zJv (by omega)];rfl)|(rw [zEj (by omega)];rfl)|(rw [zEh (by omega)];rfl)|(rw [zEi (by omega)];rfl)|(rw [zJu (by omega)];rfl),[_],O⟩
          ·try simp only [W] at c11
           exact absurd c10 c11
         ·try simp only [W] at c10
          refine zS O<|L O<|G O<|U<|zE O (fun c11=>?_) (fun c11=>?_)
          ·try simp only [W] at c11
           refine B O<|yV O zr31 pl31<|N 1 sz31 O<|G O<|U<|zU _ (Weak.mem [false,true,false,true,true] O)<|zH<|fin2 (zV qZ O (J 0 O) O) (v O) ?_
           exact ⟨by rw [hT];first|(rw [zJx (by omega)];rfl)|(rw [zJw (by omega)];rfl)|(rw [zIj (by omega)];rfl)|(rw [zJv (by omega)];rfl)|(rw [zEj (by omega)];rfl)|(rw [zEh (by omega)];rfl)|(rw [zEi (by omega)];rfl)|(rw [zJu (by omega)];rfl),[_],O⟩
          ·try simp only [W] at c11
           refine zI<|B O<|L O<|G O<|U<|zE O (fun c12=>?_) (fun c12=>?_)
           ·try simp only [W] at c12
            refine zJ<|zE O (fun c14=>?_) (fun c14=>?_)
            ·try simp only [W] at c14
             have hlen2:=zGc hpart (by omega)
             refine zI<|qT 9 mixed (by kernel_rfl) O O<|zM O O (kX O zr31 pl31 O)<|zM O O (zR O O)<|zM O O (zR O O)<|zM O O (qW 0 O zCs O O O (by omega) (by simp only [List.length_map];omega))<|zM O O (zN O qZ O (wQ 0 O (hg 0 (by omega))) O)<|zM O O (zR O O)<|zM O O (qW 0 O zCs O O O (by omega) (by simp only [List.length_map];omega))<|zM O O (zN O qZ O (wQ 0 O (hg 1 (by omega))) O)<|zM O O (zBq O O ok147 (zEd _ _) ⟨Y,O,Y,O,T⟩)<|yM<|N 1 sz31 O<|G O<|U<|zU _ (Weak.mem [false,true,false,true,true] O)<|zH<|fin2 (zV qZ O (J 0 O) O) (v O) ?_
             exact ⟨by rw [hT];first|(rw [zJx (by omega)];rfl)|(rw [zJw (by omega)];rfl)|(rw [zIj (by omega)];rfl)|(rw [zJv (by omega)];rfl)|(rw [zEj (by omega)];rfl)|(rw [zEh (by omega)];rfl)|(rw [zEi (by omega)];rfl)|(rw [zJu (by omega)];rfl),[_],O⟩
            ·try simp only [W] at c14
             exact absurd c12 c14
           ·try simp only [W] at c12
            refine B O<|L O<|G O<|U<|zE O (fun c13=>?_) (fun c13=>?_)
            ·try simp only [W] at c13
             refine zJ<|zE O (fun c14=>?_) (fun c14=>?_)
             ·try simp only [W] at c14
              have hlen2:=zGc hpart (by omega)
              refine zI<|qT 9 mixed (by kernel_rfl) O O<|zM O O (kX O zr31 pl31 O)<|zM O O (zR O O)<|zM O O (zR O O)<|zM O O (qW 0 O zCs O O O (by omega) (by simp only [List.length_map];omega))<|zM O O (zN O qZ O (wQ 0 O (hg 0 (by omega))) O)<|zM O O (zR O O)<|zM O O (qW 0 O zCs O O O (by omega) (by simp only [List.length_map];omega))<|zM O O (zN O qZ O (wQ 0 O (hg 1 (by omega))) O)<|zM O O (zBq O O ok147 (zEd _ _) ⟨Y,O,Y,O,T⟩)<|yM<|N 1 sz31 O<|G O<|U<|zU _ (Weak.mem [false,true,false,true,true] O)<|zH<|fin2 (zV qZ O (J 0 O) O) (v O) ?_
              exact ⟨by rw [hT];first|(rw [zJx (by omega)];rfl)|(rw [zJw (by omega)];rfl)|(rw [zIj (by omega)];rfl)|(rw [zJv (by omega)];rfl)|(rw [zEj (by omega)];rfl)|(rw [zEh (by omega)];rfl)|(rw [zEi (by omega)];rfl)|(rw [zJu (by omega)];rfl),[_],O⟩
             ·try simp only [W] at c14
              exact absurd c13 c14
            ·try simp only [W] at c13
             refine zS O<|L O<|G O<|U<|zE O (fun c14=>?_) (fun c14=>?_)
             ·try simp only [W] at c14
              have hlen2:=zGc hpart (by omega)
              refine zI<|qT 9 mixed (by kernel_rfl) O O<|zM O O (kX O zr31 pl31 O)<|zM O O (zR O O)<|zM O O (zR O O)<|zM O O (qW 0 O zCs O O O (by omega) (by simp only [List.length_map];omega))<|zM O O (zN O qZ O (wQ 0 O (hg 0 (by omega))) O)<|zM O O (zR O O)<|zM O O (qW 0 O zCs O O O (by omega) (by simp only [List.length_map];omega))<|zM O O (zN O qZ O (wQ 0 O (hg 1 (by omega))) O)<|zM O O (zBq O O ok147 (zEd _ _) ⟨Y,O,Y,O,T⟩)<|yM<|N 1 sz31 O<|G O<|U<|zU _ (Weak.mem [false,true,false,true,true] O)<|zH<|fin2 (zV qZ O (J 0 O) O) (v O) ?_
              exact ⟨by rw [hT];first|(rw [zJx (by omega)];rfl)|(rw [zJw (by omega)];rfl)|(rw [zIj (by omega)];rfl)|(rw [zJv (by omega)];rfl)|(rw [zEj (by omega)];rfl)|(rw [zEh (by omega)];rfl)|(rw [zEi (by omega)];rfl)|(rw [zJu (by omega)];rfl),[_],O⟩
             ·try simp only [W] at c14
              have hlen2:=zGc hpart (by omega)
              refine zJ<|zI<|qT 11 mixed (by kernel_rfl) O O<|zM O O (zR O O)<|zM O O (qW 0 O zCs O O O (by omega) (by simp only [List.length_map];omega))<|zM O O (zN O qZ O (wQ 0 O (hg 0 (by omega))) O)<|zM O O (zR O O)<|zM O O (zR O O)<|zM O O (qW 0 O zCs O O O (by omega) (by simp only [List.length_map];omega))<|zM O O (zN O qZ O (wQ 0 O (hg 0 (by omega))) O)<|zM O O (zR O O)<|zM O O (qW 0 O zCs O O O (by omega) (by simp only [List.length_map];omega))<|zM O O (zN O qZ O (wQ 0 O (hg 1 (by omega))) O)<|zM O O (zBq O O ok147 (zEd _ _) ⟨Y,O,Y,O,T⟩)<|yM<|N 1 sz31 O<|G O<|U<|zU _ (Weak.mem [false,true,false,true,true] O)<|zH<|fin2 (zV qZ O (J 0 O) O) (v O) ?_
              exact ⟨by rw [hT];first|(rw [zJx (by omega)];rfl)|(rw [zJw (by omega)];rfl)|(rw [zIj (by omega)];rfl)|(rw [zJv (by omega)];rfl)|(rw [zEj (by omega)];rfl)|(rw [zEh (by omega)];rfl)|(rw [zEi (by omega)];rfl)|(rw [zJu (by omega)];rfl),[_],O⟩
theorem typer_of (b mb:Nat) (p:Pg) (m:Kn) (hP:p.Ok) (e:Ex) (hpart:partE e=0) (he:e.wt<=4294967296):Con cfg 66 [vP b,vE e] (tyE b mb p m) fun r μ'=>r=.tup [vTy (nodeT (ofN p.en (kn m)) e).1,vI (nodeT (ofN p.en (kn m)) e).2]/\μ'=tyE b mb p m:=by
  induction e using Ex.ind with
  |_ e ih=>exact typer_of_step b mb p m hP e (fun a ha h1 h2=>ih a ha h1 h2) hpart he
theorem zCd (p:Pg) (vars:List ByteArray) (e:Ex) (hP:p.Ok) (hv:vars.length<=4294967296) (he:e.wt<=4294967296):
    Pur cfg 27 [vPg p,vSs vars,vE e] (.tup [vTy (typeT p.en vars e).1,vI (typeT p.en vars e).2]):=by
 refine zT Tryz.func27 O Tryz.ntmps27 Tryz.results27 O ?_
 intro z hz
 have hsz:=hP.sizes
 refine B O<|zZ O O (qI O O) ?_
 rintro _ _ ⟨b1,rfl,rfl⟩
 refine zZ O O (qI O O) ?_
 rintro _ _ ⟨b2,rfl,rfl⟩
 refine zZ O O (yB O zr31) ?_
 rintro _ _ ⟨b3,rfl,rfl⟩
 refine G O<|U<|zI<|B O<|zL qN (J 1 O) O<|qK O ok31 (zEt e (by omega)) ⟨Y,O,T⟩<|G O<|U<|B O<|G O<|yN O<|U<|zE O (fun c1=>?_) (fun c1=>?_)
 ·try simp only [W] at c1
  refine B O<|yV O zr31 pl31<|G O<|N 0 sz31 O<|G O<|U<|zH<|fin2 (zV qZ O (J 0 O) O) (v O) ?_
  rw [typeT_bad c1];rfl
 ·try simp only [W] at c1
  refine zJ<|zI<|B O<|zL qN (J 1 O) O<|qK O ok65 (zFh e) ⟨Y,O,T⟩<|U<|zE O (fun c2=>?_) (fun c2=>?_)
  ·try simp only [W] at c2
   refine B O<|yV O zr31 pl31<|N 0 sz31 O<|G O<|U<|zH<|fin2 (zV qZ O (J 0 O) O) (v O) ?_
   rw [typeT_cond c1 c2];rfl
  ·try simp only [W] at c2
   refine zJ<|B O<|zL kO (J 2 O) O<|zZ O O (zMz vI O O) ?_
   rintro _ _ ⟨b4,rfl,rfl⟩
   refine yV O zr113 pl113<|zZ O O (qI O O) ?_
   rintro _ _ ⟨b5,rfl,rfl⟩
   refine G O<|U<|zI<|B O<|zG O zCm<|zK wY (J 4 O) O<|zY O el22<|G O<|U<|zP<|zU ⟨[(32,.c _),(1,.c _),(5,.c _),(6,.c _),(9,.c _),(30,.c _),(31,.c _)],[_,_,_,_]⟩ (Weak.mk [true,true,true,true,false] ⟨Y,Y,Y,Y,Y,Y,Y,T⟩ O)<|qF 1 2 O O (Nat) (fun k=>[(32,vI k)]) (fun k=>[pRow 113 b5 b4 p,E.blk b4 (MapR vI (tabV [] (p.Sizes.take k) 1))]) (fun k=>k<=p.Sizes.length) (fun k=>p.Sizes.length-k) ⟨0,(by omega),Weak.mk [true,true,true,true] ⟨Y,Y,Y,Y,Y,Y,Y,T⟩ O⟩ ?_
   rintro k hk
   refine B O<|yA O<|U<|zI<|zE O (fun c3=>?_) (fun c3=>?_)
   ·try simp only [W] at c3
    obtain ⟨x,hx⟩:=qQ p.Sizes k (by omega)
    refine zJ<|zI<|zP<|B O<|qE O el22 (by omega) (getm (by assumption))<|zK one9 qB O<|G O<|U<|zS O<|G O<|zX O (yP O O)<|zG O fd113_1<|zK zKq (J 0 O) O<|G O<|zIf O O (zGo 1 1 O sm111 O O O (Y) O)<|U<|zS O<|qJ O ⟨by omega,by omega⟩<|G O<|U ?_
    refine ⟨k+1,(by omega),(by omega),Weak.mk [true,true,true,true] ⟨Y,Y,Y,Y,Y,Y,Y,T⟩ (by show _=[pRow 113 b5 b4 p,E.blk b4 (MapR vI (tabV [] (p.Sizes.take (k+1)) 1))]++_;rw [zIa hx];rfl)⟩
   ·try simp only [W] at c3
    rw [qX (l:=p.Sizes) (k:=k) (by omega)]
    refine qO<|zI<|B O<|G O<|zY O el22<|G O<|U<|zP<|zU ⟨[(44,.c _),(5,.c _),(6,.c _),(9,.c _),(42,.c _),(43,.c _)],[_,_,_,_]⟩ (Weak.mk [true,true,true,true] ⟨Y,Y,Y,Y,Y,Y,T⟩ O)<|qF 1 2 O O (Nat) (fun j=>[(44,vI j)]) (fun j=>[pRow 113 b5 b4 p,E.blk b4 (MapR vI (tabV (tabV [] p.Sizes 1) (vars.take j) 3))]) (fun j=>j<=vars.length) (fun j=>vars.length-j) ⟨0,(by omega),Weak.mk [true,true,true,true] ⟨Y,Y,Y,Y,Y,Y,T⟩ O⟩ ?_
    rintro j hj
    refine B O<|yA O<|U<|zI<|zE O (fun c4=>?_) (fun c4=>?_)
    ·try simp only [W] at c4
     obtain ⟨y,hy⟩:=qQ vars j (by omega)
     refine zJ<|zI<|zP<|B O<|qE O el22 (by omega) (getm (by assumption))<|zK one9 qB O<|G O<|U<|zS O<|G O<|zX O (yP O O)<|zG O fd113_1<|zK zKq (J 0 O) O<|G O<|zIf O O (zGo 1 3 O sm111 O O O (Y) O)<|U<|zS O<|qJ O ⟨by omega,by omega⟩<|G O<|U ?_
     refine ⟨j+1,(by omega),(by omega),Weak.mk [true,true,true,true] ⟨Y,Y,Y,Y,Y,Y,T⟩ (by show _=[pRow 113 b5 b4 p,E.blk b4 (MapR vI (tabV (tabV [] p.Sizes 1) (vars.take (j+1)) 3))]++_;rw [zIa hy];rfl)⟩
    ·try simp only [W] at c4
     rw [qX (l:=vars) (k:=j) (by omega)]
     have hTo:=typeT_of (n:=p.en) (kn_tab p.Sizes vars) c1 c2
     refine qO<|B O<|G O<|zL qN (J 3 O) O<|zX O (yR [0,0] O ok66 (typer_of b5 b4 p _ hP e (zCx c1) he) ⟨Y,O,Y,O,T⟩ O)<|zX O (qV O O)<|zX O (yJ O O O)<|zX O (yI O O O)<|zZ O O (yB O zr31) ?_
     rintro _ _ ⟨b6,rfl,rfl⟩
     refine N 0 sz31 O<|G O<|U<|zI<|B O<|G O<|yN O<|U<|zE O (fun c5=>?_) (fun c5=>?_)
     ·try simp only [W] at c5
      refine B O<|yV O zr31 pl31<|G O<|N 3 sz31 O<|G O<|U<|zH<|fin2 (zV qZ O (J 3 O) O) (v O) ?_
      rw [hTo,if_neg c5];rfl
     ·try simp only [W] at c5
      refine zJ<|B O<|zL qZ (J 0 O) O<|N 3 sz31 O<|G O<|U<|zH<|fin2 (zV qZ O (J 3 O) O) (v O) ?_
      rw [hTo,if_pos c5];rfl
end Go.W
