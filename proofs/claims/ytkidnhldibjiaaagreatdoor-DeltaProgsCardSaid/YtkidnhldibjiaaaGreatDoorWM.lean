/-
  What functions compute.
  Conditions: none.
-/
import Derived.Test.YtkidnhldibjiaaaGreatDoorWL
import Derived.Test.YtkidnhldibjiaaaGreatDoorPlain
set_option linter.unusedSimpArgs false
set_option linter.unusedVariables false
set_option maxRecDepth 10000
namespace Go.W
open Go Go.Eng Go.Proofs Go.L41 Go.Br
attribute [local irreducible] AWP RWP TD fL
theorem zEd:dM Tryz.prog 231=some (37,5,40):=by kernel_rfl
theorem ok156:bA Tryz.prog 156=true:=by kernel_rfl
theorem ok207:bA Tryz.prog 207=true:=by kernel_rfl
theorem ok209:bA Tryz.prog 209=true:=by kernel_rfl
theorem ok252:bA Tryz.prog 252=true:=by kernel_rfl
theorem pl196:fR Tryz.prog 196=some [(0,5),(5,1)]:=by kernel_rfl
theorem zr196:fD Tryz.prog 196=some [(Value.slice none 0 0),(Value.slice none 0 0),(Value.slice none 0 0),(Value.slice none 0 0),(Value.slice none 0 0),(Value.map none)]:=by kernel_rfl
theorem typer_read (b mb:Nat) (p:Pg) (m:Kn) (e:Ex) (hP:p.Ok) (he:e.wt<=4294967296):
    Con cfg 209 [vP b,vE e] (tyE b mb p m) fun r μ'=>r=.tup [vTy (gF p.en (kn m) e).1,vI (gF p.en (kn m) e).2]/\μ'=tyE b mb p m:=by
 refine Con.drop<|zW Tryz.func209 O Tryz.ntmps209 Tryz.results209 O ?_
 intro z hz
 obtain ⟨hLl,hIl,hAl⟩:=e.parts he
 have hwt:=Ex.wt_eq e
 refine Y O<|zY O O (qN O O) ?_
 rintro _ _ ⟨b1,rfl,rfl⟩
 refine zY O O (yJ O zr37) ?_
 rintro _ _ ⟨b2,rfl,rfl⟩
 refine G O<|W<|zM<|zSz 12 14 [.q,.q,.q,.q,.q,.q,.q,.q,.q,.u,.u,.f]  mixed (by kernel_rfl) O O O<|yS O O (zS O O)<|yS O O (kC O O)<|yS O O (zE O fd196_0 O)<|yS O O (zU O wY O (J 2 O) O)<|yS O O (zE O zJi O)<|yS O O (zJ O one9 O (J 1 O) O)<|yS O O (qL O ok251 (zNw p e.Name hP) ⟨U,O,U,O,T⟩)<|yS O O (kL O O)<|yS O O (yA O O O)<|zDy O O (wW O O O)<|zDy O O (wW O O O)<|zGo<|zJo<|wN<|wN<|wN<|wN<|wN<|wN<|wN<|wN<|wN<|zKw<|zKw<|zEm (wH (yJ O zr37))<|zJp<|zDh ?_
 rintro _ _ ⟨b3,rfl,rfl⟩
 refine zEy ?_
 refine ⟨_,kN O sz37 O O O (zCu 0 O O),(by rintro _ _ ⟨rfl,rfl⟩;exact ⟨[_],rfl⟩),?_⟩
 rintro _ _ ⟨rfl,rfl⟩
 refine zQ O O (yY O O)<|yR<|G O<|W<|zM<|Y O<|G O<|wE O<|W<|zH O (fun c1=>?_) (fun c1=>?_)
 ·try simp only [sx] at c1
  refine Y O<|yN O zr37 pl37<|rStR 1 sz37 O<|G O<|W<|qC _ (Weak.mem [false,true,false,true,true] O)<|zO<|fin2 (zZ yO O (J 0 O) O) (rs_c O) ?_
  exact ⟨by rw [readK_9 c1];rfl,[_],O⟩
 ·try simp only [sx] at c1
  refine zN<|zM<|Y O<|zF O kM<|zK zAh (J 2 O) O<|qB O el41<|G O<|qB O el65<|yW O<|W<|zH O (fun c2=>?_) (fun c2=>?_)
  ·try simp only [sx] at c2
   refine Y O<|yN O zr37 pl37<|rStR 1 sz37 O<|G O<|W<|qC _ (Weak.mem [false,true,false,true,true] O)<|zO<|fin2 (zZ yO O (J 0 O) O) (rs_c O) ?_
   exact ⟨by rw [readK_11 c1 (by omega)];rfl,[_],O⟩
  ·try simp only [sx] at c2
   refine zN<|zM<|Y O<|zF O kM<|zK zAh (J 2 O) O<|qB O el41<|G O<|W<|zR<|qC ⟨[(36,.c _),(0,.c _),(4,.c _),(6,.c _),(34,.c _),(35,.c _)],[_,_,_,_]⟩ (Weak.mk [true,true,false,true,true] ⟨U,U,U,U,U,U,T⟩ O)<|qG 1 0 O O (Nat) (fun k=>[(36,vI k)]) (fun k=>[]) (fun k=>k<=e.Idx.length/\(dU p.en (kn m) e.Idx=dU p.en (kn m) (e.Idx.drop k))) (fun k=>e.Idx.length-k) ⟨0,⟨by omega,O⟩,Weak.mk [true,true,true,true] ⟨U,U,U,U,U,U,T⟩ O⟩ ?_
   rintro k ⟨hk,hp⟩
   refine Y O<|yI O<|W<|zM<|zH O (fun c3=>?_) (fun c3=>?_)
   ·try simp only [sx] at c3
    obtain ⟨x,hx⟩:=qU e.Idx k (by omega)
    refine zN<|zM<|zR<|Y O<|qJ O el41 (by omega) (getm (by assumption))<|zP zDv qE O<|zY O O (qF [none,some 2,none,some 2] O zJa O) ?_
    rintro _ _ ⟨b4,rfl,rfl⟩
    refine rStR 0 zQb O<|W<|Y O<|G O<|zP zDv (J 0 O) O<|qA O (kF [3,3] O ok252 (typer_index b mb p m x hP (by have:=zLm (zX hx);omega)) ⟨U,O,U,O,T⟩ O)<|G O<|W<|Y O<|G O<|yW O<|W<|zH O (fun c4=>?_) (fun c4=>?_)
    ·try simp only [sx] at c4
     refine Y O<|yN O zr37 pl37<|G O<|rStR 2 sz37 O<|G O<|W<|qC _ (Weak.mem [false,false,true,true,true] O)<|zO<|fin2 (zZ yO O (J 0 O) O) (rs_c O) ?_
     exact ⟨by rw [readK_x c1 (by omega) (by rw [hp,zRr hx c4];exact c4),hp,zRr hx c4];rfl,[_],O⟩
    ·try simp only [sx] at c4
     refine zN<|zT O<|qK O ⟨by omega,by omega⟩<|G O<|W ?_
     refine ⟨k+1,⟨by omega,hp.trans (zJz hx c4)⟩,(by omega),Weak.mk [false,true,true,true,true] ⟨U,U,U,U,U,U,T⟩ O⟩
   ·try simp only [sx] at c3
    refine qO<|Y O<|zP yO (J 0 O) O<|rStR 1 sz37 O<|G O<|W<|qC _ (Weak.mem [false,true,true,true] O)<|zO<|fin2 (zZ yO O (J 0 O) O) (rs_c O) ?_
    exact ⟨by rw [zMu c1 (by omega) (by rw [hp,wV (by omega)];rfl)];rfl,[_],O⟩
theorem zFr (a b:Ty):
    Pur cfg 207 [vTy a,vTy b] (vI (gB a b)):=by
 refine zW Tryz.func207 O Tryz.ntmps207 Tryz.results207 O ?_
 intro z hz
 refine Y O<|zY O O (qN O O) ?_
 rintro _ _ ⟨b1,rfl,rfl⟩
 refine zY O O (qN O O) ?_
 rintro _ _ ⟨b2,rfl,rfl⟩
 refine G O<|W<|zM<|Y O<|zP yO (J 1 O) O<|zP yO (J 0 O) O<|qA O (zBg O fl37 O O O)<|W<|zH O (fun c1=>?_) (fun c1=>?_)
 ·have hu:=unlike_10 (zKr c1)
  refine Y O<|G O<|W<|zO<|zV O ?_
  rw [hu]
 ·have hu:=unlike_0 (zIi c1)
  refine zN<|Y O<|G O<|W<|zO<|zV O ?_
  rw [hu]
theorem typer_of_step (b mb:Nat) (p:Pg) (m:Kn) (hP:p.Ok) (e:Ex) (ih:∀a,a∈e.Args->dQ a=0->a.wt<=4294967296->Con cfg 156 [vP b,vE a] (tyE b mb p m) fun r μ'=>r=.tup [vTy (bE (ofN p.en (kn m)) a).1,vI (bE (ofN p.en (kn m)) a).2]/\μ'=tyE b mb p m) (hpart:dQ e=0) (he:e.wt<=4294967296):
    Con cfg 156 [vP b,vE e] (tyE b mb p m) fun r μ'=>r=.tup [vTy (bE (ofN p.en (kn m)) e).1,vI (bE (ofN p.en (kn m)) e).2]/\μ'=tyE b mb p m:=by
 refine Con.drop<|zW Tryz.func156 O Tryz.ntmps156 Tryz.results156 O ?_
 intro z hz
 obtain ⟨hLl,hIl,hAl⟩:=e.parts he
 have hwt:=Ex.wt_eq e
 refine Y O<|zY O O (qN O O) ?_
 rintro _ _ ⟨b1,rfl,rfl⟩
 refine zY O O (yJ O zr37) ?_
 rintro _ _ ⟨b2,rfl,rfl⟩
 refine G O<|W<|Y O<|G O<|yE _ (yU 37 5)<|W<|zM<|Y O<|zF O kO<|zK zAj (J 2 O) O<|qB O el42<|G O<|W<|zR<|qC ⟨[(15,.c _),(6,.c _),(0,.c _),(3,.c _),(4,.c _),(13,.c _),(14,.c _)],[_,_,_,_,_]⟩ (Weak.mk [true,true,true,true,true] ⟨U,U,U,U,U,U,U,T⟩ O)<|qG 2 1 O O (Nat×Value) (fun ⟨k,sv⟩=>[(15,vI k),(6,.c (.lit sv))]) (fun ⟨k,sv⟩=>[E.vec sv 37 5 ((bF (ofN p.en (kn m)) (e.Args.take k)).1.map tyC)]) (fun ⟨k,sv⟩=>k<=e.Args.length/\((bF (ofN p.en (kn m)) (e.Args.take k)).2=0)) (fun ⟨k,sv⟩=>e.Args.length-k) ⟨⟨0,(.slice none 0 0)⟩,⟨by omega,O⟩,Weak.mk [true,true,true,true,true] ⟨U,U,U,U,U,U,U,T⟩ O⟩ ?_
 rintro ⟨k,sv⟩ ⟨hk,hp⟩
 show AWP _ _ _ _ _ ⟨[(15,vI k),(6,.c (.lit sv))]++_,[E.vec sv 37 5 ((bF (ofN p.en (kn m)) (e.Args.take k)).1.map tyC)]++_⟩
 refine Y O<|yI O<|W<|zM<|zH O (fun c1=>?_) (fun c1=>?_)
 ·try simp only [sx] at c1
  obtain ⟨x,hx⟩:=qU e.Args k (by omega)
  have hll:=zHv _ _ hp
  refine zN<|zM<|zR<|Y O<|qJ O el42 (by omega) (zBj (by assumption))<|zP yG qE O<|zY O O (qF [none,none,none,none,none,none,none,none,none,none,some 2,some 4,some 13] O zr44 O) ?_
  rintro _ _ ⟨b4,rfl,rfl⟩
  refine rStR 0 sz44 O<|W<|Y O<|G O<|zP yG (J 0 O) O<|qA O (kF [4,4] O ok156 (ih x (zX hx) (zDr hpart (zX hx)) (by have:=Ex.arg_wt (zX hx);omega)) ⟨U,O,U,O,T⟩ O)<|yH O<|qA O (yA O O O)<|yX O<|zY O O (yJ O zr37) ?_
  rintro _ _ ⟨b5,rfl,rfl⟩
  refine rStR 0 sz37 O<|G O<|W<|zM<|Y O<|G O<|yW O<|W<|zH O (fun c2=>?_) (fun c2=>?_)
  ·try simp only [sx] at c2
   refine Y O<|yN O zr37 pl37<|G O<|rStR 3 sz37 O<|G O<|W<|qC _ (Weak.mem [false,false,false,true,false,true,true] O)<|zO<|fin2 (zZ yO O (J 0 O) O) (rs_c O) ?_
   exact ⟨by rw [nodeT_no hx hp c2];rfl,[_],O⟩
  ·try simp only [sx] at c2
   refine zN<|zT O<|G O<|zP yO (J 0 O) O<|yV O zEd zr37<|zY O O (qV 2 O zEd O O O (by simp only [List.length_map,List.length_cons,List.length_nil,hll,List.length_take];omega) (by simp only [List.length_map,List.length_cons,List.length_nil,hll,List.length_take];omega)) ?_
   rintro _ _ ⟨sv6,rfl,rfl⟩
   refine G O<|W<|zT O<|qK O ⟨by omega,by omega⟩<|G O<|W ?_
   refine ⟨⟨k+1,sv6⟩,⟨by omega,by rw [zIk hx hp c2]⟩,(by show e.Args.length-(k+1)<e.Args.length-k;omega),Weak.mk [false,false,true,true,true,true,true] ⟨U,U,U,U,U,U,U,T⟩ (by show _=[E.vec sv6 _ 5 ((bF (ofN p.en (kn m)) (e.Args.take (k+1))).1.map tyC)]++_;rw [zIk hx hp c2];simp only [List.map_append];rfl)⟩
 ·try simp only [sx] at c1
  have hll:=zHv _ _ hp
  have hta:e.Args.take k=e.Args:=qY (by omega)
  rw [hta] at hll
  have hg:∀i,i<e.Args.length->((bF (ofN p.en (kn m)) (e.Args.take k)).1.map tyC)[i]? =some (tyC (fJ (bF (ofN p.en (kn m)) (e.Args.take k)).1 i)):=fun i hi=>tyAt_get (by rw [hta];omega)
  have hT:bE (ofN p.en (kn m)) e=(ofN p.en (kn m)) e (bF (ofN p.en (kn m)) (e.Args.take k)).1:=nodeT_ok hta hp
  have hlk:(bF (ofN p.en (kn m)) (e.Args.take k)).1.length=e.Args.length:=by rw [hta];exact hll
  refine qO<|Y O<|G O<|W<|zM<|Y O<|zF O kE<|zK one3 (J 2 O) O<|W<|zR<|zM<|Y O<|yK O<|G O<|W<|zH O (fun c3=>?_) (fun c3=>?_)
  ·try simp only [sx] at c3
   refine zN<|zH O (fun c4=>?_) (fun c4=>?_)
   ·try simp only [sx] at c4
    refine Y O<|zF O zCw<|zP yO (J 2 O) O<|rStR 1 sz37 O<|G O<|W<|qC _ (Weak.mem [false,true,false,true,true] O)<|zO<|fin2 (zZ yO O (J 0 O) O) (rs_c O) ?_
    exact ⟨by rw [hT];first|(rw [zNf (by omega)];rfl)|(rw [zNe (by omega)];rfl)|(rw [zNd (by omega)];rfl)|(rw [zNc (by omega)];rfl)|(rw [zGb (by omega)];rfl)|(rw [zFz (by omega)];rfl)|(rw [zGa (by omega)];rfl)|(rw [zNb (by omega)];rfl),[_],O⟩
   ·try simp only [sx] at c4
    exact absurd c3 c4
  ·try simp only [sx] at c3
   refine zT O<|yK O<|G O<|W<|zH O (fun c4=>?_) (fun c4=>?_)
   ·try simp only [sx] at c4
    refine Y O<|zF O zCw<|zP yO (J 2 O) O<|rStR 1 sz37 O<|G O<|W<|qC _ (Weak.mem [false,true,false,true,true] O)<|zO<|fin2 (zZ yO O (J 0 O) O) (rs_c O) ?_
    exact ⟨by rw [hT];first|(rw [zNf (by omega)];rfl)|(rw [zNe (by omega)];rfl)|(rw [zNd (by omega)];rfl)|(rw [zNc (by omega)];rfl)|(rw [zGb (by omega)];rfl)|(rw [zFz (by omega)];rfl)|(rw [zGa (by omega)];rfl)|(rw [zNb (by omega)];rfl),[_],O⟩
   ·try simp only [sx] at c4
    refine Y O<|yK O<|G O<|W<|zH O (fun c5=>?_) (fun c5=>?_)
    ·try simp only [sx] at c5
     refine Y O<|yN O zr37 pl37<|G O<|zF O zBk<|zP yB (J 2 O) O<|qA O (kF [3,3] O ok208 (zMj b mb p m e.Lin hLl) ⟨U,O,U,O,T⟩ O)<|rStR 1 sz37 O<|G O<|W<|qC _ (Weak.mem [false,true,false,true,true] O)<|zO<|fin2 (zZ yO O (J 0 O) O) (rs_c O) ?_
     exact ⟨by rw [hT];first|(rw [zNf (by omega)];rfl)|(rw [zNe (by omega)];rfl)|(rw [zNd (by omega)];rfl)|(rw [zNc (by omega)];rfl)|(rw [zGb (by omega)];rfl)|(rw [zFz (by omega)];rfl)|(rw [zGa (by omega)];rfl)|(rw [zNb (by omega)];rfl),[_],O⟩
    ·try simp only [sx] at c5
     refine Y O<|yK O<|G O<|W<|zH O (fun c6=>?_) (fun c6=>?_)
     ·try simp only [sx] at c6
      refine Y O<|G O<|zP yG (J 2 O) O<|qA O (kF [3,3] O ok209 (typer_read b mb p m e hP he) ⟨U,O,U,O,T⟩ O)<|qA O (yA O O O)<|yX O<|rStR 1 sz37 O<|G O<|W<|qC _ (Weak.mem [false,true,false,true,true] O)<|zO<|fin2 (zZ yO O (J 0 O) O) (rs_c O) ?_
      exact ⟨by rw [hT];first|(rw [zNf (by omega)];rfl)|(rw [zNe (by omega)];rfl)|(rw [zNd (by omega)];rfl)|(rw [zNc (by omega)];rfl)|(rw [zGb (by omega)];rfl)|(rw [zFz (by omega)];rfl)|(rw [zGa (by omega)];rfl)|(rw [zNb (by omega)];rfl),[_],O⟩
     ·try simp only [sx] at c6
      refine Y O<|yK O<|G O<|W<|zH O (fun c7=>?_) (fun c7=>?_)
      ·try simp only [sx] at c7
       have hlen1:=args_len hpart (by omega)
       refine Y O<|G O<|qA O (qZ 0 O zEd O O O (by omega) (by simp only [List.length_map];omega))<|zP yO (wP 0 O (hg 0 (by omega))) O<|rStR 1 sz37 O<|G O<|W<|qC _ (Weak.mem [false,true,false,true,true] O)<|zO<|fin2 (zZ yO O (J 0 O) O) (rs_c O) ?_
       exact ⟨by rw [hT];first|(rw [zNf (by omega)];rfl)|(rw [zNe (by omega)];rfl)|(rw [zNd (by omega)];rfl)|(rw [zNc (by omega)];rfl)|(rw [zGb (by omega)];rfl)|(rw [zFz (by omega)];rfl)|(rw [zGa (by omega)];rfl)|(rw [zNb (by omega)];rfl),[_],O⟩
      ·try simp only [sx] at c7
       refine Y O<|yK O<|G O<|W<|zH O (fun c8=>?_) (fun c8=>?_)
       ·try simp only [sx] at c8
        have hlen3:=args_len3 hpart c8
        refine zM<|qW 11 mixed (by kernel_rfl) O O<|zQ O O (zS O O)<|zQ O O (qZ 0 O zEd O O O (by omega) (by simp only [List.length_map];omega))<|zQ O O (zU O yO O (wP 0 O (hg 1 (by omega))) O)<|zQ O O (zS O O)<|zQ O O (zS O O)<|zQ O O (qZ 0 O zEd O O O (by omega) (by simp only [List.length_map];omega))<|zQ O O (zU O yO O (wP 0 O (hg 1 (by omega))) O)<|zQ O O (zS O O)<|zQ O O (qZ 0 O zEd O O O (by omega) (by simp only [List.length_map];omega))<|zQ O O (zU O yO O (wP 0 O (hg 2 (by omega))) O)<|zQ O O (zCm O O ok207 (zFr _ _) ⟨U,O,U,O,T⟩)<|yR<|rStR 1 sz37 O<|G O<|W<|qC _ (Weak.mem [false,true,false,true,true] O)<|zO<|fin2 (zZ yO O (J 0 O) O) (rs_c O) ?_
        exact ⟨by rw [hT];first|(rw [zNf (by omega)];rfl)|(rw [zNe (by omega)];rfl)|(rw [zNd (by omega)];rfl)|(rw [zNc (by omega)];rfl)|(rw [zGb (by omega)];rfl)|(rw [zFz (by omega)];rfl)|(rw [zGa (by omega)];rfl)|(rw [zNb (by omega)];rfl),[_],O⟩
       ·try simp only [sx] at c8
        refine zM<|Y O<|yK O<|G O<|W<|zH O (fun c9=>?_) (fun c9=>?_)
        ·try simp only [sx] at c9
         refine zN<|zH O (fun c11=>?_) (fun c11=>?_)
         ·try simp only [sx] at c11
          refine Y O<|yN O zr37 pl37<|rStR 1 sz37 O<|G O<|W<|qC _ (Weak.mem [false,true,false,true,true] O)<|zO<|fin2 (zZ yO O (J 0 O) O) (rs_c O) ?_
          exact ⟨by rw [hT];first|(rw [zNf (by omega)];rfl)|(rw [zNe (by omega)];rfl)|(rw [zNd (by omega)];rfl)|(rw [zNc (by omega)];rfl)|(rw [zGb (by omega)];rfl)|(rw [zFz (by omega)];rfl)|(rw [zGa (by omega)];rfl)|(rw [zNb (by omega)];rfl),[_],O⟩
         ·try simp only [sx] at c11
          exact absurd c9 c11
        ·try simp only [sx] at c9
         refine Y O<|yK O<|G O<|W<|zH O (fun c10=>?_) (fun c10=>?_)
         ·try simp only [sx] at c10
          refine zN<|zH O (fun c11=>?_) (fun c11=>?_)
          ·try simp only [sx] at c11
           refine Y O<|yN O zr37 pl37<|rStR 1 sz37 O<|G O<|W<|qC _ (Weak.mem [false,true,false,true,true] O)<|zO<|fin2 (zZ yO O (J 0 O) O) (rs_c O) ?_
           exact ⟨by rw [hT];first|(rw [zNf (by omega)];rfl)|(rw [zNe (by omega)];rfl)|(rw [zNd (by omega)];rfl)|(rw [zNc (by omega)];rfl)|(rw [zGb (by omega)];rfl)|(rw [zFz (by omega)];rfl)|(rw [zGa (by omega)];rfl)|(rw [zNb (by omega)];rfl),[_],O⟩
          ·try simp only [sx] at c11
           exact absurd c10 c11
         ·try simp only [sx] at c10
          refine zT O<|yK O<|G O<|W<|zH O (fun c11=>?_) (fun c11=>?_)
          ·try simp only [sx] at c11
           refine Y O<|yN O zr37 pl37<|rStR 1 sz37 O<|G O<|W<|qC _ (Weak.mem [false,true,false,true,true] O)<|zO<|fin2 (zZ yO O (J 0 O) O) (rs_c O) ?_
           exact ⟨by rw [hT];first|(rw [zNf (by omega)];rfl)|(rw [zNe (by omega)];rfl)|(rw [zNd (by omega)];rfl)|(rw [zNc (by omega)];rfl)|(rw [zGb (by omega)];rfl)|(rw [zFz (by omega)];rfl)|(rw [zGa (by omega)];rfl)|(rw [zNb (by omega)];rfl),[_],O⟩
          ·try simp only [sx] at c11
           refine zM<|Y O<|yK O<|G O<|W<|zH O (fun c12=>?_) (fun c12=>?_)
           ·try simp only [sx] at c12
            refine zN<|zH O (fun c14=>?_) (fun c14=>?_)
            ·try simp only [sx] at c14
             have hlen2:=zIe hpart (by omega)
             refine zM<|qW 9 mixed (by kernel_rfl) O O<|zQ O O (kW O zr37 pl37 O)<|zQ O O (zS O O)<|zQ O O (zS O O)<|zQ O O (qZ 0 O zEd O O O (by omega) (by simp only [List.length_map];omega))<|zQ O O (zU O yO O (wP 0 O (hg 0 (by omega))) O)<|zQ O O (zS O O)<|zQ O O (qZ 0 O zEd O O O (by omega) (by simp only [List.length_map];omega))<|zQ O O (zU O yO O (wP 0 O (hg 1 (by omega))) O)<|zQ O O (zCm O O ok207 (zFr _ _) ⟨U,O,U,O,T⟩)<|yR<|rStR 1 sz37 O<|G O<|W<|qC _ (Weak.mem [false,true,false,true,true] O)<|zO<|fin2 (zZ yO O (J 0 O) O) (rs_c O) ?_
             exact ⟨by rw [hT];first|(rw [zNf (by omega)];rfl)|(rw [zNe (by omega)];rfl)|(rw [zNd (by omega)];rfl)|(rw [zNc (by omega)];rfl)|(rw [zGb (by omega)];rfl)|(rw [zFz (by omega)];rfl)|(rw [zGa (by omega)];rfl)|(rw [zNb (by omega)];rfl),[_],O⟩
            ·try simp only [sx] at c14
             exact absurd c12 c14
           ·try simp only [sx] at c12
            refine Y O<|yK O<|G O<|W<|zH O (fun c13=>?_) (fun c13=>?_)
            ·try simp only [sx] at c13
             refine zN<|zH O (fun c14=>?_) (fun c14=>?_)
             ·try simp only [sx] at c14
              have hlen2:=zIe hpart (by omega)
              refine zM<|qW 9 mixed (by kernel_rfl) O O<|zQ O O (kW O zr37 pl37 O)<|zQ O O (zS O O)<|zQ O O (zS O O)<|zQ O O (qZ 0 O zEd O O O (by omega) (by simp only [List.length_map];omega))<|zQ O O (zU O yO O (wP 0 O (hg 0 (by omega))) O)<|zQ O O (zS O O)<|zQ O O (qZ 0 O zEd O O O (by omega) (by simp only [List.length_map];omega))<|zQ O O (zU O yO O (wP 0 O (hg 1 (by omega))) O)<|zQ O O (zCm O O ok207 (zFr _ _) ⟨U,O,U,O,T⟩)<|yR<|rStR 1 sz37 O<|G O<|W<|qC _ (Weak.mem [false,true,false,true,true] O)<|zO<|fin2 (zZ yO O (J 0 O) O) (rs_c O) ?_
              exact ⟨by rw [hT];first|(rw [zNf (by omega)];rfl)|(rw [zNe (by omega)];rfl)|(rw [zNd (by omega)];rfl)|(rw [zNc (by omega)];rfl)|(rw [zGb (by omega)];rfl)|(rw [zFz (by omega)];rfl)|(rw [zGa (by omega)];rfl)|(rw [zNb (by omega)];rfl),[_],O⟩
             ·try simp only [sx] at c14
              exact absurd c13 c14
            ·try simp only [sx] at c13
             refine zT O<|yK O<|G O<|W<|zH O (fun c14=>?_) (fun c14=>?_)
             ·try simp only [sx] at c14
              have hlen2:=zIe hpart (by omega)
              refine zM<|qW 9 mixed (by kernel_rfl) O O<|zQ O O (kW O zr37 pl37 O)<|zQ O O (zS O O)<|zQ O O (zS O O)<|zQ O O (qZ 0 O zEd O O O (by omega) (by simp only [List.length_map];omega))<|zQ O O (zU O yO O (wP 0 O (hg 0 (by omega))) O)<|zQ O O (zS O O)<|zQ O O (qZ 0 O zEd O O O (by omega) (by simp only [List.length_map];omega))<|zQ O O (zU O yO O (wP 0 O (hg 1 (by omega))) O)<|zQ O O (zCm O O ok207 (zFr _ _) ⟨U,O,U,O,T⟩)<|yR<|rStR 1 sz37 O<|G O<|W<|qC _ (Weak.mem [false,true,false,true,true] O)<|zO<|fin2 (zZ yO O (J 0 O) O) (rs_c O) ?_
              exact ⟨by rw [hT];first|(rw [zNf (by omega)];rfl)|(rw [zNe (by omega)];rfl)|(rw [zNd (by omega)];rfl)|(rw [zNc (by omega)];rfl)|(rw [zGb (by omega)];rfl)|(rw [zFz (by omega)];rfl)|(rw [zGa (by omega)];rfl)|(rw [zNb (by omega)];rfl),[_],O⟩
             ·try simp only [sx] at c14
              have hlen2:=zIe hpart (by omega)
              refine zN<|zM<|qW 11 mixed (by kernel_rfl) O O<|zQ O O (zS O O)<|zQ O O (qZ 0 O zEd O O O (by omega) (by simp only [List.length_map];omega))<|zQ O O (zU O yO O (wP 0 O (hg 0 (by omega))) O)<|zQ O O (zS O O)<|zQ O O (zS O O)<|zQ O O (qZ 0 O zEd O O O (by omega) (by simp only [List.length_map];omega))<|zQ O O (zU O yO O (wP 0 O (hg 0 (by omega))) O)<|zQ O O (zS O O)<|zQ O O (qZ 0 O zEd O O O (by omega) (by simp only [List.length_map];omega))<|zQ O O (zU O yO O (wP 0 O (hg 1 (by omega))) O)<|zQ O O (zCm O O ok207 (zFr _ _) ⟨U,O,U,O,T⟩)<|yR<|rStR 1 sz37 O<|G O<|W<|qC _ (Weak.mem [false,true,false,true,true] O)<|zO<|fin2 (zZ yO O (J 0 O) O) (rs_c O) ?_
              exact ⟨by rw [hT];first|(rw [zNf (by omega)];rfl)|(rw [zNe (by omega)];rfl)|(rw [zNd (by omega)];rfl)|(rw [zNc (by omega)];rfl)|(rw [zGb (by omega)];rfl)|(rw [zFz (by omega)];rfl)|(rw [zGa (by omega)];rfl)|(rw [zNb (by omega)];rfl),[_],O⟩
theorem typer_of (b mb:Nat) (p:Pg) (m:Kn) (hP:p.Ok) (e:Ex) (hpart:dQ e=0) (he:e.wt<=4294967296):Con cfg 156 [vP b,vE e] (tyE b mb p m) fun r μ'=>r=.tup [vTy (bE (ofN p.en (kn m)) e).1,vI (bE (ofN p.en (kn m)) e).2]/\μ'=tyE b mb p m:=by
  induction e using Ex.ind with
  |_ e ih=>exact typer_of_step b mb p m hP e (fun a ha h1 h2=>ih a ha h1 h2) hpart he
theorem program_TypeOf (p:Pg) (vars:List ByteArray) (e:Ex) (hP:p.Ok) (hv:vars.length<=4294967296) (he:e.wt<=4294967296):
    Pur cfg 88 [vPg p,vSs vars,vE e] (.tup [vTy (fM p.en vars e).1,vI (fM p.en vars e).2]):=by
 refine zW Tryz.func88 O Tryz.ntmps88 Tryz.results88 O ?_
 intro z hz
 have hsz:=hP.sizes
 refine Y O<|zY O O (qN O O) ?_
 rintro _ _ ⟨b1,rfl,rfl⟩
 refine zY O O (qN O O) ?_
 rintro _ _ ⟨b2,rfl,rfl⟩
 refine zY O O (yJ O zr37) ?_
 rintro _ _ ⟨b3,rfl,rfl⟩
 refine G O<|W<|zM<|Y O<|zP yG (J 1 O) O<|qQ O ok113 (zEc e (by omega)) ⟨U,O,T⟩<|G O<|W<|Y O<|G O<|yW O<|W<|zH O (fun c1=>?_) (fun c1=>?_)
 ·try simp only [sx] at c1
  refine Y O<|yN O zr37 pl37<|G O<|rStR 0 sz37 O<|G O<|W<|zO<|fin2 (zZ yO O (J 0 O) O) (rs_c O) ?_
  rw [typeT_bad c1];rfl
 ·try simp only [sx] at c1
  refine zN<|zM<|Y O<|zP yG (J 1 O) O<|qQ O ok155 (zHf e) ⟨U,O,T⟩<|W<|zH O (fun c2=>?_) (fun c2=>?_)
  ·try simp only [sx] at c2
   refine Y O<|yN O zr37 pl37<|rStR 0 sz37 O<|G O<|W<|zO<|fin2 (zZ yO O (J 0 O) O) (rs_c O) ?_
   rw [typeT_cond c1 c2];rfl
  ·try simp only [sx] at c2
   refine zN<|Y O<|zP wY (J 2 O) O<|zY O O (zQz vI O O) ?_
   rintro _ _ ⟨b4,rfl,rfl⟩
   refine yN O zr196 pl196<|zY O O (qN O O) ?_
   rintro _ _ ⟨b5,rfl,rfl⟩
   refine G O<|W<|zM<|Y O<|zF O zCl<|zK zBn (J 4 O) O<|qB O el22<|G O<|W<|zR<|qC ⟨[(32,.c _),(1,.c _),(5,.c _),(6,.c _),(9,.c _),(30,.c _),(31,.c _)],[_,_,_,_]⟩ (Weak.mk [true,true,true,true,false] ⟨U,U,U,U,U,U,U,T⟩ O)<|qG 1 2 O O (Nat) (fun k=>[(32,vI k)]) (fun k=>[pM 196 b5 b4 p,E.blk b4 (MapR vI (gK [] (p.Sizes.take k) 1))]) (fun k=>k<=p.Sizes.length) (fun k=>p.Sizes.length-k) ⟨0,(by omega),Weak.mk [true,true,true,true] ⟨U,U,U,U,U,U,U,T⟩ O⟩ ?_
   rintro k hk
   refine Y O<|yI O<|W<|zM<|zH O (fun c3=>?_) (fun c3=>?_)
   ·try simp only [sx] at c3
    obtain ⟨x,hx⟩:=qU p.Sizes k (by omega)
    refine zN<|zM<|zR<|Y O<|qJ O el22 (by omega) (getm (by assumption))<|zK one9 qE O<|G O<|W<|zT O<|G O<|qA O (kC O O)<|zF O fd196_1<|zK zNx (J 0 O) O<|G O<|zFa O O (zIu 1 1 O sm118 O O O (U) O)<|W<|zT O<|qK O ⟨by omega,by omega⟩<|G O<|W ?_
    refine ⟨k+1,(by omega),(by omega),Weak.mk [true,true,true,true] ⟨U,U,U,U,U,U,U,T⟩ (by show _=[pM 196 b5 b4 p,E.blk b4 (MapR vI (gK [] (p.Sizes.take (k+1)) 1))]++_;rw [zKx hx];rfl)⟩
   ·try simp only [sx] at c3
    rw [qY (l:=p.Sizes) (k:=k) (by omega)]
    refine qO<|zM<|Y O<|G O<|qB O el22<|G O<|W<|zR<|qC ⟨[(44,.c _),(5,.c _),(6,.c _),(9,.c _),(42,.c _),(43,.c _)],[_,_,_,_]⟩ (Weak.mk [true,true,true,true] ⟨U,U,U,U,U,U,T⟩ O)<|qG 1 2 O O (Nat) (fun j=>[(44,vI j)]) (fun j=>[pM 196 b5 b4 p,E.blk b4 (MapR vI (gK (gK [] p.Sizes 1) (vars.take j) 3))]) (fun j=>j<=vars.length) (fun j=>vars.length-j) ⟨0,(by omega),Weak.mk [true,true,true,true] ⟨U,U,U,U,U,U,T⟩ O⟩ ?_
    rintro j hj
    refine Y O<|yI O<|W<|zM<|zH O (fun c4=>?_) (fun c4=>?_)
    ·try simp only [sx] at c4
     obtain ⟨y,hy⟩:=qU vars j (by omega)
     refine zN<|zM<|zR<|Y O<|qJ O el22 (by omega) (getm (by assumption))<|zK one9 qE O<|G O<|W<|zT O<|G O<|qA O (kC O O)<|zF O fd196_1<|zK zNx (J 0 O) O<|G O<|zFa O O (zIu 1 3 O sm118 O O O (U) O)<|W<|zT O<|qK O ⟨by omega,by omega⟩<|G O<|W ?_
     refine ⟨j+1,(by omega),(by omega),Weak.mk [true,true,true,true] ⟨U,U,U,U,U,U,T⟩ (by show _=[pM 196 b5 b4 p,E.blk b4 (MapR vI (gK (gK [] p.Sizes 1) (vars.take (j+1)) 3))]++_;rw [zKx hy];rfl)⟩
    ·try simp only [sx] at c4
     rw [qY (l:=vars) (k:=j) (by omega)]
     have hTo:=typeT_of (n:=p.en) (kn_tab p.Sizes vars) c1 c2
     refine qO<|Y O<|G O<|zP yG (J 3 O) O<|qA O (kF [0,0] O ok156 (typer_of b5 b4 p _ hP e (wS c1) he) ⟨U,O,U,O,T⟩ O)<|yH O<|qA O (yA O O O)<|yX O<|zY O O (yJ O zr37) ?_
     rintro _ _ ⟨b6,rfl,rfl⟩
     refine rStR 0 sz37 O<|G O<|W<|zM<|Y O<|G O<|yW O<|W<|zH O (fun c5=>?_) (fun c5=>?_)
     ·try simp only [sx] at c5
      refine Y O<|yN O zr37 pl37<|G O<|rStR 3 sz37 O<|G O<|W<|zO<|fin2 (zZ yO O (J 3 O) O) (rs_c O) ?_
      rw [hTo,if_neg c5];rfl
     ·try simp only [sx] at c5
      refine zN<|Y O<|zP yO (J 0 O) O<|rStR 3 sz37 O<|G O<|W<|zO<|fin2 (zZ yO O (J 3 O) O) (rs_c O) ?_
      rw [hTo,if_pos c5];rfl
end Go.W
