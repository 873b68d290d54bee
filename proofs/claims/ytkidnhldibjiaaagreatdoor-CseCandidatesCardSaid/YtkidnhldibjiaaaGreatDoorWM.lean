/-
  Walks: what functions of the program compute. Printed by wip/gen/mk2.py.
  Conditions: none.
-/
import Derived.Test.YtkidnhldibjiaaaGreatDoorWL
import Derived.Test.YtkidnhldibjiaaaGreatDoorPlain
set_option linter.unusedSimpArgs false
set_option linter.unusedVariables false
set_option maxRecDepth 10000
namespace Go.W
open Go Go.Eng Go.Proofs Go.L41 Go.Br
attribute [local irreducible] AWP RWP TD finQ
theorem zCy:elemT Tryz.prog 231=some (37,5,40):=by kernel_rfl
theorem ok156:callOk Tryz.prog 156=true:=by kernel_rfl
theorem ok207:callOk Tryz.prog 207=true:=by kernel_rfl
theorem ok209:callOk Tryz.prog 209=true:=by kernel_rfl
theorem ok252:callOk Tryz.prog 252=true:=by kernel_rfl
theorem pl196:placesT Tryz.prog 196=some [(0,5),(5,1)]:=by kernel_rfl
theorem zr196:zeroT Tryz.prog 196=some [(Value.slice none 0 0),(Value.slice none 0 0),(Value.slice none 0 0),(Value.slice none 0 0),(Value.slice none 0 0),(Value.map none)]:=by kernel_rfl
theorem typer_read (b mb:Nat) (p:Pg) (m:Kn) (e:Ex) (hP:p.Ok) (he:e.wt<=4294967296):
    Con cfg 209 [vP b,vE e] (tyE b mb p m) fun r μ'=>r=.tup [vTy (readK p.en (kn m) e).1,vI (readK p.en (kn m) e).2]/\μ'=tyE b mb p m:=by
 refine Con.drop<|zR Tryz.func209 O Tryz.ntmps209 Tryz.results209 O ?_
 intro z hz
 obtain ⟨hLl,hIl,hAl⟩:=e.parts he
 have hwt:=Ex.wt_eq e
 refine G O<|zS O O (qG O O) ?_
 rintro _ _ ⟨b1,rfl,rfl⟩
 refine zS O O (yB O zr37) ?_
 rintro _ _ ⟨b2,rfl,rfl⟩
 refine Y O<|W<|zG<|zQi 12 14 [.q,.q,.q,.q,.q,.q,.q,.q,.q,.u,.u,.f]  mixed (by kernel_rfl) O O O<|kK O O (zQ O O)<|kK O O (yU O O)<|kK O O (zF O fd196_0 O)<|kK O O (zT O wC O (J 2 O) O)<|kK O O (zF O zFm O)<|kK O O (zK O one9 O (J 1 O) O)<|kK O O (qH O ok251 (zLr p e.Name hP) ⟨U,O,U,O,T⟩)<|kK O O (yE O O)<|kK O O (kA O O O)<|zIt O O (yP O O O)<|zIt O O (yP O O O)<|zMr<|tdq_nil<|zAy<|zAy<|zAy<|zAy<|zAy<|zAy<|zAy<|zAy<|zAy<|tdf_u<|tdf_u<|zIu (zBo (yB O zr37))<|tdf_nil<|zHe ?_
 rintro _ _ ⟨b3,rfl,rfl⟩
 refine zJw ?_
 refine ⟨_,kU O sz37 O O O (zHi 0 O O),(by rintro _ _ ⟨rfl,rfl⟩;exact ⟨[_],rfl⟩),?_⟩
 rintro _ _ ⟨rfl,rfl⟩
 refine zM O O (yV O O)<|yT<|Y O<|W<|zG<|G O<|Y O<|wD O<|W<|zE O (fun c1=>?_) (fun c1=>?_)
 ·try simp only [sx] at c1
  refine G O<|yW O zr37 pl37<|N 1 sz37 O<|Y O<|W<|zU _ (Weak.mem [false,true,false,true,true] O)<|zJ<|fin2 (qF yD O (J 0 O) O) (v O) ?_
  exact ⟨by rw [readK_9 c1];rfl,[_],O⟩
 ·try simp only [sx] at c1
  refine zI<|zG<|G O<|zD O kC<|zH wK (J 2 O) O<|zV O el41<|Y O<|zV O el65<|yR O<|W<|zE O (fun c2=>?_) (fun c2=>?_)
  ·try simp only [sx] at c2
   refine G O<|yW O zr37 pl37<|N 1 sz37 O<|Y O<|W<|zU _ (Weak.mem [false,true,false,true,true] O)<|zJ<|fin2 (qF yD O (J 0 O) O) (v O) ?_
   exact ⟨by rw [readK_11 c1 (by omega)];rfl,[_],O⟩
  ·try simp only [sx] at c2
   refine zI<|zG<|G O<|zD O kC<|zH wK (J 2 O) O<|zV O el41<|Y O<|W<|zN<|zU ⟨[(36,.c _),(0,.c _),(4,.c _),(6,.c _),(34,.c _),(35,.c _)],[_,_,_,_]⟩ (Weak.mk [true,true,false,true,true] ⟨U,U,U,U,U,U,T⟩ O)<|qA 1 0 O O (Nat) (fun k=>[(36,vI k)]) (fun k=>[]) (fun k=>k<=e.Idx.length/\(indexL p.en (kn m) e.Idx=indexL p.en (kn m) (e.Idx.drop k))) (fun k=>e.Idx.length-k) ⟨0,⟨by omega,O⟩,Weak.mk [true,true,true,true] ⟨U,U,U,U,U,U,T⟩ O⟩ ?_
   rintro k ⟨hk,hp⟩
   refine G O<|qW O<|W<|zG<|zE O (fun c3=>?_) (fun c3=>?_)
   ·try simp only [sx] at c3
    obtain ⟨x,hx⟩:=qP e.Idx k (by omega)
    refine zI<|zG<|zN<|G O<|zZ O el41 (by omega) (getm (by assumption))<|zL zAx zY O<|zS O O (qD [none,some 2,none,some 2] O zDp O) ?_
    rintro _ _ ⟨b4,rfl,rfl⟩
    refine N 0 zNp O<|W<|G O<|Y O<|zL zAx (J 0 O) O<|zX O (yQ [3,3] O ok252 (typer_index b mb p m x hP (by have:=zDl (zW hx);omega)) ⟨U,O,U,O,T⟩ O)<|Y O<|W<|G O<|Y O<|yR O<|W<|zE O (fun c4=>?_) (fun c4=>?_)
    ·try simp only [sx] at c4
     refine G O<|yW O zr37 pl37<|Y O<|N 2 sz37 O<|Y O<|W<|zU _ (Weak.mem [false,false,true,true,true] O)<|zJ<|fin2 (qF yD O (J 0 O) O) (v O) ?_
     exact ⟨by rw [readK_x c1 (by omega) (by rw [hp,zPd hx c4];exact c4),hp,zPd hx c4];rfl,[_],O⟩
    ·try simp only [sx] at c4
     refine zI<|zO O<|qB O ⟨by omega,by omega⟩<|Y O<|W ?_
     refine ⟨k+1,⟨by omega,hp.trans (zIg hx c4)⟩,(by omega),Weak.mk [false,true,true,true,true] ⟨U,U,U,U,U,U,T⟩ O⟩
   ·try simp only [sx] at c3
    refine qE<|G O<|zL yD (J 0 O) O<|N 1 sz37 O<|Y O<|W<|zU _ (Weak.mem [false,true,true,true] O)<|zJ<|fin2 (qF yD O (J 0 O) O) (v O) ?_
    exact ⟨by rw [readK_0 c1 (by omega) (by rw [hp,wE (by omega)];rfl)];rfl,[_],O⟩
theorem zEa (a b:Ty):
    Pur cfg 207 [vTy a,vTy b] (vI (unlike a b)):=by
 refine zR Tryz.func207 O Tryz.ntmps207 Tryz.results207 O ?_
 intro z hz
 refine G O<|zS O O (qG O O) ?_
 rintro _ _ ⟨b1,rfl,rfl⟩
 refine zS O O (qG O O) ?_
 rintro _ _ ⟨b2,rfl,rfl⟩
 refine Y O<|W<|zG<|G O<|zL yD (J 1 O) O<|zL yD (J 0 O) O<|zX O (zBf O fl37 O O O)<|W<|zE O (fun c1=>?_) (fun c1=>?_)
 ·have hu:=unlike_10 (zIr c1)
  refine G O<|Y O<|W<|zJ<|zP O ?_
  rw [hu]
 ·have hu:=unlike_0 (zGq c1)
  refine zI<|G O<|Y O<|W<|zJ<|zP O ?_
  rw [hu]
theorem typer_of_step (b mb:Nat) (p:Pg) (m:Kn) (hP:p.Ok) (e:Ex) (ih:∀a,a∈e.Args->partE a=0->a.wt<=4294967296->Con cfg 156 [vP b,vE a] (tyE b mb p m) fun r μ'=>r=.tup [vTy (nodeT (ofN p.en (kn m)) a).1,vI (nodeT (ofN p.en (kn m)) a).2]/\μ'=tyE b mb p m) (hpart:partE e=0) (he:e.wt<=4294967296):
    Con cfg 156 [vP b,vE e] (tyE b mb p m) fun r μ'=>r=.tup [vTy (nodeT (ofN p.en (kn m)) e).1,vI (nodeT (ofN p.en (kn m)) e).2]/\μ'=tyE b mb p m:=by
 refine Con.drop<|zR Tryz.func156 O Tryz.ntmps156 Tryz.results156 O ?_
 intro z hz
 obtain ⟨hLl,hIl,hAl⟩:=e.parts he
 have hwt:=Ex.wt_eq e
 refine G O<|zS O O (qG O O) ?_
 rintro _ _ ⟨b1,rfl,rfl⟩
 refine zS O O (yB O zr37) ?_
 rintro _ _ ⟨b2,rfl,rfl⟩
 refine Y O<|W<|G O<|Y O<|qV _ (yH 37 5)<|W<|zG<|G O<|zD O kG<|zH wS (J 2 O) O<|zV O el42<|Y O<|W<|zN<|zU ⟨[(15,.c _),(6,.c _),(0,.c _),(3,.c _),(4,.c _),(13,.c _),(14,.c _)],[_,_,_,_,_]⟩ (Weak.mk [true,true,true,true,true] ⟨U,U,U,U,U,U,U,T⟩ O)<|qA 2 1 O O (Nat×Value) (fun ⟨k,sv⟩=>[(15,vI k),(6,.c (.lit sv))]) (fun ⟨k,sv⟩=>[E.vec sv 37 5 ((nodeL (ofN p.en (kn m)) (e.Args.take k)).1.map tyC)]) (fun ⟨k,sv⟩=>k<=e.Args.length/\((nodeL (ofN p.en (kn m)) (e.Args.take k)).2=0)) (fun ⟨k,sv⟩=>e.Args.length-k) ⟨⟨0,(.slice none 0 0)⟩,⟨by omega,O⟩,Weak.mk [true,true,true,true,true] ⟨U,U,U,U,U,U,U,T⟩ O⟩ ?_
 rintro ⟨k,sv⟩ ⟨hk,hp⟩
 show AWP _ _ _ _ _ ⟨[(15,vI k),(6,.c (.lit sv))]++_,[E.vec sv 37 5 ((nodeL (ofN p.en (kn m)) (e.Args.take k)).1.map tyC)]++_⟩
 refine G O<|qW O<|W<|zG<|zE O (fun c1=>?_) (fun c1=>?_)
 ·try simp only [sx] at c1
  obtain ⟨x,hx⟩:=qP e.Args k (by omega)
  have hll:=zFz _ _ hp
  refine zI<|zG<|zN<|G O<|zZ O el42 (by omega) (zBr (by assumption))<|zL qZ zY O<|zS O O (qD [none,none,none,none,none,none,none,none,none,none,some 2,some 4,some 13] O zr44 O) ?_
  rintro _ _ ⟨b4,rfl,rfl⟩
  refine N 0 sz44 O<|W<|G O<|Y O<|zL qZ (J 0 O) O<|zX O (yQ [4,4] O ok156 (ih x (zW hx) (zOi hpart (zW hx)) (by have:=Ex.arg_wt (zW hx);omega)) ⟨U,O,U,O,T⟩ O)<|zX O (yE O O)<|zX O (kA O O O)<|zX O (yP O O O)<|zS O O (yB O zr37) ?_
  rintro _ _ ⟨b5,rfl,rfl⟩
  refine N 0 sz37 O<|Y O<|W<|zG<|G O<|Y O<|yR O<|W<|zE O (fun c2=>?_) (fun c2=>?_)
  ·try simp only [sx] at c2
   refine G O<|yW O zr37 pl37<|Y O<|N 3 sz37 O<|Y O<|W<|zU _ (Weak.mem [false,false,false,true,false,true,true] O)<|zJ<|fin2 (qF yD O (J 0 O) O) (v O) ?_
   exact ⟨by rw [nodeT_no hx hp c2];rfl,[_],O⟩
  ·try simp only [sx] at c2
   refine zI<|zO O<|Y O<|zL yD (J 0 O) O<|qX O zCy zr37<|zS O O (qO 2 O zCy O O O (by simp only [List.length_map,List.length_cons,List.length_nil,hll,List.length_take];omega) (by simp only [List.length_map,List.length_cons,List.length_nil,hll,List.length_take];omega)) ?_
   rintro _ _ ⟨sv6,rfl,rfl⟩
   refine Y O<|W<|zO O<|qB O ⟨by omega,by omega⟩<|Y O<|W ?_
   refine ⟨⟨k+1,sv6⟩,⟨by omega,by rw [zGu hx hp c2]⟩,(by show e.Args.length-(k+1)<e.Args.length-k;omega),Weak.mk [false,false,true,true,true,true,true] ⟨U,U,U,U,U,U,U,T⟩ (by show _=[E.vec sv6 _ 5 ((nodeL (ofN p.en (kn m)) (e.Args.take (k+1))).1.map tyC)]++_;rw [zGu hx hp c2];simp only [List.map_append];rfl)⟩
 ·try simp only [sx] at c1
  have hll:=zFz _ _ hp
  have hta:e.Args.take k=e.Args:=qS (by omega)
  rw [hta] at hll
  have hg:∀i,i<e.Args.length->((nodeL (ofN p.en (kn m)) (e.Args.take k)).1.map tyC)[i]? =some (tyC (tyAt (nodeL (ofN p.en (kn m)) (e.Args.take k)).1 i)):=fun i hi=>tyAt_get (by rw [hta];omega)
  have hT:nodeT (ofN p.en (kn m)) e=(ofN p.en (kn m)) e (nodeL (ofN p.en (kn m)) (e.Args.take k)).1:=nodeT_ok hta hp
  have hlk:(nodeL (ofN p.en (kn m)) (e.Args.take k)).1.length=e.Args.length:=by rw [hta];exact hll
  refine qE<|G O<|Y O<|W<|zG<|G O<|zD O yY<|zH one3 (J 2 O) O<|W<|zN<|zG<|G O<|yG O<|Y O<|W<|zE O (fun c3=>?_) (fun c3=>?_)
  ·try simp only [sx] at c3
   refine zI<|zE O (fun c4=>?_) (fun c4=>?_)
   ·try simp only [sx] at c4
    refine G O<|zD O zEm<|zL yD (J 2 O) O<|N 1 sz37 O<|Y O<|W<|zU _ (Weak.mem [false,true,false,true,true] O)<|zJ<|fin2 (qF yD O (J 0 O) O) (v O) ?_
    exact ⟨by rw [hT];first|(rw [zKv (by omega)];rfl)|(rw [zKu (by omega)];rfl)|(rw [zJe (by omega)];rfl)|(rw [zKt (by omega)];rfl)|(rw [zEi (by omega)];rfl)|(rw [zEg (by omega)];rfl)|(rw [zEh (by omega)];rfl)|(rw [zKs (by omega)];rfl),[_],O⟩
   ·try simp only [sx] at c4
    exact absurd c3 c4
  ·try simp only [sx] at c3
   refine zO O<|yG O<|Y O<|W<|zE O (fun c4=>?_) (fun c4=>?_)
   ·try simp only [sx] at c4
    refine G O<|zD O zEm<|zL yD (J 2 O) O<|N 1 sz37 O<|Y O<|W<|zU _ (Weak.mem [false,true,false,true,true] O)<|zJ<|fin2 (qF yD O (J 0 O) O) (v O) ?_
    exact ⟨by rw [hT];first|(rw [zKv (by omega)];rfl)|(rw [zKu (by omega)];rfl)|(rw [zJe (by omega)];rfl)|(rw [zKt (by omega)];rfl)|(rw [zEi (by omega)];rfl)|(rw [zEg (by omega)];rfl)|(rw [zEh (by omega)];rfl)|(rw [zKs (by omega)];rfl),[_],O⟩
   ·try simp only [sx] at c4
    refine G O<|yG O<|Y O<|W<|zE O (fun c5=>?_) (fun c5=>?_)
    ·try simp only [sx] at c5
     refine G O<|yW O zr37 pl37<|Y O<|zD O zCo<|zL kF (J 2 O) O<|zX O (yQ [3,3] O ok208 (zKg b mb p m e.Lin hLl) ⟨U,O,U,O,T⟩ O)<|N 1 sz37 O<|Y O<|W<|zU _ (Weak.mem [false,true,false,true,true] O)<|zJ<|fin2 (qF yD O (J 0 O) O) (v O) ?_
     exact ⟨by rw [hT];first|(rw [zKv (by omega)];rfl)|(rw [zKu (by omega)];rfl)|(rw [zJe (by omega)];rfl)|(rw [zKt (by omega)];rfl)|(rw [zEi (by omega)];rfl)|(rw [zEg (by omega)];rfl)|(rw [zEh (by omega)];rfl)|(rw [zKs (by omega)];rfl),[_],O⟩
    ·try simp only [sx] at c5
     refine G O<|yG O<|Y O<|W<|zE O (fun c6=>?_) (fun c6=>?_)
     ·try simp only [sx] at c6
      refine G O<|Y O<|zL qZ (J 2 O) O<|zX O (yQ [3,3] O ok209 (typer_read b mb p m e hP he) ⟨U,O,U,O,T⟩ O)<|zX O (kA O O O)<|zX O (yP O O O)<|N 1 sz37 O<|Y O<|W<|zU _ (Weak.mem [false,true,false,true,true] O)<|zJ<|fin2 (qF yD O (J 0 O) O) (v O) ?_
      exact ⟨by rw [hT];first|(rw [zKv (by omega)];rfl)|(rw [zKu (by omega)];rfl)|(rw [zJe (by omega)];rfl)|(rw [zKt (by omega)];rfl)|(rw [zEi (by omega)];rfl)|(rw [zEg (by omega)];rfl)|(rw [zEh (by omega)];rfl)|(rw [zKs (by omega)];rfl),[_],O⟩
     ·try simp only [sx] at c6
      refine G O<|yG O<|Y O<|W<|zE O (fun c7=>?_) (fun c7=>?_)
      ·try simp only [sx] at c7
       have hlen1:=args_len hpart (by omega)
       refine G O<|Y O<|zX O (qR 0 O zCy O O O (by omega) (by simp only [List.length_map];omega))<|zL yD (kN 0 O (hg 0 (by omega))) O<|N 1 sz37 O<|Y O<|W<|zU _ (Weak.mem [false,true,false,true,true] O)<|zJ<|fin2 (qF yD O (J 0 O) O) (v O) ?_
       exact ⟨by rw [hT];first|(rw [zKv (by omega)];rfl)|(rw [zKu (by omega)];rfl)|(rw [zJe (by omega)];rfl)|(rw [zKt (by omega)];rfl)|(rw [zEi (by omega)];rfl)|(rw [zEg (by omega)];rfl)|(rw [zEh (by omega)];rfl)|(rw [zKs (by omega)];rfl),[_],O⟩
      ·try simp only [sx] at c7
       refine G O<|yG O<|Y O<|W<|zE O (fun c8=>?_) (fun c8=>?_)
       ·try simp only [sx] at c8
        have hlen3:=args_len3 hpart c8
        refine zG<|qY 11 mixed (by kernel_rfl) O O<|zM O O (zQ O O)<|zM O O (qR 0 O zCy O O O (by omega) (by simp only [List.length_map];omega))<|zM O O (zT O yD O (kN 0 O (hg 1 (by omega))) O)<|zM O O (zQ O O)<|zM O O (zQ O O)<|zM O O (qR 0 O zCy O O O (by omega) (by simp only [List.length_map];omega))<|zM O O (zT O yD O (kN 0 O (hg 1 (by omega))) O)<|zM O O (zQ O O)<|zM O O (qR 0 O zCy O O O (by omega) (by simp only [List.length_map];omega))<|zM O O (zT O yD O (kN 0 O (hg 2 (by omega))) O)<|zM O O (zBp O O ok207 (zEa _ _) ⟨U,O,U,O,T⟩)<|yT<|N 1 sz37 O<|Y O<|W<|zU _ (Weak.mem [false,true,false,true,true] O)<|zJ<|fin2 (qF yD O (J 0 O) O) (v O) ?_
        exact ⟨by rw [hT];first|(rw [zKv (by omega)];rfl)|(rw [zKu (by omega)];rfl)|(rw [zJe (by omega)];rfl)|(rw [zKt (by omega)];rfl)|(rw [zEi (by omega)];rfl)|(rw [zEg (by omega)];rfl)|(rw [zEh (by omega)];rfl)|(rw [zKs (by omega)];rfl),[_],O⟩
       ·try simp only [sx] at c8
        refine zG<|G O<|yG O<|Y O<|W<|zE O (fun c9=>?_) (fun c9=>?_)
        ·try simp only [sx] at c9
         refine zI<|zE O (fun c11=>?_) (fun c11=>?_)
         ·try simp only [sx] at c11
          refine G O<|yW O zr37 pl37<|N 1 sz37 O<|Y O<|W<|zU _ (Weak.mem [false,true,false,true,true] O)<|zJ<|fin2 (qF yD O (J 0 O) O) (v O) ?_
          exact ⟨by rw [hT];first|(rw [zKv (by omega)];rfl)|(rw [zKu (by omega)];rfl)|(rw [zJe (by omega)];rfl)|(rw [zKt (by omega)];rfl)|(rw [zEi (by omega)];rfl)|(rw [zEg (by omega)];rfl)|(rw [zEh (by omega)];rfl)|(rw [zKs (by omega)];rfl),[_],O⟩
         ·try simp only [sx] at c11
          exact absurd c9 c11
        ·try simp only [sx] at c9
         refine G O<|yG O<|Y O<|W<|zE O (fun c10=>?_) (fun c10=>?_)
         ·try simp only [sx] at c10
          refine zI<|zE O (fun c11=>?_) (fun c11=>?_)
          ·try simp only [sx] at c11
           refine G O<|yW O zr37 pl37<|N 1 sz37 O<|Y O<|W<|zU _ (Weak.mem [false,true,false,true,true] O)<|zJ<|fin2 (qF yD O (J 0 O) O) (v O) ?_
           exact ⟨by rw [hT];first|(rw [zKv (by omega)];rfl)|(rw [zKu (by omega)];rfl)|(rw [zJe (by omega)];rfl)|(rw [zKt (by omega)];rfl)|(rw [zEi (by omega)];rfl)|(rw [zEg (by omega)];rfl)|(rw [zEh (by omega)];rfl)|(rw [zKs (by omega)];rfl),[_],O⟩
          ·try simp only [sx] at c11
           exact absurd c10 c11
         ·try simp only [sx] at c10
          refine zO O<|yG O<|Y O<|W<|zE O (fun c11=>?_) (fun c11=>?_)
          ·try simp only [sx] at c11
           refine G O<|yW O zr37 pl37<|N 1 sz37 O<|Y O<|W<|zU _ (Weak.mem [false,true,false,true,true] O)<|zJ<|fin2 (qF yD O (J 0 O) O) (v O) ?_
           exact ⟨by rw [hT];first|(rw [zKv (by omega)];rfl)|(rw [zKu (by omega)];rfl)|(rw [zJe (by omega)];rfl)|(rw [zKt (by omega)];rfl)|(rw [zEi (by omega)];rfl)|(rw [zEg (by omega)];rfl)|(rw [zEh (by omega)];rfl)|(rw [zKs (by omega)];rfl),[_],O⟩
          ·try simp only [sx] at c11
           refine zG<|G O<|yG O<|Y O<|W<|zE O (fun c12=>?_) (fun c12=>?_)
           ·try simp only [sx] at c12
            refine zI<|zE O (fun c14=>?_) (fun c14=>?_)
            ·try simp only [sx] at c14
             have hlen2:=zGo hpart (by omega)
             refine zG<|qY 9 mixed (by kernel_rfl) O O<|zM O O (kV O zr37 pl37 O)<|zM O O (zQ O O)<|zM O O (zQ O O)<|zM O O (qR 0 O zCy O O O (by omega) (by simp only [List.length_map];omega))<|zM O O (zT O yD O (kN 0 O (hg 0 (by omega))) O)<|zM O O (zQ O O)<|zM O O (qR 0 O zCy O O O (by omega) (by simp only [List.length_map];omega))<|zM O O (zT O yD O (kN 0 O (hg 1 (by omega))) O)<|zM O O (zBp O O ok207 (zEa _ _) ⟨U,O,U,O,T⟩)<|yT<|N 1 sz37 O<|Y O<|W<|zU _ (Weak.mem [false,true,false,true,true] O)<|zJ<|fin2 (qF yD O (J 0 O) O) (v O) ?_
             exact ⟨by rw [hT];first|(rw [zKv (by omega)];rfl)|(rw [zKu (by omega)];rfl)|(rw [zJe (by omega)];rfl)|(rw [zKt (by omega)];rfl)|(rw [zEi (by omega)];rfl)|(rw [zEg (by omega)];rfl)|(rw [zEh (by omega)];rfl)|(rw [zKs (by omega)];rfl),[_],O⟩
            ·try simp only [sx] at c14
             exact absurd c12 c14
           ·try simp only [sx] at c12
            refine G O<|yG O<|Y O<|W<|zE O (fun c13=>?_) (fun c13=>?_)
            ·try simp only [sx] at c13
             refine zI<|zE O (fun c14=>?_) (fun c14=>?_)
             ·try simp only [sx] at c14
              have hlen2:=zGo hpart (by omega)
              refine zG<|qY 9 mixed (by kernel_rfl) O O<|zM O O (kV O zr37 pl37 O)<|zM O O (zQ O O)<|zM O O (zQ O O)<|zM O O (qR 0 O zCy O O O (by omega) (by simp only [List.length_map];omega))<|zM O O (zT O yD O (kN 0 O (hg 0 (by omega))) O)<|zM O O (zQ O O)<|zM O O (qR 0 O zCy O O O (by omega) (by simp only [List.length_map];omega))<|zM O O (zT O yD O (kN 0 O (hg 1 (by omega))) O)<|zM O O (zBp O O ok207 (zEa _ _) ⟨U,O,U,O,T⟩)<|yT<|N 1 sz37 O<|Y O<|W<|zU _ (Weak.mem [false,true,false,true,true] O)<|zJ<|fin2 (qF yD O (J 0 O) O) (v O) ?_
              exact ⟨by rw [hT];first|(rw [zKv (by omega)];rfl)|(rw [zKu (by omega)];rfl)|(rw [zJe (by omega)];rfl)|(rw [zKt (by omega)];rfl)|(rw [zEi (by omega)];rfl)|(rw [zEg (by omega)];rfl)|(rw [zEh (by omega)];rfl)|(rw [zKs (by omega)];rfl),[_],O⟩
             ·try simp only [sx] at c14
              exact absurd c13 c14
            ·try simp only [sx] at c13
             refine zO O<|yG O<|Y O<|W<|zE O (fun c14=>?_) (fun c14=>?_)
             ·try simp only [sx] at c14
              have hlen2:=zGo hpart (by omega)
              refine zG<|qY 9 mixed (by kernel_rfl) O O<|zM O O (kV O zr37 pl37 O)<|zM O O (zQ O O)<|zM O O (zQ O O)<|zM O O (qR 0 O zCy O O O (by omega) (by simp only [List.length_map];omega))<|zM O O (zT O yD O (kN 0 O (hg 0 (by omega))) O)<|zM O O (zQ O O)<|zM O O (qR 0 O zCy O O O (by omega) (by simp only [List.length_map];omega))<|zM O O (zT O yD O (kN 0 O (hg 1 (by omega))) O)<|zM O O (zBp O O ok207 (zEa _ _) ⟨U,O,U,O,T⟩)<|yT<|N 1 sz37 O<|Y O<|W<|zU _ (Weak.mem [false,true,false,true,true] O)<|zJ<|fin2 (qF yD O (J 0 O) O) (v O) ?_
              exact ⟨by rw [hT];first|(rw [zKv (by omega)];rfl)|(rw [zKu (by omega)];rfl)|(rw [zJe (by omega)];rfl)|(rw [zKt (by omega)];rfl)|(rw [zEi (by omega)];rfl)|(rw [zEg (by omega)];rfl)|(rw [zEh (by omega)];rfl)|(rw [zKs (by omega)];rfl),[_],O⟩
             ·try simp only [sx] at c14
              have hlen2:=zGo hpart (by omega)
              refine zI<|zG<|qY 11 mixed (by kernel_rfl) O O<|zM O O (zQ O O)<|zM O O (qR 0 O zCy O O O (by omega) (by simp only [List.length_map];omega))<|zM O O (zT O yD O (kN 0 O (hg 0 (by omega))) O)<|zM O O (zQ O O)<|zM O O (zQ O O)<|zM O O (qR 0 O zCy O O O (by omega) (by simp only [List.length_map];omega))<|zM O O (zT O yD O (kN 0 O (hg 0 (by omega))) O)<|zM O O (zQ O O)<|zM O O (qR 0 O zCy O O O (by omega) (by simp only [List.length_map];omega))<|zM O O (zT O yD O (kN 0 O (hg 1 (by omega))) O)<|zM O O (zBp O O ok207 (zEa _ _) ⟨U,O,U,O,T⟩)<|yT<|N 1 sz37 O<|Y O<|W<|zU _ (Weak.mem [false,true,false,true,true] O)<|zJ<|fin2 (qF yD O (J 0 O) O) (v O) ?_
              exact ⟨by rw [hT];first|(rw [zKv (by omega)];rfl)|(rw [zKu (by omega)];rfl)|(rw [zJe (by omega)];rfl)|(rw [zKt (by omega)];rfl)|(rw [zEi (by omega)];rfl)|(rw [zEg (by omega)];rfl)|(rw [zEh (by omega)];rfl)|(rw [zKs (by omega)];rfl),[_],O⟩
theorem typer_of (b mb:Nat) (p:Pg) (m:Kn) (hP:p.Ok) (e:Ex) (hpart:partE e=0) (he:e.wt<=4294967296):Con cfg 156 [vP b,vE e] (tyE b mb p m) fun r μ'=>r=.tup [vTy (nodeT (ofN p.en (kn m)) e).1,vI (nodeT (ofN p.en (kn m)) e).2]/\μ'=tyE b mb p m:=by
  induction e using Ex.ind with
  |_ e ih=>exact typer_of_step b mb p m hP e (fun a ha h1 h2=>ih a ha h1 h2) hpart he
theorem zHl (p:Pg) (vars:List ByteArray) (e:Ex) (hP:p.Ok) (hv:vars.length<=4294967296) (he:e.wt<=4294967296):
    Pur cfg 88 [vPg p,vSs vars,vE e] (.tup [vTy (typeT p.en vars e).1,vI (typeT p.en vars e).2]):=by
 refine zR Tryz.func88 O Tryz.ntmps88 Tryz.results88 O ?_
 intro z hz
 have hsz:=hP.sizes
 refine G O<|zS O O (qG O O) ?_
 rintro _ _ ⟨b1,rfl,rfl⟩
 refine zS O O (qG O O) ?_
 rintro _ _ ⟨b2,rfl,rfl⟩
 refine zS O O (yB O zr37) ?_
 rintro _ _ ⟨b3,rfl,rfl⟩
 refine Y O<|W<|zG<|G O<|zL qZ (J 1 O) O<|qK O ok113 (expr_Validate e (by omega)) ⟨U,O,T⟩<|Y O<|W<|G O<|Y O<|yR O<|W<|zE O (fun c1=>?_) (fun c1=>?_)
 ·try simp only [sx] at c1
  refine G O<|yW O zr37 pl37<|Y O<|N 0 sz37 O<|Y O<|W<|zJ<|fin2 (qF yD O (J 0 O) O) (v O) ?_
  rw [typeT_bad c1];rfl
 ·try simp only [sx] at c1
  refine zI<|zG<|G O<|zL qZ (J 1 O) O<|qK O ok155 (zCt e) ⟨U,O,T⟩<|W<|zE O (fun c2=>?_) (fun c2=>?_)
  ·try simp only [sx] at c2
   refine G O<|yW O zr37 pl37<|N 0 sz37 O<|Y O<|W<|zJ<|fin2 (qF yD O (J 0 O) O) (v O) ?_
   rw [typeT_cond c1 c2];rfl
  ·try simp only [sx] at c2
   refine zI<|G O<|zL wC (J 2 O) O<|zS O O (zJd vI O O) ?_
   rintro _ _ ⟨b4,rfl,rfl⟩
   refine yW O zr196 pl196<|zS O O (qG O O) ?_
   rintro _ _ ⟨b5,rfl,rfl⟩
   refine Y O<|W<|zG<|G O<|zD O zCp<|zH zBq (J 4 O) O<|zV O r<|Y O<|W<|zN<|zU ⟨[(32,.c _),(1,.c _),(5,.c _),(6,.c _),(9,.c _),(30,.c _),(31,.c _)],[_,_,_,_]⟩ (Weak.mk [true,true,true,true,false] ⟨U,U,U,U,U,U,U,T⟩ O)<|qA 1 2 O O (Nat) (fun k=>[(32,vI k)]) (fun k=>[pRow 196 b5 b4 p,E.blk b4 (MapR vI (tabV [] (p.Sizes.take k) 1))]) (fun k=>k<=p.Sizes.length) (fun k=>p.Sizes.length-k) ⟨0,(by omega),Weak.mk [true,true,true,true] ⟨U,U,U,U,U,U,U,T⟩ O⟩ ?_
   rintro k hk
   refine G O<|qW O<|W<|zG<|zE O (fun c3=>?_) (fun c3=>?_)
   ·try simp only [sx] at c3
    obtain ⟨x,hx⟩:=qP p.Sizes k (by omega)
    refine zI<|zG<|zN<|G O<|zZ O r (by omega) (getm (by assumption))<|zH one9 zY O<|Y O<|W<|zO O<|Y O<|zX O (yU O O)<|zD O fd196_1<|zH zLs (J 0 O) O<|Y O<|zCd O O (zEp 1 1 O sm118 O O O (U) O)<|W<|zO O<|qB O ⟨by omega,by omega⟩<|Y O<|W ?_
    refine ⟨k+1,(by omega),(by omega),Weak.mk [true,true,true,true] ⟨U,U,U,U,U,U,U,T⟩ (by show _=[pRow 196 b5 b4 p,E.blk b4 (MapR vI (tabV [] (p.Sizes.take (k+1)) 1))]++_;rw [zIv hx];rfl)⟩
   ·try simp only [sx] at c3
    rw [qS (l:=p.Sizes) (k:=k) (by omega)]
    refine qE<|zG<|G O<|Y O<|zV O r<|Y O<|W<|zN<|zU ⟨[(44,.c _),(5,.c _),(6,.c _),(9,.c _),(42,.c _),(43,.c _)],[_,_,_,_]⟩ (Weak.mk [true,true,true,true] ⟨U,U,U,U,U,U,T⟩ O)<|qA 1 2 O O (Nat) (fun j=>[(44,vI j)]) (fun j=>[pRow 196 b5 b4 p,E.blk b4 (MapR vI (tabV (tabV [] p.Sizes 1) (vars.take j) 3))]) (fun j=>j<=vars.length) (fun j=>vars.length-j) ⟨0,(by omega),Weak.mk [true,true,true,true] ⟨U,U,U,U,U,U,T⟩ O⟩ ?_
    rintro j hj
    refine G O<|qW O<|W<|zG<|zE O (fun c4=>?_) (fun c4=>?_)
    ·try simp only [sx] at c4
     obtain ⟨y,hy⟩:=qP vars j (by omega)
     refine zI<|zG<|zN<|G O<|zZ O r (by omega) (getm (by assumption))<|zH one9 zY O<|Y O<|W<|zO O<|Y O<|zX O (yU O O)<|zD O fd196_1<|zH zLs (J 0 O) O<|Y O<|zCd O O (zEp 1 3 O sm118 O O O (U) O)<|W<|zO O<|qB O ⟨by omega,by omega⟩<|Y O<|W ?_
     refine ⟨j+1,(by omega),(by omega),Weak.mk [true,true,true,true] ⟨U,U,U,U,U,U,T⟩ (by show _=[pRow 196 b5 b4 p,E.blk b4 (MapR vI (tabV (tabV [] p.Sizes 1) (vars.take (j+1)) 3))]++_;rw [zIv hy];rfl)⟩
    ·try simp only [sx] at c4
     rw [qS (l:=vars) (k:=j) (by omega)]
     have hTo:=typeT_of (n:=p.en) (kn_tab p.Sizes vars) c1 c2
     refine qE<|G O<|Y O<|zL qZ (J 3 O) O<|zX O (yQ [0,0] O ok156 (typer_of b5 b4 p _ hP e (zBy c1) he) ⟨U,O,U,O,T⟩ O)<|zX O (yE O O)<|zX O (kA O O O)<|zX O (yP O O O)<|zS O O (yB O zr37) ?_
     rintro _ _ ⟨b6,rfl,rfl⟩
     refine N 0 sz37 O<|Y O<|W<|zG<|G O<|Y O<|yR O<|W<|zE O (fun c5=>?_) (fun c5=>?_)
     ·try simp only [sx] at c5
      refine G O<|yW O zr37 pl37<|Y O<|N 3 sz37 O<|Y O<|W<|zJ<|fin2 (qF yD O (J 3 O) O) (v O) ?_
      rw [hTo,if_neg c5];rfl
     ·try simp only [sx] at c5
      refine zI<|G O<|zL yD (J 0 O) O<|N 3 sz37 O<|Y O<|W<|zJ<|fin2 (qF yD O (J 3 O) O) (v O) ?_
      rw [hTo,if_pos c5];rfl
end Go.W
