/-
  Walks: what functions of the program compute. Printed by wip/gen/mk2.py.
  Conditions: none.
-/
import Derived.Test.YtgfomfnjionbeaaGreatDoorWL
import Derived.Test.YtgfomfnjionbeaaGreatDoorPlain
set_option linter.unusedSimpArgs false
set_option linter.unusedVariables false
set_option maxRecDepth 10000
namespace Go.W
open Go Go.Eng Go.Proofs Go.L41 Go.Br
attribute [local irreducible] AWP RWP TD finQ
theorem wB:elemT Tryz.prog 266=some (56,5,40):=by kernel_rfl
theorem ok178:callOk Tryz.prog 178=true:=by kernel_rfl
theorem ok180:callOk Tryz.prog 180=true:=by kernel_rfl
theorem ok222:callOk Tryz.prog 222=true:=by kernel_rfl
theorem ok224:callOk Tryz.prog 224=true:=by kernel_rfl
theorem ok262:callOk Tryz.prog 262=true:=by kernel_rfl
theorem pl236:placesT Tryz.prog 236=some [(0,5),(5,1)]:=by kernel_rfl
theorem zr236:zeroT Tryz.prog 236=some [(Value.slice none 0 0),(Value.slice none 0 0),(Value.slice none 0 0),(Value.slice none 0 0),(Value.slice none 0 0),(Value.map none)]:=by kernel_rfl
theorem typer_read (b mb:Nat) (p:Pg) (m:Kn) (e:Ex) (hP:p.Ok) (he:e.wt<=4294967296):
    Con cfg 224 [vP b,vE e] (tyE b mb p m) fun r μ'=>r=.tup [vTy (readK p.en (kn m) e).1,vI (readK p.en (kn m) e).2]/\μ'=tyE b mb p m:=by
 refine Con.drop<|zW Tryz.func224 O Tryz.ntmps224 Tryz.results224 O ?_
 intro z hz
 obtain ⟨hLl,hIl,hAl⟩:=e.parts he
 have hwt:=Ex.wt_eq e
 refine Y O<|zZ O O (qO O O) ?_
 rintro _ _ ⟨b1,rfl,rfl⟩
 refine zZ O O (qX O zr56) ?_
 rintro _ _ ⟨b2,rfl,rfl⟩
 refine G O<|zA<|zH<|zQn 12 14 [.q,.q,.q,.q,.q,.q,.q,.q,.q,.u,.u,.f]  mixed (by kernel_rfl) O O O<|kS O O (zS O O)<|kS O O (qG O O)<|kS O O (zJ O fd236_0 O)<|kS O O (qA O zEe O (J 2 O) O)<|kS O O (zJ O zNj O)<|kS O O (zK O one9 O (J 1 O) O)<|kS O O (qR O ok119 (zHg p e.Name hP) ⟨zB,O,zB,O,T⟩)<|kS O O (yR O O)<|kS O O (yA O O O)<|zJw O O (kR O O O)<|zJw O O (kR O O O)<|zNx<|tdq_nil<|zAy<|zAy<|zAy<|zAy<|zAy<|zAy<|zAy<|zAy<|zAy<|tdf_u<|tdf_u<|zJx (zAh (qX O zr56))<|tdf_nil<|zIr ?_
 rintro _ _ ⟨b3,rfl,rfl⟩
 refine zLm ?_
 refine ⟨_,yT O v O O O (zCx 0 O O),(by rintro _ _ ⟨rfl,rfl⟩;exact ⟨[_],rfl⟩),?_⟩
 rintro _ _ ⟨rfl,rfl⟩
 refine zQ O O (yV O O)<|kL<|G O<|zA<|zH<|Y O<|G O<|wG O<|zA<|zE O (fun c1=>?_) (fun c1=>?_)
 ·try simp only [sx] at c1
  refine Y O<|yF O zr56 pl56<|D 1 v O<|G O<|zA<|zU _ (Weak.mem [false,true,false,true,true] O)<|zG<|fin2 (zY qZ O (J 0 O) O) (N O) ?_
  exact ⟨by rw [readK_9 c1];rfl,[_],O⟩
 ·try simp only [sx] at c1
  refine zF<|zH<|Y O<|zD O zAt<|zI zBr (J 2 O) O<|qB O el52<|G O<|qB O el72<|yM O<|zA<|zE O (fun c2=>?_) (fun c2=>?_)
  ·try simp only [sx] at c2
   refine Y O<|yF O zr56 pl56<|D 1 v O<|G O<|zA<|zU _ (Weak.mem [false,true,false,true,true] O)<|zG<|fin2 (zY qZ O (J 0 O) O) (N O) ?_
   exact ⟨by rw [readK_11 c1 (by omega)];rfl,[_],O⟩
  ·try simp only [sx] at c2
   refine zF<|zH<|Y O<|zD O zAt<|zI zBr (J 2 O) O<|qB O el52<|G O<|zA<|zT<|zU ⟨[(36,.c _),(0,.c _),(4,.c _),(6,.c _),(34,.c _),(35,.c _)],[_,_,_,_]⟩ (Weak.mk [true,true,false,true,true] ⟨zB,zB,zB,zB,zB,zB,T⟩ O)<|qJ 1 0 O O (Nat) (fun k=>[(36,vI k)]) (fun k=>[]) (fun k=>k<=e.Idx.length/\(indexL p.en (kn m) e.Idx=indexL p.en (kn m) (e.Idx.drop k))) (fun k=>e.Idx.length-k) ⟨0,⟨by omega,O⟩,Weak.mk [true,true,true,true] ⟨zB,zB,zB,zB,zB,zB,T⟩ O⟩ ?_
   rintro k ⟨hk,hp⟩
   refine Y O<|yB O<|zA<|zH<|zE O (fun c3=>?_) (fun c3=>?_)
   ·try simp only [sx] at c3
    obtain ⟨x,hx⟩:=yD e.Idx k (by omega)
    refine zF<|zH<|zT<|Y O<|qD O el52 (by omega) (getm (by assumption))<|zM zLp qH O<|zZ O O (qF [none,some 2,none,some 2] O zr93 O) ?_
    rintro _ _ ⟨b4,rfl,rfl⟩
    refine D 0 sz93 O<|zA<|Y O<|G O<|zM zLp (J 0 O) O<|zR O (yQ [3,3] O ok262 (typer_index b mb p m x hP (by have:=zDb (qC hx);omega)) ⟨zB,O,zB,O,T⟩ O)<|G O<|zA<|Y O<|G O<|yM O<|zA<|zE O (fun c4=>?_) (fun c4=>?_)
    ·try simp only [sx] at c4
     refine Y O<|yF O zr56 pl56<|G O<|D 2 v O<|G O<|zA<|zU _ (Weak.mem [false,false,true,true,true] O)<|zG<|fin2 (zY qZ O (J 0 O) O) (N O) ?_
     exact ⟨by rw [readK_x c1 (by omega) (by rw [hp,indexL_no hx c4];exact c4),hp,indexL_no hx c4];rfl,[_],O⟩
    ·try simp only [sx] at c4
     refine zF<|zP O<|qM O ⟨by omega,by omega⟩<|G O<|zA ?_
     refine ⟨k+1,⟨by omega,hp.trans (indexL_next hx c4)⟩,(by omega),Weak.mk [false,true,true,true,true] ⟨zB,zB,zB,zB,zB,zB,T⟩ O⟩
   ·try simp only [sx] at c3
    refine qP<|Y O<|zM qZ (J 0 O) O<|D 1 v O<|G O<|zA<|zU _ (Weak.mem [false,true,true,true] O)<|zG<|fin2 (zY qZ O (J 0 O) O) (N O) ?_
    exact ⟨by rw [readK_0 c1 (by omega) (by rw [hp,zCv (by omega)];rfl)];rfl,[_],O⟩
theorem zEz (a b:Ty):
    Pur cfg 222 [vTy a,vTy b] (vI (unlike a b)):=by
 refine zW Tryz.func222 O Tryz.ntmps222 Tryz.results222 O ?_
 intro z hz
 refine Y O<|zZ O O (qO O O) ?_
 rintro _ _ ⟨b1,rfl,rfl⟩
 refine zZ O O (qO O O) ?_
 rintro _ _ ⟨b2,rfl,rfl⟩
 refine G O<|zA<|zH<|Y O<|zM qZ (J 1 O) O<|zM qZ (J 0 O) O<|zR O (zCi O fl56 O O O)<|zA<|zE O (fun c1=>?_) (fun c1=>?_)
 ·have hu:=unlike_10 (zEi c1)
  refine Y O<|G O<|zA<|zG<|zV O ?_
  rw [hu]
 ·have hu:=unlike_0 (zEj c1)
  refine zF<|Y O<|G O<|zA<|zG<|zV O ?_
  rw [hu]
theorem typer_of_step (b mb:Nat) (p:Pg) (m:Kn) (hP:p.Ok) (e:Ex) (ih:∀a,a∈e.Args->partE a=0->a.wt<=4294967296->Con cfg 180 [vP b,vE a] (tyE b mb p m) fun r μ'=>r=.tup [vTy (nodeT (ofN p.en (kn m)) a).1,vI (nodeT (ofN p.en (kn m)) a).2]/\μ'=tyE b mb p m) (hpart:partE e=0) (he:e.wt<=4294967296):
    Con cfg 180 [vP b,vE e] (tyE b mb p m) fun r μ'=>r=.tup [vTy (nodeT (ofN p.en (kn m)) e).1,vI (nodeT (ofN p.en (kn m)) e).2]/\μ'=tyE b mb p m:=by
 refine Con.drop<|zW Tryz.func180 O Tryz.ntmps180 Tryz.results180 O ?_
 intro z hz
 obtain ⟨hLl,hIl,hAl⟩:=e.parts he
 have hwt:=Ex.wt_eq e
 refine Y O<|zZ O O (qO O O) ?_
 rintro _ _ ⟨b1,rfl,rfl⟩
 refine zZ O O (qX O zr56) ?_
 rintro _ _ ⟨b2,rfl,rfl⟩
 refine G O<|zA<|Y O<|G O<|yK _ (kI 56 5)<|zA<|zH<|Y O<|zD O zCf<|zI zIw (J 2 O) O<|qB O el60<|G O<|zA<|zT<|zU ⟨[(15,.c _),(6,.c _),(0,.c _),(3,.c _),(4,.c _),(13,.c _),(14,.c _)],[_,_,_,_,_]⟩ (Weak.mk [true,true,true,true,true] ⟨zB,zB,zB,zB,zB,zB,zB,T⟩ O)<|qJ 2 1 O O (Nat×Value) (fun ⟨k,sv⟩=>[(15,vI k),(6,.c (.lit sv))]) (fun ⟨k,sv⟩=>[E.vec sv 56 5 ((nodeL (ofN p.en (kn m)) (e.Args.take k)).1.map tyC)]) (fun ⟨k,sv⟩=>k<=e.Args.length/\((nodeL (ofN p.en (kn m)) (e.Args.take k)).2=0)) (fun ⟨k,sv⟩=>e.Args.length-k) ⟨⟨0,(.slice none 0 0)⟩,⟨by omega,O⟩,Weak.mk [true,true,true,true,true] ⟨zB,zB,zB,zB,zB,zB,zB,T⟩ O⟩ ?_
 rintro ⟨k,sv⟩ ⟨hk,hp⟩
 show AWP _ _ _ _ _ ⟨[(15,vI k),(6,.c (.lit sv))]++_,[E.vec sv 56 5 ((nodeL (ofN p.en (kn m)) (e.Args.take k)).1.map tyC)]++_⟩
 refine Y O<|yB O<|zA<|zH<|zE O (fun c1=>?_) (fun c1=>?_)
 ·try simp only [sx] at c1
  obtain ⟨x,hx⟩:=yD e.Args k (by omega)
  have hll:=zHj _ _ hp
  refine zF<|zH<|zT<|Y O<|qD O el60 (by omega) (getmE (by assumption))<|zM kD qH O<|zZ O O (qF [none,none,none,none,none,none,none,none,none,none,some 2,some 4,some 13] O zr62 O) ?_
  rintro _ _ ⟨b4,rfl,rfl⟩
  refine D 0 sz62 O<|zA<|Y O<|G O<|zM kD (J 0 O) O<|zR O (yQ [4,4] O ok180 (ih x (qC hx) (zOz hpart (qC hx)) (by have:=Ex.arg_wt (qC hx);omega)) ⟨zB,O,zB,O,T⟩ O)<|qV O<|zR O (yA O O O)<|yI O<|zZ O O (qX O zr56) ?_
  rintro _ _ ⟨b5,rfl,rfl⟩
  refine D 0 v O<|G O<|zA<|zH<|Y O<|G O<|yM O<|zA<|zE O (fun c2=>?_) (fun c2=>?_)
  ·try simp only [sx] at c2
   refine Y O<|yF O zr56 pl56<|G O<|D 3 v O<|G O<|zA<|zU _ (Weak.mem [false,false,false,true,false,true,true] O)<|zG<|fin2 (zY qZ O (J 0 O) O) (N O) ?_
   exact ⟨by rw [nodeT_no hx hp c2];rfl,[_],O⟩
  ·try simp only [sx] at c2
   refine zF<|zP O<|G O<|zM qZ (J 0 O) O<|zR O (qS O wB zr56 O O O O)<|zZ O O (yH 2 O wB O O O (by simp only [List.length_map,List.length_cons,List.length_nil,hll,List.length_take];omega) (by simp only [List.length_map,List.length_cons,List.length_nil,hll,List.length_take];omega)) ?_
   rintro _ _ ⟨sv6,rfl,rfl⟩
   refine G O<|zA<|zP O<|qM O ⟨by omega,by omega⟩<|G O<|zA ?_
   refine ⟨⟨k+1,sv6⟩,⟨by omega,by rw [zIm hx hp c2]⟩,(by show e.Args.length-(k+1)<e.Args.length-k;omega),Weak.mk [false,false,true,true,true,true,true] ⟨zB,zB,zB,zB,zB,zB,zB,T⟩ (by show _=[E.vec sv6 _ 5 ((nodeL (ofN p.en (kn m)) (e.Args.take (k+1))).1.map tyC)]++_;rw [zIm hx hp c2];simp only [List.map_append];rfl)⟩
 ·try simp only [sx] at c1
  have hll:=zHj _ _ hp
  have hta:e.Args.take k=e.Args:=yC (by omega)
  rw [hta] at hll
  have hg:∀i,i<e.Args.length->((nodeL (ofN p.en (kn m)) (e.Args.take k)).1.map tyC)[i]? =some (tyC (tyAt (nodeL (ofN p.en (kn m)) (e.Args.take k)).1 i)):=fun i hi=>tyAt_get (by rw [hta];omega)
  have hT:nodeT (ofN p.en (kn m)) e=(ofN p.en (kn m)) e (nodeL (ofN p.en (kn m)) (e.Args.take k)).1:=nodeT_ok hta hp
  have hlk:(nodeL (ofN p.en (kn m)) (e.Args.take k)).1.length=e.Args.length:=by rw [hta];exact hll
  refine qP<|Y O<|G O<|zA<|zH<|Y O<|zD O zAw<|zI one3 (J 2 O) O<|zA<|zT<|zH<|Y O<|yX O<|G O<|zA<|zE O (fun c3=>?_) (fun c3=>?_)
  ·try simp only [sx] at c3
   refine zF<|zE O (fun c4=>?_) (fun c4=>?_)
   ·exact v35
   ·try simp only [sx] at c4
    exact absurd c3 c4
  ·try simp only [sx] at c3
   refine zP O<|yX O<|G O<|zA<|zE O (fun c4=>?_) (fun c4=>?_)
   ·exact v35
   ·try simp only [sx] at c4
    refine Y O<|yX O<|G O<|zA<|zE O (fun c5=>?_) (fun c5=>?_)
    ·try simp only [sx] at c5
     refine Y O<|yF O zr56 pl56<|G O<|zD O zGp<|zM kE (J 2 O) O<|zR O (yQ [3,3] O ok223 (zLt b mb p m e.Lin hLl) ⟨zB,O,zB,O,T⟩ O)<|D 1 v O<|G O<|zA<|zU _ (Weak.mem [false,true,false,true,true] O)<|zG<|fin2 (zY qZ O (J 0 O) O) (N O) ?_
     exact w7
    ·try simp only [sx] at c5
     refine Y O<|yX O<|G O<|zA<|zE O (fun c6=>?_) (fun c6=>?_)
     ·try simp only [sx] at c6
      refine Y O<|G O<|zM kD (J 2 O) O<|zR O (yQ [3,3] O ok224 (typer_read b mb p m e hP he) ⟨zB,O,zB,O,T⟩ O)<|zR O (yA O O O)<|yI O<|D 1 v O<|G O<|zA<|zU _ (Weak.mem [false,true,false,true,true] O)<|zG<|fin2 (zY qZ O (J 0 O) O) (N O) ?_
      exact w7
     ·try simp only [sx] at c6
      refine Y O<|yX O<|G O<|zA<|zE O (fun c7=>?_) (fun c7=>?_)
      ·try simp only [sx] at c7
       have hlen1:=args_len hpart (by omega)
       refine Y O<|G O<|zR O (qL 0 O wB O O O (by omega) (by simp only [List.length_map];omega))<|zM qZ (kN 0 O (hg 0 (by omega))) O<|D 1 v O<|G O<|zA<|zU _ (Weak.mem [false,true,false,true,true] O)<|zG<|fin2 (zY qZ O (J 0 O) O) (N O) ?_
       exact w7
      ·try simp only [sx] at c7
       refine Y O<|yX O<|G O<|zA<|zE O (fun c8=>?_) (fun c8=>?_)
       ·try simp only [sx] at c8
        have hlen3:=args_len3 hpart c8
        refine zH<|yL 11 mixed (by kernel_rfl) O O<|zQ O O (zS O O)<|zQ O O (qL 0 O wB O O O (by omega) (by simp only [List.length_map];omega))<|zQ O O (qA O qZ O (kN 0 O (hg 1 (by omega))) O)<|zQ O O (zS O O)<|zQ O O (zS O O)<|zQ O O (qL 0 O wB O O O (by omega) (by simp only [List.length_map];omega))<|zQ O O (qA O qZ O (kN 0 O (hg 1 (by omega))) O)<|zQ O O (zS O O)<|zQ O O (qL 0 O wB O O O (by omega) (by simp only [List.length_map];omega))<|zQ O O (qA O qZ O (kN 0 O (hg 2 (by omega))) O)<|zQ O O (zBz O O ok222 (zEz _ _) ⟨zB,O,zB,O,T⟩)<|kL<|D 1 v O<|G O<|zA<|zU _ (Weak.mem [false,true,false,true,true] O)<|zG<|fin2 (zY qZ O (J 0 O) O) (N O) ?_
        exact w7
       ·try simp only [sx] at c8
        refine zH<|Y O<|yX O<|G O<|zA<|zE O (fun c9=>?_) (fun c9=>?_)
        ·try simp only [sx] at c9
         refine zF<|zE O (fun c11=>?_) (fun c11=>?_)
         ·exact k7
         ·try simp only [sx] at c11
          exact absurd c9 c11
        ·try simp only [sx] at c9
         refine Y O<|yX O<|G O<|zA<|zE O (fun c10=>?_) (fun c10=>?_)
         ·try simp only [sx] at c10
          refine zF<|zE O (fun c11=>?_) (fun c11=>?_)
          ·exact k7
          ·try simp only [sx] at c11
           exact absurd c10 c11
         ·try simp only [sx] at c10
          refine zP O<|yX O<|G O<|zA<|zE O (fun c11=>?_) (fun c11=>?_)
          ·exact k7
          ·try simp only [sx] at c11
           refine zH<|Y O<|yX O<|G O<|zA<|zE O (fun c12=>?_) (fun c12=>?_)
           ·try simp only [sx] at c12
            refine zF<|zE O (fun c14=>?_) (fun c14=>?_)
            ·exact s9
            ·try simp only [sx] at c14
             exact absurd c12 c14
           ·try simp only [sx] at c12
            refine Y O<|yX O<|G O<|zA<|zE O (fun c13=>?_) (fun c13=>?_)
            ·try simp only [sx] at c13
             refine zF<|zE O (fun c14=>?_) (fun c14=>?_)
             ·exact s9
             ·try simp only [sx] at c14
              exact absurd c13 c14
            ·try simp only [sx] at c13
             refine zP O<|yX O<|G O<|zA<|zE O (fun c14=>?_) (fun c14=>?_)
             ·exact s9
             ·try simp only [sx] at c14
              have hlen2:=zBm hpart (by omega)
              refine zF<|zH<|yL 11 mixed (by kernel_rfl) O O<|zQ O O (zS O O)<|zQ O O (qL 0 O wB O O O (by omega) (by simp only [List.length_map];omega))<|zQ O O (qA O qZ O (kN 0 O (hg 0 (by omega))) O)<|zQ O O (zS O O)<|zQ O O (zS O O)<|zQ O O (qL 0 O wB O O O (by omega) (by simp only [List.length_map];omega))<|zQ O O (qA O qZ O (kN 0 O (hg 0 (by omega))) O)<|zQ O O (zS O O)<|zQ O O (qL 0 O wB O O O (by omega) (by simp only [List.length_map];omega))<|zQ O O (qA O qZ O (kN 0 O (hg 1 (by omega))) O)<|zQ O O (zBz O O ok222 (zEz _ _) ⟨zB,O,zB,O,T⟩)<|kL<|D 1 v O<|G O<|zA<|zU _ (Weak.mem [false,true,false,true,true] O)<|zG<|fin2 (zY qZ O (J 0 O) O) (N O) ?_
              exact w7
theorem typer_of (b mb:Nat) (p:Pg) (m:Kn) (hP:p.Ok) (e:Ex) (hpart:partE e=0) (he:e.wt<=4294967296):Con cfg 180 [vP b,vE e] (tyE b mb p m) fun r μ'=>r=.tup [vTy (nodeT (ofN p.en (kn m)) e).1,vI (nodeT (ofN p.en (kn m)) e).2]/\μ'=tyE b mb p m:=by
  induction e using Ex.ind with
  |_ e ih=>exact typer_of_step b mb p m hP e (fun a ha h1 h2=>ih a ha h1 h2) hpart he
theorem program_TypeOf (p:Pg) (vars:List ByteArray) (e:Ex) (hP:p.Ok) (hv:vars.length<=4294967296) (he:e.wt<=4294967296):
    Pur cfg 117 [vPg p,vSs vars,vE e] (.tup [vTy (typeT p.en vars e).1,vI (typeT p.en vars e).2]):=by
 refine zW Tryz.func117 O Tryz.ntmps117 Tryz.results117 O ?_
 intro z hz
 have hsz:=hP.sizes
 refine Y O<|zZ O O (qO O O) ?_
 rintro _ _ ⟨b1,rfl,rfl⟩
 refine zZ O O (qO O O) ?_
 rintro _ _ ⟨b2,rfl,rfl⟩
 refine zZ O O (qX O zr56) ?_
 rintro _ _ ⟨b3,rfl,rfl⟩
 refine G O<|zA<|zH<|Y O<|zM kD (J 1 O) O<|qK O ok178 (zKx e (by omega)) ⟨zB,O,T⟩<|G O<|zA<|Y O<|G O<|yM O<|zA<|zE O (fun c1=>?_) (fun c1=>?_)
 ·try simp only [sx] at c1
  refine Y O<|yF O zr56 pl56<|G O<|D 0 v O<|G O<|zA<|zG<|fin2 (zY qZ O (J 0 O) O) (N O) ?_
  rw [typeT_bad c1];rfl
 ·try simp only [sx] at c1
  refine zF<|zH<|Y O<|zM kD (J 1 O) O<|qK O ok179 (kQ e) ⟨zB,O,T⟩<|zA<|zE O (fun c2=>?_) (fun c2=>?_)
  ·try simp only [sx] at c2
   refine Y O<|yF O zr56 pl56<|D 0 v O<|G O<|zA<|zG<|fin2 (zY qZ O (J 0 O) O) (N O) ?_
   rw [typeT_cond c1 c2];rfl
  ·try simp only [sx] at c2
   refine zF<|Y O<|zM zEe (J 2 O) O<|zZ O O (zKe vI O O) ?_
   rintro _ _ ⟨b4,rfl,rfl⟩
   refine yF O zr236 pl236<|zZ O O (qO O O) ?_
   rintro _ _ ⟨b5,rfl,rfl⟩
   refine G O<|zA<|zH<|Y O<|zD O fd30_0<|zI zGt (J 4 O) O<|qB O el25<|G O<|zA<|zT<|zU ⟨[(32,.c _),(1,.c _),(5,.c _),(6,.c _),(9,.c _),(30,.c _),(31,.c _)],[_,_,_,_]⟩ (Weak.mk [true,true,true,true,false] ⟨zB,zB,zB,zB,zB,zB,zB,T⟩ O)<|qJ 1 2 O O (Nat) (fun k=>[(32,vI k)]) (fun k=>[pRow 236 b5 b4 p,E.blk b4 (MapR vI (tabV [] (p.Sizes.take k) 1))]) (fun k=>k<=p.Sizes.length) (fun k=>p.Sizes.length-k) ⟨0,(by omega),Weak.mk [true,true,true,true] ⟨zB,zB,zB,zB,zB,zB,zB,T⟩ O⟩ ?_
   rintro k hk
   refine Y O<|yB O<|zA<|zH<|zE O (fun c3=>?_) (fun c3=>?_)
   ·try simp only [sx] at c3
    obtain ⟨x,hx⟩:=yD p.Sizes k (by omega)
    refine zF<|zH<|zT<|Y O<|qD O el25 (by omega) (getm (by assumption))<|zI one9 qH O<|G O<|zA<|zP O<|G O<|zN O<|zD O fd236_1<|zI zNe (J 0 O) O<|G O<|zAj O O (zFl 1 1 O sm117 O O O (zB) O)<|zA<|zP O<|qM O ⟨by omega,by omega⟩<|G O<|zA ?_
    refine ⟨k+1,(by omega),(by omega),Weak.mk [true,true,true,true] ⟨zB,zB,zB,zB,zB,zB,zB,T⟩ (by show _=[pRow 236 b5 b4 p,E.blk b4 (MapR vI (tabV [] (p.Sizes.take (k+1)) 1))]++_;rw [zJy hx];rfl)⟩
   ·try simp only [sx] at c3
    rw [yC (l:=p.Sizes) (k:=k) (by omega)]
    refine qP<|zH<|Y O<|G O<|qB O el25<|G O<|zA<|zT<|zU ⟨[(44,.c _),(5,.c _),(6,.c _),(9,.c _),(42,.c _),(43,.c _)],[_,_,_,_]⟩ (Weak.mk [true,true,true,true] ⟨zB,zB,zB,zB,zB,zB,T⟩ O)<|qJ 1 2 O O (Nat) (fun j=>[(44,vI j)]) (fun j=>[pRow 236 b5 b4 p,E.blk b4 (MapR vI (tabV (tabV [] p.Sizes 1) (vars.take j) 3))]) (fun j=>j<=vars.length) (fun j=>vars.length-j) ⟨0,(by omega),Weak.mk [true,true,true,true] ⟨zB,zB,zB,zB,zB,zB,T⟩ O⟩ ?_
    rintro j hj
    refine Y O<|yB O<|zA<|zH<|zE O (fun c4=>?_) (fun c4=>?_)
    ·try simp only [sx] at c4
     obtain ⟨y,hy⟩:=yD vars j (by omega)
     refine zF<|zH<|zT<|Y O<|qD O el25 (by omega) (getm (by assumption))<|zI one9 qH O<|G O<|zA<|zP O<|G O<|zN O<|zD O fd236_1<|zI zNe (J 0 O) O<|G O<|zAj O O (zFl 1 3 O sm117 O O O (zB) O)<|zA<|zP O<|qM O ⟨by omega,by omega⟩<|G O<|zA ?_
     refine ⟨j+1,(by omega),(by omega),Weak.mk [true,true,true,true] ⟨zB,zB,zB,zB,zB,zB,T⟩ (by show _=[pRow 236 b5 b4 p,E.blk b4 (MapR vI (tabV (tabV [] p.Sizes 1) (vars.take (j+1)) 3))]++_;rw [zJy hy];rfl)⟩
    ·try simp only [sx] at c4
     rw [yC (l:=vars) (k:=j) (by omega)]
     have hTo:=typeT_of (n:=p.en) (kn_tab p.Sizes vars) c1 c2
     refine qP<|Y O<|G O<|zM kD (J 3 O) O<|zR O (yQ [0,0] O ok180 (typer_of b5 b4 p _ hP e (zDm c1) he) ⟨zB,O,zB,O,T⟩ O)<|qV O<|zR O (yA O O O)<|yI O<|zZ O O (qX O zr56) ?_
     rintro _ _ ⟨b6,rfl,rfl⟩
     refine D 0 v O<|G O<|zA<|zH<|Y O<|G O<|yM O<|zA<|zE O (fun c5=>?_) (fun c5=>?_)
     ·try simp only [sx] at c5
      refine Y O<|yF O zr56 pl56<|G O<|D 3 v O<|G O<|zA<|zG<|fin2 (zY qZ O (J 3 O) O) (N O) ?_
      rw [hTo,if_neg c5];rfl
     ·try simp only [sx] at c5
      refine zF<|Y O<|zM qZ (J 0 O) O<|D 3 v O<|G O<|zA<|zG<|fin2 (zY qZ O (J 3 O) O) (N O) ?_
      rw [hTo,if_pos c5];rfl
end Go.W
