/-
  What functions compute.
  Conditions: none.
-/
import Derived.Test.YtgfomfnjionbeaaGreatDoorWL
import Derived.Test.YtgfomfnjionbeaaGreatDoorPlain
set_option linter.unusedSimpArgs false
set_option linter.unusedVariables false
set_option maxRecDepth 10000
namespace Go.W
open Go Go.Eng Go.Proofs Go.L41 Go.Br
attribute [local irreducible] AWP RWP TD fQ
theorem wF:dG Tryz.prog 266=some (56,5,40):=by kernel_rfl
theorem ok178:bA Tryz.prog 178=true:=by kernel_rfl
theorem ok180:bA Tryz.prog 180=true:=by kernel_rfl
theorem ok222:bA Tryz.prog 222=true:=by kernel_rfl
theorem ok224:bA Tryz.prog 224=true:=by kernel_rfl
theorem ok262:bA Tryz.prog 262=true:=by kernel_rfl
theorem pl236:dL Tryz.prog 236=some [(0,5),(5,1)]:=by kernel_rfl
theorem zr236:dO Tryz.prog 236=some [(Value.slice none 0 0),(Value.slice none 0 0),(Value.slice none 0 0),(Value.slice none 0 0),(Value.slice none 0 0),(Value.map none)]:=by kernel_rfl
theorem typer_read (b mb:Nat) (p:Pg) (m:Kn) (e:Ex) (hP:p.Ok) (he:e.wt<=4294967296):
    Con cfg 224 [vP b,vE e] (tyE b mb p m) fun r μ'=>r=.tup [vTy (lG p.en (kn m) e).1,vI (lG p.en (kn m) e).2]/\μ'=tyE b mb p m:=by
 refine Con.drop<|zV Tryz.func224 O Tryz.ntmps224 Tryz.results224 O ?_
 intro z hz
 obtain ⟨hLl,hIl,hAl⟩:=e.parts he
 have hwt:=Ex.wt_eq e
 refine Y O<|zY O O (qL O O) ?_
 rintro _ _ ⟨b1,rfl,rfl⟩
 refine zY O O (yC O zr56) ?_
 rintro _ _ ⟨b2,rfl,rfl⟩
 refine G O<|zA<|zH<|zUk 12 14 [.q,.q,.q,.q,.q,.q,.q,.q,.q,.u,.u,.f]  mixed uC O O O<|wA O O (zP O O)<|wA O O (qK O O)<|wA O O (zF O fd236_0 O)<|wA O O (qA O zEk O (J 2 O) O)<|wA O O (zF O zFp O)<|wA O O (zK O one9 O (J 1 O) O)<|wA O O (qS O ok119 (zIw p e.Name hP) ⟨zB,O,zB,O,T⟩)<|wA O O (yW O O)<|wA O O (qY O O O)<|zLw O O (kT O O O)<|zLw O O (kT O O O)<|zQt<|tdq_nil<|zCf<|zCf<|zCf<|zCf<|zCf<|zCf<|zCf<|zCf<|zCf<|tdf_u<|tdf_u<|zLx (zAf (yC O zr56))<|tdf_nil<|zKn ?_
 rintro _ _ ⟨b3,rfl,rfl⟩
 refine zNp ?_
 refine ⟨_,yX O v O O O (zDb 0 O O),(by rintro _ _ ⟨rfl,rfl⟩;exact ⟨[_],rfl⟩),?_⟩
 rintro _ _ ⟨rfl,rfl⟩
 refine zN O O (yL O O)<|kE<|G O<|zA<|zH<|Y O<|G O<|kZ O<|zA<|zE O (fun c1=>?_) (fun c1=>?_)
 ·try simp only [sx] at c1
  refine Y O<|yI O zr56 pl56<|D 1 v O<|G O<|zA<|zU _ (Weak.mem [false,true,false,true,true] O)<|zJ<|fin2 (zZ qZ O (J 0 O) O) (rs_c O) ?_
  exact ⟨by rw [readK_9 c1];rfl,[_],O⟩
 ·try simp only [sx] at c1
  refine zI<|zH<|Y O<|zD O kQ<|zG wG (J 2 O) O<|qB O N<|G O<|qB O el72<|yN O<|zA<|zE O (fun c2=>?_) (fun c2=>?_)
  ·try simp only [sx] at c2
   refine Y O<|yI O zr56 pl56<|D 1 v O<|G O<|zA<|zU _ (Weak.mem [false,true,false,true,true] O)<|zJ<|fin2 (zZ qZ O (J 0 O) O) (rs_c O) ?_
   exact ⟨by rw [readK_11 c1 zC];rfl,[_],O⟩
  ·try simp only [sx] at c2
   refine zI<|zH<|Y O<|zD O kQ<|zG wG (J 2 O) O<|qB O N<|G O<|zA<|zR<|zU ⟨[(36,.c _),(0,.c _),(4,.c _),(6,.c _),(34,.c _),(35,.c _)],[_,_,_,_]⟩ (Weak.mk [true,true,false,true,true] ⟨zB,zB,zB,zB,zB,zB,T⟩ O)<|qF 1 0 O O (Nat) (fun k=>[(36,vI k)]) (fun k=>[]) (fun k=>k<=e.Idx.length/\(fU p.en (kn m) e.Idx=fU p.en (kn m) (e.Idx.drop k))) (fun k=>e.Idx.length-k) ⟨0,⟨zC,O⟩,Weak.mk [true,true,true,true] ⟨zB,zB,zB,zB,zB,zB,T⟩ O⟩ ?_
   rintro k ⟨hk,hp⟩
   refine Y O<|yA O<|zA<|zH<|zE O (fun c3=>?_) (fun c3=>?_)
   ·try simp only [sx] at c3
    obtain ⟨x,hx⟩:=qV e.Idx k zC
    refine zI<|zH<|zR<|Y O<|qE O N zC (getm uD)<|zM zJx qD O<|zY O O (qG [none,some 2,none,some 2] O zr93 O) ?_
    rintro _ _ ⟨b4,rfl,rfl⟩
    refine D 0 sz93 O<|zA<|Y O<|G O<|zM zJx (J 0 O) O<|zW O (yY [3,3] O ok262 (typer_index b mb p m x hP (by have:=zCh (qC hx);omega)) ⟨zB,O,zB,O,T⟩ O)<|G O<|zA<|Y O<|G O<|yN O<|zA<|zE O (fun c4=>?_) (fun c4=>?_)
    ·try simp only [sx] at c4
     refine Y O<|yI O zr56 pl56<|G O<|D 2 v O<|G O<|zA<|zU _ (Weak.mem [false,false,true,true,true] O)<|zJ<|fin2 (zZ qZ O (J 0 O) O) (rs_c O) ?_
     exact ⟨by rw [readK_x c1 zC (by rw [hp,indexL_no hx c4];exact c4),hp,indexL_no hx c4];rfl,[_],O⟩
    ·try simp only [sx] at c4
     refine zI<|zO O<|qH O ⟨zC,zC⟩<|G O<|zA ?_
     refine ⟨k+1,⟨zC,hp.trans (indexL_next hx c4)⟩,zC,Weak.mk [false,true,true,true,true] ⟨zB,zB,zB,zB,zB,zB,T⟩ O⟩
   ·try simp only [sx] at c3
    refine qM<|Y O<|zM qZ (J 0 O) O<|D 1 v O<|G O<|zA<|zU _ (Weak.mem [false,true,true,true] O)<|zJ<|fin2 (zZ qZ O (J 0 O) O) (rs_c O) ?_
    exact ⟨by rw [readK_0 c1 zC (by rw [hp,zDv zC];rfl)];rfl,[_],O⟩
theorem zGi (a b:Ty):
    Pur cfg 222 [vTy a,vTy b] (vI (jO a b)):=by
 refine zV Tryz.func222 O Tryz.ntmps222 Tryz.results222 O ?_
 intro z hz
 refine Y O<|zY O O (qL O O) ?_
 rintro _ _ ⟨b1,rfl,rfl⟩
 refine zY O O (qL O O) ?_
 rintro _ _ ⟨b2,rfl,rfl⟩
 refine G O<|zA<|zH<|Y O<|zM qZ (J 1 O) O<|zM qZ (J 0 O) O<|zW O (zAr O fl56 O O O)<|zA<|zE O (fun c1=>?_) (fun c1=>?_)
 ·have hu:=unlike_10 (zEp c1)
  refine Y O<|G O<|zA<|zJ<|zT O ?_
  rw [hu]
 ·have hu:=unlike_0 (zEq c1)
  refine zI<|Y O<|G O<|zA<|zJ<|zT O ?_
  rw [hu]
theorem typer_of_step (b mb:Nat) (p:Pg) (m:Kn) (hP:p.Ok) (e:Ex) (ih:∀a,a∈e.Args->dZ a=0->a.wt<=4294967296->Con cfg 180 [vP b,vE a] (tyE b mb p m) fun r μ'=>r=.tup [vTy (bL (ofN p.en (kn m)) a).1,vI (bL (ofN p.en (kn m)) a).2]/\μ'=tyE b mb p m) (hpart:dZ e=0) (he:e.wt<=4294967296):
    Con cfg 180 [vP b,vE e] (tyE b mb p m) fun r μ'=>r=.tup [vTy (bL (ofN p.en (kn m)) e).1,vI (bL (ofN p.en (kn m)) e).2]/\μ'=tyE b mb p m:=by
 refine Con.drop<|zV Tryz.func180 O Tryz.ntmps180 Tryz.results180 O ?_
 intro z hz
 obtain ⟨hLl,hIl,hAl⟩:=e.parts he
 have hwt:=Ex.wt_eq e
 refine Y O<|zY O O (qL O O) ?_
 rintro _ _ ⟨b1,rfl,rfl⟩
 refine zY O O (yC O zr56) ?_
 rintro _ _ ⟨b2,rfl,rfl⟩
 refine G O<|zA<|Y O<|G O<|yT _ (kO 56 5)<|zA<|zH<|Y O<|zD O wP<|zG zBy (J 2 O) O<|qB O el60<|G O<|zA<|zR<|zU ⟨[(15,.c _),(6,.c _),(0,.c _),(3,.c _),(4,.c _),(13,.c _),(14,.c _)],[_,_,_,_,_]⟩ (Weak.mk [true,true,true,true,true] ⟨zB,zB,zB,zB,zB,zB,zB,T⟩ O)<|qF 2 1 O O (Nat×Value) (fun ⟨k,sv⟩=>[(15,vI k),(6,.c (.lit sv))]) (fun ⟨k,sv⟩=>[E.vec sv 56 5 ((bE (ofN p.en (kn m)) (e.Args.take k)).1.map tyC)]) (fun ⟨k,sv⟩=>k<=e.Args.length/\((bE (ofN p.en (kn m)) (e.Args.take k)).2=0)) (fun ⟨k,sv⟩=>e.Args.length-k) ⟨⟨0,(.slice none 0 0)⟩,⟨zC,O⟩,Weak.mk [true,true,true,true,true] ⟨zB,zB,zB,zB,zB,zB,zB,T⟩ O⟩ ?_
 rintro ⟨k,sv⟩ ⟨hk,hp⟩
 show AWP _ _ _ _ _ ⟨[(15,vI k),(6,.c (.lit sv))]++_,[E.vec sv 56 5 ((bE (ofN p.en (kn m)) (e.Args.take k)).1.map tyC)]++_⟩
 refine Y O<|yA O<|zA<|zH<|zE O (fun c1=>?_) (fun c1=>?_)
 ·try simp only [sx] at c1
  obtain ⟨x,hx⟩:=qV e.Args k zC
  have hll:=zEc _ _ hp
  refine zI<|zH<|zR<|Y O<|qE O el60 zC (zGh uD)<|zM yU qD O<|zY O O (qG [none,none,none,none,none,none,none,none,none,none,some 2,some 4,some 13] O zr62 O) ?_
  rintro _ _ ⟨b4,rfl,rfl⟩
  refine D 0 sz62 O<|zA<|Y O<|G O<|zM yU (J 0 O) O<|zW O (yY [4,4] O ok180 (ih x (qC hx) (zIx hpart (qC hx)) (by have:=Ex.arg_wt (qC hx);omega)) ⟨zB,O,zB,O,T⟩ O)<|qU O<|zW O (qY O O O)<|yK O<|zY O O (yC O zr56) ?_
  rintro _ _ ⟨b5,rfl,rfl⟩
  refine D 0 v O<|G O<|zA<|zH<|Y O<|G O<|yN O<|zA<|zE O (fun c2=>?_) (fun c2=>?_)
  ·try simp only [sx] at c2
   refine Y O<|yI O zr56 pl56<|G O<|D 3 v O<|G O<|zA<|zU _ (Weak.mem [false,false,false,true,false,true,true] O)<|zJ<|fin2 (zZ qZ O (J 0 O) O) (rs_c O) ?_
   exact ⟨by rw [nodeT_no hx hp c2];rfl,[_],O⟩
  ·try simp only [sx] at c2
   refine zI<|zO O<|G O<|zM qZ (J 0 O) O<|kA O wF zr56<|zY O O (yH 2 O wF O O O (by simp only [List.length_map,List.length_cons,List.length_nil,hll,List.length_take];omega) (by simp only [List.length_map,List.length_cons,List.length_nil,hll,List.length_take];omega)) ?_
   rintro _ _ ⟨sv6,rfl,rfl⟩
   refine G O<|zA<|zO O<|qH O ⟨zC,zC⟩<|G O<|zA ?_
   refine ⟨⟨k+1,sv6⟩,⟨zC,by rw [zCu hx hp c2]⟩,(by show e.Args.length-(k+1)<e.Args.length-k;omega),Weak.mk [false,false,true,true,true,true,true] ⟨zB,zB,zB,zB,zB,zB,zB,T⟩ (by show _=[E.vec sv6 _ 5 ((bE (ofN p.en (kn m)) (e.Args.take (k+1))).1.map tyC)]++_;rw [zCu hx hp c2];simp only [List.map_append];rfl)⟩
 ·try simp only [sx] at c1
  have hll:=zEc _ _ hp
  have hta:e.Args.take k=e.Args:=yD zC
  rw [hta] at hll
  have hg:∀i,i<e.Args.length->((bE (ofN p.en (kn m)) (e.Args.take k)).1.map tyC)[i]? =some (tyC (bS (bE (ofN p.en (kn m)) (e.Args.take k)).1 i)):=fun i hi=>zHa (by rw [hta];omega)
  have hT:bL (ofN p.en (kn m)) e=(ofN p.en (kn m)) e (bE (ofN p.en (kn m)) (e.Args.take k)).1:=nodeT_ok hta hp
  have hlk:(bE (ofN p.en (kn m)) (e.Args.take k)).1.length=e.Args.length:=by rw [hta];exact hll
  refine qM<|Y O<|G O<|zA<|zH<|Y O<|zD O wE<|zG one3 (J 2 O) O<|zA<|zR<|zH<|Y O<|yJ O<|G O<|zA<|zE O (fun c3=>?_) (fun c3=>?_)
  ·try simp only [sx] at c3
   refine zI<|zE O (fun c4=>?_) (fun c4=>?_)
   ·exact v60
   ·try simp only [sx] at c4
    exact absurd c3 c4
  ·try simp only [sx] at c3
   refine zO O<|yJ O<|G O<|zA<|zE O (fun c4=>?_) (fun c4=>?_)
   ·exact v60
   ·try simp only [sx] at c4
    refine Y O<|yJ O<|G O<|zA<|zE O (fun c5=>?_) (fun c5=>?_)
    ·try simp only [sx] at c5
     refine Y O<|yI O zr56 pl56<|G O<|zD O zDi<|zM kD (J 2 O) O<|zW O (yY [3,3] O ok223 (zNw b mb p m e.Lin hLl) ⟨zB,O,zB,O,T⟩ O)<|D 1 v O<|G O<|zA<|zU _ (Weak.mem [false,true,false,true,true] O)<|zJ<|fin2 (zZ qZ O (J 0 O) O) (rs_c O) ?_
     exact w8
    ·try simp only [sx] at c5
     refine Y O<|yJ O<|G O<|zA<|zE O (fun c6=>?_) (fun c6=>?_)
     ·try simp only [sx] at c6
      refine Y O<|G O<|zM yU (J 2 O) O<|zW O (yY [3,3] O ok224 (typer_read b mb p m e hP he) ⟨zB,O,zB,O,T⟩ O)<|zW O (qY O O O)<|yK O<|D 1 v O<|G O<|zA<|zU _ (Weak.mem [false,true,false,true,true] O)<|zJ<|fin2 (zZ qZ O (J 0 O) O) (rs_c O) ?_
      exact w8
     ·try simp only [sx] at c6
      refine Y O<|yJ O<|G O<|zA<|zE O (fun c7=>?_) (fun c7=>?_)
      ·try simp only [sx] at c7
       have hlen1:=args_len hpart zC
       refine Y O<|G O<|zW O (qR 0 O wF O O O zC uI)<|zM qZ (kP 0 O (hg 0 zC)) O<|D 1 v O<|G O<|zA<|zU _ (Weak.mem [false,true,false,true,true] O)<|zJ<|fin2 (zZ qZ O (J 0 O) O) (rs_c O) ?_
       exact w8
      ·try simp only [sx] at c7
       refine Y O<|yJ O<|G O<|zA<|zE O (fun c8=>?_) (fun c8=>?_)
       ·try simp only [sx] at c8
        have hlen3:=args_len3 hpart c8
        refine zH<|yE 11 mixed uC O O<|zN O O (zP O O)<|zN O O (qR 0 O wF O O O zC uI)<|zN O O (qA O qZ O (kP 0 O (hg 1 zC)) O)<|zN O O (zP O O)<|zN O O (zP O O)<|zN O O (qR 0 O wF O O O zC uI)<|zN O O (qA O qZ O (kP 0 O (hg 1 zC)) O)<|zN O O (zP O O)<|zN O O (qR 0 O wF O O O zC uI)<|zN O O (qA O qZ O (kP 0 O (hg 2 zC)) O)<|zN O O (zCz O O ok222 (zGi _ _) ⟨zB,O,zB,O,T⟩)<|kE<|D 1 v O<|G O<|zA<|zU _ (Weak.mem [false,true,false,true,true] O)<|zJ<|fin2 (zZ qZ O (J 0 O) O) (rs_c O) ?_
        exact w8
       ·try simp only [sx] at c8
        refine zH<|Y O<|yJ O<|G O<|zA<|zE O (fun c9=>?_) (fun c9=>?_)
        ·try simp only [sx] at c9
         refine zI<|zE O (fun c11=>?_) (fun c11=>?_)
         ·exact v11
         ·try simp only [sx] at c11
          exact absurd c9 c11
        ·try simp only [sx] at c9
         refine Y O<|yJ O<|G O<|zA<|zE O (fun c10=>?_) (fun c10=>?_)
         ·try simp only [sx] at c10
          refine zI<|zE O (fun c11=>?_) (fun c11=>?_)
          ·exact v11
          ·try simp only [sx] at c11
           exact absurd c10 c11
         ·try simp only [sx] at c10
          refine zO O<|yJ O<|G O<|zA<|zE O (fun c11=>?_) (fun c11=>?_)
          ·exact v11
          ·try simp only [sx] at c11
           refine zH<|Y O<|yJ O<|G O<|zA<|zE O (fun c12=>?_) (fun c12=>?_)
           ·try simp only [sx] at c12
            refine zI<|zE O (fun c14=>?_) (fun c14=>?_)
            ·exact r4
            ·try simp only [sx] at c14
             exact absurd c12 c14
           ·try simp only [sx] at c12
            refine Y O<|yJ O<|G O<|zA<|zE O (fun c13=>?_) (fun c13=>?_)
            ·try simp only [sx] at c13
             refine zI<|zE O (fun c14=>?_) (fun c14=>?_)
             ·exact r4
             ·try simp only [sx] at c14
              exact absurd c13 c14
            ·try simp only [sx] at c13
             refine zO O<|yJ O<|G O<|zA<|zE O (fun c14=>?_) (fun c14=>?_)
             ·exact r4
             ·try simp only [sx] at c14
              have hlen2:=zCk hpart zC
              refine zI<|zH<|yE 11 mixed uC O O<|zN O O (zP O O)<|zN O O (qR 0 O wF O O O zC uI)<|zN O O (qA O qZ O (kP 0 O (hg 0 zC)) O)<|zN O O (zP O O)<|zN O O (zP O O)<|zN O O (qR 0 O wF O O O zC uI)<|zN O O (qA O qZ O (kP 0 O (hg 0 zC)) O)<|zN O O (zP O O)<|zN O O (qR 0 O wF O O O zC uI)<|zN O O (qA O qZ O (kP 0 O (hg 1 zC)) O)<|zN O O (zCz O O ok222 (zGi _ _) ⟨zB,O,zB,O,T⟩)<|kE<|D 1 v O<|G O<|zA<|zU _ (Weak.mem [false,true,false,true,true] O)<|zJ<|fin2 (zZ qZ O (J 0 O) O) (rs_c O) ?_
              exact w8
theorem typer_of (b mb:Nat) (p:Pg) (m:Kn) (hP:p.Ok) (e:Ex) (hpart:dZ e=0) (he:e.wt<=4294967296):Con cfg 180 [vP b,vE e] (tyE b mb p m) fun r μ'=>r=.tup [vTy (bL (ofN p.en (kn m)) e).1,vI (bL (ofN p.en (kn m)) e).2]/\μ'=tyE b mb p m:=by
  induction e using Ex.ind with
  |_ e ih=>exact typer_of_step b mb p m hP e (fun a ha h1 h2=>ih a ha h1 h2) hpart he
theorem program_TypeOf (p:Pg) (vars:List ByteArray) (e:Ex) (hP:p.Ok) (hv:vars.length<=4294967296) (he:e.wt<=4294967296):
    Pur cfg 117 [vPg p,vSs vars,vE e] (.tup [vTy (gK p.en vars e).1,vI (gK p.en vars e).2]):=by
 refine zV Tryz.func117 O Tryz.ntmps117 Tryz.results117 O ?_
 intro z hz
 have hsz:=hP.sizes
 refine Y O<|zY O O (qL O O) ?_
 rintro _ _ ⟨b1,rfl,rfl⟩
 refine zY O O (qL O O) ?_
 rintro _ _ ⟨b2,rfl,rfl⟩
 refine zY O O (yC O zr56) ?_
 rintro _ _ ⟨b3,rfl,rfl⟩
 refine G O<|zA<|zH<|Y O<|zM yU (J 1 O) O<|qJ O ok178 (zMz e zC) ⟨zB,O,T⟩<|G O<|zA<|Y O<|G O<|yN O<|zA<|zE O (fun c1=>?_) (fun c1=>?_)
 ·try simp only [sx] at c1
  refine Y O<|yI O zr56 pl56<|G O<|D 0 v O<|G O<|zA<|zJ<|fin2 (zZ qZ O (J 0 O) O) (rs_c O) ?_
  rw [typeT_bad c1];rfl
 ·try simp only [sx] at c1
  refine zI<|zH<|Y O<|zM yU (J 1 O) O<|qJ O ok179 (kY e) ⟨zB,O,T⟩<|zA<|zE O (fun c2=>?_) (fun c2=>?_)
  ·try simp only [sx] at c2
   refine Y O<|yI O zr56 pl56<|D 0 v O<|G O<|zA<|zJ<|fin2 (zZ qZ O (J 0 O) O) (rs_c O) ?_
   rw [typeT_cond c1 c2];rfl
  ·try simp only [sx] at c2
   refine zI<|Y O<|zM zEk (J 2 O) O<|zY O O (zMe vI O O) ?_
   rintro _ _ ⟨b4,rfl,rfl⟩
   refine yI O zr236 pl236<|zY O O (qL O O) ?_
   rintro _ _ ⟨b5,rfl,rfl⟩
   refine G O<|zA<|zH<|Y O<|zD O zTq<|zG zFu (J 4 O) O<|qB O el25<|G O<|zA<|zR<|zU ⟨[(32,.c _),(1,.c _),(5,.c _),(6,.c _),(9,.c _),(30,.c _),(31,.c _)],[_,_,_,_]⟩ (Weak.mk [true,true,true,true,false] ⟨zB,zB,zB,zB,zB,zB,zB,T⟩ O)<|qF 1 2 O O (Nat) (fun k=>[(32,vI k)]) (fun k=>[rW 236 b5 b4 p,E.blk b4 (MapR vI (gR [] (p.Sizes.take k) 1))]) (fun k=>k<=p.Sizes.length) (fun k=>p.Sizes.length-k) ⟨0,zC,Weak.mk [true,true,true,true] ⟨zB,zB,zB,zB,zB,zB,zB,T⟩ O⟩ ?_
   rintro k hk
   refine Y O<|yA O<|zA<|zH<|zE O (fun c3=>?_) (fun c3=>?_)
   ·try simp only [sx] at c3
    obtain ⟨x,hx⟩:=qV p.Sizes k zC
    refine zI<|zH<|zR<|Y O<|qE O el25 zC (getm uD)<|zG one9 qD O<|G O<|zA<|zO O<|G O<|zS O<|zD O fd236_1<|zG zPr (J 0 O) O<|G O<|zBd O O (zGw 1 1 O sm117 O O O (zB) O)<|zA<|zO O<|qH O ⟨zC,zC⟩<|G O<|zA ?_
    refine ⟨k+1,zC,zC,Weak.mk [true,true,true,true] ⟨zB,zB,zB,zB,zB,zB,zB,T⟩ (by show _=[rW 236 b5 b4 p,E.blk b4 (MapR vI (gR [] (p.Sizes.take (k+1)) 1))]++_;rw [zLy hx];rfl)⟩
   ·try simp only [sx] at c3
    rw [yD (l:=p.Sizes) (k:=k) zC]
    refine qM<|zH<|Y O<|G O<|qB O el25<|G O<|zA<|zR<|zU ⟨[(44,.c _),(5,.c _),(6,.c _),(9,.c _),(42,.c _),(43,.c _)],[_,_,_,_]⟩ (Weak.mk [true,true,true,true] ⟨zB,zB,zB,zB,zB,zB,T⟩ O)<|qF 1 2 O O (Nat) (fun j=>[(44,vI j)]) (fun j=>[rW 236 b5 b4 p,E.blk b4 (MapR vI (gR (gR [] p.Sizes 1) (vars.take j) 3))]) (fun j=>j<=vars.length) (fun j=>vars.length-j) ⟨0,zC,Weak.mk [true,true,true,true] ⟨zB,zB,zB,zB,zB,zB,T⟩ O⟩ ?_
    rintro j hj
    refine Y O<|yA O<|zA<|zH<|zE O (fun c4=>?_) (fun c4=>?_)
    ·try simp only [sx] at c4
     obtain ⟨y,hy⟩:=qV vars j zC
     refine zI<|zH<|zR<|Y O<|qE O el25 zC (getm uD)<|zG one9 qD O<|G O<|zA<|zO O<|G O<|zS O<|zD O fd236_1<|zG zPr (J 0 O) O<|G O<|zBd O O (zGw 1 3 O sm117 O O O (zB) O)<|zA<|zO O<|qH O ⟨zC,zC⟩<|G O<|zA ?_
     refine ⟨j+1,zC,zC,Weak.mk [true,true,true,true] ⟨zB,zB,zB,zB,zB,zB,T⟩ (by show _=[rW 236 b5 b4 p,E.blk b4 (MapR vI (gR (gR [] p.Sizes 1) (vars.take (j+1)) 3))]++_;rw [zLy hy];rfl)⟩
    ·try simp only [sx] at c4
     rw [yD (l:=vars) (k:=j) zC]
     have hTo:=typeT_of (n:=p.en) (kn_tab p.Sizes vars) c1 c2
     refine qM<|Y O<|G O<|zM yU (J 3 O) O<|zW O (yY [0,0] O ok180 (typer_of b5 b4 p _ hP e (zCs c1) he) ⟨zB,O,zB,O,T⟩ O)<|qU O<|zW O (qY O O O)<|yK O<|zY O O (yC O zr56) ?_
     rintro _ _ ⟨b6,rfl,rfl⟩
     refine D 0 v O<|G O<|zA<|zH<|Y O<|G O<|yN O<|zA<|zE O (fun c5=>?_) (fun c5=>?_)
     ·try simp only [sx] at c5
      refine Y O<|yI O zr56 pl56<|G O<|D 3 v O<|G O<|zA<|zJ<|fin2 (zZ qZ O (J 3 O) O) (rs_c O) ?_
      rw [hTo,if_neg c5];rfl
     ·try simp only [sx] at c5
      refine zI<|Y O<|zM qZ (J 0 O) O<|D 3 v O<|G O<|zA<|zJ<|fin2 (zZ qZ O (J 3 O) O) (rs_c O) ?_
      rw [hTo,if_pos c5];rfl
end Go.W
