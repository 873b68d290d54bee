/-
  What functions compute.
  And what the laws need besides.
  Conditions: none.
-/
import Derived.Test.YtgfomfnjionbeaaGreatDoorGW
import Derived.Test.YtgfomfnjionbeaaGreatDoorPlain
import Derived.Test.YtgfomfnjionbeaaGreatDoorEngZ
import Derived.Test.YtgfomfnjionbeaaGreatDoorPlain2
set_option linter.unusedSimpArgs false
set_option linter.unusedVariables false
set_option linter.defProp false
section
set_option maxRecDepth 10000
namespace Go.W
open Go Go.Eng Go.Proofs Go.L41 Go.Br Tryz
attribute [local irreducible] AWP RWP TD fY
def wS:dV prog 266=some (56,5,40):=by kernel_rfl
def pl236:fA prog 236=some [(0,5),(5,1)]:=by kernel_rfl
def zr236:dZ prog 236=some [(Value.slice none 0 0),(Value.slice none 0 0),(Value.slice none 0 0),(Value.slice none 0 0),(Value.slice none 0 0),(Value.map none)]:=by kernel_rfl
def typer_read (b mb:Nat) (p:Pg) (m:Kn) (e:Ex) (hP:p.Ok) (he:e.wt<=4294967296):
    Con cfg 224 [vP b,vE e] (tyE b mb p m) fun r μ'=>r=.tup [vTy (jT p.en (kn m) e).1,vI (jT p.en (kn m) e).2]/\μ'=tyE b mb p m:=by
 refine Con.drop<|zV func224 O ntmps224 results224 O ?_
 intro z hz
 obtain ⟨hLl,hIl,hAl⟩:=e.parts he
 have hwt:=Ex.wt_eq e
 refine Y O<|og O fun b1=>qA O O (qZ O v) ?_
 rintro _ _ ⟨b2,rfl,rfl⟩
 refine oi O<|zF<|zYf 12 14 [.q,.q,.q,.q,.q,.q,.q,.q,.q,.u,.u,.f]  mixed uB O O O<|wN O O (zQ O O)<|wN O O (qS O O)<|wN O O (zG O fd236_0 O)<|wN O O (qB O zBa O (J 2 O) O)<|wN O O (zG O zIa O)<|wN O O (zJ O one9 O (J 1 O) O)<|wN O O (qP O uB (zLq p e.Name hP) (vlr O))<|wN O O (yW O O)<|wN O O (yD O O O)<|zOv O O (kM O O O)<|zOv O O (kM O O O)<|zTt<|tdq_nil<|zDj<|zDj<|zDj<|zDj<|zDj<|zDj<|zDj<|zDj<|zDj<|tdf_u<|tdf_u<|zOw (zBe (qZ O v))<|tdf_nil<|zNg ?_
 rintro _ _ ⟨b3,rfl,rfl⟩
 refine zQn ?_
 refine ⟨_,yO O N O O O (zBo 0 O O),(by rintro _ _ ⟨rfl,rfl⟩;exact ⟨[_],rfl⟩),?_⟩
 rintro _ _ ⟨rfl,rfl⟩
 refine oo O (yR O O)<|kE<|oi O<|zF<|ol O O<|kU O<|zA<|zK O ?_ ?_<;>intro c1<;>try simp only [sx] at c1
 ·refine Y O<|yJ O v pl56<|rStR 1 N O<|oi O<|zW _ (Weak.mem [false,true,false,true,true] O)<|zM<|fin2 (zZ yE O (J 0 O) O) (rs_c O) ?_
  exact ⟨by rw [readK_9 c1];rfl,[_],O⟩
 ·refine zH<|zF<|Y O<|zC O wB<|zE wX (J 2 O) O<|qC O el52<|G O<|qC O el72<|yM O<|zA<|zK O ?_ ?_<;>intro c2<;>try simp only [sx] at c2
  ·refine Y O<|yJ O v pl56<|rStR 1 N O<|oi O<|zW _ (Weak.mem [false,true,false,true,true] O)<|zM<|fin2 (zZ yE O (J 0 O) O) (rs_c O) ?_
   exact ⟨by rw [readK_11 c1 zB];rfl,[_],O⟩
  ·refine zH<|zF<|Y O<|zC O wB<|zE wX (J 2 O) O<|qC O el52<|oi O<|zS<|zW ⟨[(36,.c _),(0,.c _),(4,.c _),(6,.c _),(34,.c _),(35,.c _)],[_,_,_,_]⟩ (Weak.mk [true,true,false,true,true] ⟨zD,zD,zD,zD,zD,zD,T⟩ O)<|qG 1 0 O O (Nat) (fun k=>[(36,vI k)]) (fun k=>[]) (fun k=>k<=e.Idx.length/\(fK p.en (kn m) e.Idx=fK p.en (kn m) (e.Idx.drop k))) (fun k=>e.Idx.length-k) ⟨0,⟨zB,O⟩,Weak.mk [true,true,true,true] ⟨zD,zD,zD,zD,zD,zD,T⟩ O⟩ ?_
   rintro k ⟨hk,hp⟩
   refine Y O<|yC O<|zA<|zF<|zK O ?_ ?_<;>intro c3<;>try simp only [sx] at c3
   ·obtain ⟨x,hx⟩:=qX e.Idx k zB
    refine zH<|zF<|zS<|Y O<|qE O el52 zB (getm uC)<|zN zGp qF O<|qA O O (qI ns O zr93 O) ?_
    rintro _ _ ⟨b4,rfl,rfl⟩
    refine rStR 0 sz93 O<|zA<|ol O O<|zN zGp (J 0 O) O<|zT O (kI [3,3] O uB (typer_index b mb p m x hP (by have:=zDs (qD hx);omega)) (vlr O) O)<|oi O<|ol O O<|yM O<|zA<|zK O ?_ ?_<;>intro c4<;>try simp only [sx] at c4
    ·refine Y O<|yJ O v pl56<|G O<|rStR 2 N O<|oi O<|zW _ (Weak.mem [false,false,true,true,true] O)<|zM<|fin2 (zZ yE O (J 0 O) O) (rs_c O) ?_
     exact ⟨by rw [readK_x c1 zB (by rw [hp,zWu hx c4];exact c4),hp,zWu hx c4];rfl,[_],O⟩
    ·refine zH<|zP O<|qH O ⟨zB,zB⟩<|G O<|zA ?_
     refine ⟨k+1,⟨zB,hp.trans (zOi hx c4)⟩,zB,Weak.mk [false,true,true,true,true] ⟨zD,zD,zD,zD,zD,zD,T⟩ O⟩
   ·refine qM<|Y O<|zN yE (J 0 O) O<|rStR 1 N O<|oi O<|zW _ (Weak.mem [false,true,true,true] O)<|zM<|fin2 (zZ yE O (J 0 O) O) (rs_c O) ?_
    exact ⟨by rw [readK_0 c1 zB (by rw [hp,zAa zB];rfl)];rfl,[_],O⟩
def zIp (a b:Ty):
    Pur cfg 222 [vTy a,vTy b] (vI (lH a b)):=by
 refine zV func222 O ntmps222 results222 O fun z hz=>Y O<|og O fun b1=>og O fun b2=>oi O<|zF<|Y O<|zN yE (J 1 O) O<|zN yE (J 0 O) O<|zT O (zBg O fl56 O O O)<|zA<|zK O (fun c1=>?_) (fun c1=>?_)
 ·have hu:=unlike_10 (zEl c1)
  refine oh O O<|zM<|zX O ?_
  rw [hu]
 ·have hu:=unlike_0 (zDy c1)
  refine zH<|oh O O<|zM<|zX O ?_
  rw [hu]
def typer_of_step (b mb:Nat) (p:Pg) (m:Kn) (hP:p.Ok) (e:Ex) (ih:∀a,a∈e.Args->gF a=0->a.wt<=4294967296->Con cfg 180 [vP b,vE a] (tyE b mb p m) fun r μ'=>r=.tup [vTy (bR (ofN p.en (kn m)) a).1,vI (bR (ofN p.en (kn m)) a).2]/\μ'=tyE b mb p m) (hpart:gF e=0) (he:e.wt<=4294967296):
    Con cfg 180 [vP b,vE e] (tyE b mb p m) fun r μ'=>r=.tup [vTy (bR (ofN p.en (kn m)) e).1,vI (bR (ofN p.en (kn m)) e).2]/\μ'=tyE b mb p m:=by
 refine Con.drop<|zV func180 O ntmps180 results180 O ?_
 intro z hz
 obtain ⟨hLl,hIl,hAl⟩:=e.parts he
 have hwt:=Ex.wt_eq e
 refine Y O<|og O fun b1=>qA O O (qZ O v) ?_
 rintro _ _ ⟨b2,rfl,rfl⟩
 refine oi O<|ol O O<|yP _ (kF 56 5)<|zA<|zF<|Y O<|zC O zAc<|zE zDc (J 2 O) O<|qC O el60<|oi O<|zS<|zW ⟨[(15,.c _),(6,.c _),(0,.c _),(3,.c _),(4,.c _),(13,.c _),(14,.c _)],[_,_,_,_,_]⟩ (Weak.mk [true,true,true,true,true] ⟨zD,zD,zD,zD,zD,zD,zD,T⟩ O)<|qG 2 1 O O (Nat×Value) (fun ⟨k,sv⟩=>[(15,vI k),(6,.c (.lit sv))]) (fun ⟨k,sv⟩=>[E.vec sv 56 5 ((bJ (ofN p.en (kn m)) (e.Args.take k)).1.map tyC)]) (fun ⟨k,sv⟩=>k<=e.Args.length/\((bJ (ofN p.en (kn m)) (e.Args.take k)).2=0)) (fun ⟨k,sv⟩=>e.Args.length-k) ⟨⟨0,(.slice none 0 0)⟩,⟨zB,O⟩,Weak.mk [true,true,true,true,true] ⟨zD,zD,zD,zD,zD,zD,zD,T⟩ O⟩ ?_
 rintro ⟨k,sv⟩ ⟨hk,hp⟩
 show AWP _ _ _ _ _ ⟨[(15,vI k),(6,.c (.lit sv))]++_,[E.vec sv 56 5 ((bJ (ofN p.en (kn m)) (e.Args.take k)).1.map tyC)]++_⟩
 refine Y O<|yC O<|zA<|zF<|zK O ?_ ?_<;>intro c1<;>try simp only [sx] at c1
 ·obtain ⟨x,hx⟩:=qX e.Args k zB
  have hll:=zHf _ _ hp
  refine zH<|zF<|zS<|Y O<|qE O el60 zB (zJz uC)<|zN yZ qF O<|qA O O (qI nr O zr62 O) ?_
  rintro _ _ ⟨b4,rfl,rfl⟩
  refine rStR 0 sz62 O<|zA<|ol O O<|zN yZ (J 0 O) O<|zT O (kI [4,4] O uB (ih x (qD hx) (zPg hpart (qD hx)) (by have:=Ex.arg_wt (qD hx);omega)) (vlr O) O)<|qW O<|zT O (yD O O O)<|yF O<|qA O O (qZ O v) ?_
  rintro _ _ ⟨b5,rfl,rfl⟩
  refine rStR 0 N O<|oi O<|zF<|ol O O<|yM O<|zA<|zK O ?_ ?_<;>intro c2<;>try simp only [sx] at c2
  ·refine Y O<|yJ O v pl56<|G O<|rStR 3 N O<|oi O<|zW _ (Weak.mem [false,false,false,true,false,true,true] O)<|zM<|fin2 (zZ yE O (J 0 O) O) (rs_c O) ?_
   exact ⟨by rw [nodeT_no hx hp c2];rfl,[_],O⟩
  ·refine zH<|zP O<|G O<|zN yE (J 0 O) O<|yY O wS v<|qA O O (yB 2 O wS O O O (by simp only [lLm,lLc,lLn,hll,aq];omega) (by simp only [lLm,lLc,lLn,hll,aq];omega)) ?_
   rintro _ _ ⟨sv6,rfl,rfl⟩
   refine oi O<|zP O<|qH O ⟨zB,zB⟩<|G O<|zA ?_
   refine ⟨⟨k+1,sv6⟩,⟨zB,by rw [zGs hx hp c2]⟩,(by show e.Args.length-(k+1)<e.Args.length-k;omega),Weak.mk [false,false,true,true,true,true,true] ⟨zD,zD,zD,zD,zD,zD,zD,T⟩ (by show _=[E.vec sv6 _ 5 ((bJ (ofN p.en (kn m)) (e.Args.take (k+1))).1.map tyC)]++_;rw [zGs hx hp c2];simp only [ah];rfl)⟩
 ·have hll:=zHf _ _ hp
  have hta:e.Args.take k=e.Args:=yI zB
  rw [hta] at hll
  have hg:∀i,i<e.Args.length->((bJ (ofN p.en (kn m)) (e.Args.take k)).1.map tyC)[i]? =some (tyC (dP (bJ (ofN p.en (kn m)) (e.Args.take k)).1 i)):=fun i hi=>zTs (by rw [hta];omega)
  have hT:bR (ofN p.en (kn m)) e=(ofN p.en (kn m)) e (bJ (ofN p.en (kn m)) (e.Args.take k)).1:=nodeT_ok hta hp
  have hlk:(bJ (ofN p.en (kn m)) (e.Args.take k)).1.length=e.Args.length:=by rw [hta];exact hll
  refine qM<|oh O O<|zF<|Y O<|zC O wH<|zE one3 (J 2 O) O<|zA<|zS<|zF<|Y O<|yT O<|oi O<|qO O (fun c3=>?_) (fun c3=>?_)
  ·refine zH<|zK O ?_ ?_<;>intro c4<;>try simp only [sx] at c4
   ·refine Y O<|zC O zGl<|zN yE (J 2 O) O<|rStR 1 N O<|oi O<|zW _ (Weak.mem [false,true,false,true,true] O)<|zM<|fin2 (zZ yE O (J 0 O) O) (rs_c O) ?_
    exact w8
   ·exact absurd c3 c4
  ·refine zP O<|yT O<|oi O<|qO O (fun c4=>?_) (fun c4=>?_)
   ·refine Y O<|zC O zGl<|zN yE (J 2 O) O<|rStR 1 N O<|oi O<|zW _ (Weak.mem [false,true,false,true,true] O)<|zM<|fin2 (zZ yE O (J 0 O) O) (rs_c O) ?_
    exact w8
   ·refine Y O<|yT O<|oi O<|qO O (fun c5=>?_) (fun c5=>?_)
    ·refine Y O<|yJ O v pl56<|G O<|zC O zDt<|zN yV (J 2 O) O<|zT O (kI [3,3] O uB (zQt b mb p m e.Lin hLl) (vlr O) O)<|rStR 1 N O<|oi O<|zW _ (Weak.mem [false,true,false,true,true] O)<|zM<|fin2 (zZ yE O (J 0 O) O) (rs_c O) ?_
     exact w8
    ·refine Y O<|yT O<|oi O<|qO O (fun c6=>?_) (fun c6=>?_)
     ·refine ol O O<|zN yZ (J 2 O) O<|zT O (kI [3,3] O uB (typer_read b mb p m e hP he) (vlr O) O)<|zT O (yD O O O)<|yF O<|rStR 1 N O<|oi O<|zW _ (Weak.mem [false,true,false,true,true] O)<|zM<|fin2 (zZ yE O (J 0 O) O) (rs_c O) ?_
      exact w8
     ·refine Y O<|yT O<|oi O<|qO O (fun c7=>?_) (fun c7=>?_)
      ·have hlen1:=zUp hpart zB
       refine ol O O<|zT O (qT 0 O wS O O O zB uH)<|zN yE (kQ 0 O (hg 0 zB)) O<|rStR 1 N O<|oi O<|zW _ (Weak.mem [false,true,false,true,true] O)<|zM<|fin2 (zZ yE O (J 0 O) O) (rs_c O) ?_
       exact w8
      ·refine Y O<|yT O<|oi O<|qO O (fun c8=>?_) (fun c8=>?_)
       ·have hlen3:=args_len3 hpart c8
        refine zF<|yH 11 mixed uB O O<|oo O (zQ O O)<|oo O (qT 0 O wS O O O zB uH)<|oo O (qB O yE O (kQ 0 O (hg 1 zB)) O)<|oo O (zQ O O)<|oo O (zQ O O)<|oo O (qT 0 O wS O O O zB uH)<|oo O (qB O yE O (kQ 0 O (hg 1 zB)) O)<|oo O (zQ O O)<|oo O (qT 0 O wS O O O zB uH)<|oo O (qB O yE O (kQ 0 O (hg 2 zB)) O)<|oo O (zEi O O uB (zIp _ _) (vlr O))<|kE<|rStR 1 N O<|oi O<|zW _ (Weak.mem [false,true,false,true,true] O)<|zM<|fin2 (zZ yE O (J 0 O) O) (rs_c O) ?_
        exact w8
       ·refine zF<|Y O<|yT O<|oi O<|qO O (fun c9=>?_) (fun c9=>?_)
        ·refine zH<|zK O ?_ ?_<;>intro c11<;>try simp only [sx] at c11
         ·exact v33
         ·exact absurd c9 c11
        ·refine Y O<|yT O<|oi O<|qO O (fun c10=>?_) (fun c10=>?_)
         ·refine zH<|zK O ?_ ?_<;>intro c11<;>try simp only [sx] at c11
          ·exact v33
          ·exact absurd c10 c11
         ·refine zP O<|yT O<|oi O<|qO O (fun c11=>?_) (fun c11=>?_)
          ·exact v33
          ·refine zF<|Y O<|yT O<|oi O<|qO O (fun c12=>?_) (fun c12=>?_)
           ·refine zH<|zK O ?_ ?_<;>intro c14<;>try simp only [sx] at c14
            ·exact p6
            ·exact absurd c12 c14
           ·refine Y O<|yT O<|oi O<|qO O (fun c13=>?_) (fun c13=>?_)
            ·refine zH<|zK O ?_ ?_<;>intro c14<;>try simp only [sx] at c14
             ·exact p6
             ·exact absurd c13 c14
            ·refine zP O<|yT O<|oi O<|qO O (fun c14=>?_) (fun c14=>?_)
             ·exact p6
             ·have hlen2:=zDb hpart zB
              refine zH<|zF<|yH 11 mixed uB O O<|oo O (zQ O O)<|oo O (qT 0 O wS O O O zB uH)<|oo O (qB O yE O (kQ 0 O (hg 0 zB)) O)<|oo O (zQ O O)<|oo O (zQ O O)<|oo O (qT 0 O wS O O O zB uH)<|oo O (qB O yE O (kQ 0 O (hg 0 zB)) O)<|oo O (zQ O O)<|oo O (qT 0 O wS O O O zB uH)<|oo O (qB O yE O (kQ 0 O (hg 1 zB)) O)<|oo O (zEi O O uB (zIp _ _) (vlr O))<|kE<|rStR 1 N O<|oi O<|zW _ (Weak.mem [false,true,false,true,true] O)<|zM<|fin2 (zZ yE O (J 0 O) O) (rs_c O) ?_
              exact w8
def typer_of (b mb:Nat) (p:Pg) (m:Kn) (hP:p.Ok) (e:Ex) (hpart:gF e=0) (he:e.wt<=4294967296):Con cfg 180 [vP b,vE e] (tyE b mb p m) fun r μ'=>r=.tup [vTy (bR (ofN p.en (kn m)) e).1,vI (bR (ofN p.en (kn m)) e).2]/\μ'=tyE b mb p m:=by
  induction e using Ex.ind with
  |_ e ih=>exact typer_of_step b mb p m hP e (fun a ha h1 h2=>ih a ha h1 h2) hpart he
def program_TypeOf (p:Pg) (vars:List nn) (e:Ex) (hP:p.Ok) (hv:vars.length<=4294967296) (he:e.wt<=4294967296):
    Pur cfg 117 [vPg p,vSs vars,vE e] (.tup [vTy (gX p.en vars e).1,vI (gX p.en vars e).2]):=by
 refine zV func117 O ntmps117 results117 O ?_
 intro z hz
 have hsz:=hP.sizes
 refine Y O<|og O fun b1=>og O fun b2=>qA O O (qZ O v) ?_
 rintro _ _ ⟨b3,rfl,rfl⟩
 refine oi O<|zF<|Y O<|zN yZ (J 1 O) O<|qL O uB (zQa e zB) (vlr O)<|oi O<|ol O O<|yM O<|zA<|zK O ?_ ?_<;>intro c1<;>try simp only [sx] at c1
 ·refine Y O<|yJ O v pl56<|G O<|rStR 0 N O<|oi O<|zM<|fin2 (zZ yE O (J 0 O) O) (rs_c O) ?_
  rw [typeT_bad c1];rfl
 ·refine zH<|zF<|Y O<|zN yZ (J 1 O) O<|qL O uB (wM e) (vlr O)<|zA<|zK O ?_ ?_<;>intro c2<;>try simp only [sx] at c2
  ·refine Y O<|yJ O v pl56<|rStR 0 N O<|oi O<|zM<|fin2 (zZ yE O (J 0 O) O) (rs_c O) ?_
   rw [typeT_cond c1 c2];rfl
  ·refine zH<|Y O<|zN zBa (J 2 O) O<|qA O O (zPi vI O O) ?_
   rintro _ _ ⟨b4,rfl,rfl⟩
   refine yJ O zr236 pl236<|og O fun b5=>oi O<|zF<|Y O<|zC O zCt<|zE zBp (J 4 O) O<|qC O el25<|oi O<|zS<|zW ⟨[(32,.c _),(1,.c _),(5,.c _),(6,.c _),(9,.c _),(30,.c _),(31,.c _)],[_,_,_,_]⟩ (Weak.mk [true,true,true,true,false] ⟨zD,zD,zD,zD,zD,zD,zD,T⟩ O)<|qG 1 2 O O (Nat) (fun k=>[(32,vI k)]) (fun k=>[sS 236 b5 b4 p,E.blk b4 (MapR vI (jG [] (p.Sizes.take k) 1))]) (fun k=>k<=p.Sizes.length) (fun k=>p.Sizes.length-k) ⟨0,zB,Weak.mk [true,true,true,true] ⟨zD,zD,zD,zD,zD,zD,zD,T⟩ O⟩ ?_
   rintro k hk
   refine Y O<|yC O<|zA<|zF<|zK O ?_ ?_<;>intro c3<;>try simp only [sx] at c3
   ·obtain ⟨x,hx⟩:=qX p.Sizes k zB
    refine zH<|zF<|zS<|Y O<|qE O el25 zB (getm uC)<|zE one9 qF O<|oi O<|zP O<|G O<|zU O<|zC O fd236_1<|zE zSr (J 0 O) O<|G O<|wI O O (zJb 1 1 O sm117 O O O (zD) O)<|zA<|zP O<|qH O ⟨zB,zB⟩<|G O<|zA ?_
    refine ⟨k+1,zB,zB,Weak.mk [true,true,true,true] ⟨zD,zD,zD,zD,zD,zD,zD,T⟩ (by show _=[sS 236 b5 b4 p,E.blk b4 (MapR vI (jG [] (p.Sizes.take (k+1)) 1))]++_;rw [zOx hx];rfl)⟩
   ·rw [yI (l:=p.Sizes) (k:=k) zB]
    refine qM<|zF<|ol O O<|qC O el25<|oi O<|zS<|zW ⟨[(44,.c _),(5,.c _),(6,.c _),(9,.c _),(42,.c _),(43,.c _)],[_,_,_,_]⟩ (Weak.mk [true,true,true,true] ⟨zD,zD,zD,zD,zD,zD,T⟩ O)<|qG 1 2 O O (Nat) (fun j=>[(44,vI j)]) (fun j=>[sS 236 b5 b4 p,E.blk b4 (MapR vI (jG (jG [] p.Sizes 1) (vars.take j) 3))]) (fun j=>j<=vars.length) (fun j=>vars.length-j) ⟨0,zB,Weak.mk [true,true,true,true] ⟨zD,zD,zD,zD,zD,zD,T⟩ O⟩ ?_
    rintro j hj
    refine Y O<|yC O<|zA<|zF<|zK O ?_ ?_<;>intro c4<;>try simp only [sx] at c4
    ·obtain ⟨y,hy⟩:=qX vars j zB
     refine zH<|zF<|zS<|Y O<|qE O el25 zB (getm uC)<|zE one9 qF O<|oi O<|zP O<|G O<|zU O<|zC O fd236_1<|zE zSr (J 0 O) O<|G O<|wI O O (zJb 1 3 O sm117 O O O (zD) O)<|zA<|zP O<|qH O ⟨zB,zB⟩<|G O<|zA ?_
     refine ⟨j+1,zB,zB,Weak.mk [true,true,true,true] ⟨zD,zD,zD,zD,zD,zD,T⟩ (by show _=[sS 236 b5 b4 p,E.blk b4 (MapR vI (jG (jG [] p.Sizes 1) (vars.take (j+1)) 3))]++_;rw [zOx hy];rfl)⟩
    ·rw [yI (l:=vars) (k:=j) zB]
     have hTo:=typeT_of (n:=p.en) (kn_tab p.Sizes vars) c1 c2
     refine qM<|ol O O<|zN yZ (J 3 O) O<|zT O (kI [0,0] O uB (typer_of b5 b4 p _ hP e (zFc c1) he) (vlr O) O)<|qW O<|zT O (yD O O O)<|yF O<|qA O O (qZ O v) ?_
     rintro _ _ ⟨b6,rfl,rfl⟩
     refine rStR 0 N O<|oi O<|zF<|ol O O<|yM O<|zA<|zK O ?_ ?_<;>intro c5<;>try simp only [sx] at c5
     ·refine Y O<|yJ O v pl56<|G O<|rStR 3 N O<|oi O<|zM<|fin2 (zZ yE O (J 3 O) O) (rs_c O) ?_
      rw [hTo,aa c5];rfl
     ·refine zH<|Y O<|zN yE (J 0 O) O<|rStR 3 N O<|oi O<|zM<|fin2 (zZ yE O (J 3 O) O) (rs_c O) ?_
      rw [hTo,ab c5];rfl
end Go.W
end
section
set_option maxRecDepth 10000
namespace Go.W
open Go Go.Eng Go.Proofs Go.L41 Go.Br Tryz
attribute [local irreducible] AWP RWP TD fY
def fd70_5:bH prog 70 5=some (9,62):=by kernel_rfl
def fd119_0:bH prog 119 0=some (0,30):=by kernel_rfl
def pl119:fA prog 119=some [(0,5),(5,1)]:=by kernel_rfl
def sz28:(prog.info? 28).map (·.size)=some 1:=by kernel_rfl
def sz30:(prog.info? 30).map (·.size)=some 5:=by kernel_rfl
def sz70:(prog.info? 70).map (·.size)=some 22:=by kernel_rfl
def sz123:(prog.info? 123).map (·.size)=some 3:=by kernel_rfl
def zr30:dZ prog 30=some [(Value.slice none 0 0),(Value.slice none 0 0),(Value.slice none 0 0),(Value.slice none 0 0),(Value.slice none 0 0)]:=by kernel_rfl
def zr70:dZ prog 70=some [(Value.string (ByteArray.mk #[])),(Value.int IntKind.i64 0),(Value.int IntKind.i64 0),(Value.int IntKind.i64 0),(Value.int IntKind.i64 0),(Value.int IntKind.i64 0),(Value.slice none 0 0),(Value.slice none 0 0),(Value.int IntKind.i64 0),(Value.int IntKind.i64 0),(Value.string (ByteArray.mk #[])),(Value.int IntKind.i64 0),(Value.int IntKind.i64 0),(Value.int IntKind.i64 0),(Value.int IntKind.i64 0),(Value.int IntKind.i64 0),(Value.int IntKind.i64 0),(Value.int IntKind.i64 0),(Value.int IntKind.i64 0),(Value.slice none 0 0),(Value.slice none 0 0),(Value.slice none 0 0)]:=by kernel_rfl
def zr119:dZ prog 119=some [(Value.slice none 0 0),(Value.slice none 0 0),(Value.slice none 0 0),(Value.slice none 0 0),(Value.slice none 0 0),(Value.map none)]:=by kernel_rfl
def zr123:dZ prog 123=some [(Value.int IntKind.i64 0),(Value.slice none 0 0),(Value.bool false)]:=by kernel_rfl
def checker_def (b mb:Nat) (p:Pg) (m:Kn) (hP:p.Ok) (k:Nat) (d:Df) (hd:p.Defs[k]? =some d):
    Con cfg 62 [vP b,vI k] (ckE b mb p m) fun r μ'=>r=vI (pT m ⟨p.Sizes,p.Params,p.Defs.take k⟩ d)/\μ'=ckE b mb p (jD m d.Name 2):=by
 refine zV func62 O ntmps62 results62 O ?_
 intro z hz
 obtain ⟨hD,hR,hA,hA2,hB⟩:=hP.ds d (qD hd)
 have hlen:=zSa hd
 have hpd:=hP.defs
 refine oh O O<|ol O O<|zU O<|zC O fd119_0<|zC O zAo<|zE zDr (J 0 O) O<|G O<|qE O el28 zB (getm uC)<|zN zLa qF O<|qA O O (qI nx O zr70 O) ?_
 rintro _ _ ⟨b1,rfl,rfl⟩
 refine rStR 0 sz70 O<|zA<|zF<|ol O O<|zC O zCn<|zE one9 (J 0 O) O<|zT O (kI [1,1] O uB (zMq b mb p m d.Name 2) (vlr O) O)<|oi O<|ol O O<|yM O<|zA<|zK O ?_ ?_<;>intro c1<;>try simp only [sx] at c1
 ·refine ol O O<|oi O<|zW _ (Weak.mem [false,true,true] O)<|zM<|zX O ?_
  exact ⟨by rw [def_1 c1],O⟩
 ·refine zH<|zF<|Y O<|zC O zKt<|zN yE (J 0 O) O<|zC O zDg<|zE zAn (J 0 O) O<|qC O el68<|zC O zCb<|zE zAn (J 0 O) O<|qC O el68<|yY O el46 zr3<|qL O uB (zKq d.T [(d.Dims.length:Int),(d.Red.length:Int)] _ O uF) (vlr O)<|oi O<|ol O O<|yM O<|zA<|zK O ?_ ?_<;>intro c2<;>try simp only [sx] at c2
  ·refine ol O O<|oi O<|zW _ (Weak.mem [false,true,true] O)<|zM<|zX O ?_
   exact ⟨by rw [def_2 c1 c2],O⟩
  ·have hX:=def_ok (n:=⟨p.Sizes,p.Params,p.Defs.take k⟩) c1 c2
   refine zH<|zF<|ol O O<|zN zLa (J 0 O) O<|zT O (kI [1,1] O uB (checker_axes b mb p (jD m d.Name 2) d hD hR hA hA2) (vlr O) O)<|oi O<|ol O O<|yM O<|zA<|zK O ?_ ?_<;>intro c3<;>try simp only [sx] at c3
   ·refine ol O O<|oi O<|zW _ (Weak.mem [false,true,true] O)<|zM<|zX O ?_
    exact ⟨by rw [hX,aa c3],O⟩
   ·rw [ab c3] at hX
    refine zH<|zF<|Y O<|zN zLa (J 0 O) O<|qL O uB (program_fold d) (vlr O)<|oi O<|ol O O<|yM O<|zA<|zK O ?_ ?_<;>intro c4<;>try simp only [sx] at c4
    ·refine ol O O<|oi O<|zW _ (Weak.mem [false,true,true] O)<|zM<|zX O ?_
     exact ⟨by rw [hX,aa c4],O⟩
    ·rw [ab c4] at hX
     unfold rO at hX
     refine zH<|ol O O<|zU O<|zC O fd119_0<|zN zBa (J 1 O) O<|qA O O (qI od O zr30 O) ?_
     rintro _ _ ⟨b2,rfl,rfl⟩
     refine rStR 0 sz30 O<|zA<|ol O O<|zU O<|zC O fd119_0<|zC O zAo<|zE zDr (J 2 O) O<|G O<|zT O (zDa O el28 O O zB)<|zC O zAo<|rStR 0 sz28 O<|zA<|zF<|awp_draw_p 10 [.q,.q,.q,.q,.q,.q,.q,.q,.u,.f]  mixed uB O O O<|wN O O (qB O zBa O (J 0 O) O)<|wN O O (qB O zLa O (J 1 O) O)<|wN O O (qP O uB (OwnR.pur (zPf d hD hR)) (vlr O))<|wN O O (zG O fd70_5 O)<|wN O O (qB O yZ O (J 1 O) O)<|wN O O (qP O uB (program_TypeOf (⟨p.Sizes,p.Where,p.Params,p.Defs.take k,p.Outs⟩:Pg) (bD d) d.Body (hP.take k) (by rw [bD,lLa,lLm,lLm];omega) hB) (vlr O))<|wN O O (yW O O)<|wN O O (yD O O O)<|zOv O O (kM O O O)<|zTt<|tdq_nil<|zDj<|zDj<|zDj<|zDj<|zDj<|zDj<|zDj<|zDj<|tdf_u<|zOw (zBe (qZ O v))<|tdf_nil<|zNg ?_
     rintro _ _ ⟨b3,rfl,rfl⟩
     refine zQn ?_
     refine ⟨_,yO O N O O O (zBo 0 O O),(by rintro _ _ ⟨rfl,rfl⟩;exact ⟨[_],rfl⟩),?_⟩
     rintro _ _ ⟨rfl,rfl⟩
     refine oi O<|zF<|ol O O<|yM O<|zA<|zK O ?_ ?_<;>intro c5<;>try simp only [sx] at c5
     ·refine ol O O<|oi O<|zW _ (Weak.mem [false,false,false,true,true] O)<|zM<|zX O ?_
      exact ⟨by rw [hX,aa (show ¬(gX ⟨p.Sizes,p.Params,p.Defs.take k⟩ (bD d) d.Body).2=0 from c5)];rfl,O⟩
     ·rw [ab (show (gX ⟨p.Sizes,p.Params,p.Defs.take k⟩ (bD d) d.Body).2=0 from c5)] at hX
      refine zH<|zF<|Y O<|zN yE (J 0 O) O<|zC O zKt<|zN yE (J 2 O) O<|zT O (zBg O fl56 O O O)<|zA<|zK O (fun c6=>?_) (fun c6=>?_)
      ·refine oh O O<|zW _ (Weak.mem [false,false,false,true,true] O)<|zM<|zX O ?_
       exact ⟨by rw [hX,aa (show ¬(gX (⟨p.Sizes,p.Params,p.Defs.take k⟩:En) (bD d) d.Body).1=d.T from zEl c6)],O⟩
      ·refine zH<|oh O O<|zW _ (Weak.mem [false,false,false,true,true] O)<|zM<|zX O ?_
       exact ⟨by rw [hX,ab (show (gX (⟨p.Sizes,p.Params,p.Defs.take k⟩:En) (bD d) d.Body).1=d.T from zDy c6)],O⟩
def zGh (p:Pg) (hP:p.Ok):
    Pur cfg 22 [vPg p] (.tup [vI (bK p).1,vI (bK p).2]):=by
 refine zV func22 O ntmps22 results22 O ?_
 intro z hz
 have hps:=hP.sizes
 have hpw:=hP.wh
 have hpp:=hP.params
 have hpd:=hP.defs
 have hpo:=hP.outs
 refine Y O<|og O fun b1=>G O<|oi O<|zF<|Y O<|zN zBa (J 0 O) O<|qL O uB (program_limits p) (vlr O)<|kU O<|zA<|zK O (fun c1=>?_) (fun c1=>?_)
 ·have hl:¬dK p:=by simpa using c1
  refine ol O O<|oi O<|zM<|fin2 (rs_c O) (rs_c O) ?_
  rw [validM_2 hl]
 ·have hl:dK p:=by simpa using c1
  have ho64:p.Outs.length<=64:=hl.2.2.2.1
  refine zH<|Y O<|zN zBa (J 0 O) O<|qA O O (zPi vI O O) ?_
  rintro _ _ ⟨b2,rfl,rfl⟩
  refine yJ O zr119 pl119<|og O fun b3=>oi O<|zF<|Y O<|zC O zCt<|zE zBp (J 2 O) O<|qC O el25<|oi O<|zS<|zW ⟨[(29,.c _),(1,.c _),(4,.c _),(27,.c _),(28,.c _)],[_,_,_]⟩ (Weak.mk [true,true,true] ⟨zD,zD,zD,zD,zD,T⟩ O)<|qG 1 2 O O (Nat) (fun k=>[(29,vI k)]) (fun k=>[sS 119 b3 b2 p,E.blk b2 (MapR vI (jG [] (p.Sizes.take k) 1))]) (fun k=>k<=p.Sizes.length/\(jC [] p.Sizes=jC (jG [] (p.Sizes.take k) 1) (p.Sizes.drop k))) (fun k=>p.Sizes.length-k) ⟨0,⟨zB,O⟩,Weak.mk [true,true,true] ⟨zD,zD,zD,zD,zD,T⟩ O⟩ ?_
  rintro k ⟨hk,hp⟩
  refine Y O<|yC O<|zA<|zF<|zK O ?_ ?_<;>intro c2<;>try simp only [sx] at c2
  ·obtain ⟨x,hx⟩:=qX p.Sizes k zB
   refine zH<|zF<|zS<|Y O<|qE O el25 zB (getm uC)<|zE one9 qF O<|oi O<|ol O O<|G O<|zT O (kI [0,0] O uB (zMq b3 b2 p (jG [] (p.Sizes.take k) 1) x 1) (vlr O) O)<|oi O<|ol O O<|yM O<|zA<|zK O ?_ ?_<;>intro c3<;>try simp only [sx] at c3
   ·refine ol O O<|G O<|oi O<|zM<|fin2 (rs_c O) (rs_c O) ?_
    rw [validM_s hl (by rw [hp,sizesM_no hx c3];exact c3),hp,sizesM_no hx c3]
   ·rw [zRr c3]
    refine zH<|zP O<|qH O ⟨zB,zB⟩<|G O<|zA ?_
    refine ⟨k+1,⟨zB,by rw [hp,sizesM_next hx c3,zOx hx]⟩,zB,Weak.mk [true,true,true] ⟨zD,zD,zD,zD,zD,T⟩ (by show _=[sS 119 b3 b2 p,E.blk b2 (MapR vI (jG [] (p.Sizes.take (k+1)) 1))]++_;rw [zOx hx];rfl)⟩
  ·rw [yI (l:=p.Sizes) (k:=k) zB]
   rw [zAa (l:=p.Sizes) (k:=k) zB] at hp
   have hs0:jC [] p.Sizes=0:=hp
   refine qM<|zF<|Y O<|zC O zPy<|zE one26 (J 2 O) O<|qC O el26<|oi O<|zS<|zW ⟨[(43,.c _),(1,.c _),(4,.c _),(41,.c _),(42,.c _)],[_,_,_]⟩ (Weak.mk [true,true,true] ⟨zD,zD,zD,zD,zD,T⟩ O)<|qG 1 0 O O (Nat) (fun k=>[(43,vI k)]) (fun k=>[]) (fun k=>k<=p.Where.length/\(jV (jG [] p.Sizes 1) p.Where=jV (jG [] p.Sizes 1) (p.Where.drop k))) (fun k=>p.Where.length-k) ⟨0,⟨zB,O⟩,Weak.mk [true,true,true] ⟨zD,zD,zD,zD,zD,T⟩ O⟩ ?_
   rintro k ⟨hk,hp⟩
   refine Y O<|yC O<|zA<|zF<|zK O ?_ ?_<;>intro c4<;>try simp only [sx] at c4
   ·obtain ⟨x,hx⟩:=qX p.Where k zB
    refine zH<|zF<|zS<|Y O<|qE O el26 zB (getm uC)<|zN agg123 qF O<|qA O O (qI [none,some 2,none] O zr123 O) ?_
    rintro _ _ ⟨b4,rfl,rfl⟩
    refine rStR 0 sz123 O<|zA<|ol O O<|zN agg123 (J 0 O) O<|zT O (kI [1,1] O uB (zQj b3 b2 p (jG [] p.Sizes 1) x (hP.whs x (qD hx))) (vlr O) O)<|oi O<|ol O O<|yM O<|zA<|zK O ?_ ?_<;>intro c5<;>try simp only [sx] at c5
    ·refine ol O O<|G O<|oi O<|zM<|fin2 (rs_c O) (rs_c O) ?_
     rw [validM_w hl hs0 (by rw [hp,whereM_no hx c5];exact c5),hp,whereM_no hx c5]
    ·refine zH<|zP O<|qH O ⟨zB,zB⟩<|G O<|zA ?_
     refine ⟨k+1,⟨zB,hp.trans (whereM_next hx c5)⟩,zB,Weak.mk [false,true,true,true] ⟨zD,zD,zD,zD,zD,T⟩ O⟩
   ·rw [zAa (l:=p.Where) (k:=k) zB] at hp
    have hw0:jV (jG [] p.Sizes 1) p.Where=0:=hp
    have hV:=validM_p hl hs0 hw0
    refine qM<|oh O O<|zF<|Y O<|zC O zDu<|zE zIk (J 2 O) O<|qC O el27<|oi O<|zS<|zW ⟨[(57,.c _),(11,.c _),(1,.c _),(4,.c _),(55,.c _),(56,.c _)],[_,_,_]⟩ (Weak.mk [true,true,true] ⟨zD,zD,zD,zD,zD,zD,T⟩ O)<|qG 2 2 O O (Nat) (fun k=>[(57,vI k),(11,vI (2+(k:Int)))]) (fun k=>[sS 119 b3 b2 p,E.blk b2 (MapR vI (sP (jG [] p.Sizes 1) (p.Params.take k)))]) (fun k=>k<=p.Params.length/\(bK p=jS p (2+(k:Int)) (sP (jG [] p.Sizes 1) (p.Params.take k)) (p.Params.drop k))) (fun k=>p.Params.length-k) ⟨0,⟨zB,hV⟩,Weak.mk [true,true,true] ⟨zD,VLe.of_eq (O),zD,zD,zD,zD,T⟩ O⟩ ?_
    rintro k ⟨hk,hp⟩
    refine Y O<|yC O<|zA<|zF<|zK O ?_ ?_<;>intro c6<;>try simp only [sx] at c6
    ·obtain ⟨x,hx⟩:=qX p.Params k zB
     refine zH<|zF<|zS<|Y O<|qE O el27 zB (getm uC)<|zN agg74 qF O<|qA O O (qI ny O zr74 O) ?_
     rintro _ _ ⟨b5,rfl,rfl⟩
     refine rStR 0 sz74 O<|zA<|zF<|ol O O<|zN agg74 (J 0 O) O<|zT O (kI [1,1] O uB (checker_param b3 b2 p (sP (jG [] p.Sizes 1) (p.Params.take k)) x (hP.ps x (qD hx)).1 (hP.ps x (qD hx)).2) (vlr O) O)<|oi O<|ol O O<|yM O<|zA<|zK O ?_ ?_<;>intro c7<;>try simp only [sx] at c7
     ·refine ol O O<|G O<|G O<|oi O<|zM<|fin2 (rs_c O) (rs_c O) ?_
      rw [hp,paramsM_no hx c7]
     ·rw [param_map c7]
      refine zH<|zP O<|G O<|qH O ⟨zB,zB⟩<|oi O<|zP O<|qH O ⟨zB,zB⟩<|G O<|zA ?_
      refine ⟨k+1,⟨zB,by rw [hp,paramsM_next hx c7,tabP_next hx];congr 1<;>first|omega|rfl⟩,zB,Weak.mk [false,true,true,true] ⟨zD,VLe.of_eq (ai vI zB),zD,zD,zD,zD,T⟩ (by show _=[sS 119 b3 b2 p,E.blk b2 (MapR vI (sP (jG [] p.Sizes 1) (p.Params.take (k+1))))]++_;rw [tabP_next hx];rfl)⟩
    ·rw [yI (l:=p.Params) (k:=k) zB]
     rw [zAa (l:=p.Params) (k:=k) zB,yI (l:=p.Params) (k:=k) zB,jS] at hp
     refine qM<|zF<|Y O<|zC O zAo<|zE zDr (J 2 O) O<|qC O el28<|oi O<|zS<|zW ⟨[(74,.c _),(11,.c _),(1,.c _),(4,.c _),(73,.c _)],[_,_,_]⟩ (Weak.mk [true,true,true] ⟨zD,zD,zD,zD,zD,T⟩ O) ?_
     refine qG 2 2 O O (Nat) (fun k=>[(74,vI k),(11,vI (2+(p.Params.length:Int)+(k:Int)))]) (fun k=>[sS 119 b3 b2 p,E.blk b2 (MapR vI (xM (sP (jG [] p.Sizes 1) p.Params) (p.Defs.take k)))]) (fun k=>k<=p.Defs.length/\(bK p=pP p (2+(p.Params.length:Int)+(k:Int)) (xM (sP (jG [] p.Sizes 1) p.Params) (p.Defs.take k)) (p.Defs.take k) (p.Defs.drop k))) (fun k=>p.Defs.length-k) ⟨0,⟨zB,by rw [hp];congr 1<;>first|omega|rfl⟩,Weak.mk [true,true,true] ⟨zD,VLe.of_eq (ai vI zB),zD,zD,zD,T⟩ O⟩ ?_
     rintro k ⟨hk,hq⟩
     refine Y O<|yC O<|zA<|zF<|zK O ?_ ?_<;>intro c8<;>try simp only [sx] at c8
     ·obtain ⟨x,hx⟩:=qX p.Defs k zB
      refine zH<|zF<|zS<|ol O O<|oi O<|zF<|ol O O<|G O<|zT O (kI [0,0] O uB (checker_def b3 b2 p (xM (sP (jG [] p.Sizes 1) p.Params) (p.Defs.take k)) hP k x hx) (vlr O) O)<|oi O<|ol O O<|yM O<|zA<|zK O ?_ ?_<;>intro c9<;>try simp only [sx] at c9
      ·refine ol O O<|G O<|G O<|oi O<|zM<|fin2 (rs_c O) (rs_c O) ?_
       rw [hq,defsM_no hx c9]
      ·rw [def_map c9]
       refine zH<|zP O<|G O<|qH O ⟨zB,zB⟩<|oi O<|zP O<|qH O ⟨zB,zB⟩<|G O<|zA ?_
       refine ⟨k+1,⟨zB,by rw [hq,defsM_next hx c9,tabD_next hx];congr 1<;>first|omega|rfl⟩,zB,Weak.mk [true,true,true] ⟨zD,VLe.of_eq (ai vI zB),zD,zD,zD,T⟩ (by show _=[sS 119 b3 b2 p,E.blk b2 (MapR vI (xM (sP (jG [] p.Sizes 1) p.Params) (p.Defs.take (k+1))))]++_;rw [tabD_next hx];rfl)⟩
     ·rw [yI (l:=p.Defs) (k:=k) zB]
      rw [zAa (l:=p.Defs) (k:=k) zB,yI (l:=p.Defs) (k:=k) zB,pP] at hq
      refine qM<|zF<|Y O<|zC O zMk<|zE zBp (J 2 O) O<|qC O el25<|oi O<|zS<|zW ⟨[(90,.c _),(11,.c _),(1,.c _),(4,.c _),(88,.c _),(89,.c _)],[_,_,_]⟩ (Weak.mk [true,true,true] ⟨zD,zD,zD,zD,zD,zD,T⟩ O) ?_
      refine qG 2 0 O O (Nat) (fun k=>[(90,vI k),(11,vI (2+(p.Params.length:Int)+(p.Defs.length:Int)+(k:Int)))]) (fun k=>[]) (fun k=>k<=p.Outs.length/\(bK p=pO (xM (sP (jG [] p.Sizes 1) p.Params) p.Defs) (2+(p.Params.length:Int)+(p.Defs.length:Int)+(k:Int)) (p.Outs.take k) (p.Outs.drop k))) (fun k=>p.Outs.length-k) ⟨0,⟨zB,by rw [hq];congr 1<;>first|omega|rfl⟩,Weak.mk [true,true,true] ⟨zD,VLe.of_eq (ai vI zB),zD,zD,zD,zD,T⟩ O⟩ ?_
      rintro k ⟨hk,ho⟩
      refine Y O<|yC O<|zA<|zF<|zK O ?_ ?_<;>intro c10<;>try simp only [sx] at c10
      ·obtain ⟨x,hx⟩:=qX p.Outs k zB
       refine zH<|zF<|zS<|ol O O<|qE O el25 zB (getm uC)<|zE one9 qF O<|G O<|oi O<|zF<|zS<|ol O O<|zU O<|zC O zXg<|zE zSr (J 0 O) O<|G O<|zT O (zGw 1 (0:Int) O sm117 O O O (fun _ _=>CRep.lit _ O))<|yM O<|oi O<|zK O ?_ ?_<;>intro c11<;>try simp only [sx] at c11
       ·refine ol O O<|G O<|oi O<|zM<|fin2 (rs_c O) (rs_c O) ?_
        rw [ho,outsM_9 hx c11]
       ·refine Y O<|zC O zMk<|zE zBp (J 2 O) O<|G O<|zT O (zDa O el25 O O zB)<|G O<|qL O uB (zAv (p.Outs.take k) x (by rw [aq];omega)) (vlr O)<|oi O<|zK O ?_ ?_<;>intro c12<;>try simp only [sx] at c12
        ·refine ol O O<|G O<|oi O<|zM<|fin2 (rs_c O) (rs_c O) ?_
         rw [ho,outsM_8 hx c11 c12]
        ·refine zH<|zP O<|G O<|qH O ⟨zB,zB⟩<|oi O<|zP O<|qH O ⟨zB,zB⟩<|G O<|zA ?_
         refine ⟨k+1,⟨zB,by rw [ho,outsM_next hx c11 c12];congr 1<;>first|omega|rfl⟩,zB,Weak.mk [true,true,true] ⟨zD,VLe.of_eq (ai vI zB),zD,zD,zD,zD,T⟩ O⟩
      ·refine qM<|ol O O<|oi O<|zM<|fin2 (rs_c O) (rs_c O) ?_
       rw [ho,zAa zB];rfl
end Go.W
end
section
set_option maxRecDepth 10000
namespace Go.W
open Go Go.Eng Go.Proofs Go.L41 Go.Br Tryz
attribute [local irreducible] AWP RWP TD fY
def zRd (p:Pg) (s:nn) (hP:p.Ok):
    Pur cfg 84 [vPg p,vS s] (.tup [vTy (p.en.find s).ty,mN (p.en.find s).dims,vB (p.en.find s).ok]):=by
 refine zV func84 O ntmps84 results84 O ?_
 intro z hz
 have hpl:=hP.params
 have hpd:=hP.defs
 refine Y O<|og O fun b1=>qA O O (qZ O v) ?_
 rintro _ _ ⟨b2,rfl,rfl⟩
 refine qY 2 O<|oi O<|zF<|oh O O<|zS<|zW ⟨[(7,.c _),(1,.c _),(2,.c _),(4,.c _)],[_,_]⟩ (Weak.mk [true,true] ⟨zD,zD,zD,zD,T⟩ O)<|qG 1 0 O O (Nat) (fun k=>[(7,vI k)]) (fun k=>[]) (fun k=>k<=p.Params.length/\(fV s p.Defs p.Params=fV s p.Defs (p.Params.drop k))) (fun k=>p.Params.length-k) ⟨0,⟨zB,O⟩,Weak.mk [true,true] ⟨zD,zD,zD,zD,T⟩ O⟩ ?_
 rintro k ⟨hk,hp⟩
 refine zF<|ol O O<|zC O zDu<|zE zIk (J 1 O) O<|qC O el27<|yC O<|zA<|zK O ?_ ?_<;>intro c1<;>try simp only [sx] at c1
 ·obtain ⟨x,hx⟩:=qX p.Params k zB
  refine zH<|zF<|zS<|Y O<|zC O zDu<|zE zIk (J 1 O) O<|G O<|qE O el27 zB (getm uC)<|qR O zPw<|zE one9 qF O<|G O<|wC O<|zA<|zK O (fun c2=>?_) (fun c2=>?_)
  ·try simp only [sx] at c2
   refine zF<|yS 13 0 [⟨0,.q []⟩,⟨1,.q [1]⟩,⟨2,.q []⟩,⟨3,.q []⟩,⟨4,.q []⟩,⟨5,.q []⟩,⟨6,.q []⟩,⟨7,.q [1]⟩,⟨8,.q []⟩,⟨9,.q []⟩,⟨10,.q []⟩,⟨11,.q []⟩,⟨12,.e 0 []⟩] mixed uB uB O O O<|zR O<|zR O<|zR O<|zR O<|zR O<|zR O<|zR O<|zR O<|zR O<|zR O<|zR O<|zR O<|zR O<|wQ<|om O (zG O zDu O)<|om O (zJ O zIk O (J 0 O) O)<|om O (zQ O O)<|om O (qK O el27 O O zB (getm uC))<|om O (qV O fd74_1 O)<|om O (qB O yE O qF O)<|om O (zG O zDu O)<|om O (zJ O zIk O (J 0 O) O)<|om O (zQ O O)<|om O (qK O el27 O O zB (getm uC))<|om O (qV O zPv O)<|om O (zJ O zBs O qF O)<|zCk O O uA O O (yO O N O O O (zBo 0 O O)) ?_
   rintro _ _ ⟨rfl,rfl⟩
   refine ⟨_,O,?_⟩
   refine wP O<|G O<|oi O<|zM<|fin3 (zZ yE O (J 0 O) O) (rs_c O) (rs_c O) ?_
   exact v83
  ·exact v71
 ·have hF:p.en.find s=dY s p.Defs:=by rw [En.find,show p.en.pm=p.Params from rfl,show p.en.df=p.Defs from rfl,hp,zAa zB];rfl
  refine qM<|zF<|oh O O<|zS<|zW ⟨[(8,.c _),(1,.c _),(2,.c _),(4,.c _)],[_,_]⟩ (Weak.mk [true,true] ⟨zD,zD,zD,zD,T⟩ O)<|qG 1 0 O O (Nat) (fun k=>[(8,vI k)]) (fun k=>[]) (fun k=>k<=p.Defs.length/\(dY s p.Defs=dY s (p.Defs.drop k))) (fun k=>p.Defs.length-k) ⟨0,⟨zB,O⟩,Weak.mk [true,true] ⟨zD,zD,zD,zD,T⟩ O⟩ ?_
  rintro k ⟨hk,hq⟩
  refine zF<|ol O O<|zC O zAo<|zE zDr (J 1 O) O<|qC O el28<|yC O<|zA<|zK O ?_ ?_<;>intro c3<;>try simp only [sx] at c3
  ·obtain ⟨d,hd⟩:=qX p.Defs k zB
   refine zH<|zF<|zS<|Y O<|zC O zAo<|zE zDr (J 1 O) O<|G O<|qE O el28 zB (getm uC)<|qR O zCn<|zE one9 qF O<|G O<|wC O<|zA<|zK O (fun c4=>?_) (fun c4=>?_)
   ·try simp only [sx] at c4
    have hdd:=(hP.ds d (qD hd)).1
    refine ol O O<|yP _ (kF 59 2)<|zA<|zF<|oh O O<|zS<|zW ⟨[(10,.c _),(9,.c _),(2,.c _),(4,.c _),(8,.c _)],[_,_,_]⟩ (Weak.mk [true,true,true] ⟨zD,zD,zD,zD,zD,T⟩ O)<|qG 2 1 O O (Nat×Value) (fun ⟨j,sv⟩=>[(10,vI j),(9,.c (.lit sv))]) (fun ⟨j,sv⟩=>[E.vec sv 59 2 ((d.Dims.take j).map fun a=>a.Size.cells)]) (fun ⟨j,sv⟩=>j<=d.Dims.length) (fun ⟨j,sv⟩=>d.Dims.length-j) ⟨⟨0,(.slice none 0 0)⟩,zB,Weak.mk [true,true,true] ⟨zD,zD,zD,zD,zD,T⟩ O⟩ ?_
    rintro ⟨j,sv⟩ hj
    show AWP _ _ _ _ _ ⟨[(10,vI j),(9,.c (.lit sv))]++_,[E.vec sv 59 2 ((d.Dims.take j).map fun a=>a.Size.cells)]++_⟩
    refine zF<|ol O O<|zC O zAo<|zE zDr (J 2 O) O<|G O<|qE O el28 zB (getm uC)<|qR O zDg<|zE zAn qF O<|qC O el68<|yC O<|zA<|zK O (fun c5=>?_) (fun c5=>?_)
    ·exact n5
    ·try simp only [sx] at c5
     refine qM<|Y O<|zC O zAo<|zE zDr (J 2 O) O<|G O<|qE O el28 zB (getm uC)<|qR O zKt<|zN yE qF O<|G O<|rStR 1 N O<|G O<|oi O<|zW _ (yK 0 O (regs':=[(9,_),(83,_),(5,_)]) (μ':=[_,_]) ⟨FLe.sl,FLe.sl,FLe.sl,T⟩ ⟨EFle.refl _,EFle.refl _,T⟩)<|zM<|fin3 (zZ yE O (J 0 O) O) (rs_c O) (rs_c O) ?_
     rw [hF,hq,findD_at hd c4,yI (l:=d.Dims) (k:=j) zB];simp only [mN,fq];rfl
   ·exact v65
  ·refine qM<|Y O<|yJ O v pl56<|rStR 0 N O<|qY 2 O<|oi O<|zM<|fin3 (zZ yE O (J 0 O) O) (rs_c O) (rs_c O) ?_
   rw [hF,hq,zAa (l:=p.Defs) zB];rfl
def zGf (d:Df) (hD:d.Dims.length<=1073741824) (hR:d.Red.length<=1073741824):
    OwnR cfg 38 [vDf d] 9 1 ((bD d).map fun s=>[cS s]):=by
 refine zV func38 O ntmps38 results38 O fun z hz=>Y O<|og O fun b1=>qY 1 O<|zA<|ol O O<|yP _ (kF 9 1)<|zA<|zF<|oh O O<|zS<|zW ⟨[(4,.c _),(3,.c _),(1,.c _)],[_,_]⟩ (Weak.mk [true,true] ⟨zD,zD,zD,T⟩ O)<|qG 2 1 O O (Nat×Value) (fun ⟨k,sv⟩=>[(4,vI k),(3,.c (.lit sv))]) (fun ⟨k,sv⟩=>[E.vec sv 9 1 ((d.Dims.take k).map fun a=>[cS a.Name])]) (fun ⟨k,sv⟩=>k<=d.Dims.length) (fun ⟨k,sv⟩=>d.Dims.length-k) ⟨⟨0,(.slice none 0 0)⟩,zB,Weak.mk [true,true] ⟨zD,zD,zD,T⟩ O⟩ ?_
 rintro ⟨k,sv⟩ hk
 show AWP _ _ _ _ _ ⟨[(4,vI k),(3,.c (.lit sv))]++_,[E.vec sv 9 1 ((d.Dims.take k).map fun a=>[cS a.Name])]++_⟩
 refine zF<|ol O O<|zC O zDg<|zE zAn (J 1 O) O<|qC O el68<|yC O<|zA<|zK O ?_ ?_<;>intro c1<;>try simp only [sx] at c1
 ·obtain ⟨x,hx⟩:=qX d.Dims k zB
  refine zH<|zF<|zS<|zP O<|G O<|zC O zDg<|zE zAn (J 1 O) O<|G O<|qE O el68 zB (getm uC)<|qR O zHy<|zE one9 qF O<|yY O el25 zr9<|qA O O (yB 0 O el25 O O O uG uG) ?_
  rintro _ _ ⟨sv3,rfl,rfl⟩
  refine oi O<|zP O<|G O<|qH O ⟨zB,zB⟩<|G O<|zA ?_
  refine ⟨⟨k+1,sv3⟩,zB,(by show d.Dims.length-(k+1)<d.Dims.length-k;omega),Weak.mk [true,true] ⟨zD,zD,zD,T⟩ (by show _=[E.vec sv3 _ 1 ((d.Dims.take (k+1)).map fun a=>[cS a.Name])]++_;rw [yA hx,ah (f:=fun a:Ax=>[cS a.Name])];rfl)⟩
 ·refine qM<|zF<|oh O O<|zS<|zW ⟨[(5,.c _),(3,.c _),(1,.c _)],[_,_]⟩ (Weak.mk [true,true] ⟨zD,zD,zD,T⟩ O)<|qG 2 1 O O (Nat×Value) (fun ⟨k,sw⟩=>[(5,vI k),(3,.c (.lit sw))]) (fun ⟨k,sw⟩=>[E.vec sw 9 1 ((d.Dims.map fun a=>[cS a.Name])++(d.Red.take k).map fun a=>[cS a.Name])]) (fun ⟨k,sw⟩=>k<=d.Red.length) (fun ⟨k,sw⟩=>d.Red.length-k) ⟨⟨0,sv⟩,zB,Weak.mk [true,true] ⟨zD,zD,zD,T⟩ (by show _=[E.vec sv _ 1 ((d.Dims.map fun a=>[cS a.Name])++[])]++_;rw [yI (l:=d.Dims) zB,lAn];rfl)⟩ ?_
  rintro ⟨k,sw⟩ hk2
  show AWP _ _ _ _ _ ⟨[(5,vI k),(3,.c (.lit sw))]++_,[E.vec sw 9 1 ((d.Dims.map fun a=>[cS a.Name])++(d.Red.take k).map fun a=>[cS a.Name])]++_⟩
  refine zF<|ol O O<|zC O zCb<|zE zAn (J 1 O) O<|qC O el68<|yC O<|zA<|zK O ?_ ?_<;>intro c2<;>try simp only [sx] at c2
  ·obtain ⟨x,hx⟩:=qX d.Red k zB
   refine zH<|zF<|zS<|zP O<|G O<|zC O zCb<|zE zAn (J 1 O) O<|G O<|qE O el68 zB (getm uC)<|qR O zHy<|zE one9 qF O<|yY O el25 zr9<|qA O O (yB 0 O el25 O O O uG uG) ?_
   rintro _ _ ⟨sv4,rfl,rfl⟩
   refine oi O<|zP O<|G O<|qH O ⟨zB,zB⟩<|G O<|zA ?_
   refine ⟨⟨k+1,sv4⟩,zB,(by show d.Red.length-(k+1)<d.Red.length-k;omega),Weak.mk [true,true] ⟨zD,zD,zD,T⟩ (by show _=[E.vec sv4 _ 1 ((d.Dims.map fun a=>[cS a.Name])++(d.Red.take (k+1)).map fun a=>[cS a.Name])]++_;rw [yA hx,ah (f:=fun a:Ax=>[cS a.Name]),←lAa];rfl)⟩
  ·refine qM<|ol O O<|oi O<|zW _ (Weak.mem [true,false] O)<|zM<|zX O ?_
   exact ⟨_,O,by rw [yI (l:=d.Red) zB,←ah (f:=fun a:Ax=>[cS a.Name]),names_rows];rfl⟩
def zVp (p:Pg) (vars:List nn) (l:List Lf) (hz0:p.Sizes.length<=4294967296) (hv:vars.length<=4294967296) (hl0:l.length<=4294967296) (hx0:∀x,x∈l->x.L.length<=5864062014805):
    Pur cfg 242 [vPg p,vSs vars,mN l] (vI (lU (knB p.Sizes vars) l)):=by
 refine zV func242 O ntmps242 results242 O fun z hz=>Y O<|og O fun b1=>oi O<|zF<|oh O O<|zS<|zW ⟨[(7,.c _),(1,.c _),(2,.c _),(3,.c _)],[_]⟩ (Weak.mk [true] ⟨zD,zD,zD,zD,T⟩ O)<|qG 1 0 O O (Nat) (fun k=>[(7,vI k)]) (fun k=>[]) (fun k=>k<=l.length/\((l.take k).all (fun x=>knL (knB p.Sizes vars) x.L)=true)) (fun k=>l.length-k) ⟨0,⟨zB,O⟩,Weak.mk [true] ⟨zD,zD,zD,zD,T⟩ O⟩ ?_
 rintro k ⟨hk,hp⟩
 refine zF<|ol O O<|G O<|qC O el72<|yC O<|zA<|zK O ?_ ?_<;>intro c1<;>try simp only [sx] at c1
 ·obtain ⟨x,hx⟩:=qX l k zB
  refine zH<|zF<|zS<|zF<|yH 9 mixed uB O O<|oo O (zQ O O)<|oo O (zQ O O)<|oo O (qK O el72 O O zB (getm uC))<|oo O (qB O yV O qF O)<|oo O (zQ O O)<|oo O (zG O zCt O)<|oo O (zJ O zBp O (J 0 O) O)<|oo O (qP O uB (zOd x vars p.Sizes (hx0 x (qD hx)) hv hz0) (vlr O))<|oo O (wV O O)<|kE<|zA<|zK O ?_ ?_<;>intro c2<;>try simp only [sx] at c2
  ·refine oh O O<|zM<|zX O ?_
   rw [formsK_no' hx c2]
  ·refine zH<|zP O<|G O<|qH O ⟨zB,zB⟩<|G O<|zA ?_
   refine ⟨k+1,⟨zB,formsK_next' hx hp c2⟩,zB,Weak.mk [true] ⟨zD,zD,zD,zD,T⟩ O⟩
 ·refine qM<|oh O O<|zM<|zX O ?_
  rw [yI zB] at hp;rw [formsK_ok hp]
def ref17_read (p:Pg) (vars:List nn) (e:Ex) (hP:p.Ok) (hv:vars.length<=4294967296) (he:e.wt<=4294967296):
    Pur cfg 243 [vPg p,vSs vars,vE e] (.tup [vTy (jT p.en (knB p.Sizes vars) e).1,vI (jT p.en (knB p.Sizes vars) e).2]):=by
 refine zV func243 O ntmps243 results243 O ?_
 intro z hz
 obtain ⟨hLl,hIl,hAl⟩:=e.parts he
 have hwt:=Ex.wt_eq e
 have hz0:=hP.sizes
 refine Y O<|og O fun b1=>og O fun b2=>qA O O (qZ O v) ?_
 rintro _ _ ⟨b3,rfl,rfl⟩
 refine oi O<|Y O<|zN zBa (J 2 O) O<|zC O zIa<|zE one9 (J 1 O) O<|qL O uB (zRd p e.Name hP) (vlr O)<|qW O<|zT O (yD O O O)<|yF O<|yF O<|qA O O (qZ O v) ?_
 rintro _ _ ⟨b4,rfl,rfl⟩
 refine rStR 0 N O<|G O<|oi O<|zF<|ol O O<|kU O<|zA<|zK O ?_ ?_<;>intro c1<;>try simp only [sx] at c1
 ·refine Y O<|yJ O v pl56<|rStR 1 N O<|oi O<|zM<|fin2 (zZ yE O (J 1 O) O) (rs_c O) ?_
  rw [readK_9 c1];rfl
 ·refine zH<|zF<|ol O O<|qC O el72<|zC O wB<|zE wX (J 2 O) O<|qC O el52<|yM O<|zA<|zK O ?_ ?_<;>intro c2<;>try simp only [sx] at c2
  ·refine Y O<|yJ O v pl56<|rStR 1 N O<|oi O<|zM<|fin2 (zZ yE O (J 1 O) O) (rs_c O) ?_
   rw [readK_11 c1 zB];rfl
  ·refine zH<|zF<|oh O O<|zS<|zW ⟨[(11,.c _),(1,.c _),(3,.c _),(5,.c _),(6,.c _),(8,.c _)],[_,_,_,_]⟩ (Weak.mk [true,true,true,true] ⟨zD,zD,zD,zD,zD,zD,T⟩ O)<|qG 1 0 O O (Nat) (fun k=>[(11,vI k)]) (fun k=>[]) (fun k=>k<=e.Idx.length/\(fK p.en (knB p.Sizes vars) e.Idx=fK p.en (knB p.Sizes vars) (e.Idx.drop k))) (fun k=>e.Idx.length-k) ⟨0,⟨zB,O⟩,Weak.mk [true,true,true,true] ⟨zD,zD,zD,zD,zD,zD,T⟩ O⟩ ?_
   rintro k ⟨hk,hp⟩
   refine zF<|ol O O<|zC O wB<|zE wX (J 2 O) O<|qC O el52<|yC O<|zA<|zK O ?_ ?_<;>intro c3<;>try simp only [sx] at c3
   ·obtain ⟨x,hx⟩:=qX e.Idx k zB
    have hxw:=Ex.idx_wt (qD hx)
    refine zH<|zF<|zS<|Y O<|zC O wB<|zE wX (J 2 O) O<|G O<|qE O el52 zB (getm uC)<|zN zGp qF O<|qA O O (qI ns O zr93 O) ?_
    rintro _ _ ⟨b5,rfl,rfl⟩
    refine rStR 0 sz93 O<|zA<|zF<|Y O<|zC O zEs<|zE one9 (J 0 O) O<|wC O<|zA<|zK O ?_ ?_<;>intro c4<;>try simp only [sx] at c4
    ·refine zF<|Y O<|zC O zCy<|zN yV (J 0 O) O<|G O<|zC O zCt<|zE zBp (J 4 O) O<|qL O uB (zOd x.Lin vars p.Sizes zB hv hz0) (vlr O)<|kU O<|zA<|zK O ?_ ?_<;>intro c5<;>try simp only [sx] at c5
     ·refine Y O<|yJ O v pl56<|rStR 2 N O<|oi O<|zM<|fin2 (zZ yE O (J 2 O) O) (rs_c O) ?_
      rw [zPe c1 zB hp hx ((indexK_lin c4).trans (zNc c5)) uA];rfl
     ·have hix:dI p.en (knB p.Sizes vars) x=0:=by rw [indexK_lin c4,zUd c5]
      refine zH<|qM<|zP O<|G O<|qH O ⟨zB,zB⟩<|G O<|zA ?_
      refine ⟨k+1,⟨zB,hp.trans (zOi hx hix)⟩,zB,Weak.mk [false,true,true,true,true] ⟨zD,zD,zD,zD,zD,zD,T⟩ O⟩
    ·refine zH<|Y O<|zN zBa (J 4 O) O<|zC O zEs<|zE one9 (J 0 O) O<|qL O uB (zRd p x.From hP) (vlr O)<|qW O<|zT O (yD O O O)<|yF O<|yF O<|qA O O (qZ O v) ?_
     rintro _ _ ⟨b6,rfl,rfl⟩
     refine rStR 0 N O<|G O<|oi O<|zF<|ol O O<|kU O<|zA<|zK O ?_ ?_<;>intro c6<;>try simp only [sx] at c6
     ·refine Y O<|yJ O v pl56<|rStR 3 N O<|oi O<|zM<|fin2 (zZ yE O (J 3 O) O) (rs_c O) ?_
      rw [zPe c1 zB hp hx (indexK_9 c4 c6) uA];rfl
     ·refine zH<|zF<|Y O<|zC O zGm<|zE one3 (J 0 O) O<|yM O<|zA<|zK O ?_ ?_<;>intro c7<;>try simp only [sx] at c7
      ·refine Y O<|yJ O v pl56<|rStR 3 N O<|oi O<|zM<|fin2 (zZ yE O (J 3 O) O) (rs_c O) ?_
       rw [zPe c1 zB hp hx (indexK_10 c4 c6 c7) uA];rfl
      ·refine zH<|zF<|ol O O<|qC O el72<|zC O zAi<|zE zBs (J 1 O) O<|qC O el72<|yM O<|zA<|zK O ?_ ?_<;>intro c8<;>try simp only [sx] at c8
       ·refine Y O<|yJ O v pl56<|rStR 3 N O<|oi O<|zM<|fin2 (zZ yE O (J 3 O) O) (rs_c O) ?_
        rw [zPe c1 zB hp hx (indexK_11 c4 c6 c7 zB) uA];rfl
       ·refine zH<|Y O<|zN zBa (J 5 O) O<|G O<|zC O zAi<|zE zBs (J 1 O) O<|qL O uB (zVp p vars x.At hz0 hv zB (fun l hl=>by have:=zBw hl;omega)) (vlr O)<|oi O<|ol O O<|yM O<|zA<|zK O ?_ ?_<;>intro c9<;>try simp only [sx] at c9
        ·refine Y O<|yJ O v pl56<|G O<|rStR 3 N O<|oi O<|zM<|fin2 (zZ yE O (J 3 O) O) (rs_c O) ?_
         rw [zPe c1 zB hp hx (indexK_at c4 c6 c7 zB) c9];rfl
        ·have hix:dI p.en (knB p.Sizes vars) x=0:=by rw [indexK_at c4 c6 c7 zB];exact c9
         refine zH<|zP O<|G O<|qH O ⟨zB,zB⟩<|G O<|zA ?_
         refine ⟨k+1,⟨zB,hp.trans (zOi hx hix)⟩,zB,Weak.mk [false,false,true,true,true,true] ⟨zD,zD,zD,zD,zD,zD,T⟩ O⟩
   ·refine qM<|Y O<|zN yE (J 0 O) O<|rStR 1 N O<|oi O<|zM<|fin2 (zZ yE O (J 1 O) O) (rs_c O) ?_
    rw [readK_0 c1 zB (by rw [hp,zAa zB];rfl)];rfl
def zVo (p:Pg) (vars:List nn) (hP:p.Ok) (hv:vars.length<=4294967296) (e:Ex) (ih:∀a,a∈e.Args->gF a=0->a.wt<=4294967296->Pur cfg 198 [vPg p,vSs vars,vE a] (.tup [vTy (bR (gE p.en (knB p.Sizes vars)) a).1,vI (bR (gE p.en (knB p.Sizes vars)) a).2])) (hpart:gF e=0) (he:e.wt<=4294967296):
    Pur cfg 198 [vPg p,vSs vars,vE e] (.tup [vTy (bR (gE p.en (knB p.Sizes vars)) e).1,vI (bR (gE p.en (knB p.Sizes vars)) e).2]):=by
 refine zV func198 O ntmps198 results198 O ?_
 intro z hz
 obtain ⟨hLl,hIl,hAl⟩:=e.parts he
 have hwt:=Ex.wt_eq e
 have hz0:=hP.sizes
 refine Y O<|og O fun b1=>og O fun b2=>qA O O (qZ O v) ?_
 rintro _ _ ⟨b3,rfl,rfl⟩
 refine oi O<|ol O O<|yP _ (kF 56 5)<|zA<|zF<|oh O O<|zS<|zW ⟨[(9,.c _),(8,.c _),(1,.c _),(3,.c _),(5,.c _),(6,.c _)],[_,_,_,_]⟩ (Weak.mk [true,true,true,true] ⟨zD,zD,zD,zD,zD,zD,T⟩ O)<|qG 2 1 O O (Nat×Value) (fun ⟨k,sv⟩=>[(9,vI k),(8,.c (.lit sv))]) (fun ⟨k,sv⟩=>[E.vec sv 56 5 ((bJ (gE p.en (knB p.Sizes vars)) (e.Args.take k)).1.map tyC)]) (fun ⟨k,sv⟩=>k<=e.Args.length/\((bJ (gE p.en (knB p.Sizes vars)) (e.Args.take k)).2=0)) (fun ⟨k,sv⟩=>e.Args.length-k) ⟨⟨0,(.slice none 0 0)⟩,⟨zB,O⟩,Weak.mk [true,true,true,true] ⟨zD,zD,zD,zD,zD,zD,T⟩ O⟩ ?_
 rintro ⟨k,sv⟩ ⟨hk,hp⟩
 show AWP _ _ _ _ _ ⟨[(9,vI k),(8,.c (.lit sv))]++_,[E.vec sv 56 5 ((bJ (gE p.en (knB p.Sizes vars)) (e.Args.take k)).1.map tyC)]++_⟩
 refine zF<|ol O O<|zC O zAc<|zE zDc (J 2 O) O<|qC O el60<|yC O<|zA<|zK O ?_ ?_<;>intro c1<;>try simp only [sx] at c1
 ·obtain ⟨x,hx⟩:=qX e.Args k zB
  have hll:=zHf _ _ hp
  refine zH<|zF<|zS<|zF<|yS 13 1 [⟨0,.q [4]⟩,⟨1,.q []⟩,⟨2,.q []⟩,⟨3,.q [3]⟩,⟨4,.q []⟩,⟨5,.q []⟩,⟨6,.q []⟩,⟨7,.q []⟩,⟨8,.q []⟩,⟨9,.q []⟩,⟨10,.q []⟩,⟨11,.e 0 []⟩,⟨12,.e 0 []⟩] mixed uB uB O O O<|zR O<|zR O<|zR O<|zR O<|zR O<|zR O<|zR O<|zR O<|zR O<|zR O<|zR O<|zR O<|zR O<|wQ<|om O (qB O zBa O (J 0 O) O)<|om O (zQ O O)<|om O (zG O zAc O)<|om O (zJ O zDc O (J 0 O) O)<|om O (zQ O O)<|om O (qK O el60 O O zB (zJz uC))<|om O (qB O yZ O qF O)<|om O (qP O uB (ih x (qD hx) (zPg hpart (qD hx)) (by have:=Ex.arg_wt (qD hx);omega)) (vlr O))<|om O (yW O O)<|om O (yD O O O)<|om O (kM O O O)<|zEm O O uA O O (qZ O v) ?_
  rintro _ _ ⟨b5,rfl,rfl⟩
  refine ⟨_,O,?_⟩
  refine zCk O O uA O O (yO O N O O O (zBo 0 O O)) ?_
  rintro _ _ ⟨rfl,rfl⟩
  refine ⟨_,O,?_⟩
  refine wP O<|oi O<|zF<|ol O O<|yM O<|zA<|zK O ?_ ?_<;>intro c2<;>try simp only [sx] at c2
  ·refine Y O<|yJ O v pl56<|G O<|rStR 2 N O<|oi O<|zM<|fin2 (zZ yE O (J 2 O) O) (rs_c O) ?_
   rw [nodeT_no hx hp c2];rfl
  ·refine zH<|zP O<|G O<|zN yE (J 0 O) O<|yY O wS v<|qA O O (yB 1 O wS O O O (by simp only [lLm,lLc,lLn,hll,aq];omega) (by simp only [lLm,lLc,lLn,hll,aq];omega)) ?_
   rintro _ _ ⟨sv6,rfl,rfl⟩
   refine oi O<|zP O<|G O<|qH O ⟨zB,zB⟩<|G O<|zA ?_
   refine ⟨⟨k+1,sv6⟩,⟨zB,by rw [zGs hx hp c2]⟩,(by show e.Args.length-(k+1)<e.Args.length-k;omega),Weak.mk [false,true,true,true,true] ⟨zD,zD,zD,zD,zD,zD,T⟩ (by show _=[E.vec sv6 _ 5 ((bJ (gE p.en (knB p.Sizes vars)) (e.Args.take (k+1))).1.map tyC)]++_;rw [zGs hx hp c2];simp only [ah];rfl)⟩
 ·have hll:=zHf _ _ hp
  have hta:e.Args.take k=e.Args:=yI zB
  rw [hta] at hll
  have hg:∀i,i<e.Args.length->((bJ (gE p.en (knB p.Sizes vars)) (e.Args.take k)).1.map tyC)[i]? =some (tyC (dP (bJ (gE p.en (knB p.Sizes vars)) (e.Args.take k)).1 i)):=fun i hi=>zTs (by rw [hta];omega)
  have hT:bR (gE p.en (knB p.Sizes vars)) e=(gE p.en (knB p.Sizes vars)) e (bJ (gE p.en (knB p.Sizes vars)) (e.Args.take k)).1:=nodeT_ok hta hp
  have hlk:(bJ (gE p.en (knB p.Sizes vars)) (e.Args.take k)).1.length=e.Args.length:=by rw [hta];exact hll
  refine qM<|zF<|zS<|Y O<|zC O wH<|zE one3 (J 2 O) O<|yT O<|G O<|rL0 O (fun g9_3=>zG O wH O) O<|rL1 43 O (fun g9_3=>zJ O one3 O (J 2 O) O) O<|rL1 44 O (fun g9_3=>yX O O O) O<|r_or O (fun h=>(lzf h))<|oi O<|zK O ?_ ?_<;>intro c3<;>try simp only [sx] at c3
  ·refine Y O<|zC O zGl<|zN yE (J 2 O) O<|rStR 1 N O<|oi O<|zM<|fin2 (zZ yE O (J 1 O) O) (rs_c O) ?_
   exact by rw [hT,refN_1 c3];rfl
  ·refine Y O<|zC O wH<|zE one3 (J 2 O) O<|yT O<|oi O<|qO O (fun c4=>?_) (fun c4=>?_)
   ·refine Y O<|yJ O v pl56<|zN zBa (J 3 O) O<|G O<|zC O zDt<|zN yV (J 2 O) O<|yY O el72 U<|qL O uB (zVp p vars [e.Lin] hz0 hv uF (fun x hx=>by rw [aR.1 hx];omega)) (vlr O)<|rStR 1 N O<|oi O<|zM<|fin2 (zZ yE O (J 1 O) O) (rs_c O) ?_
    exact by rw [hT,refN_2 c4];rfl
   ·refine Y O<|zC O wH<|zE one3 (J 2 O) O<|yT O<|oi O<|qO O (fun c5=>?_) (fun c5=>?_)
    ·refine Y O<|zN zBa (J 3 O) O<|G O<|zN yZ (J 2 O) O<|qL O uB (ref17_read p vars e hP hv he) (vlr O)<|zT O (yD O O O)<|yF O<|rStR 1 N O<|oi O<|zM<|fin2 (zZ yE O (J 1 O) O) (rs_c O) ?_
     exact by rw [hT,refN_3 c5];rfl
    ·refine Y O<|zC O wH<|zE one3 (J 2 O) O<|yT O<|oi O<|qO O (fun c6=>?_) (fun c6=>?_)
     ·have hlen3:=args_len3 hpart c6
      refine zF<|zF<|yH 7 mixed uB O O<|oo O (zQ O O)<|oo O (qT 0 O wS O O O zB uH)<|oo O (qB O yE O (kQ 0 O (hg 1 zB)) O)<|oo O (zQ O O)<|oo O (qT 0 O wS O O O zB uH)<|oo O (qB O yE O (kQ 0 O (hg 2 zB)) O)<|oo O (zBg O fl56 O O O)<|kE<|zA<|zK O (fun c7=>?_) (fun c7=>?_)
      ·refine Y O<|yJ O v pl56<|rStR 1 N O<|oi O<|zM<|fin2 (zZ yE O (J 1 O) O) (rs_c O) ?_
       exact by rw [hT,refN_11' c6 (zEl c7)];rfl
      ·refine zH<|ol O O<|zT O (qT 0 O wS O O O zB uH)<|zN yE (kQ 0 O (hg 1 zB)) O<|rStR 1 N O<|oi O<|zM<|fin2 (zZ yE O (J 1 O) O) (rs_c O) ?_
       exact by rw [hT,refN_11 c6 (zDy c7)];rfl
     ·refine Y O<|zC O wH<|zE one3 (J 2 O) O<|yT O<|oi O<|qO O (fun c8=>?_) (fun c8=>?_)
      ·have hlen1:=zUp hpart zB
       refine ol O O<|zT O (qT 0 O wS O O O zB uH)<|zN yE (kQ 0 O (hg 0 zB)) O<|rStR 1 N O<|oi O<|zM<|fin2 (zZ yE O (J 1 O) O) (rs_c O) ?_
       exact by rw [hT,refN_8 c8];rfl
      ·refine Y O<|zC O wH<|zE one3 (J 2 O) O<|zT O (wG O O O)<|oi O<|zK O ?_ ?_<;>intro c9<;>try simp only [sx] at c9
       ·refine Y O<|yJ O v pl56<|rStR 1 N O<|oi O<|zM<|fin2 (zZ yE O (J 1 O) O) (rs_c O) ?_
        exact by rw [hT,refN_16 c9];rfl
       ·have hlen2:=zDb hpart zB
        refine zH<|zF<|zF<|yH 7 mixed uB O O<|oo O (zQ O O)<|oo O (qT 0 O wS O O O zB uH)<|oo O (qB O yE O (kQ 0 O (hg 0 zB)) O)<|oo O (zQ O O)<|oo O (qT 0 O wS O O O zB uH)<|oo O (qB O yE O (kQ 0 O (hg 1 zB)) O)<|oo O (zBg O fl56 O O O)<|kE<|zA<|zK O (fun c10=>?_) (fun c10=>?_)
        ·refine Y O<|yJ O v pl56<|rStR 1 N O<|oi O<|zM<|fin2 (zZ yE O (J 1 O) O) (rs_c O) ?_
         exact by rw [hT,refN_no zB (zEl c10)];rfl
        ·refine zH<|zF<|Y O<|zC O wH<|zE one3 (J 2 O) O<|zT O (wG O O O)<|zA<|zK O ?_ ?_<;>intro c11<;>try simp only [sx] at c11
         ·refine Y O<|yJ O v pl56<|rStR 1 N O<|oi O<|zM<|fin2 (zZ yE O (J 1 O) O) (rs_c O) ?_
          exact by rw [hT,refN_13 zB (zDy c10) c11];rfl
         ·refine zH<|ol O O<|zT O (qT 0 O wS O O O zB uH)<|zN yE (kQ 0 O (hg 0 zB)) O<|rStR 1 N O<|oi O<|zM<|fin2 (zZ yE O (J 1 O) O) (rs_c O) ?_
          exact by rw [hT,refN_o zB (zDy c10)];rfl
def ref17_node (p:Pg) (vars:List nn) (e:Ex) (hP:p.Ok) (hv:vars.length<=4294967296) (hpart:gF e=0) (he:e.wt<=4294967296):Pur cfg 198 [vPg p,vSs vars,vE e] (.tup [vTy (bR (gE p.en (knB p.Sizes vars)) e).1,vI (bR (gE p.en (knB p.Sizes vars)) e).2]):=by
  induction e using Ex.ind with
  |_ e ih=>exact zVo p vars hP hv e (fun a ha h1 h2=>ih a ha h1 h2) hpart he
def ref17_TypeOf (p:Pg) (vars:List nn) (e:Ex) (hP:p.Ok) (hv:vars.length<=4294967296) (he:e.wt<=4294967296):
    Pur cfg 150 [vPg p,vSs vars,vE e] (.tup [vTy (mV p.en vars e).1,vI (mV p.en vars e).2]):=by
 refine zV func150 O ntmps150 results150 O fun z hz=>Y O<|og O fun b1=>og O fun b2=>qA O O (qZ O v) ?_
 rintro _ _ ⟨b3,rfl,rfl⟩
 refine oi O<|zF<|Y O<|zN yZ (J 1 O) O<|qL O uB (ref14_Validate e zB) (vlr O)<|oi O<|ol O O<|yM O<|zA<|zK O ?_ ?_<;>intro c1<;>try simp only [sx] at c1
 ·refine Y O<|yJ O v pl56<|G O<|rStR 0 N O<|oi O<|zM<|fin2 (zZ yE O (J 0 O) O) (rs_c O) ?_
  rw [typeR_bad c1];rfl
 ·refine zH<|zF<|Y O<|zN yZ (J 1 O) O<|qL O uB (zEj e) (vlr O)<|zA<|zK O ?_ ?_<;>intro c2<;>try simp only [sx] at c2
  ·refine Y O<|yJ O v pl56<|rStR 0 N O<|oi O<|zM<|fin2 (zZ yE O (J 0 O) O) (rs_c O) ?_
   rw [typeR_cond c1 c2];rfl
  ·have hTo:=typeR_of (n:=p.en) (vars:=vars) c1 c2
   refine zH<|Y O<|zN zBa (J 2 O) O<|G O<|zN yZ (J 1 O) O<|qL O uB (ref17_node p vars e hP hv (zFc c1) he) (vlr O)<|qW O<|zT O (yD O O O)<|yF O<|qA O O (qZ O v) ?_
   rintro _ _ ⟨b4,rfl,rfl⟩
   refine rStR 0 N O<|oi O<|zF<|ol O O<|yM O<|zA<|zK O ?_ ?_<;>intro c3<;>try simp only [sx] at c3
   ·refine Y O<|yJ O v pl56<|G O<|rStR 1 N O<|oi O<|zM<|fin2 (zZ yE O (J 1 O) O) (rs_c O) ?_
    rw [hTo,aa (show ¬(bR (gE p.en (knB p.en.sz vars)) e).2=0 from c3)];rfl
   ·refine zH<|Y O<|zN yE (J 0 O) O<|rStR 1 N O<|oi O<|zM<|fin2 (zZ yE O (J 1 O) O) (rs_c O) ?_
    rw [hTo,ab (show (bR (gE p.en (knB p.en.sz vars)) e).2=0 from c3)];rfl
end Go.W
end
section
set_option maxRecDepth 10000
namespace Go.W
open Go Go.Eng Go.Proofs Go.L41 Go.Br Tryz
attribute [local irreducible] AWP RWP TD fY
def pl30:fA prog 30=some [(0,1),(1,1),(2,1),(3,1),(4,1)]:=by kernel_rfl
def zRc (l:Lf) (sz:List nn) (hl:l.L.length<=5864062014805) (hz0:sz.length<=4294967296):
    Pur cfg 81 [dC l,vSs sz] (vI (jA l sz)):=by
 refine zV func81 O ntmps81 results81 O fun z hz=>Y O<|og O fun b1=>oi O<|zF<|Y O<|zN yV (J 0 O) O<|qL O uB (zCh l zB) (vlr O)<|kU O<|zA<|zK O ?_ ?_<;>intro c1<;>try simp only [sx] at c1
 ·refine oh O O<|zM<|zX O ?_
  rw [formR_1 c1]
 ·refine zH<|zF<|Y O<|zN yV (J 0 O) O<|G O<|qL O uB (zOd l [] sz hl uF hz0) ⟨zD,O,VLe.nil,O,zD,O,T⟩<|kU O<|zA<|zK O ?_ ?_<;>intro c2<;>try simp only [sx] at c2
  ·refine oh O O<|zM<|zX O ?_
   rw [formR_9 c1 c2]
  ·refine zH<|oh O O<|zM<|zX O ?_
   rw [formR_0 c1 c2]
def zMv (s:nn) (t:List nn) (ht:t.length<=4294967296):
    Pur cfg 145 [vS s,vSs t] (vI (dE s t)):=by
 refine zV func145 O ntmps145 results145 O fun z hz=>oh O O<|zF<|ol O O<|qL O uB (zHr s) (vlr O)<|kU O<|zA<|zK O ?_ ?_<;>intro c1<;>try simp only [sx] at c1
 ·refine oh O O<|zM<|zX O ?_
  rw [nameR_7 c1]
 ·refine zH<|zF<|ol O O<|G O<|qL O uB (zNf t s zB) (vlr O)<|zA<|zK O ?_ ?_<;>intro c2<;>try simp only [sx] at c2
  ·refine oh O O<|zM<|zX O ?_
   rw [nameR_8 c1 c2]
  ·refine zH<|oh O O<|zM<|zX O ?_
   rw [nameR_0 c1 (by simpa using c2)]
def ref17_param (x:Pm) (sz t:List nn) (hl0:x.Dims.length<=4294967296) (hx0:∀l,l∈x.Dims->l.L.length<=5864062014805) (hz0:sz.length<=4294967296) (ht:t.length<=4294967296):
    Pur cfg 82 [vPm x,vSs sz,vSs t] (vI (jH x sz t)):=by
 refine zV func82 O ntmps82 results82 O fun z hz=>Y O<|og O fun b1=>oi O<|zF<|Y O<|zC O zPw<|zE one9 (J 0 O) O<|G O<|qL O uB (zMv x.Name t ht) (vlr O)<|oi O<|ol O O<|yM O<|zA<|zK O ?_ ?_<;>intro c1<;>try simp only [sx] at c1
 ·refine ol O O<|oi O<|zM<|zX O ?_
  rw [paramR_1 c1]
 ·refine zH<|zF<|Y O<|zC O fd74_1<|zN yE (J 0 O) O<|qL O uB (zJf x.T) (vlr O)<|kU O<|zA<|zK O ?_ ?_<;>intro c2<;>try simp only [sx] at c2
  ·refine oh O O<|zM<|zX O ?_
   rw [paramR_10 c1 c2]
  ·refine zH<|zF<|Y O<|zC O zPv<|zE zBs (J 0 O) O<|qC O el72<|zT O (yN O O O)<|zA<|zK O ?_ ?_<;>intro c3<;>try simp only [sx] at c3
   ·refine oh O O<|zM<|zX O ?_
    rw [paramR_11 c1 c2 zB]
   ·refine zH<|zF<|oh O O<|zS<|zW ⟨[(8,.c _),(1,.c _),(3,.c _)],[_]⟩ (Weak.mk [true] ⟨zD,zD,zD,T⟩ O)<|qG 1 0 O O (Nat) (fun k=>[(8,vI k)]) (fun k=>[]) (fun k=>k<=x.Dims.length/\(mT sz x.Dims=mT sz (x.Dims.drop k))) (fun k=>x.Dims.length-k) ⟨0,⟨zB,O⟩,Weak.mk [true] ⟨zD,zD,zD,T⟩ O⟩ ?_
    rintro k ⟨hk,hp⟩
    refine zF<|ol O O<|zC O zPv<|zE zBs (J 0 O) O<|qC O el72<|yC O<|zA<|zK O ?_ ?_<;>intro c4<;>try simp only [sx] at c4
    ·obtain ⟨y,hy⟩:=qX x.Dims k zB
     refine zH<|zF<|zS<|Y O<|zC O zPv<|zE zBs (J 0 O) O<|G O<|qE O el72 zB (getm uC)<|zN yV qF O<|G O<|qL O uB (zRc y sz (hx0 y (qD hy)) hz0) (vlr O)<|oi O<|ol O O<|yM O<|zA<|zK O ?_ ?_<;>intro c5<;>try simp only [sx] at c5
     ·refine ol O O<|oi O<|zM<|zX O ?_
      rw [paramR_f c1 c2 zB,hp,formsR_no hy c5]
     ·refine zH<|zP O<|G O<|qH O ⟨zB,zB⟩<|G O<|zA ?_
      refine ⟨k+1,⟨zB,hp.trans (formsR_next hy c5)⟩,zB,Weak.mk [true] ⟨zD,zD,zD,T⟩ O⟩
    ·refine qM<|oh O O<|zM<|zX O ?_
     rw [paramR_f c1 c2 zB,hp,zAa zB];rfl
def ref17_axes (l:List Ax) (sz:List nn) (hl0:l.length<=2147483648) (hx0:∀a,a∈l->a.Size.L.length<=5864062014805) (hz0:sz.length<=4194304):
    Pur cfg 148 [.c (.sl 3 (l.map Ax.cells)),vSs sz] (vI (jL sz sz l)):=by
 refine zV func148 O ntmps148 results148 O fun z hz=>oh O O<|Y O<|qA O O (zAt O el25 zr9 O O O O) ?_
 rintro _ _ ⟨sv1,rfl,rfl⟩
 refine G O<|qA O O (yB 0 O el25 O O O uG uG) ?_
 rintro _ _ ⟨sv2,rfl,rfl⟩
 refine oi O<|zF<|oh O O<|zS<|zW ⟨[(6,.c _),(5,.c _),(0,.c _),(1,.c _)],[_]⟩ (Weak.mk [true] ⟨zD,zD,zD,zD,T⟩ O)<|qG 2 1 O O (Nat×Value) (fun ⟨k,sv⟩=>[(6,vI k),(5,.c (.lit sv))]) (fun ⟨k,sv⟩=>[E.vec sv 9 1 ((sz++(l.take k).map Ax.Name).map fun s=>[cS s])]) (fun ⟨k,sv⟩=>k<=l.length/\(jL sz sz l=jL sz (sz++(l.take k).map Ax.Name) (l.drop k))) (fun ⟨k,sv⟩=>l.length-k) ⟨⟨0,_⟩,⟨zB,uF⟩,Weak.mk [true] ⟨zD,zD,zD,zD,T⟩ (by show _=[E.vec _ _ 1 ((sz++[]).map fun s=>[cS s])]++_;rw [lAn sz];rfl)⟩ ?_
 rintro ⟨k,sv⟩ ⟨hk,hp⟩
 show AWP _ _ _ _ _ ⟨[(6,vI k),(5,.c (.lit sv))]++_,[E.vec sv 9 1 ((sz++(l.take k).map Ax.Name).map fun s=>[cS s])]++_⟩
 refine zF<|ol O O<|G O<|qC O el68<|yC O<|zA<|zK O ?_ ?_<;>intro c1<;>try simp only [sx] at c1
 ·obtain ⟨x,hx⟩:=qX l k zB
  refine zH<|zF<|zS<|zF<|ol O O<|G O<|qE O el68 zB (getm uC)<|qR O zHy<|zE one9 qF O<|G O<|zT O (zCg 0 O uB O (zMv x.Name (sz++(l.take k).map Ax.Name) uG) O ⟨.inr ⟨zD,O⟩,.inl ⟨O,O⟩,T⟩)<|oi O<|ol O O<|yM O<|zA<|zK O ?_ ?_<;>intro c2<;>try simp only [sx] at c2
  ·refine ol O O<|oi O<|zM<|zX O ?_
   rw [hp,axesR_n hx c2]
  ·refine zH<|zF<|ol O O<|G O<|qE O el68 zB (getm uC)<|qR O zXb<|zN yV qF O<|G O<|qL O uB (zRc x.Size sz (hx0 x (qD hx)) zB) (vlr O)<|oi O<|ol O O<|yM O<|zA<|zK O ?_ ?_<;>intro c3<;>try simp only [sx] at c3
   ·refine ol O O<|oi O<|zM<|zX O ?_
    rw [hp,axesR_f hx c2 c3]
   ·refine zH<|zP O<|G O<|G O<|G O<|qE O el68 zB (getm uC)<|qR O zHy<|zE one9 qF O<|yY O el25 zr9<|qA O O (yB 0 O el25 O O O uG uG) ?_
    rintro _ _ ⟨sv3,rfl,rfl⟩
    refine oi O<|zP O<|G O<|qH O ⟨zB,zB⟩<|G O<|zA ?_
    refine ⟨⟨k+1,sv3⟩,⟨zB,by rw [hp,axesR_next hx c2 c3,yA hx,ah,←lAa];rfl⟩,(by show l.length-(k+1)<l.length-k;omega),Weak.mk [true] ⟨zD,zD,zD,zD,T⟩ (by show _=[E.vec sv3 _ 1 ((sz++(l.take (k+1)).map Ax.Name).map fun s=>[cS s])]++_;rw [yA hx,ah (f:=Ax.Name),←lAa,ah (f:=fun s=>[cS s]) (l₁:=sz++(l.take k).map Ax.Name)];rfl)⟩
 ·refine qM<|oh O O<|zM<|zX O ?_
  rw [hp,zAa zB];rfl
def zVn (d:Df):
    Pur cfg 149 [vDf d] (vI (pB d)):=by
 refine zV func149 O ntmps149 results149 O fun z hz=>Y O<|og O fun b1=>oi O<|zF<|Y O<|zC O zHz<|zE one3 (J 0 O) O<|yC O<|G O<|rL0 O (fun g1_3=>zG O zHz O) O<|rL1 8 O (fun g1_3=>zJ O one3 O (J 0 O) O) O<|rL1 9 O (fun g1_3=>yN O O O) O<|r_or O (fun h=>(lzf h))<|zA<|zK O (fun c1=>?_) (fun c1=>?_)
 ·have h1:=(red1 d).1 c1
  refine oh O O<|zM<|zX O ?_
  rw [pB,ab h1]
 ·have h1:=(red1 d).2 c1
  refine zH<|Y O<|zC O zHz<|zE one3 (J 0 O) O<|yT O<|G O<|rL0 O (fun g3_3=>zG O zHz O) O<|rL1 16 O (fun g3_3=>zJ O one3 O (J 0 O) O) O<|rL1 17 O (fun g3_3=>yX O O O) O<|r_or O (fun h=>(lzf h))<|oi O<|zF<|ol O O<|zC O zCb<|zE zAn (J 0 O) O<|qC O el68<|yT O<|zT O (zKf O un4 O O)<|G O<|rL0 O (fun g4_6=>zG O zHz O) O<|rL1 27 O (fun g4_6=>zJ O one3 O (J 0 O) O) O<|rL1 28 O (fun g4_6=>yX O O O) O<|rL1 29 O (fun g4_6=>zQ O O) O<|rLz [] O gv2 T (fun g4_10=>zG O zDg O) O<|rLz [(31,_)] O gv2 ⟨O,O,T⟩ (fun g4_10=>zJ O zAn O (J 0 O) O) O<|rLz [(32,_)] O gv2 ⟨O,O,T⟩ (fun g4_10=>yG O el68 O) O<|rLz [(33,_)] O gv2 ⟨O,O,T⟩ (fun g4_10=>yX O O O) O<|rL1 30 O (fun g4_6=>zAd O O O (fun h=>kR uC h) O) O<|r_or O (fun h=>(lzf h))<|zA<|zK O (fun c2=>?_) (fun c2=>?_)
  ·refine oh O O<|zM<|zX O ?_
   rw [pB,aa h1,ab (red2 c2)]
  ·refine zH<|oh O O<|zM<|zX O ?_
   rw [pB,aa h1,aa (red3 c2)]
def ref17_def (p:Pg) (hP:p.Ok) (hz0:p.Sizes.length<=64) (k:Nat) (d:Df) (hd:p.Defs[k]? =some d) (t:List nn) (ht:t.length<=4294967296):
    Pur cfg 83 [vPg p,vI k,vSs t] (vI (nB ⟨p.Sizes,p.Params,p.Defs.take k⟩ d t)):=by
 refine zV func83 O ntmps83 results83 O ?_
 intro z hz
 obtain ⟨hD,hR,hA,hA2,hB⟩:=hP.ds d (qD hd)
 have hlen:=zSa hd
 have hpd:=hP.defs
 have hDR:(d.Dims++d.Red).length=d.Dims.length+d.Red.length:=lLa
 have hAx:∀a,a∈d.Dims++d.Red->a.Size.L.length<=5864062014805:=fun a ha=>by rcases ao.1 ha with h|h;exact hA a h;exact hA2 a h
 have hrows:[]++d.Dims.map Ax.cells++d.Red.map Ax.cells=(d.Dims++d.Red).map Ax.cells:=by simp
 have hax:Pur cfg 148 [.c (.sl 3 ([]++d.Dims.map Ax.cells++d.Red.map Ax.cells)),vSs p.Sizes] (vI (jL p.Sizes p.Sizes (d.Dims++d.Red))):=by rw [hrows];exact ref17_axes (d.Dims++d.Red) p.Sizes zB hAx zB
 have hP2:(⟨p.Sizes,[],p.Params,p.Defs.take k,[]⟩:Pg).Ok:=⟨hP.sizes,uF,hP.params,(hP.take k).defs,uF,fun c hc=>(by cases hc),hP.ps,(hP.take k).ds⟩
 refine Y O<|og O fun b1=>oi O<|Y O<|zC O zAo<|zE zDr (J 0 O) O<|G O<|qE O el28 zB (getm uC)<|zN zLa qF O<|qA O O (qI nx O zr70 O) ?_
 rintro _ _ ⟨b2,rfl,rfl⟩
 refine rStR 0 sz70 O<|zA<|zF<|Y O<|zC O zCn<|zE one9 (J 0 O) O<|G O<|qL O uB (zMv d.Name t ht) (vlr O)<|oi O<|ol O O<|yM O<|zA<|zK O ?_ ?_<;>intro c1<;>try simp only [sx] at c1
 ·refine ol O O<|oi O<|zM<|zX O ?_
  rw [defR_1 c1]
 ·refine zH<|zF<|Y O<|zC O zKt<|zN yE (J 0 O) O<|qL O uB (zJf d.T) (vlr O)<|kU O<|zA<|zK O ?_ ?_<;>intro c2<;>try simp only [sx] at c2
  ·refine oh O O<|zM<|zX O ?_
   rw [defR_10 c1 c2]
  ·refine zH<|zF<|Y O<|zC O zDg<|zE zAn (J 0 O) O<|qC O el68<|zT O (yN O O O)<|G O<|rL0 O (fun g7_4=>zG O zCb O) O<|rL1 34 O (fun g7_4=>zJ O zAn O (J 0 O) O) O<|rL1 35 O (fun g7_4=>yG O el68 O) O<|rL1 36 O (fun g7_4=>yN O O O) O<|r_or O (fun h=>(lzf h))<|zA<|zK O ?_ ?_<;>intro c3<;>try simp only [sx] at c3
   ·refine oh O O<|zM<|zX O ?_
    rw [defR_11 c1 c2 zB]
   ·have hX:=defR_ok (n:=⟨p.Sizes,p.Params,p.Defs.take k⟩) c1 c2 zB
    refine zH<|zF<|zF<|yS 9 1 [⟨1,.q []⟩,⟨2,.q [1]⟩,⟨4,.q []⟩,⟨5,.q [1]⟩,⟨7,.q []⟩,⟨8,.q [2]⟩,⟨0,.e 0 []⟩,⟨3,.e 0 []⟩,⟨6,.e 0 []⟩] mixed uB uB O O O<|zR O<|zR O<|zR O<|zR O<|zR O<|zR O<|zR O<|zR O<|zR O<|wQ<|om O (zG O zDg O)<|om O (zJ O zAn O (J 0 O) O)<|om O (zG O zCb O)<|om O (zJ O zAn O (J 0 O) O)<|om O (zG O zCt O)<|om O (zJ O zBp O (J 0 O) O)<|zEm O O uA O O (zAt O el68 zr99 O O O O) ?_
    rintro _ _ ⟨sv3,rfl,rfl⟩
    refine ⟨_,O,?_⟩
    refine zEm O O uA O O (yB 0 O el68 O O O uG uG) ?_
    rintro _ _ ⟨sv4,rfl,rfl⟩
    refine ⟨_,O,?_⟩
    refine zEm O O uA O O (yB 0 O el68 O O O uG uG) ?_
    rintro _ _ ⟨sv5,rfl,rfl⟩
    refine ⟨_,O,?_⟩
    refine wP O<|zT O (zCg 0 O uB O hax O ⟨.inl ⟨O,O⟩,.inr ⟨zD,O⟩,T⟩)<|oi O<|ol O O<|yM O<|zA<|zK O ?_ ?_<;>intro c4<;>try simp only [sx] at c4
    ·refine ol O O<|oi O<|zM<|zX O ?_
     rw [hX,aa c4]
    ·rw [ab c4] at hX
     refine zH<|zF<|Y O<|zN zLa (J 1 O) O<|qL O uB (zVn d) (vlr O)<|oi O<|ol O O<|yM O<|zA<|zK O ?_ ?_<;>intro c5<;>try simp only [sx] at c5
     ·refine ol O O<|oi O<|zM<|zX O ?_
      rw [hX,aa c5]
     ·rw [ab c5] at hX
      unfold rO at hX
      refine zH<|zF<|yS 19 1 [⟨0,.q []⟩,⟨1,.q [3]⟩,⟨2,.q []⟩,⟨3,.q [3]⟩,⟨4,.q []⟩,⟨5,.q [3]⟩,⟨6,.q []⟩,⟨7,.q []⟩,⟨8,.q []⟩,⟨9,.q [2]⟩,⟨10,.q []⟩,⟨11,.q []⟩,⟨12,.q [2]⟩,⟨13,.q []⟩,⟨14,.q []⟩,⟨15,.q []⟩,⟨16,.q []⟩,⟨17,.e 0 []⟩,⟨18,.e 0 []⟩] mixed uB uB O O O<|zR O<|zR O<|zR O<|zR O<|zR O<|zR O<|zR O<|zR O<|zR O<|zR O<|zR O<|zR O<|zR O<|zR O<|zR O<|zR O<|zR O<|zR O<|zR O<|wQ<|om O (zG O zCt O)<|om O (zJ O zBp O (J 0 O) O)<|om O (zG O zDu O)<|om O (zJ O zIk O (J 0 O) O)<|om O (zG O zAo O)<|om O (zJ O zDr O (J 0 O) O)<|om O (zQ O O)<|om O (zDa O el28 O O zB)<|om O (zAu [none,some 3,none,none,some 1] O zr30 pl30 O O)<|om O (qB O zLa O (J 0 O) O)<|om O (qP O uB (OwnR.pur (zGf d hD hR)) (vlr O))<|om O (zG O fd70_5 O)<|om O (qB O yZ O (J 0 O) O)<|om O (qP O uB (ref17_TypeOf (⟨p.Sizes,[],p.Params,p.Defs.take k,[]⟩:Pg) (bD d) d.Body hP2 (by rw [bD,lLa,lLm,lLm];omega) hB) (vlr O))<|om O (yW O O)<|om O (yD O O O)<|om O (kM O O O)<|zEm O O uA O O (qZ O v) ?_
      rintro _ _ ⟨b6,rfl,rfl⟩
      refine ⟨_,O,?_⟩
      refine zCk O O uA O O (yO O N O O O (zBo 0 O O)) ?_
      rintro _ _ ⟨rfl,rfl⟩
      refine ⟨_,O,?_⟩
      refine wP O<|oi O<|zF<|ol O O<|yM O<|zA<|zK O ?_ ?_<;>intro c6<;>try simp only [sx] at c6
      ·refine ol O O<|oi O<|zM<|zX O ?_
       rw [hX,aa (show ¬(mV (⟨p.Sizes,p.Params,p.Defs.take k⟩:En) (bD d) d.Body).2=0 from c6)];rfl
      ·rw [ab (show (mV (⟨p.Sizes,p.Params,p.Defs.take k⟩:En) (bD d) d.Body).2=0 from c6)] at hX
       refine zH<|zF<|Y O<|zN yE (J 0 O) O<|zC O zKt<|zN yE (J 2 O) O<|zT O (zBg O fl56 O O O)<|zA<|zK O (fun c7=>?_) (fun c7=>?_)
       ·refine oh O O<|zM<|zX O ?_
        rw [hX,aa (show ¬(mV (⟨p.Sizes,p.Params,p.Defs.take k⟩:En) (bD d) d.Body).1=d.T from zEl c7)]
       ·refine zH<|oh O O<|zM<|zX O ?_
        rw [hX,ab (show (mV (⟨p.Sizes,p.Params,p.Defs.take k⟩:En) (bD d) d.Body).1=d.T from zDy c7)]
def ref17_sizes (p:Pg) (hP:p.Ok):
    Pur cfg 80 [vPg p] (vI (lR p)):=by
 refine zV func80 O ntmps80 results80 O ?_
 intro z hz
 have hpz:=hP.sizes
 refine Y O<|og O fun b1=>oi O<|zF<|Y O<|zC O zCt<|zE zBp (J 0 O) O<|qC O el25<|zT O (yN O O O)<|G O<|rL0 O (fun g1_4=>zG O zDu O) O<|rL1 10 O (fun g1_4=>zJ O zIk O (J 0 O) O) O<|rL1 11 O (fun g1_4=>yG O el27 O) O<|rL1 12 O (fun g1_4=>yN O O O) O<|r_or O (fun h=>(lzf h))<|G O<|rL0 O (fun g1_10=>zG O zAo O) O<|rL1 16 O (fun g1_10=>zJ O zDr O (J 0 O) O) O<|rL1 17 O (fun g1_10=>yG O el28 O) O<|rL1 18 O (fun g1_10=>yN O O O) O<|r_or O (fun h=>(lzf h))<|G O<|rL0 O (fun g1_16=>zG O zMk O) O<|rL1 22 O (fun g1_16=>zJ O zBp O (J 0 O) O) O<|rL1 23 O (fun g1_16=>yG O el25 O) O<|rL1 24 O (fun g1_16=>yN O O O) O<|r_or O (fun h=>(lzf h))<|G O<|rL0 O (fun g1_22=>zG O zPy O) O<|rL1 28 O (fun g1_22=>zJ O one26 O (J 0 O) O) O<|rL1 29 O (fun g1_22=>yG O el26 O) O<|rL1 30 O (fun g1_22=>yN O O O) O<|r_or O (fun h=>(lzf h))<|zA<|zK O (fun c1=>?_) (fun c1=>?_)
 ·have hl:¬dK p:=lim_no c1
  refine oh O O<|zM<|zX O ?_
  rw [lR,aa hl]
 ·have hl:dK p:=lim_yes c1
  have hz:lR p=jB [] p.Sizes:=by unfold lR;rw [ab hl]
  refine zH<|zF<|oh O O<|zS<|zW ⟨[(3,.c _),(1,.c _)],[_]⟩ (Weak.mk [true] ⟨zD,zD,T⟩ O)<|qG 1 0 O O (Nat) (fun k=>[(3,vI k)]) (fun k=>[]) (fun k=>k<=p.Sizes.length/\(jB [] p.Sizes=jB (p.Sizes.take k) (p.Sizes.drop k))) (fun k=>p.Sizes.length-k) ⟨0,⟨zB,O⟩,Weak.mk [true] ⟨zD,zD,T⟩ O⟩ ?_
  rintro k ⟨hk,hp⟩
  refine zF<|ol O O<|zC O zCt<|zE zBp (J 0 O) O<|qC O el25<|yC O<|zA<|zK O ?_ ?_<;>intro c2<;>try simp only [sx] at c2
  ·obtain ⟨x,hx⟩:=qX p.Sizes k zB
   refine zH<|zF<|zS<|zF<|yH 11 mixed uB O O<|oo O (zG O zCt O)<|oo O (zJ O zBp O (J 0 O) O)<|oo O (zQ O O)<|oo O (qK O el25 O O zB (getm uC))<|oo O (zJ O one9 O qF O)<|oo O (zG O zCt O)<|oo O (zJ O zBp O (J 0 O) O)<|oo O (zQ O O)<|oo O (zDa O el25 O O zB)<|oo O (qP O uB (zMv x (p.Sizes.take k) (by rw [aq];omega)) (vlr O))<|oo O (yR O O)<|kE<|zA<|ol O O<|yM O<|zA<|zK O ?_ ?_<;>intro c3<;>try simp only [sx] at c3
   ·refine ol O O<|oi O<|zM<|zX O ?_
    rw [hz,hp,sizesR_no hx c3]
   ·refine zH<|zP O<|G O<|qH O ⟨zB,zB⟩<|G O<|zA ?_
    refine ⟨k+1,⟨zB,hp.trans (sizesR_next hx c3)⟩,zB,Weak.mk [true] ⟨zD,zD,T⟩ O⟩
  ·refine qM<|oh O O<|zM<|zX O ?_
   rw [hz,hp,zAa zB];rfl
def zNo (p:Pg) (hP:p.Ok):
    Pur cfg 34 [vPg p] (.tup [vI (lG p).1,vI (lG p).2]):=by
 refine zV func34 O ntmps34 results34 O ?_
 intro z hz
 have hps:=hP.sizes
 have hpw:=hP.wh
 have hpp:=hP.params
 have hpd:=hP.defs
 have hpo:=hP.outs
 refine Y O<|og O fun b1=>G O<|oi O<|zF<|Y O<|zN zBa (J 0 O) O<|qL O uB (ref17_sizes p hP) (vlr O)<|oi O<|ol O O<|yM O<|zA<|zK O ?_ ?_<;>intro c1<;>try simp only [sx] at c1
 ·refine ol O O<|G O<|oi O<|zM<|fin2 (rs_c O) (rs_c O) ?_
  rw [validR_s c1]
 ·have hlm:dK p:=(zQz c1).1
  have hlp:p.Params.length<=64:=hlm.2.1
  have hld:p.Defs.length<=64:=hlm.2.2.1
  have hlz:p.Sizes.length<=64:=hlm.1
  refine zH<|zF<|oh O O<|zS<|zW ⟨[(5,.c _),(1,.c _)],[_]⟩ (Weak.mk [true] ⟨zD,zD,T⟩ O)<|qG 1 0 O O (Nat) (fun k=>[(5,vI k)]) (fun k=>[]) (fun k=>k<=p.Where.length/\(jM p.Sizes p.Where=jM p.Sizes (p.Where.drop k))) (fun k=>p.Where.length-k) ⟨0,⟨zB,O⟩,Weak.mk [true] ⟨zD,zD,T⟩ O⟩ ?_
  rintro k ⟨hk,hp⟩
  refine zF<|ol O O<|zC O zPy<|zE one26 (J 0 O) O<|qC O el26<|yC O<|zA<|zK O ?_ ?_<;>intro c2<;>try simp only [sx] at c2
  ·obtain ⟨x,hx⟩:=qX p.Where k zB
   refine zH<|zF<|zS<|zF<|yH 10 mixed uB O O<|oo O (zG O zPy O)<|oo O (zJ O one26 O (J 0 O) O)<|oo O (zQ O O)<|oo O (qK O el26 O O zB (getm uC))<|oo O (qV O zXf O)<|oo O (qB O yV O qF O)<|oo O (zG O zCt O)<|oo O (zJ O zBp O (J 0 O) O)<|oo O (qP O uB (zRc x.Lin p.Sizes (hP.whs x (qD hx)) zB) (vlr O))<|oo O (yR O O)<|kE<|zA<|ol O O<|yM O<|zA<|zK O ?_ ?_<;>intro c3<;>try simp only [sx] at c3
   ·refine ol O O<|G O<|oi O<|zM<|fin2 (rs_c O) (rs_c O) ?_
    rw [validR_w c1 (by rw [hp,whereR_no hx c3];exact c3),hp,whereR_no hx c3]
   ·refine zH<|zP O<|G O<|qH O ⟨zB,zB⟩<|G O<|zA ?_
    refine ⟨k+1,⟨zB,hp.trans (whereR_next hx c3)⟩,zB,Weak.mk [true] ⟨zD,zD,T⟩ O⟩
  ·rw [zAa (l:=p.Where) (k:=k) zB] at hp
   have hV:=validR_p c1 hp
   refine qM<|Y O<|qA O O (zAt O el25 zr9 O O O O) ?_
   rintro _ _ ⟨sv2,rfl,rfl⟩
   refine zC O zCt<|zE zBp (J 1 O) O<|qA O O (yB 0 O el25 O O O uG uG) ?_
   rintro _ _ ⟨sv3,rfl,rfl⟩
   refine oi O<|oh O O<|zF<|oh O O<|zS<|zW ⟨[(9,.c _),(7,.c _),(8,.c _),(1,.c _)],[_,_]⟩ (Weak.mk [true,true] ⟨zD,zD,zD,zD,T⟩ O)<|qG 3 1 O O (Nat×Value) (fun ⟨k,sv⟩=>[(9,vI k),(7,.c (.lit sv)),(8,vI (2+(k:Int)))]) (fun ⟨k,sv⟩=>[E.vec sv 9 1 ((p.Sizes++(p.Params.take k).map Pm.Name).map fun s=>[cS s])]) (fun ⟨k,sv⟩=>k<=p.Params.length/\(lG p=fU p (2+(k:Int)) (p.Sizes++(p.Params.take k).map Pm.Name) (p.Params.drop k))) (fun ⟨k,sv⟩=>p.Params.length-k) ⟨⟨0,_⟩,⟨zB,by rw [hV];simp⟩,Weak.mk [true,true] ⟨zD,zD,zD,zD,T⟩ (by show _=[E.vec _ _ 1 ((p.Sizes++[]).map fun s=>[cS s])]++_;rw [lAn p.Sizes];rfl)⟩ ?_
   rintro ⟨k,sv⟩ ⟨hk,hp⟩
   show AWP _ _ _ _ _ ⟨[(9,vI k),(7,.c (.lit sv)),(8,vI (2+(k:Int)))]++_,[E.vec sv 9 1 ((p.Sizes++(p.Params.take k).map Pm.Name).map fun s=>[cS s])]++_⟩
   refine zF<|ol O O<|zC O zDu<|zE zIk (J 1 O) O<|qC O el27<|yC O<|zA<|zK O ?_ ?_<;>intro c4<;>try simp only [sx] at c4
   ·obtain ⟨x,hx⟩:=qX p.Params k zB
    refine zH<|zF<|zS<|zF<|zF<|yH 8 mixed uB O O<|oo O (zG O zDu O)<|oo O (zJ O zIk O (J 1 O) O)<|oo O (zQ O O)<|oo O (qK O el27 O O zB (getm uC))<|oo O (qB O agg74 O qF O)<|oo O (zG O zCt O)<|oo O (zJ O zBp O (J 1 O) O)<|oo O (zQ O O)<|kE<|zT O (zCg 0 O uB O (ref17_param x p.Sizes (p.Sizes++(p.Params.take k).map Pm.Name) (hP.ps x (qD hx)).1 (hP.ps x (qD hx)).2 zB uG) O ⟨.inr ⟨zD,O⟩,.inr ⟨zD,O⟩,.inl ⟨O,O⟩,T⟩)<|oi O<|ol O O<|yM O<|zA<|zK O ?_ ?_<;>intro c5<;>try simp only [sx] at c5
    ·refine ol O O<|G O<|G O<|oi O<|zM<|fin2 (rs_c O) (rs_c O) ?_
     rw [hp,paramsR_no hx c5]
    ·refine zH<|ol O O<|zC O zDu<|zE zIk (J 1 O) O<|G O<|qE O el27 zB (getm uC)<|qR O zPw<|zE one9 qF O<|yY O el25 zr9<|qA O O (yB 0 O el25 O O O uG uG) ?_
     rintro _ _ ⟨sv4,rfl,rfl⟩
     refine oi O<|zP O<|G O<|qH O ⟨zB,zB⟩<|oi O<|zP O<|G O<|qH O ⟨zB,zB⟩<|G O<|zA ?_
     refine ⟨⟨k+1,sv4⟩,⟨zB,by rw [hp,paramsR_next hx c5,yA hx,ah,←lAa];congr 1<;>first|omega|rfl⟩,(by show p.Params.length-(k+1)<p.Params.length-k;omega),Weak.mk [true,true] ⟨zD,zD,VLe.of_eq (ai vI zB),zD,T⟩ (by show _=[E.vec sv4 _ 1 ((p.Sizes++(p.Params.take (k+1)).map Pm.Name).map fun s=>[cS s])]++_;rw [yA hx,ah (f:=Pm.Name),←lAa,ah (f:=fun s=>[cS s]) (l₁:=p.Sizes++(p.Params.take k).map Pm.Name)];rfl)⟩
   ·rw [yI (l:=p.Params) (k:=k) zB]
    rw [zAa (l:=p.Params) (k:=k) zB,yI (l:=p.Params) (k:=k) zB,fU] at hp
    refine qM<|zF<|oh O O<|zS<|zW ⟨[(11,.c _),(7,.c _),(8,.c _),(1,.c _)],[_,_]⟩ (Weak.mk [true,true] ⟨zD,zD,zD,zD,T⟩ O) ?_
    refine qG 3 1 O O (Nat×Value) (fun ⟨k,sv⟩=>[(11,vI k),(7,.c (.lit sv)),(8,vI (2+(p.Params.length:Int)+(k:Int)))]) (fun ⟨k,sv⟩=>[E.vec sv 9 1 ((p.Sizes++p.Params.map Pm.Name++(p.Defs.take k).map Df.Name).map fun s=>[cS s])]) (fun ⟨k,sv⟩=>k<=p.Defs.length/\(lG p=mZ p (2+(p.Params.length:Int)+(k:Int)) (p.Sizes++p.Params.map Pm.Name++(p.Defs.take k).map Df.Name) (p.Defs.take k) (p.Defs.drop k))) (fun ⟨k,sv⟩=>p.Defs.length-k) ⟨⟨0,sv⟩,⟨zB,by rw [hp];simp only [aS,bp,lAn,aO];congr 1<;>omega⟩,Weak.mk [true,true] ⟨zD,zD,VLe.of_eq (ai vI zB),zD,T⟩ (by show _=[E.vec _ _ 1 ((p.Sizes++p.Params.map Pm.Name++[]).map fun s=>[cS s])]++_;rw [lAn (p.Sizes++p.Params.map Pm.Name)];rfl)⟩ ?_
    rintro ⟨k,sv⟩ ⟨hk,hq⟩
    show AWP _ _ _ _ _ ⟨[(11,vI k),(7,.c (.lit sv)),(8,vI (2+(p.Params.length:Int)+(k:Int)))]++_,[E.vec sv 9 1 ((p.Sizes++p.Params.map Pm.Name++(p.Defs.take k).map Df.Name).map fun s=>[cS s])]++_⟩
    refine zF<|ol O O<|zC O zAo<|zE zDr (J 1 O) O<|qC O el28<|yC O<|zA<|zK O ?_ ?_<;>intro c6<;>try simp only [sx] at c6
    ·obtain ⟨x,hx⟩:=qX p.Defs k zB
     refine zH<|zF<|zS<|zF<|Y O<|zN zBa (J 1 O) O<|G O<|G O<|zT O (zCg 0 O uB O (ref17_def p hP hlm.1 k x hx (p.Sizes++p.Params.map Pm.Name++(p.Defs.take k).map Df.Name) uG) O ⟨.inr ⟨zD,O⟩,.inr ⟨zD,O⟩,.inl ⟨O,O⟩,T⟩)<|oi O<|ol O O<|yM O<|zA<|zK O ?_ ?_<;>intro c7<;>try simp only [sx] at c7
     ·refine ol O O<|G O<|G O<|oi O<|zM<|fin2 (rs_c O) (rs_c O) ?_
      rw [hq,defsR_no hx c7]
     ·refine zH<|ol O O<|zC O zAo<|zE zDr (J 1 O) O<|G O<|qE O el28 zB (getm uC)<|qR O zCn<|zE one9 qF O<|yY O el25 zr9<|qA O O (yB 0 O el25 O O O uG uG) ?_
      rintro _ _ ⟨sv5,rfl,rfl⟩
      refine oi O<|zP O<|G O<|qH O ⟨zB,zB⟩<|oi O<|zP O<|G O<|qH O ⟨zB,zB⟩<|G O<|zA ?_
      refine ⟨⟨k+1,sv5⟩,⟨zB,by rw [hq,defsR_next hx c7,yA hx,ah,←lAa];congr 1<;>first|omega|rfl⟩,(by show p.Defs.length-(k+1)<p.Defs.length-k;omega),Weak.mk [true,true] ⟨zD,zD,VLe.of_eq (ai vI zB),zD,T⟩ (by show _=[E.vec sv5 _ 1 ((p.Sizes++p.Params.map Pm.Name++(p.Defs.take (k+1)).map Df.Name).map fun s=>[cS s])]++_;rw [yA hx,ah (f:=Df.Name),←lAa,ah (f:=fun s=>[cS s]) (l₁:=p.Sizes++p.Params.map Pm.Name++(p.Defs.take k).map Df.Name)];rfl)⟩
    ·rw [zAa (l:=p.Defs) (k:=k) zB,yI (l:=p.Defs) (k:=k) zB,mZ] at hq
     refine qM<|zF<|oh O O<|zS<|zW ⟨[(13,.c _),(8,.c _),(1,.c _)],[_]⟩ (Weak.mk [false,true] ⟨zD,zD,zD,T⟩ O) ?_
     refine qG 2 0 O O (Nat) (fun k=>[(13,vI k),(8,vI (2+(p.Params.length:Int)+(p.Defs.length:Int)+(k:Int)))]) (fun k=>[]) (fun k=>k<=p.Outs.length/\(lG p=pN p.en (2+(p.Params.length:Int)+(p.Defs.length:Int)+(k:Int)) (p.Outs.take k) (p.Outs.drop k))) (fun k=>p.Outs.length-k) ⟨0,⟨zB,by rw [hq];congr 1;omega⟩,Weak.mk [true] ⟨zD,VLe.of_eq (ai vI zB),zD,T⟩ O⟩ ?_
     rintro k ⟨hk,ho⟩
     refine zF<|ol O O<|zC O zMk<|zE zBp (J 0 O) O<|qC O el25<|yC O<|zA<|zK O ?_ ?_<;>intro c8<;>try simp only [sx] at c8
     ·obtain ⟨x,hx⟩:=qX p.Outs k zB
      refine zH<|zF<|zS<|zF<|zF<|yS 14 1 [⟨0,.q [1]⟩,⟨1,.q []⟩,⟨2,.q [1]⟩,⟨3,.q []⟩,⟨4,.q []⟩,⟨5,.q []⟩,⟨6,.q []⟩,⟨7,.q []⟩,⟨8,.q []⟩,⟨9,.q []⟩,⟨10,.q []⟩,⟨11,.e 0 []⟩,⟨12,.e 0 []⟩,⟨13,.q []⟩] mixed uB uB O O O<|zR O<|zR O<|zR O<|zR O<|zR O<|zR O<|zR O<|zR O<|zR O<|zR O<|zR O<|zR O<|zR O<|zR O<|wQ<|om O (qB O zBa O (J 0 O) O)<|om O (zG O zMk O)<|om O (zJ O zBp O (J 0 O) O)<|om O (zQ O O)<|om O (qK O el25 O O zB (getm uC))<|om O (zJ O one9 O qF O)<|om O (qP O uB (zRd p x hP) (vlr O))<|om O (yW O O)<|om O (yD O O O)<|om O (kM O O O)<|om O (kM O O O)<|zEm O O uA O O (qZ O v) ?_
      rintro _ _ ⟨b6,rfl,rfl⟩
      refine ⟨_,O,?_⟩
      refine zCk O O uA O O (yO O N O O O (zBo 0 O O)) ?_
      rintro _ _ ⟨rfl,rfl⟩
      refine ⟨_,O,?_⟩
      refine om O (yR O O)<|wP O<|oi O<|ol O O<|kU O<|zA<|zK O ?_ ?_<;>intro c9<;>try simp only [sx] at c9
      ·refine ol O O<|G O<|oi O<|zM<|fin2 (rs_c O) (rs_c O) ?_
       rw [ho,outsR_9 hx c9]
      ·refine zH<|zF<|zF<|yH 10 mixed uB O O<|oo O (zG O zMk O)<|oo O (zJ O zBp O (J 1 O) O)<|oo O (zQ O O)<|oo O (zDa O el25 O O zB)<|oo O (zG O zMk O)<|oo O (zJ O zBp O (J 1 O) O)<|oo O (zQ O O)<|oo O (qK O el25 O O zB (getm uC))<|oo O (zJ O one9 O qF O)<|oo O (qP O uB (zNf (p.Outs.take k) x (by rw [aq];omega)) (vlr O))<|kE<|zA<|zK O ?_ ?_<;>intro c10<;>try simp only [sx] at c10
       ·refine ol O O<|G O<|oi O<|zM<|fin2 (rs_c O) (rs_c O) ?_
        rw [ho,outsR_8 hx c9 c10]
       ·refine zH<|zP O<|G O<|qH O ⟨zB,zB⟩<|oi O<|zP O<|G O<|qH O ⟨zB,zB⟩<|G O<|zA ?_
        refine ⟨k+1,⟨zB,by rw [ho,outsR_next hx c9 (by simpa using c10)];congr 1<;>omega⟩,zB,Weak.mk [false,true] ⟨zD,VLe.of_eq (ai vI zB),zD,T⟩ O⟩
     ·refine qM<|ol O O<|oi O<|zM<|fin2 (rs_c O) (rs_c O) ?_
      rw [ho,zAa zB];rfl
end Go.W
end
section
set_option maxRecDepth 10000
namespace Go.W
open Go Go.Eng Go.Proofs Go.L41 Go.Br Tryz
attribute [local irreducible] AWP RWP TD fY
def zQd (a:Int):
    Pur cfg 316 [vI a] (vB false):=by
 refine zV func316 O ntmps316 results316 O fun z hz=>oh O O<|ol O O<|G O<|yM O<|oi O<|zM<|zX O ?_
 exact ai vB uF
def zAb (a b:Int):
    Pur cfg 308 [vI a,vI b] (vI (lA a b)):=by
 refine zV func308 O ntmps308 results308 O fun z hz=>oh O O<|ol O O<|qL O uB (zQd a) (vlr O)<|oi O<|ol O O<|qL O uB (zQd b) (vlr O)<|oi O<|zF<|oh O O<|zK O (fun c1=>?_) (fun c1=>?_)
 ·exact absurd c1 uA
 ·exact l6
def zQe (a:Int):
    Pur cfg 317 [vI a] (vB false):=by
 refine zV func317 O ntmps317 results317 O fun z hz=>oh O O<|ol O O<|G O<|yM O<|oi O<|zM<|zX O ?_
 exact ai vB uF
def zMo (a b:Int):
    Pur cfg 309 [vI a,vI b] (vI (lA a b)):=by
 refine zV func309 O ntmps309 results309 O fun z hz=>oh O O<|ol O O<|qL O uB (zQe a) (vlr O)<|oi O<|ol O O<|qL O uB (zQe b) (vlr O)<|oi O<|zF<|oh O O<|zK O (fun c1=>?_) (fun c1=>?_)
 ·exact absurd c1 uA
 ·exact l6
def cmp_Or_int (l:List Int) (hl:l.length<=4294967296):
    Pur cfg 307 [.c (.sl 1 (l.map fun n=>[cI n]))] (vI (orI l)):=by
 refine zV func307 O ntmps307 results307 O fun z hz=>oh O O<|oh O O<|zF<|ol O O<|qC O el46<|oi O<|zS<|zW ⟨[(8,.c _),(3,.c _),(6,.c _),(7,.c _)],[]⟩ (Weak.mk [] ⟨zD,zD,zD,zD,T⟩ O)<|qG 1 0 O O (Nat) (fun k=>[(8,vI k)]) (fun k=>[]) (fun k=>k<=l.length/\(orI l=orI (l.drop k))) (fun k=>l.length-k) ⟨0,⟨zB,O⟩,Weak.mk [] ⟨zD,zD,zD,zD,T⟩ O⟩ ?_
 rintro k ⟨hk,hp⟩
 refine Y O<|yC O<|zA<|zF<|zK O ?_ ?_<;>intro c1<;>try simp only [sx] at c1
 ·obtain ⟨x,hx⟩:=qX l k zB
  refine zH<|zF<|zS<|Y O<|qE O el46 zB (getm uC)<|zE one3 qF O<|oi O<|ol O O<|G O<|yM O<|zA<|zK O ?_ ?_<;>intro c2<;>try simp only [sx] at c2
  ·refine ol O O<|oi O<|zM<|zX O ?_
   rw [hp,orI_at hx c2]
  ·refine zH<|zP O<|qH O ⟨zB,zB⟩<|G O<|zA ?_
   refine ⟨k+1,⟨zB,hp.trans (orI_next hx c2)⟩,zB,Weak.mk [] ⟨zD,zD,zD,zD,T⟩ O⟩
 ·refine qM<|ol O O<|oi O<|zM<|zX O ?_
  rw [hp,kL zB];rfl
def zJn (a b:List Mono) (c:C) (f:Mono->Mono->Int) (ha:a.length<=4294967296) (hb:b.length<=4294967296) (hc:∀x,x∈a->∀y,y∈b->FnPur cfg c [tD x,tD y] (vI (f x y))):
    Pur cfg 318 [.c (.sl 2 (a.map Mono.cells)),.c (.sl 2 (b.map Mono.cells)),.c c] (vI (lD f a b)):=by
 refine zV func318 O ntmps318 results318 O fun z hz=>oh O O<|zF<|ol O O<|qC O D<|oi O<|zS<|zW ⟨[(13,.c _),(0,.c _),(1,.c _),(2,.c _),(11,.c _),(12,.c _)],[]⟩ (Weak.mk [] ⟨zD,zD,zD,zD,zD,zD,T⟩ O)<|qG 1 0 O O (Nat) (fun k=>[(13,vI k)]) (fun k=>[]) (fun k=>k<=a.length/\(lD f a b=lD f (a.drop k) (b.drop k))/\(k<=b.length)) (fun k=>a.length-k) ⟨0,⟨zB,O,zB⟩,Weak.mk [] ⟨zD,zD,zD,zD,zD,zD,T⟩ O⟩ ?_
 rintro k ⟨hk,hp,hq⟩
 refine Y O<|yC O<|zA<|zF<|zK O ?_ ?_<;>intro c1<;>try simp only [sx] at c1
 ·obtain ⟨x,hx⟩:=qX a k zB
  refine zH<|zF<|zS<|ol O O<|qE O D zB (getm uC)<|zN zFb qF O<|qA O O (qZ O zEk) ?_
  rintro _ _ ⟨b1,rfl,rfl⟩
  refine G O<|rStR 0 sz139 O<|zA<|zF<|ol O O<|G O<|qC O D<|zT O (wG O O O)<|zA<|zK O (fun c2=>?_) (fun c2=>?_)
  ·exact v54
  ·try simp only [sx] at c2
   obtain ⟨y,hy⟩:=qX b k zB
   refine zH<|ol O O<|G O<|qE O D zB (getm uC)<|zN zFb qF O<|qA O O (qZ O zEk) ?_
   rintro _ _ ⟨b2,rfl,rfl⟩
   refine rStR 0 sz139 O<|zA<|ol O O<|zN zFb (J 1 O) O<|zN zFb (J 0 O) O<|zT O (wL O O (hc _ (qD hx) _ (qD hy)) (vlr O))<|oi O<|ol O O<|yM O<|zA<|zK O (fun c3=>?_) (fun c3=>?_)
   ·exact v42
   ·exact m9
 ·refine qM<|zF<|ol O O<|qC O D<|G O<|qC O D<|yC O<|zA<|zK O (fun c4=>?_) (fun c4=>?_)
  ·exact v37
  ·exact v35
def zLh (a b:List Ix) (c:C) (f:Ix->Ix->Int) (ha:a.length<=4294967296) (hb:b.length<=4294967296) (hc:∀x,x∈a->∀y,y∈b->FnPur cfg c [jN x,jN y] (vI (f x y))):
    Pur cfg 321 [.c (.sl 4 (a.map Ix.cells)),.c (.sl 4 (b.map Ix.cells)),.c c] (vI (lD f a b)):=by
 refine zV func321 O ntmps321 results321 O fun z hz=>oh O O<|zF<|ol O O<|qC O el52<|oi O<|zS<|zW ⟨[(13,.c _),(0,.c _),(1,.c _),(2,.c _),(11,.c _),(12,.c _)],[]⟩ (Weak.mk [] ⟨zD,zD,zD,zD,zD,zD,T⟩ O)<|qG 1 0 O O (Nat) (fun k=>[(13,vI k)]) (fun k=>[]) (fun k=>k<=a.length/\(lD f a b=lD f (a.drop k) (b.drop k))/\(k<=b.length)) (fun k=>a.length-k) ⟨0,⟨zB,O,zB⟩,Weak.mk [] ⟨zD,zD,zD,zD,zD,zD,T⟩ O⟩ ?_
 rintro k ⟨hk,hp,hq⟩
 refine Y O<|yC O<|zA<|zF<|zK O ?_ ?_<;>intro c1<;>try simp only [sx] at c1
 ·obtain ⟨x,hx⟩:=qX a k zB
  refine zH<|zF<|zS<|ol O O<|qE O el52 zB (getm uC)<|zN zGp qF O<|qA O O (qI ns O zr93 O) ?_
  rintro _ _ ⟨b1,rfl,rfl⟩
  refine G O<|rStR 0 sz93 O<|zA<|zF<|ol O O<|G O<|qC O el52<|zT O (wG O O O)<|zA<|zK O (fun c2=>?_) (fun c2=>?_)
  ·exact v54
  ·try simp only [sx] at c2
   obtain ⟨y,hy⟩:=qX b k zB
   refine zH<|ol O O<|G O<|qE O el52 zB (getm uC)<|zN zGp qF O<|qA O O (qI ns O zr93 O) ?_
   rintro _ _ ⟨b2,rfl,rfl⟩
   refine rStR 0 sz93 O<|zA<|ol O O<|zN zGp (J 1 O) O<|zN zGp (J 0 O) O<|zT O (wL O O (hc _ (qD hx) _ (qD hy)) (vlr O))<|oi O<|ol O O<|yM O<|zA<|zK O (fun c3=>?_) (fun c3=>?_)
   ·exact v42
   ·exact m9
 ·refine qM<|zF<|ol O O<|qC O el52<|G O<|qC O el52<|yC O<|zA<|zK O (fun c4=>?_) (fun c4=>?_)
  ·exact v37
  ·exact v35
def zLg (a b:List Lf) (c:C) (f:Lf->Lf->Int) (ha:a.length<=4294967296) (hb:b.length<=4294967296) (hc:∀x,x∈a->∀y,y∈b->FnPur cfg c [dC x,dC y] (vI (f x y))):
    Pur cfg 324 [.c (.sl 2 (a.map Lf.cells)),.c (.sl 2 (b.map Lf.cells)),.c c] (vI (lD f a b)):=by
 refine zV func324 O ntmps324 results324 O fun z hz=>oh O O<|zF<|ol O O<|qC O el72<|oi O<|zS<|zW ⟨[(13,.c _),(0,.c _),(1,.c _),(2,.c _),(11,.c _),(12,.c _)],[]⟩ (Weak.mk [] ⟨zD,zD,zD,zD,zD,zD,T⟩ O)<|qG 1 0 O O (Nat) (fun k=>[(13,vI k)]) (fun k=>[]) (fun k=>k<=a.length/\(lD f a b=lD f (a.drop k) (b.drop k))/\(k<=b.length)) (fun k=>a.length-k) ⟨0,⟨zB,O,zB⟩,Weak.mk [] ⟨zD,zD,zD,zD,zD,zD,T⟩ O⟩ ?_
 rintro k ⟨hk,hp,hq⟩
 refine Y O<|yC O<|zA<|zF<|zK O ?_ ?_<;>intro c1<;>try simp only [sx] at c1
 ·obtain ⟨x,hx⟩:=qX a k zB
  refine zH<|zF<|zS<|ol O O<|qE O el72 zB (getm uC)<|zN yV qF O<|qA O O (qI [none,some 2] O U O) ?_
  rintro _ _ ⟨b1,rfl,rfl⟩
  refine G O<|rStR 0 sz59 O<|zA<|zF<|ol O O<|G O<|qC O el72<|zT O (wG O O O)<|zA<|zK O (fun c2=>?_) (fun c2=>?_)
  ·exact v54
  ·try simp only [sx] at c2
   obtain ⟨y,hy⟩:=qX b k zB
   refine zH<|ol O O<|G O<|qE O el72 zB (getm uC)<|zN yV qF O<|qA O O (qI [none,some 2] O U O) ?_
   rintro _ _ ⟨b2,rfl,rfl⟩
   refine rStR 0 sz59 O<|zA<|ol O O<|zN yV (J 1 O) O<|zN yV (J 0 O) O<|zT O (wL O O (hc _ (qD hx) _ (qD hy)) (vlr O))<|oi O<|ol O O<|yM O<|zA<|zK O (fun c3=>?_) (fun c3=>?_)
   ·exact v42
   ·exact m9
 ·refine qM<|zF<|ol O O<|qC O el72<|G O<|qC O el72<|yC O<|zA<|zK O (fun c4=>?_) (fun c4=>?_)
  ·exact v37
  ·exact v35
def zLi (a b:List Ex) (c:C) (f:Ex->Ex->Int) (ha:a.length<=4294967296) (hb:b.length<=4294967296) (hc:∀x,x∈a->∀y,y∈b->FnPur cfg c [vE x,vE y] (vI (f x y))):
    Pur cfg 323 [.c (.sl 13 (a.map Ex.cells)),.c (.sl 13 (b.map Ex.cells)),.c c] (vI (lD f a b)):=by
 refine zV func323 O ntmps323 results323 O fun z hz=>oh O O<|zF<|ol O O<|qC O el60<|oi O<|zS<|zW ⟨[(13,.c _),(0,.c _),(1,.c _),(2,.c _),(11,.c _),(12,.c _)],[]⟩ (Weak.mk [] ⟨zD,zD,zD,zD,zD,zD,T⟩ O)<|qG 1 0 O O (Nat) (fun k=>[(13,vI k)]) (fun k=>[]) (fun k=>k<=a.length/\(lD f a b=lD f (a.drop k) (b.drop k))/\(k<=b.length)) (fun k=>a.length-k) ⟨0,⟨zB,O,zB⟩,Weak.mk [] ⟨zD,zD,zD,zD,zD,zD,T⟩ O⟩ ?_
 rintro k ⟨hk,hp,hq⟩
 refine Y O<|yC O<|zA<|zF<|zK O ?_ ?_<;>intro c1<;>try simp only [sx] at c1
 ·obtain ⟨x,hx⟩:=qX a k zB
  refine zH<|zF<|zS<|ol O O<|qE O el60 zB (zJz uC)<|zN yZ qF O<|qA O O (qI nr O zr62 O) ?_
  rintro _ _ ⟨b1,rfl,rfl⟩
  refine G O<|rStR 0 sz62 O<|zA<|zF<|ol O O<|G O<|qC O el60<|zT O (wG O O O)<|zA<|zK O (fun c2=>?_) (fun c2=>?_)
  ·exact v54
  ·try simp only [sx] at c2
   obtain ⟨y,hy⟩:=qX b k zB
   refine zH<|ol O O<|G O<|qE O el60 zB (zJz uC)<|zN yZ qF O<|qA O O (qI nr O zr62 O) ?_
   rintro _ _ ⟨b2,rfl,rfl⟩
   refine rStR 0 sz62 O<|zA<|ol O O<|zN yZ (J 1 O) O<|zN yZ (J 0 O) O<|zT O (wL O O (hc _ (qD hx) _ (qD hy)) (vlr O))<|oi O<|ol O O<|yM O<|zA<|zK O (fun c3=>?_) (fun c3=>?_)
   ·exact v42
   ·exact m9
 ·refine qM<|zF<|ol O O<|qC O el60<|G O<|qC O el60<|yC O<|zA<|zK O (fun c4=>?_) (fun c4=>?_)
  ·exact v37
  ·exact v35
def zXy (a b:List Ix) (c:C) (f:Ix->Ix->Int) (ha:a.length<=4294967296) (hb:b.length<=4294967296) (hc:∀x,x∈a->∀y,y∈b->FnPur cfg c [jN x,jN y] (vI (f x y))):
    Pur cfg 312 [.c (.sl 4 (a.map Ix.cells)),.c (.sl 4 (b.map Ix.cells)),.c c] (vI (mF f a b)):=by
 refine zV func312 O ntmps312 results312 O fun z hz=>oh O O<|zF<|ol O O<|qC O el52<|G O<|qC O el52<|qL O uB (zAb _ _) (vlr O)<|oi O<|ol O O<|yM O<|zA<|zK O ?_ ?_<;>intro c1<;>try simp only [sx] at c1
 ·refine ol O O<|oi O<|zM<|zX O ?_
  rw [mF,aa c1]
 ·refine zH<|ol O O<|G O<|G O<|qL O uB (zLh a b c f ha hb hc) (vlr O)<|oi O<|zM<|zX O ?_
  rw [mF,ab c1]
def zXx (a b:List Lf) (c:C) (f:Lf->Lf->Int) (ha:a.length<=4294967296) (hb:b.length<=4294967296) (hc:∀x,x∈a->∀y,y∈b->FnPur cfg c [dC x,dC y] (vI (f x y))):
    Pur cfg 322 [.c (.sl 2 (a.map Lf.cells)),.c (.sl 2 (b.map Lf.cells)),.c c] (vI (mF f a b)):=by
 refine zV func322 O ntmps322 results322 O fun z hz=>oh O O<|zF<|ol O O<|qC O el72<|G O<|qC O el72<|qL O uB (zAb _ _) (vlr O)<|oi O<|ol O O<|yM O<|zA<|zK O ?_ ?_<;>intro c1<;>try simp only [sx] at c1
 ·refine ol O O<|oi O<|zM<|zX O ?_
  rw [mF,aa c1]
 ·refine zH<|ol O O<|G O<|G O<|qL O uB (zLg a b c f ha hb hc) (vlr O)<|oi O<|zM<|zX O ?_
  rw [mF,ab c1]
def zXz (a b:List Ex) (c:C) (f:Ex->Ex->Int) (ha:a.length<=4294967296) (hb:b.length<=4294967296) (hc:∀x,x∈a->∀y,y∈b->FnPur cfg c [vE x,vE y] (vI (f x y))):
    Pur cfg 314 [.c (.sl 13 (a.map Ex.cells)),.c (.sl 13 (b.map Ex.cells)),.c c] (vI (mF f a b)):=by
 refine zV func314 O ntmps314 results314 O fun z hz=>oh O O<|zF<|ol O O<|qC O el60<|G O<|qC O el60<|qL O uB (zAb _ _) (vlr O)<|oi O<|ol O O<|yM O<|zA<|zK O ?_ ?_<;>intro c1<;>try simp only [sx] at c1
 ·refine ol O O<|oi O<|zM<|zX O ?_
  rw [mF,aa c1]
 ·refine zH<|ol O O<|G O<|G O<|qL O uB (zLi a b c f ha hb hc) (vlr O)<|oi O<|zM<|zX O ?_
  rw [mF,ab c1]
def lin_order (a b:Int):
    Pur cfg 320 [vI a,vI b] (vI (lA a b)):=by
 refine zV func320 O ntmps320 results320 O fun z hz=>oh O O<|zF<|zS<|ol O O<|G O<|yC O<|oi O<|zK O ?_ ?_<;>intro c1<;>try simp only [sx] at c1
 ·refine oh O O<|zM<|zX O ?_
  rw [cmpI_lt c1]
 ·refine ol O O<|G O<|zT O (yN O O O)<|oi O<|zK O ?_ ?_<;>intro c2<;>try simp only [sx] at c2
  ·refine oh O O<|zM<|zX O ?_
   rw [cmpI_gt c2]
  ·refine zH<|oh O O<|zM<|zX O ?_
   rw [cmpI_eq zB zB]
def lin_Compare_1 (x y:Mono):
    Pur cfg 319 [tD x,tD y] (vI (vJ x y)):=by
 refine zV func319 O ntmps319 results319 O fun z hz=>Y O<|og O fun b1=>og O fun b2=>oi O<|zF<|Y O<|zC O wE<|zE one9 (J 1 O) O<|zC O wE<|zE one9 (J 0 O) O<|zT O (zIe O O O)<|zA<|zK O ?_ ?_<;>intro c1<;>try simp only [sx] at c1
 ·refine Y O<|zC O wE<|zE one9 (J 1 O) O<|zC O wE<|zE one9 (J 0 O) O<|qL O uB (strings_Compare _ _) (vlr O)<|oi O<|zM<|zX O ?_
  rw [vJ,aa c1]
 ·refine zH<|Y O<|zC O zBm<|zE W (J 1 O) O<|zC O zBm<|zE W (J 0 O) O<|qL O uB (lin_order _ _) (vlr O)<|oi O<|zM<|zX O ?_
  rw [vJ,ab c1]
def zOh (a b:Lf) (ha:a.L.length<=4294967296) (hb:b.L.length<=4294967296):
    Pur cfg 311 [dC a,dC b] (vI (pD a b)):=by
 refine zV func311 O ntmps311 results311 O fun z hz=>Y O<|og O fun b1=>og O fun b2=>oi O<|Y O<|zC O kC<|zE wA (J 1 O) O<|zC O kC<|zE wA (J 0 O) O<|qL O uB (zJn a.L b.L _ vJ ha hb (fun x _ y _=>FnPur.of_pur (first:=[]) (cap:=[]) uB (lin_Compare_1 x y))) (vlr O)<|oi O<|zF<|ol O O<|yM O<|zA<|zK O ?_ ?_<;>intro c1<;>try simp only [sx] at c1
 ·refine ol O O<|oi O<|zM<|zX O ?_
  rw [pD,aa c1]
 ·refine zH<|Y O<|zC O zCc<|zE W (J 1 O) O<|zC O zCc<|zE W (J 0 O) O<|qL O uB (lin_order _ _) (vlr O)<|oi O<|zM<|zX O ?_
  rw [pD,ab c1]
def zSc (a b:Ix) (ha:a.wt<=4294967296) (hb:b.wt<=4294967296):
    Pur cfg 313 [jN a,jN b] (vI (pE a b)):=by
 refine zV func313 O ntmps313 results313 O ?_
 intro z hz
 have hwa:=ha
 have hwb:=hb
 unfold Ix.wt at hwa hwb
 refine Y O<|og O fun b1=>og O fun b2=>oi O<|zF<|Y O<|zC O zEs<|zE one9 (J 1 O) O<|zC O zEs<|zE one9 (J 0 O) O<|qL O uB (strings_Compare _ _) (vlr O)<|oi O<|ol O O<|yM O<|zA<|zK O ?_ ?_<;>intro c1<;>try simp only [sx] at c1
 ·refine ol O O<|oi O<|zM<|zX O ?_
  rw [pE,aa c1]
 ·refine zH<|zF<|Y O<|zC O zCy<|zN yV (J 1 O) O<|zC O zCy<|zN yV (J 0 O) O<|qL O uB (zOh a.Lin b.Lin zB zB) (vlr O)<|oi O<|ol O O<|yM O<|zA<|zK O ?_ ?_<;>intro c2<;>try simp only [sx] at c2
  ·refine ol O O<|oi O<|zM<|zX O ?_
   rw [pE,ab c1,aa c2]
  ·refine zH<|Y O<|zC O zAi<|zE zBs (J 1 O) O<|zC O zAi<|zE zBs (J 0 O) O<|qL O uB (zXx a.At b.At _ pD zB zB (fun x hx y hy=>FnPur.of_pur (first:=[]) (cap:=[]) uB (zOh x y (by have:=zBw hx;omega) (by have:=zBw hy;omega)))) (vlr O)<|oi O<|zM<|zX O ?_
   rw [pE,ab c1,ab c2]
def zTj (a b:Ty):
    Pur cfg 310 [vTy a,vTy b] (vI (cA a b)):=by
 refine zV func310 O ntmps310 results310 O fun z hz=>Y O<|og O fun b1=>og O fun b2=>oi O<|zF<|yH 28 mixed uB O O<|oo O (zG O zGm O)<|oo O (zJ O one3 O (J 1 O) O)<|oo O (zG O zGm O)<|oo O (zJ O one3 O (J 0 O) O)<|oo O (qP O uB (zAb _ _) (vlr O))<|oo O (zG O zNt O)<|oo O (zJ O one3 O (J 1 O) O)<|oo O (zG O zNt O)<|oo O (zJ O one3 O (J 0 O) O)<|oo O (qP O uB (zAb _ _) (vlr O))<|oo O (zG O zPx O)<|oo O (zJ O one3 O (J 1 O) O)<|oo O (zG O zPx O)<|oo O (zJ O one3 O (J 0 O) O)<|oo O (qP O uB (zAb _ _) (vlr O))<|oo O (zG O zXe O)<|oo O (zJ O one3 O (J 1 O) O)<|oo O (zG O zXe O)<|oo O (zJ O one3 O (J 0 O) O)<|oo O (qP O uB (zAb _ _) (vlr O))<|oo O (zG O zXd O)<|oo O (zJ O one3 O (J 1 O) O)<|oo O (zG O zXd O)<|oo O (zJ O one3 O (J 0 O) O)<|oo O (qP O uB (zAb _ _) (vlr O))<|oo O (kW O el46 zr3 O O O O)<|oo O (qP O uB (cmp_Or_int [lA a.Kind b.Kind,lA a.Bits b.Bits,lA a.Frac b.Frac,lA a.Round b.Round,lA a.Over b.Over] uF) (vlr O))<|oo O (yR O O)<|kE<|zA<|zM<|zX O ?_
 exact O
def zSe (a b:Ex) (ih:∀x,x∈a.Args->∀y,x.wt<=4294967296->y.wt<=4294967296->Pur cfg 299 [vE x,vE y] (vI (sV x y))) (ha:a.wt<=4294967296) (hb:b.wt<=4294967296):
    Pur cfg 299 [vE a,vE b] (vI (sV a b)):=by
 refine zV func299 O ntmps299 results299 O ?_
 intro z hz
 obtain ⟨hLa,hIa,hAa⟩:=a.parts ha
 obtain ⟨hLb,hIb,hAb⟩:=b.parts hb
 have hwa:=Ex.wt_eq a
 have hwb:=Ex.wt_eq b
 refine Y O<|og O fun b1=>og O fun b2=>oi O<|zF<|yH 37 mixed uB O O<|oo O (zG O wH O)<|oo O (zJ O one3 O (J 1 O) O)<|oo O (zG O wH O)<|oo O (zJ O one3 O (J 0 O) O)<|oo O (qP O uB (zAb _ _) (vlr O))<|oo O (zG O zIa O)<|oo O (zJ O one9 O (J 1 O) O)<|oo O (zG O zIa O)<|oo O (zJ O one9 O (J 0 O) O)<|oo O (qP O uB (strings_Compare _ _) (vlr O))<|oo O (zG O zMj O)<|oo O (zG O zIb O)<|oo O (zJ O W O (J 1 O) O)<|oo O (zG O zMj O)<|oo O (zG O zIb O)<|oo O (zJ O W O (J 0 O) O)<|oo O (qP O uB (zMo _ _) (vlr O))<|oo O (zG O zMj O)<|oo O (zG O zKu O)<|oo O (zJ O W O (J 1 O) O)<|oo O (zG O zMj O)<|oo O (zG O zKu O)<|oo O (zJ O W O (J 0 O) O)<|oo O (qP O uB (zMo _ _) (vlr O))<|oo O (zG O zGl O)<|oo O (qB O yE O (J 1 O) O)<|oo O (zG O zGl O)<|oo O (qB O yE O (J 0 O) O)<|oo O (qP O uB (zTj _ _) (vlr O))<|oo O (zG O zDt O)<|oo O (qB O yV O (J 1 O) O)<|oo O (zG O zDt O)<|oo O (qB O yV O (J 0 O) O)<|oo O (qP O uB (zOh a.Lin b.Lin hLa hLb) (vlr O))<|oo O (kW O el46 zr3 O O O O)<|oo O (qP O uB (cmp_Or_int [lA a.Op b.Op,sU a.Name b.Name,lA a.Val.N b.Val.N,lA a.Val.D b.Val.D,cA a.Ty b.Ty,pD a.Lin b.Lin] uF) (vlr O))<|oo O (yR O O)<|kE<|zA<|zF<|ol O O<|yM O<|zA<|zK O ?_ ?_<;>intro c1<;>try simp only [sx] at c1
 ·refine ol O O<|oi O<|zM<|zX O ?_
  rw [cmpE_eq,aa (show ¬rN a b=0 from c1)];rfl
 ·refine zH<|zF<|Y O<|zC O wB<|zE wX (J 1 O) O<|zC O wB<|zE wX (J 0 O) O<|qL O uB (zXy a.Idx b.Idx _ pE hIa hIb (fun x hx y hy=>FnPur.of_pur (first:=[]) (cap:=[]) uB (zSc x y (by have:=zDs hx;omega) (by have:=zDs hy;omega)))) (vlr O)<|oi O<|ol O O<|yM O<|zA<|zK O ?_ ?_<;>intro c2<;>try simp only [sx] at c2
  ·refine ol O O<|oi O<|zM<|zX O ?_
   rw [cmpE_eq,ab (show rN a b=0 from c1),aa c2]
  ·refine zH<|Y O<|zC O zAc<|zE zDc (J 1 O) O<|zC O zAc<|zE zDc (J 0 O) O<|qL O uB (zXz a.Args b.Args _ sV hAa hAb (fun x hx y hy=>FnPur.of_pur (first:=[]) (cap:=[]) uB (ih x hx y (by have:=Ex.arg_wt hx;omega) (by have:=Ex.arg_wt hy;omega)))) (vlr O)<|oi O<|zM<|zX O ?_
   rw [cmpE_eq,ab (show rN a b=0 from c1),ab c2]
def expr_Compare (a b:Ex) (ha:a.wt<=4294967296) (hb:b.wt<=4294967296):Pur cfg 299 [vE a,vE b] (vI (sV a b)):=by
  induction a using Ex.ind generalizing b with
  |_ a ih=>exact zSe a b (fun x hx y h1 h2=>ih x hx y h1 h2) ha hb
def expr_Same (a b:Ex) (ha:a.wt<=4294967296) (hb:b.wt<=4294967296):
    Pur cfg 278 [vE a,vE b] (vB (decide (a=b))):=by
 refine zV func278 O ntmps278 results278 O fun z hz=>Y O<|og O fun b1=>og O fun b2=>oi O<|Y O<|zN yZ (J 1 O) O<|zN yZ (J 0 O) O<|qL O uB (expr_Compare a b ha hb) (vlr O)<|yT O<|oi O<|zM<|zX O ?_
 exact ai vB (dl.2 (cmpE_zero a b))
end Go.W
end
section
set_option maxRecDepth 10000
namespace Go.W
open Go Go.Eng Go.Proofs Go.L41 Go.Br Tryz
attribute [local irreducible] AWP RWP TD fY
end Go.W
end
section
set_option maxRecDepth 10000
namespace Go.W
open Go Go.Eng Go.Proofs Go.L41 Go.Br Tryz
attribute [local irreducible] AWP RWP TD fY
end Go.W
end
section
set_option maxRecDepth 10000
namespace Go.W
open Go Go.Eng Go.Proofs Go.L41 Go.Br Tryz
attribute [local irreducible] AWP RWP TD fY
def ik2:vG prog 2=some .i64:=by kernel_rfl
def sz57:(prog.info? 57).map (·.size)=some 1:=by kernel_rfl
def zIh:(prog.underlying 154).isSome=true:=by kernel_rfl
def lin_plus (a b:Int) (ha:r64 a) (hb:r64 b):
    Pur cfg 185 [vI a,vI b] (.tup [vI (w64 (a+b)),vB (decide (r64 (a+b)))]):=by
 refine zV func185 O ntmps185 results185 O fun z hz=>ol O O<|oi O<|ol O O<|G O<|zT O (zXw O O O)<|oi O<|ol O O<|G O<|G O<|zT O (yN O O O)<|G O<|zT O (yN O O O)<|zT O (det_beql O un4 O O)<|G O<|oi O<|zM<|fin2 (rs_c O) (rs_c O) ?_
 rw [←plus_ok ha hb];rfl
def zEq (x:Int) (hx:r64 x):
    Pur cfg 124 [vI x] (vUn x.natAbs):=by
 refine zV func124 O ntmps124 results124 O fun z hz=>oh O O<|zF<|ol O O<|yC O<|zA<|zK O ?_ ?_<;>intro c1<;>try simp only [sx] at c1
 ·refine ol O O<|zT O (kX O us2 zWx O)<|zT O (zHq O O)<|oi O<|zM<|zX O ?_
  exact ai (fun n=>V.c (.lit (.int .u64 n))) (zUb hx c1)
 ·refine zH<|ol O O<|zT O (kX O us2 zWx O)<|oi O<|zM<|zX O ?_
  exact ai (fun n=>V.c (.lit (.int .u64 n))) (zUa hx zB)
def zWr (a b:Nat) (ha:a<18446744073709551616) (hb:b<18446744073709551616):
    Pur cfg 126 [vUn a,vUn b] (.tup [vUn (hiN a b),vUn (a*b%18446744073709551616)]):=by
 refine zV func126 O ntmps126 results126 O ?_
 intro z hz
 obtain ⟨p1,p2,p3,p4⟩:=part_le ha hb
 obtain ⟨q1,q2,q3,q4⟩:=hi_bounds ha hb
 refine ol O O<|oi O<|ol O O<|zT O (wT O O O ha)<|G O<|zT O (wT O O O hb)<|zT O (wR O O O zB)<|oi O<|ol O O<|zT O (kY O O O )<|G O<|zT O (wT O O O hb)<|zT O (wR O O O zB)<|G O<|zT O (kY O O O )<|zT O (kZ O O O q1)<|oi O<|ol O O<|zT O (wT O O O ha)<|G O<|zT O (kY O O O )<|zT O (wR O O O zB)<|G O<|zT O (wT O O O q1)<|zT O (kZ O O O q2)<|oi O<|ol O O<|zT O (kY O O O )<|G O<|zT O (kY O O O )<|zT O (wR O O O zB)<|G O<|zT O (kY O O O )<|zT O (kZ O O O q3)<|G O<|zT O (kY O O O )<|zT O (kZ O O O q4)<|G O<|G O<|zT O (det_umod O O O )<|G O<|oi O<|zM<|fin2 (rs_c O) (rs_c O) ?_
 exact O
def lin_times (x y:Int) (hx:r64 x) (hy:r64 y):
    Pur cfg 184 [vI x,vI y] (.tup [vI (fH x y).1,vB (fH x y).2]):=by
 refine zV func184 O ntmps184 results184 O ?_
 intro z hz
 have hm1:=zBt hx
 have hm2:=zBt hy
 refine ol O O<|oi O<|ol O O<|qL O uB (zEq x hx) (vlr O)<|G O<|qL O uB (zEq y hy) (vlr O)<|qL O uB (zWr x.natAbs y.natAbs zB zB) (vlr O)<|qW O<|yF O<|yF O<|G O<|oi O<|ol O O<|yC O<|G O<|yC O<|zT O (zKf O un4 O O)<|oi O<|zF<|zS<|ol O O<|yM O<|G O<|rL0 O (fun g3_2=>zQ O O) O<|rL1 26 O (fun g3_2=>yN O O O) O<|r_or O (fun h=>(lzf h))<|G O<|rL0 O (fun g3_6=>zQ O O) O<|rL1 30 O (fun g3_6=>yX O O O) O<|rL1 31 O (fun g3_6=>zQ O O) O<|rLz [] O gv2 T (fun g3_9=>zQ O O) O<|rLz [(33,_)] O gv2 ⟨O,O,T⟩ (fun g3_9=>wV O O) O<|rL1 32 O (fun g3_6=>zAd O O O (fun h=>kR uC h) O) O<|r_or O (fun h=>(lzf h))<|oi O<|zK O ?_ ?_<;>intro c1<;>try simp only [sx] at c1
 ·refine ol O O<|oi O<|zM<|fin2 (rs_c O) (rs_c O) ?_
  rw [times_f hx hy c1]
 ·refine ol O O<|oi O<|zK O ?_ ?_<;>intro c2<;>try simp only [sx] at c2
  ·refine ol O O<|zT O (zHq O O)<|zT O (kX O zIh ik2 O)<|G O<|oi O<|zM<|fin2 (rs_c O) (rs_c O) ?_
   rw [times_neg c2 (by have:=c1.1.1;omega) (by have:=c1.1.2;omega)]
  ·refine zH<|ol O O<|zT O (kX O zIh ik2 O)<|G O<|oi O<|zM<|fin2 (rs_c O) (rs_c O) ?_
   have hlt:x.natAbs*y.natAbs%18446744073709551616<9223372036854775808:=by
     have h1:=c1.1.2
     rcases c1.2 with h|h
     · omega
     · rw [c2] at h;cases h
   rw [times_pos c2 (by have:=c1.1.1;omega) hlt]
def lin_Scale (l:Lf) (by_:Int) (hl:l.L.length<=4294967296) (hr:l.rng) (hb:r64 by_):
    Pur cfg 131 [dC l,vI by_] (.tup [dC (fI l by_).1,vI (fI l by_).2]):=by
 refine zV func131 O ntmps131 results131 O fun z hz=>Y O<|og O fun b1=>qA O O (qI [none,some 2] O U O) ?_
 rintro _ _ ⟨b2,rfl,rfl⟩
 refine oi O<|zF<|Y O<|zN yV (J 1 O) O<|qL O uB (zBd l zB) (vlr O)<|yM O<|zA<|zK O ?_ ?_<;>intro c1<;>try simp only [sx] at c1
 ·have hl0:=zWs c1
  refine Y O<|yQ [none,some 2] O U pl59<|rStR 0 sz59 O<|oi O<|zM<|fin2 (zZ yV O (J 0 O) O) (rs_c O) ?_
  rw [scale_bad hl0];rfl
 ·have hl1:=zFh c1
  refine zH<|zF<|ol O O<|yT O<|zA<|qO O (fun c2=>?_) (fun c2=>?_)
  ·refine Y O<|yQ [none,some 2] O U pl59<|rStR 0 sz59 O<|oi O<|zM<|fin2 (zZ yV O (J 0 O) O) (rs_c O) ?_
   rw [scale_zero hl1 c2];rfl
  ·refine zH<|Y O<|zC O zCc<|zE W (J 1 O) O<|G O<|qL O uB (lin_times l.K by_ hr.1 hb) (vlr O)<|qW O<|yF O<|yF O<|G O<|oi O<|ol O O<|yJ O U pl59<|qA O O (qZ O U) ?_
   rintro _ _ ⟨b3,rfl,rfl⟩
   refine yP _ (kF 139 2)<|rStR 1 sz59 O<|zA<|zF<|Y O<|zC O kC<|zE wA (J 3 O) O<|qC O D<|oi O<|zS<|zW ⟨[(32,.c _),(7,.c _),(1,.c _),(4,.c _),(8,.c _),(30,.c _),(31,.c _)],[_,_,_]⟩ (Weak.mk [true,true,true,false] ⟨zD,zD,zD,zD,zD,zD,zD,T⟩ O)<|qG 2 2 O O (Nat×Value) (fun ⟨k,sv⟩=>[(32,vI k),(7,vB ((fH l.K by_).2&&nU by_ (l.L.take k)))]) (fun ⟨k,sv⟩=>[E.vec sv 139 2 ((nE by_ (l.L.take k)).map Mono.cells),E.row b3 59 [cI (fH l.K by_).1,.lit sv]]) (fun ⟨k,sv⟩=>k<=l.L.length) (fun ⟨k,sv⟩=>l.L.length-k) ⟨⟨0,_⟩,zB,Weak.mk [true,true,true] ⟨zD,VLe.of_eq (by rw [show nU by_ (l.L.take 0)=true from rfl,ck];rfl),zD,zD,zD,zD,zD,T⟩ O⟩ ?_
   rintro ⟨k,sv⟩ hk
   show AWP _ _ _ _ _ ⟨[(32,vI k),(7,vB ((fH l.K by_).2&&nU by_ (l.L.take k)))]++_,[E.vec sv 139 2 ((nE by_ (l.L.take k)).map Mono.cells),E.row b3 59 [cI (fH l.K by_).1,.lit sv]]++_⟩
   refine Y O<|yC O<|zA<|zF<|zK O ?_ ?_<;>intro c3<;>try simp only [sx] at c3
   ·obtain ⟨x,hx⟩:=qX l.L k zB
    refine zH<|zF<|zS<|Y O<|qE O D zB (getm uC)<|zN zFb qF O<|qA O O (qZ O zEk) ?_
    rintro _ _ ⟨b5,rfl,rfl⟩
    refine rStR 0 sz139 O<|zA<|Y O<|zC O zBm<|zE W (J 0 O) O<|G O<|qL O uB (lin_times x.By by_ (hr.2 x (qD hx)) hb) (vlr O)<|qW O<|yF O<|yF O<|G O<|oi O<|ol O O<|G O<|rL0 O (fun g11_1=>zQ O O) O<|kH O (fun h=>h)<|oi O<|zP O<|zC O kC<|zE wA (J 2 O) O<|zC O wE<|zE one9 (J 0 O) O<|G O<|yJ O zEk pl139<|yY O D zEk<|qA O O (yB 1 O D O O O (by simp only [lLm,lLa,lLc,lLn,scaleW_len,aq];omega) (by simp only [lLm,lLa,lLc,lLn,scaleW_len,aq];omega)) ?_
    rintro _ _ ⟨sv6,rfl,rfl⟩
    refine zC O kC<|rStR 2 sz57 O<|zA<|zP O<|qH O ⟨zB,zB⟩<|G O<|zA ?_
    refine ⟨⟨k+1,sv6⟩,zB,(by show l.L.length-(k+1)<l.L.length-k;omega),Weak.mk [false,true,true,true] ⟨zD,VLe.of_eq (by rw [scaleB_next hx,←jj];rfl),zD,zD,zD,zD,zD,T⟩ (by show _=[E.vec sv6 _ 2 ((nE by_ (l.L.take (k+1))).map Mono.cells),E.row b3 _ [cI (fH l.K by_).1,.lit sv6]]++_;rw [scaleW_next hx,ah];rfl)⟩
   ·rw [yI (l:=l.L) (k:=k) zB]
    refine qM<|zF<|ol O O<|kU O<|zA<|zK O ?_ ?_<;>intro c4<;>try simp only [sx] at c4
    ·refine Y O<|yQ [none,some 2] O U pl59<|rStR 2 sz59 O<|oi O<|zM<|fin2 (zZ yV O (J 2 O) O) (rs_c O) ?_
     rw [scale_no hl1 c2 c4];rfl
    ·refine zH<|Y O<|zN yV (J 1 O) O<|rStR 2 sz59 O<|oi O<|zW _ (yK 0 O (regs':=[(60,.agg [_,_])]) (μ':=[_,_]) ⟨FLe.agg ⟨.inl O,.inr ⟨O,O⟩,T⟩,T⟩ ⟨EFle.row (ds:=[_,_]) ⟨.inl O,.inr ⟨O,O⟩,T⟩,EFle.row (ds:=[_,_]) ⟨.inl O,.inr ⟨O,O⟩,T⟩,T⟩)<|zM<|fin2 (zZ yV O (J 1 O) O) (rs_c O) ?_
     rw [scale_ok hl1 c2 c4];rfl
end Go.W
end
section
set_option maxRecDepth 10000
namespace Go.W
open Go Go.Eng Go.Proofs Go.L41 Go.Br Tryz
attribute [local irreducible] AWP RWP TD fY
def one4:fP prog 4=true:=by kernel_rfl
def sz2:(prog.info? 2).map (·.size)=some 1:=by kernel_rfl
def sz4:(prog.info? 4).map (·.size)=some 1:=by kernel_rfl
def zr4:dZ prog 4=some [(Value.bool false)]:=by kernel_rfl
def merge_con (a0 b0:List Mono) (ha0:a0.length<=4294967296) (hb0:b0.length<=4294967296):
    ∀(y:C) (J:List Tr->List E->Prop) (μ:List E),(∀d t s m,bE a0 b0=d++t::s->J d m->FnCon cfg y [vS t.1,vI t.2.1,vI t.2.2] m fun r m'=>r=.tup []/\J (d++[t]) m')->J [] μ->Con cfg 186 [.c (.sl 2 (a0.map Mono.cells)),.c (.sl 2 (b0.map Mono.cells)),.c y] μ fun r μ'=>r=.tup []/\J (bE a0 b0) μ':=by
 intro y J μ hy h0
 refine zV func186 O ntmps186 results186 O fun z hz=>zS<|zW ⟨[(0,.c _),(1,.c _),(2,.c _)],_⟩ (Weak.regs ⟨zD,zD,zD,T⟩)<|zGy 2 O (List Mono×List Mono×List Tr×List E) (fun ⟨a,b,d,m⟩=>[(0,.c (.sl 2 (a.map Mono.cells))),(1,.c (.sl 2 (b.map Mono.cells)))]) (fun ⟨a,b,d,m⟩=>m) (fun ⟨a,b,d,m⟩=>a.length<=4294967296/\b.length<=4294967296/\bE a0 b0=d++bE a b/\J d m) (fun ⟨a,b,d,m⟩=>a.length+b.length) ⟨⟨a0,b0,[],μ⟩,⟨ha0,hb0,O,h0⟩,Weak.regs ⟨zD,zD,zD,T⟩⟩ ?_
 rintro ⟨a,b,d,m⟩ ⟨hal,hbl,hm,hJ⟩
 refine zF<|ol O O<|qC O D<|zT O (yN O O O)<|G O<|rL0 O (fun g0_3=>zQ O O) O<|rL1 10 O (fun g0_3=>yG O D O) O<|rL1 11 O (fun g0_3=>yN O O O) O<|r_or O (fun h=>(lzf h))<|zA<|zK O ?_ ?_<;>intro c1<;>try simp only [sx] at c1
 ·refine zH<|zS<|zS<|zF<|yH 20 mixed uB O O<|oo O (zQ O O)<|oo O (yG O D O)<|oo O (yX O O O)<|oo O (zQ O O)<|qU [] O O O O gv1 T (fun g3_3=>zQ O O) O<|qU [(37,_)] O O O O gv1 ⟨O,O,T⟩ (fun g3_3=>yG O D O) O<|qU [(38,_)] O O O O gv1 ⟨O,O,T⟩ (fun g3_3=>yN O O O) O<|qU [(39,_)] O O O O gv1 ⟨O,O,T⟩ (fun g3_3=>zQ O O) O<|qU [] O O O O gv2 T (fun g3_7=>zQ O O) O<|qU [(41,_)] O O O O gv2 ⟨O,O,T⟩ (fun g3_7=>qK O D O O (by simp only [Lz,aD,av,sx] at g3_7;omega) (getm (zMh (by simp only [Lz,aD,av,sx] at g3_7;omega)))) O<|qU [(42,_)] O O O O gv2 ⟨O,O,T⟩ (fun g3_7=>qV O wE O) O<|qU [(43,_)] O O O O gv2 ⟨O,O,T⟩ (fun g3_7=>zJ O one9 O qF O) O<|qU [] O O O O gv2 T (fun g3_7=>zQ O O) O<|qU [(45,_)] O O O O gv2 ⟨O,O,T⟩ (fun g3_7=>qK O D O O (by simp only [Lz,aD,av,sx] at g3_7;omega) (getm (zMh (by simp only [Lz,aD,av,sx] at g3_7;omega)))) O<|qU [(46,_)] O O O O gv2 ⟨O,O,T⟩ (fun g3_7=>qV O wE O) O<|qU [(47,_)] O O O O gv2 ⟨O,O,T⟩ (fun g3_7=>zJ O one9 O qF O) O<|qU [(44,_),(48,_)] O O O O gv2 ⟨O,O,O,O,T⟩ (fun g3_7=>det_slss O O O) O<|qU [(40,_)] O O O O gv1 ⟨O,O,T⟩ (fun g3_3=>zAd O O O (fun h=>kR uC h) O) O<|oo O (zCo O O O O (fun h=>(lzf h)))<|oo O (yR O O)<|kE<|zA<|zK O (fun c2=>?_) (fun c2=>?_)
  ·have hL:=merge_left zB c2
   have hdec:(a.drop 1).length+(b).length<a.length+b.length:=by simp only [cq];omega
   have hm1:bE a0 b0=(d++[((hdM a).Name,(hdM a).By,0)])++bE (a.drop 1) (b):=by rw [hm,hL.2];simp
   refine zF<|yH 9 mixed uB O O<|oo O (zQ O O)<|oo O (zQ O O)<|oo O (qK O D O O zB (getm (zMh zB)))<|oo O (qV O wE O)<|oo O (zJ O one9 O qF O)<|oo O (zQ O O)<|oo O (qK O D O O zB (getm (zMh zB)))<|oo O (qV O zBm O)<|oo O (zJ O W O qF O)<|kE<|qA O O (zBb O O (hy d ((hdM a).Name,(hdM a).By,0) _ m (by rw [hm1,lAa];rfl) hJ) (vlr O)) ?_
   rintro _ m1 ⟨rfl,hJ1⟩
   refine zA<|zP O<|G O<|zT O (zIf (k:=1) O D O O zB)<|G O<|zA ?_
   exact v12
  ·have hb1:=mC2_b c2
   refine zF<|yH 15 mixed uB O O<|oo O (zQ O O)<|oo O (yG O D O)<|oo O (yX O O O)<|oo O (zQ O O)<|qU [] O O O O gv1 T (fun g6_3=>zQ O O) O<|qU [(69,_)] O O O O gv1 ⟨O,O,T⟩ (fun g6_3=>qK O D O O (by simp only [Lz,aD,av,sx] at g6_3;omega) (getm (zMh (by simp only [Lz,aD,av,sx] at g6_3;omega)))) O<|qU [(70,_)] O O O O gv1 ⟨O,O,T⟩ (fun g6_3=>qV O wE O) O<|qU [(71,_)] O O O O gv1 ⟨O,O,T⟩ (fun g6_3=>zJ O one9 O qF O) O<|qU [] O O O O gv1 T (fun g6_3=>zQ O O) O<|qU [(73,_)] O O O O gv1 ⟨O,O,T⟩ (fun g6_3=>qK O D O O (by simp only [Lz,aD,av,sx] at g6_3;omega) (getm (zMh (by simp only [Lz,aD,av,sx] at g6_3;omega)))) O<|qU [(74,_)] O O O O gv1 ⟨O,O,T⟩ (fun g6_3=>qV O wE O) O<|qU [(75,_)] O O O O gv1 ⟨O,O,T⟩ (fun g6_3=>zJ O one9 O qF O) O<|qU [(72,_),(76,_)] O O O O gv1 ⟨O,O,O,O,T⟩ (fun g6_3=>det_slss O O O) O<|oo O (zCo O O O O (fun h=>(lzf h)))<|oo O (yR O O)<|kE<|zA<|zK O (fun c3=>?_) (fun c3=>?_)
   ·have hL:=merge_right zB c2 c3
    have hdec:(a).length+(b.drop 1).length<a.length+b.length:=by simp only [cq];omega
    have hm1:bE a0 b0=(d++[((hdM b).Name,0,(hdM b).By)])++bE (a) (b.drop 1):=by rw [hm,hL.2];simp
    refine zF<|yH 9 mixed uB O O<|oo O (zQ O O)<|oo O (zQ O O)<|oo O (qK O D O O zB (getm (zMh zB)))<|oo O (qV O wE O)<|oo O (zJ O one9 O qF O)<|oo O (zQ O O)<|oo O (qK O D O O zB (getm (zMh zB)))<|oo O (qV O zBm O)<|oo O (zJ O W O qF O)<|kE<|qA O O (zBb O O (hy d ((hdM b).Name,0,(hdM b).By) _ m (by rw [hm1,lAa];rfl) hJ) (vlr O)) ?_
    rintro _ m1 ⟨rfl,hJ1⟩
    refine zA<|zP O<|G O<|zT O (zIf (k:=1) O D O O zB)<|G O<|zA ?_
    exact v12
   ·have hL:=merge_both c2 c3
    have hdec:(a.drop 1).length+(b.drop 1).length<a.length+b.length:=by simp only [cq];omega
    have hm1:bE a0 b0=(d++[((hdM a).Name,(hdM a).By,(hdM b).By)])++bE (a.drop 1) (b.drop 1):=by rw [hm,hL.2.2];simp
    refine zF<|yH 13 mixed uB O O<|oo O (zQ O O)<|oo O (zQ O O)<|oo O (qK O D O O zB (getm (zMh zB)))<|oo O (qV O wE O)<|oo O (zJ O one9 O qF O)<|oo O (zQ O O)<|oo O (qK O D O O zB (getm (zMh zB)))<|oo O (qV O zBm O)<|oo O (zJ O W O qF O)<|oo O (zQ O O)<|oo O (qK O D O O zB (getm (zMh zB)))<|oo O (qV O zBm O)<|oo O (zJ O W O qF O)<|kE<|qA O O (zBb O O (hy d ((hdM a).Name,(hdM a).By,(hdM b).By) _ m (by rw [hm1,lAa];rfl) hJ) (vlr O)) ?_
    rintro _ m1 ⟨rfl,hJ1⟩
    refine zA<|yH 6 mixed uB O O<|oo O (zQ O O)<|oo O (zIf (k:=1) O D O O zB)<|oo O (zQ O O)<|oo O (zIf (k:=1) O D O O zB)<|oo O (yR O O)<|oo O (yR O O)<|kE<|zA ?_
    exact v12
 ·refine qM ?_
  repeat (first|refine kG ?_|refine kB ?_)
  refine wD<|fin0 ?_
  exact ⟨O,by rw [hm,show a=[] from bg zB,show b=[] from bg zB,zGv,lAn];exact hJ⟩
def lin_Add_1 (bo bl:Nat) (ok:Bool) (K:Int) (sv:Value) (d:List Tr) (t:Tr) (h1:r64 t.2.1) (h2:r64 t.2.2) (hd:d.length<=8589934592):
    Con cfg 187 [vS t.1,vI t.2.1,vI t.2.2,.c (.lit (.pointer (some ⟨bo,0,none⟩))),.c (.lit (.pointer (some ⟨bl,0,none⟩)))] [E.row bo 4 [cB (okF ok (d))],E.vec sv 139 2 ((lI (d)).map Mono.cells),E.row bl 59 [cI K,.lit sv]] fun r μ'=>r=.tup []/\∃sv',μ'=[E.row bo 4 [cB (okF ok (d++[t]))],E.vec sv' 139 2 ((lI (d++[t])).map Mono.cells),E.row bl 59 [cI K,.lit sv']]:=by
 refine zV func187 O ntmps187 results187 O fun z hz=>ol O O<|G O<|qL O uB (lin_plus t.2.1 t.2.2 h1 h2) (vlr O)<|qW O<|yF O<|yF O<|G O<|oi O<|Y O<|zE one4 (J 0 O) O<|G O<|rL0 O (fun g1_1=>zQ O O) O<|kH O (fun h=>h)<|rStR 0 sz4 O<|zA<|ol O O<|yM O<|zA<|zK O ?_ ?_<;>intro c1<;>try simp only [sx] at c1
 ·refine zP O<|zC O kC<|zE wA (J 2 O) O<|G O<|G O<|yJ O zEk pl139<|yY O D zEk<|qA O O (yB 1 O D O O O (by have:=zTu d;simp only [lLm,lLa,lLc,lLn];omega) (by have:=zTu d;simp only [lLm,lLa,lLc,lLn];omega)) ?_
  rintro _ _ ⟨sv1,rfl,rfl⟩
  refine zC O kC<|rStR 2 sz57 O<|zA ?_
  repeat (first|refine kG ?_|refine kB ?_)
  refine wD<|fin0 ?_
  exact ⟨O,_,by rw [zHw,zFw,aa (show ¬w64 (trV t)=0 from c1),ah];rfl⟩
 ·refine zH ?_
  repeat (first|refine kG ?_|refine kB ?_)
  refine wD<|fin0 ?_
  exact ⟨O,_,by rw [zHw,zFw,ab (show w64 (trV t)=0 from c1),lAn];rfl⟩
def lin_Add (a b:Lf) (ha:a.L.length<=4294967296) (hb:b.L.length<=4294967296) (hra:a.rng) (hrb:b.rng):
    Pur cfg 132 [dC a,dC b] (.tup [dC (gQ a b).1,vI (gQ a b).2]):=by
 refine zV func132 O ntmps132 results132 O fun z hz=>Y O<|og O fun b1=>og O fun b2=>qA O O (qI [none,some 2] O U O) ?_
 rintro _ _ ⟨b3,rfl,rfl⟩
 refine oi O<|zF<|Y O<|zN yV (J 2 O) O<|qL O uB (zBd a zB) (vlr O)<|yM O<|G O<|rL0 O (fun g1_3=>qB O yV O (J 1 O) O) O<|rL1 12 O (fun g1_3=>qP O uB (zBd b zB) (vlr O)) O<|rL1 13 O (fun g1_3=>wW O O O) O<|r_or O (fun h=>(lzf h))<|zA<|zK O ?_ ?_<;>intro c1<;>try simp only [sx] at c1
 ·refine Y O<|yQ [none,some 2] O U pl59<|rStR 0 sz59 O<|oi O<|zM<|fin2 (zZ yV O (J 0 O) O) (rs_c O) ?_
  rw [add_c1 c1];rfl
 ·have hla:=zFh c1.1
  have hlb:=zFh c1.2
  refine zH<|Y O<|qA O O (qZ O U) ?_
  rintro _ _ ⟨b4,rfl,rfl⟩
  refine yP _ (kF 139 2)<|zA<|Y O<|qA O O (qZ O zr4) ?_
  rintro _ _ ⟨b6,rfl,rfl⟩
  refine zA<|Y O<|zC O zCc<|zE W (J 5 O) O<|zC O zCc<|zE W (J 4 O) O<|qL O uB (lin_plus a.K b.K hra.1 hrb.1) (vlr O)<|qW O<|yF O<|yF O<|zC O zCc<|rStR 2 sz2 O<|rStR 0 sz4 O<|zA<|Y O<|zC O kC<|zE wA (J 5 O) O<|zC O kC<|zE wA (J 4 O) O<|zT O (zFs O O O O O)<|qA O O (zEo O uB (Con.frame (merge_con a.L b.L ha hb _ (fun d m=>∃sv,m=[E.row b6 4 [cB (okF (decide (r64 (a.K+b.K))) (d))],E.vec sv 139 2 ((lI (d)).map Mono.cells),E.row b4 59 [cI (w64 (a.K+b.K)),.lit sv]]) _ (fun d t s m he hj=>by obtain ⟨sv,rfl⟩:=hj;obtain ⟨k1,k2,k3⟩:=merge_rng hra.2 hrb.2 he;exact FnCon.of_con (first:=[]) (cap:=[.lit (.pointer (some ⟨b6,0,none⟩)),.lit (.pointer (some ⟨b4,0,none⟩))]) uB (lin_Add_1 b6 b4 (decide (r64 (a.K+b.K))) (w64 (a.K+b.K)) sv d t k1 k2 zB)) ⟨_,O⟩) _) (vlr O)) ?_
  rintro _ _ ⟨_,⟨rfl,sv7,rfl⟩,rfl⟩
  refine zA<|zF<|Y O<|zE one4 (J 0 O) O<|kU O<|zA<|zK O ?_ ?_<;>intro c2<;>try simp only [sx] at c2
  ·refine Y O<|yQ [none,some 2] O U pl59<|rStR 3 sz59 O<|oi O<|zM<|fin2 (zZ yV O (J 3 O) O) (rs_c O) ?_
   rw [add_no hla hlb c2];rfl
  ·refine zH<|Y O<|zN yV (J 2 O) O<|rStR 3 sz59 O<|oi O<|zW _ (yK 1 O (regs':=[(35,.agg [_,_])]) (μ':=[_,_,_,_,_]) ⟨FLe.agg ⟨.inl O,.inr ⟨O,O⟩,T⟩,T⟩ ⟨EFle.refl _,EFle.row (ds:=[_,_]) ⟨.inl O,.inr ⟨O,O⟩,T⟩,EFle.row (ds:=[_,_]) ⟨.inl O,.inr ⟨O,O⟩,T⟩,EFle.refl _,EFle.refl _,T⟩)<|zM<|fin2 (zZ yV O (J 2 O) O) (rs_c O) ?_
   rw [add_ok hla hlb c2];rfl
def lin_Substitute (l:Lf) (s:nn) (u:Lf) (hl:l.L.length<=4294967296) (ht:u.L.length<=4294967296) (hrl:l.rng) (hrt:u.rng):
    Pur cfg 71 [dC l,vS s,dC u] (.tup [dC (bU l s u).1,vI (bU l s u).2]):=by
 refine zV func71 O ntmps71 results71 O ?_
 intro z hz
 obtain ⟨hs1,hs2⟩:=scale_rng u (bN l.L s)
 obtain ⟨hr1,hr2⟩:=rest_rng hrl s
 refine Y O<|og O fun b1=>og O fun b2=>qA O O (qI [none,some 2] O U O) ?_
 rintro _ _ ⟨b3,rfl,rfl⟩
 refine oi O<|zF<|Y O<|zN yV (J 2 O) O<|qL O uB (zBd l zB) (vlr O)<|yM O<|G O<|rL0 O (fun g1_3=>zQ O O) O<|rL1 18 O (fun g1_3=>qP O uB (zIm s) (vlr O)) O<|rL1 19 O (fun g1_3=>wV O O) O<|r_or O (fun h=>(lzf h))<|G O<|rL0 O (fun g1_8=>qB O yV O (J 1 O) O) O<|rL1 23 O (fun g1_8=>qP O uB (zBd u zB) (vlr O)) O<|rL1 24 O (fun g1_8=>wW O O O) O<|r_or O (fun h=>(lzf h))<|zA<|zK O ?_ ?_<;>intro c1<;>try simp only [sx] at c1
 ·refine Y O<|yQ [none,some 2] O U pl59<|rStR 0 sz59 O<|oi O<|zM<|fin2 (zZ yV O (J 0 O) O) (rs_c O) ?_
  rw [subst_c1 c1];rfl
 ·refine zH<|Y O<|zC O zCc<|zE W (J 2 O) O<|yJ O U pl59<|qA O O (qZ O U) ?_
  rintro _ _ ⟨b4,rfl,rfl⟩
  refine yP _ (kF 139 2)<|rStR 1 sz59 O<|zA<|oh O O<|zF<|Y O<|zC O kC<|zE wA (J 4 O) O<|qC O D<|oi O<|zS<|zW ⟨[(34,.c _),(9,.c _),(1,.c _),(5,.c _),(6,.c _),(8,.c _),(32,.c _),(33,.c _)],[_,_,_,_]⟩ (Weak.mk [true,true,true,true,false] ⟨zD,zD,zD,zD,zD,zD,zD,zD,T⟩ O)<|qG 2 2 O O (Nat×Value) (fun ⟨k,sv⟩=>[(34,vI k),(9,vI (bN (l.L.take k) s))]) (fun ⟨k,sv⟩=>[E.vec sv 139 2 (((l.L.take k).filter (fun m=> !decide (m.Name=s))).map Mono.cells),E.row b4 59 [cI l.K,.lit sv]]) (fun ⟨k,sv⟩=>k<=l.L.length) (fun ⟨k,sv⟩=>l.L.length-k) ⟨⟨0,_⟩,zB,Weak.mk [true,true,true,true] ⟨zD,VLe.of_eq (O),zD,zD,zD,zD,zD,zD,T⟩ O⟩ ?_
  rintro ⟨k,sv⟩ hk
  show AWP _ _ _ _ _ ⟨[(34,vI k),(9,vI (bN (l.L.take k) s))]++_,[E.vec sv 139 2 (((l.L.take k).filter (fun m=> !decide (m.Name=s))).map Mono.cells),E.row b4 59 [cI l.K,.lit sv]]++_⟩
  refine Y O<|yC O<|zA<|zF<|zK O ?_ ?_<;>intro c2<;>try simp only [sx] at c2
  ·obtain ⟨x,hx⟩:=qX l.L k zB
   refine zH<|zF<|zS<|Y O<|qE O D zB (getm uC)<|zN zFb qF O<|qA O O (qZ O zEk) ?_
   rintro _ _ ⟨b6,rfl,rfl⟩
   refine rStR 0 sz139 O<|zA<|zF<|Y O<|zC O wE<|zE one9 (J 0 O) O<|G O<|wC O<|zA<|zK O ?_ ?_<;>intro c3<;>try simp only [sx] at c3
   ·refine Y O<|zC O zBm<|zE W (J 0 O) O<|oi O<|qM<|zP O<|qH O ⟨zB,zB⟩<|G O<|zA ?_
    exact v23
   ·refine zH<|zP O<|zC O kC<|zE wA (J 2 O) O<|zN zFb (J 0 O) O<|yY O D zEk<|qA O O (yB 1 O D O O O (by have:=dt (fun m:Mono=> !decide (m.Name=s)) (l.L.take k);simp only [lLm,lLa,lLc,lLn,aq] at *;omega) (by have:=dt (fun m:Mono=> !decide (m.Name=s)) (l.L.take k);simp only [lLm,lLa,lLc,lLn,aq] at *;omega)) ?_
    rintro _ _ ⟨sv7,rfl,rfl⟩
    refine zC O kC<|rStR 2 sz57 O<|zA<|zP O<|qH O ⟨zB,zB⟩<|G O<|zA ?_
    exact v23
  ·rw [yI (l:=l.L) (k:=k) zB]
   refine qM<|Y O<|zN yV (J 3 O) O<|G O<|qL O uB (lin_Scale u (bN l.L s) ht hrt (zPs hrl s)) (vlr O)<|qW O<|zT O (yD O O O)<|yF O<|qA O O (qI [none,some 2] O U O) ?_
   rintro _ _ ⟨b8,rfl,rfl⟩
   refine rStR 0 sz59 O<|oi O<|zF<|ol O O<|yM O<|zA<|zK O ?_ ?_<;>intro c4<;>try simp only [sx] at c4
   ·refine Y O<|yQ [none,some 2] O U pl59<|G O<|rStR 3 sz59 O<|oi O<|zM<|fin2 (zZ yV O (J 3 O) O) (rs_c O) ?_
    rw [subst_c4 c1 c4];rfl
   ·refine zW _ (yK 1 O (regs':=[]) (μ':=[_,_,_,_]) T ⟨EFle.refl _,EFle.row (ds:=[_,_]) ⟨.inl O,.inr ⟨O,O⟩,T⟩,EFle.refl _,EFle.refl _,T⟩)<|zH<|Y O<|zN yV (J 1 O) O<|zN yV (J 0 O) O<|qL O uB (lin_Add (lS l s) (fI u (bN l.L s)).1 zB zB hr1 hs1) (vlr O)<|zT O (yD O O O)<|yF O<|rStR 2 sz59 O<|oi O<|zM<|fin2 (zZ yV O (J 2 O) O) (rs_c O) ?_
    rw [subst_ok c1 c4];rfl
end Go.W
end
section
set_option maxRecDepth 10000
namespace Go.W
open Go Go.Eng Go.Proofs Go.L41 Go.Br Tryz
attribute [local irreducible] AWP RWP TD fY
def ref14_wide (x y:Int) (hx:r64 x) (hy:r64 y):
    Pur cfg 277 [vI x,vI y] (.tup [vI ((x*y)/18446744073709551616),vUn ((x*y)%18446744073709551616).toNat]):=by
 refine zV func277 O ntmps277 results277 O ?_
 intro z hz
 have hA:=zBt hx
 have hB:=zBt hy
 obtain ⟨p1,p2,p3,p4⟩:=part_le (a:=x.natAbs) (b:=y.natAbs) zB zB
 obtain ⟨w1,w2⟩:=wide_lt hx hy
 have hmid:vZ x.natAbs y.natAbs<18446744073709551616:=by unfold vZ;omega
 refine ol O O<|oi O<|ol O O<|yC O<|G O<|yC O<|zT O (zKf O un4 O O)<|oi O<|ol O O<|zT O (kX O us2 zWx O)<|G O<|zT O (kX O us2 zWx O)<|G O<|oi O<|zF<|ol O O<|yC O<|zA<|zK O ?_ ?_<;>intro c1<;>try simp only [sx] at c1
 ·refine zP O<|G O<|zT O (zHq O O) ?_
  rw [zUb hx c1]
  refine oi O<|zF<|ol O O<|yC O<|zA<|zK O (fun c2=>?_) (fun c2=>?_)
  ·exact r7
  ·exact p5
 ·rw [zUa hx zB]
  refine zH<|zF<|ol O O<|yC O<|zA<|zK O (fun c2=>?_) (fun c2=>?_)
  ·exact r7
  ·exact p5
def zGq (a b c:Int) (ha:r64 a) (hb:r64 b) (hc:r64 c):
    Pur cfg 244 [vI a,vI b,vI c] (.tup [vI (w64 (a+b*c)),vB (decide (r64 (a+b*c)))]):=by
 refine zV func244 O ntmps244 results244 O ?_
 intro z hz
 obtain ⟨z1,z2⟩:=prod_bd hb hc
 refine ol O O<|oi O<|ol O O<|G O<|qL O uB (ref14_wide b c hb hc) (vlr O)<|qW O<|yF O<|yF O<|G O<|oi O<|ol O O<|G O<|zT O (kX O us2 zWx O)<|zT O (zXw O O O)<|oi O<|oh O O<|zF<|ol O O<|G O<|yC O<|zA<|zK O ?_ ?_<;>intro c1<;>try simp only [sx] at c1
 ·refine zP O<|oi O<|ol O O<|G O<|qH O ⟨zB,zB⟩<|oi O<|zF<|ol O O<|yC O<|zA<|zK O (fun c2=>?_) (fun c2=>?_)
  ·exact n8
  ·exact m6
 ·refine zH<|ol O O<|G O<|qH O ⟨zB,zB⟩<|oi O<|zF<|ol O O<|yC O<|zA<|zK O (fun c2=>?_) (fun c2=>?_)
  ·exact n8
  ·exact m6
def ref14_scales (l:Lf) (by_:Int) (hl:l.L.length<=4294967296) (hr:l.rng) (hb:r64 by_):
    Pur cfg 199 [dC l,vI by_] (vB (decide (r64 (l.K*by_))&&gI by_ l.L)):=by
 refine zV func199 O ntmps199 results199 O ?_
 intro z hz
 have z0:r64 0:=by unfold r64;omega
 refine Y O<|og O fun b1=>oi O<|zF<|Y O<|zC O zCc<|zE W (J 0 O) O<|G O<|qL O uB (zGq 0 l.K by_ z0 hr.1 hb) (vlr O)<|qW O<|yF O<|yF O<|G O<|oi O<|ol O O<|kU O<|zA<|zK O ?_ ?_<;>intro c1<;>try simp only [sx] at c1
 ·rw [jb] at c1
  refine oh O O<|zM<|zX O ?_
  rw [am c1];rfl
 ·rw [jb] at c1
  refine zH<|zF<|oh O O<|zS<|zW ⟨[(7,.c _),(1,.c _),(2,.c _)],[_]⟩ (Weak.mk [true] ⟨zD,zD,zD,T⟩ O)<|qG 1 0 O O (Nat) (fun k=>[(7,vI k)]) (fun k=>[]) (fun k=>k<=l.L.length/\(gI by_ (l.L.take k)=true)) (fun k=>l.L.length-k) ⟨0,⟨zB,O⟩,Weak.mk [true] ⟨zD,zD,zD,T⟩ O⟩ ?_
  rintro k ⟨hk,hp⟩
  refine zF<|ol O O<|zC O kC<|zE wA (J 0 O) O<|qC O D<|yC O<|zA<|zK O ?_ ?_<;>intro c2<;>try simp only [sx] at c2
  ·obtain ⟨x,hx⟩:=qX l.L k zB
   refine zH<|zF<|zS<|Y O<|zC O kC<|zE wA (J 0 O) O<|G O<|qE O D zB (getm uC)<|qR O zBm<|zE W qF O<|G O<|qL O uB (zGq 0 x.By by_ z0 (hr.2 x (qD hx)) hb) (vlr O)<|qW O<|yF O<|yF O<|G O<|oi O<|ol O O<|kU O<|zA<|zK O ?_ ?_<;>intro c3<;>try simp only [sx] at c3
   ·rw [jb] at c3
    refine oh O O<|zM<|zX O ?_
    rw [scaleOk_no hx c3,dj]
   ·rw [jb] at c3
    refine zH<|zP O<|G O<|qH O ⟨zB,zB⟩<|G O<|zA ?_
    refine ⟨k+1,⟨zB,scaleOk_next hx hp c3⟩,zB,Weak.mk [true] ⟨zD,zD,zD,T⟩ O⟩
  ·refine qM<|oh O O<|zM<|zX O ?_
   rw [yI zB] at hp
   rw [hp,al c1];rfl
def zSd (l:Lf) (s:nn) (u:Lf) (hl:l.L.length<=4294967296) (ht:u.L.length<=4294967296) (hrl:l.rng) (hrt:u.rng):
    Pur cfg 70 [dC l,.c (.iptr [cS s]),.c (.iptr u.cells)] (.tup [dC (bU l s u).1,vI (bU l s u).2]):=by
 refine zV func70 O ntmps70 results70 O fun z hz=>Y O<|og O fun b1=>qA O O (qI [none,some 2] O U O) ?_
 rintro _ _ ⟨b2,rfl,rfl⟩
 refine oi O<|Y O<|zN yV (J 1 O) O<|zE one9 qF O<|zN yV qF O<|qL O uB (lin_Substitute l s u hl ht hrl hrt) (vlr O)<|zT O (yD O O O)<|yF O<|rStR 0 sz59 O<|oi O<|zM<|fin2 (zZ yV O (J 0 O) O) (rs_c O) ?_
 exact O
def zMn (e:Ex) (s:nn) (u:Lf) (he:e.wt<=4294967296) (hP:e.allF Lf.rng) (ht:u.L.length<=4294967296) (hrt:u.rng):
    Pur cfg 27 [vE e,vS s,dC u] (.tup [vE (jZ (mEx (fun l=>bU l s u) e)),vI (gG (mEx (fun l=>bU l s u) e))]):=by
 refine zV func27 O ntmps27 results27 O fun z hz=>Y O<|og O fun b1=>og O fun b2=>og O fun b3=>qA O O (qI nr O zr62 O) ?_
 rintro _ _ ⟨b4,rfl,rfl⟩
 refine oi O<|Y O<|zN yZ (J 3 O) O<|zT O (zFs O O O O O)<|yP _ (kN 2 O 9 (.c (.fn _ _ [_,_])) (PLe.fn ⟨.inr ⟨O,O⟩,.inl O,T⟩))<|yP _ (kN 1 O 9 (.c (.fn _ _ [_,_])) (PLe.fn ⟨.inl O,.inr ⟨O,O⟩,T⟩))<|qL O uB (mapForms_con (fun l=>bU l s u) _ Lf.rng (fun l hr hl=>FnPur.of_pur (first:=[]) (cap:=[.iptr [cS s],.iptr u.cells]) uB (zSd l s u hl ht hr hrt)) e hP he) (vlr O)<|zT O (yD O O O)<|yF O<|rStR 0 sz62 O<|oi O<|zM<|fin2 (zZ yZ O (J 0 O) O) (rs_c O) ?_
 exact O
end Go.W
end
section
set_option maxRecDepth 10000
namespace Go.W
open Go Go.Eng Go.Proofs Go.L41 Go.Br Tryz
attribute [local irreducible] AWP RWP TD fY
def pl93:fA prog 93=some [(0,2),(2,1),(3,1)]:=by kernel_rfl
def ref14_sum (a b:Lf) (c:Int) (ha:a.L.length<=4294967296) (hb:b.L.length<=4294967296) (hra:a.rng) (hrb:b.rng) (hc:r64 c) (hne:∀m,m∈a.L->m.By≠0):
    Pur cfg 200 [dC a,dC b,vI c] (.tup [dC (mK (a.K+b.K*c) (mB c (bE a.L b.L))).1,vI (mK (a.K+b.K*c) (mB c (bE a.L b.L))).2]):=by
 refine zV func200 O ntmps200 results200 O ?_
 intro z hz
 have z0:r64 0:=by unfold r64;omega
 refine Y O<|og O fun b1=>og O fun b2=>qA O O (qI [none,some 2] O U O) ?_
 rintro _ _ ⟨b3,rfl,rfl⟩
 refine oi O<|Y O<|zC O zCc<|zE W (J 2 O) O<|zC O zCc<|zE W (J 1 O) O<|G O<|qL O uB (zGq a.K b.K c hra.1 hrb.1 hc) (vlr O)<|qW O<|yF O<|yF O<|G O<|oi O<|ol O O<|yJ O U pl59<|qA O O (qZ O U) ?_
 rintro _ _ ⟨b4,rfl,rfl⟩
 refine yP _ (kF 139 2)<|rStR 1 sz59 O<|zA<|ol O O<|oi O<|zF<|zS<|zW ⟨[(9,.c _),(11,.c _),(12,.c _),(2,.c _),(3,.c _),(4,.c _),(6,.c _),(10,.c _)],[_,_,_,_,_]⟩ (Weak.mk [true,true,true,true,true] ⟨zD,zD,zD,zD,zD,zD,zD,zD,T⟩ O)<|qG 3 2 O O (Nat×Nat×List Tr×Value) (fun ⟨i,n,d,sv⟩=>[(9,vB (okF (decide (r64 (a.K+b.K*c))) (mB c d))),(11,vI i),(12,vI n)]) (fun ⟨i,n,d,sv⟩=>[E.vec sv 139 2 ((lI (mB c d)).map Mono.cells),E.row b4 59 [cI (w64 (a.K+b.K*c)),.lit sv]]) (fun ⟨i,n,d,sv⟩=>i<=a.L.length/\n<=b.L.length/\bE a.L b.L=d++bE (a.L.drop i) (b.L.drop n)) (fun ⟨i,n,d,sv⟩=>(a.L.length-i)+(b.L.length-n)) ⟨⟨0,0,[],.slice none 0 0⟩,⟨zB,zB,O⟩,Weak.mk [true,true,true,true,true] ⟨zD,zD,zD,zD,zD,zD,zD,zD,T⟩ O⟩ ?_
 rintro ⟨i,n,d,sv⟩ ⟨hia,hnb,hm⟩
 show AWP _ _ _ _ _ ⟨[(9,vB (okF (decide (r64 (a.K+b.K*c))) (mB c d))),(11,vI i),(12,vI n)]++_,[E.vec sv 139 2 ((lI (mB c d)).map Mono.cells),E.row b4 59 [cI (w64 (a.K+b.K*c)),.lit sv]]++_⟩
 refine zF<|ol O O<|zC O kC<|zE wA (J 4 O) O<|qC O D<|yC O<|G O<|rL0 O (fun g4_5=>zQ O O) O<|rL0 O (fun g4_5=>zG O kC O) O<|rL1 36 O (fun g4_5=>zJ O wA O (J 3 O) O) O<|rL1 37 O (fun g4_5=>yG O D O) O<|rLz [(35,_),(38,_)] O gv1 ⟨O,O,O,O,T⟩ (fun g4_5=>zAz O O O) O<|r_or O (fun h=>(lzf h))<|zA<|zK O ?_ ?_<;>intro c1<;>try simp only [sx] at c1
 ·refine zH<|zS<|ol O O<|G O<|oi O<|zF<|zF<|yH 27 mixed uB O O<|oo O (zQ O O)<|oo O (zG O kC O)<|oo O (zJ O wA O (J 3 O) O)<|oo O (yG O D O)<|oo O (yX O O O)<|oo O (zQ O O)<|qU [] O O O O gv1 T (fun g6_5=>zQ O O) O<|qU [] O O O O gv1 T (fun g6_5=>zG O kC O) O<|qU [(48,_)] O O O O gv1 ⟨O,O,T⟩ (fun g6_5=>zJ O wA O (J 4 O) O) O<|qU [(49,_)] O O O O gv1 ⟨O,O,T⟩ (fun g6_5=>yG O D O) O<|qU [(47,_),(50,_)] O O O O gv1 ⟨O,O,O,O,T⟩ (fun g6_5=>zAz O O O) O<|qU [(51,_)] O O O O gv1 ⟨O,O,T⟩ (fun g6_5=>zQ O O) O<|qU [] O O O O gv2 T (fun g6_11=>zG O kC O) O<|qU [(53,_)] O O O O gv2 ⟨O,O,T⟩ (fun g6_11=>zJ O wA O (J 4 O) O) O<|qU [] O O O O gv2 T (fun g6_11=>zQ O O) O<|qU [(54,_),(55,_)] O O O O gv2 ⟨O,O,O,O,T⟩ (fun g6_11=>qK O D O O (by simp only [Lz,aD,av,sx] at g6_11;omega) (getm (zFa (by simp only [Lz,aD,av,sx] at g6_11;omega)))) O<|qU [(56,_)] O O O O gv2 ⟨O,O,T⟩ (fun g6_11=>qV O wE O) O<|qU [(57,_)] O O O O gv2 ⟨O,O,T⟩ (fun g6_11=>zJ O one9 O qF O) O<|qU [] O O O O gv2 T (fun g6_11=>zG O kC O) O<|qU [(59,_)] O O O O gv2 ⟨O,O,T⟩ (fun g6_11=>zJ O wA O (J 3 O) O) O<|qU [] O O O O gv2 T (fun g6_11=>zQ O O) O<|qU [(60,_),(61,_)] O O O O gv2 ⟨O,O,O,O,T⟩ (fun g6_11=>qK O D O O (by simp only [Lz,aD,av,sx] at g6_11;omega) (getm (zFa (by simp only [Lz,aD,av,sx] at g6_11;omega)))) O<|qU [(62,_)] O O O O gv2 ⟨O,O,T⟩ (fun g6_11=>qV O wE O) O<|qU [(63,_)] O O O O gv2 ⟨O,O,T⟩ (fun g6_11=>zJ O one9 O qF O) O<|qU [(58,_),(64,_)] O O O O gv2 ⟨O,O,O,O,T⟩ (fun g6_11=>det_sleq O O O) O<|qU [(52,_)] O O O O gv1 ⟨O,O,T⟩ (fun g6_5=>zAd O O O (fun h=>kR uC h) O) O<|oo O (zCo O O O O (fun h=>(lzf h)))<|kE<|zA<|zK O (fun c2=>?_) (fun c2=>?_)
  ·have hi:=sum_t (a:=a.L) (b:=b.L) (i:=i) (n:=n) zB hnb c2
   refine Y O<|zC O kC<|zE wA (J 4 O) O<|G O<|qE O D zB (getm (zFa zB))<|qR O wE<|zE one9 qF O<|oi O<|zP O<|zC O kC<|zE wA (J 4 O) O<|G O<|qE O D zB (getm (zFa zB))<|qR O zBm<|zE W qF O<|oi O<|zF<|ol O O<|zC O kC<|zE wA (J 3 O) O<|qC O D<|yC O<|G O<|rL0 O (fun g10_5=>zG O kC O) O<|rL1 92 O (fun g10_5=>zJ O wA O (J 3 O) O) O<|rL0 O (fun g10_5=>zQ O O) O<|rLz [(93,_),(94,_)] O gv1 ⟨O,O,O,O,T⟩ (fun g10_5=>qK O D O O (by simp only [Lz,aD,av,sx] at g10_5;omega) (getm (zFa (by simp only [Lz,aD,av,sx] at g10_5;omega)))) O<|rL1 95 O (fun g10_5=>qV O wE O) O<|rL1 96 O (fun g10_5=>zJ O one9 O qF O) O<|rL0 O (fun g10_5=>zQ O O) O<|rLz [(97,_),(98,_)] O gv1 ⟨O,O,O,O,T⟩ (fun g10_5=>zKe O O O) O<|kH O (fun h=>h)<|zA<|zK O (fun c3=>?_) (fun c3=>?_)
   ·obtain ⟨hn1,hL⟩:=sum_tt (a:=a.L) (b:=b.L) (i:=i) (n:=n) hi c3
    have hm1:bE a.L b.L=(d++[((atM a.L i).Name,(atM a.L i).By,(atM b.L n).By)])++bE (a.L.drop (i+1)) (b.L.drop (n+1)):=by rw [hm,hL];simp
    refine Y O<|zC O kC<|zE wA (J 3 O) O<|G O<|qE O D zB (getm (zFa zB))<|qR O zBm<|zE W qF O<|oi O<|zP O<|G O<|qH O ⟨zB,zB⟩<|oi O<|zF<|ol O O<|yM O<|zA<|zK O ?_ ?_<;>intro c4<;>try simp only [sx] at c4
    ·refine zP O<|G O<|qH O ⟨zB,zB⟩<|oi O<|ol O O<|G O<|G O<|qL O uB (zGq _ _ c (by first|exact z0|exact hra.2 _ (zTd hi)) (by first|exact z0|exact hrb.2 _ (zTd hn1)) hc) (vlr O)<|qW O<|yF O<|yF O<|G O<|oi O<|ol O O<|G O<|rL0 O (fun g16_1=>zQ O O) O<|kH O (fun h=>h)<|oi O<|ol O O<|yM O<|zA<|zK O ?_ ?_<;>intro c5<;>try simp only [sx] at c5
     ·refine zP O<|zC O kC<|zE wA (J 1 O) O<|G O<|G O<|yJ O zEk pl139<|yY O D zEk<|qA O O (yB 0 O D O O O (by have:=zJk c d;have:=ai List.length hm1;have:=zDd a.L b.L;simp only [lLm,lLa,lLc,lLn] at *;omega) (by have:=zJk c d;have:=ai List.length hm1;have:=zDd a.L b.L;simp only [lLm,lLa,lLc,lLn] at *;omega)) ?_
      rintro _ _ ⟨sv6,rfl,rfl⟩
      refine zC O kC<|rStR 1 sz57 O<|zA ?_
      refine ⟨⟨i+1,n+1,d++[((atM a.L i).Name,(atM a.L i).By,(atM b.L n).By)],sv6⟩,⟨zB,zB,hm1⟩,(by dsimp only;omega),Weak.mk [true,true,true,true,true] ⟨VLe.of_eq (by rw [zEa,zHw];rfl),zD,zD,zD,zD,zD,zD,zD,T⟩ (by exact zFp (by rw [zEa,zFw];rw [aa (show ¬w64 (trV ((atM a.L i).Name,(atM a.L i).By,(atM b.L n).By*c))=0 from c5),ah];rfl))⟩
     ·refine zH ?_
      refine ⟨⟨i+1,n+1,d++[((atM a.L i).Name,(atM a.L i).By,(atM b.L n).By)],sv⟩,⟨zB,zB,hm1⟩,(by dsimp only;omega),Weak.mk [true,true,true,true,true] ⟨VLe.of_eq (by rw [zEa,zHw];rfl),zD,zD,zD,zD,zD,zD,zD,T⟩ (by exact zFp (by rw [zEa,zFw];rw [ab (show w64 (trV ((atM a.L i).Name,(atM a.L i).By,(atM b.L n).By*c))=0 from c5),lAn]))⟩
    ·exact absurd c4 (hne _ (zTd hi))
   ·have hL:=sum_tf (a:=a.L) (b:=b.L) (i:=i) (n:=n) hi hnb c2 c3
    have hm1:bE a.L b.L=(d++[((atM a.L i).Name,(atM a.L i).By,0)])++bE (a.L.drop (i+1)) (b.L.drop n):=by rw [hm,hL];simp
    refine zH<|zF<|ol O O<|yM O<|zA<|zK O ?_ ?_<;>intro c4<;>try simp only [sx] at c4
    ·refine zP O<|G O<|qH O ⟨zB,zB⟩<|oi O<|ol O O<|G O<|G O<|qL O uB (zGq _ _ c (by first|exact z0|exact hra.2 _ (zTd hi)) (by first|exact z0|exact hrb.2 _ (zTd hn1)) hc) (vlr O)<|qW O<|yF O<|yF O<|G O<|oi O<|ol O O<|G O<|rL0 O (fun g16_1=>zQ O O) O<|kH O (fun h=>h)<|oi O<|ol O O<|yM O<|zA<|zK O ?_ ?_<;>intro c5<;>try simp only [sx] at c5
     ·refine zP O<|zC O kC<|zE wA (J 1 O) O<|G O<|G O<|yJ O zEk pl139<|yY O D zEk<|qA O O (yB 0 O D O O O (by have:=zJk c d;have:=ai List.length hm1;have:=zDd a.L b.L;simp only [lLm,lLa,lLc,lLn] at *;omega) (by have:=zJk c d;have:=ai List.length hm1;have:=zDd a.L b.L;simp only [lLm,lLa,lLc,lLn] at *;omega)) ?_
      rintro _ _ ⟨sv7,rfl,rfl⟩
      refine zC O kC<|rStR 1 sz57 O<|zA ?_
      refine ⟨⟨i+1,n,d++[((atM a.L i).Name,(atM a.L i).By,0)],sv7⟩,⟨zB,zB,hm1⟩,(by dsimp only;omega),Weak.mk [true,true,true,true,true] ⟨VLe.of_eq (by rw [zEa,zHw];rfl),zD,zD,zD,zD,zD,zD,zD,T⟩ (by exact zFp (by rw [zEa,zFw];rw [aa (show ¬w64 (trV ((atM a.L i).Name,(atM a.L i).By,0*c))=0 from c5),ah];rfl))⟩
     ·refine zH ?_
      refine ⟨⟨i+1,n,d++[((atM a.L i).Name,(atM a.L i).By,0)],sv⟩,⟨zB,zB,hm1⟩,(by dsimp only;omega),Weak.mk [true,true,true,true,true] ⟨VLe.of_eq (by rw [zEa,zHw];rfl),zD,zD,zD,zD,zD,zD,zD,T⟩ (by exact zFp (by rw [zEa,zFw];rw [ab (show w64 (trV ((atM a.L i).Name,(atM a.L i).By,0*c))=0 from c5),lAn]))⟩
    ·exact absurd c4 (hne _ (zTd hi))
  ·have hn1:=sum_f (a:=a.L) (b:=b.L) (i:=i) (n:=n) hnb c2
   obtain ⟨hL,hs3⟩:=sum_fx (a:=a.L) (b:=b.L) (i:=i) (n:=n) hn1 c2
   refine zP O<|zC O kC<|zE wA (J 3 O) O<|G O<|qE O D zB (getm (zFa zB))<|qR O wE<|zE one9 qF O<|oi O<|zF<|ol O O<|zC O kC<|zE wA (J 3 O) O<|qC O D<|yC O<|G O<|rL0 O (fun g10_5=>zG O kC O) O<|rL1 92 O (fun g10_5=>zJ O wA O (J 3 O) O) O<|rL0 O (fun g10_5=>zQ O O) O<|rLz [(93,_),(94,_)] O gv1 ⟨O,O,O,O,T⟩ (fun g10_5=>qK O D O O (by simp only [Lz,aD,av,sx] at g10_5;omega) (getm (zFa (by simp only [Lz,aD,av,sx] at g10_5;omega)))) O<|rL1 95 O (fun g10_5=>qV O wE O) O<|rL1 96 O (fun g10_5=>zJ O one9 O qF O) O<|rL0 O (fun g10_5=>zQ O O) O<|rLz [(97,_),(98,_)] O gv1 ⟨O,O,O,O,T⟩ (fun g10_5=>zKe O O O) O<|kH O (fun h=>h)<|zA<|zK O (fun c3=>?_) (fun c3=>?_)
   ·have hm1:bE a.L b.L=(d++[((atM b.L n).Name,0,(atM b.L n).By)])++bE (a.L.drop i) (b.L.drop (n+1)):=by rw [hm,hL];simp
    refine Y O<|zC O kC<|zE wA (J 3 O) O<|G O<|qE O D zB (getm (zFa zB))<|qR O zBm<|zE W qF O<|oi O<|zP O<|G O<|qH O ⟨zB,zB⟩<|oi O<|zF<|ol O O<|yM O<|zA<|zK O ?_ ?_<;>intro c4<;>try simp only [sx] at c4
    ·exact absurd T c4
    ·refine zH<|ol O O<|G O<|G O<|qL O uB (zGq _ _ c (by first|exact z0|exact hra.2 _ (zTd hi)) (by first|exact z0|exact hrb.2 _ (zTd hn1)) hc) (vlr O)<|qW O<|yF O<|yF O<|G O<|oi O<|ol O O<|G O<|rL0 O (fun g16_1=>zQ O O) O<|kH O (fun h=>h)<|oi O<|ol O O<|yM O<|zA<|zK O ?_ ?_<;>intro c5<;>try simp only [sx] at c5
     ·refine zP O<|zC O kC<|zE wA (J 1 O) O<|G O<|G O<|yJ O zEk pl139<|yY O D zEk<|qA O O (yB 0 O D O O O (by have:=zJk c d;have:=ai List.length hm1;have:=zDd a.L b.L;simp only [lLm,lLa,lLc,lLn] at *;omega) (by have:=zJk c d;have:=ai List.length hm1;have:=zDd a.L b.L;simp only [lLm,lLa,lLc,lLn] at *;omega)) ?_
      rintro _ _ ⟨sv8,rfl,rfl⟩
      refine zC O kC<|rStR 1 sz57 O<|zA ?_
      refine ⟨⟨i,n+1,d++[((atM b.L n).Name,0,(atM b.L n).By)],sv8⟩,⟨zB,zB,hm1⟩,(by dsimp only;omega),Weak.mk [true,true,true,true,true] ⟨VLe.of_eq (by rw [zEa,zHw];rfl),zD,zD,zD,zD,zD,zD,zD,T⟩ (by exact zFp (by rw [zEa,zFw];rw [aa (show ¬w64 (trV ((atM b.L n).Name,0,(atM b.L n).By*c))=0 from c5),ah];rfl))⟩
     ·refine zH ?_
      refine ⟨⟨i,n+1,d++[((atM b.L n).Name,0,(atM b.L n).By)],sv⟩,⟨zB,zB,hm1⟩,(by dsimp only;omega),Weak.mk [true,true,true,true,true] ⟨VLe.of_eq (by rw [zEa,zHw];rfl),zD,zD,zD,zD,zD,zD,zD,T⟩ (by exact zFp (by rw [zEa,zFw];rw [ab (show w64 (trV ((atM b.L n).Name,0,(atM b.L n).By*c))=0 from c5),lAn]))⟩
   ·exact absurd (hs3.symm.trans c3) uA
 ·refine qM<|zF<|ol O O<|kU O<|zA<|zK O ?_ ?_<;>intro c6<;>try simp only [sx] at c6
  ·refine Y O<|yQ [none,some 2] O U pl59<|rStR 2 sz59 O<|oi O<|zM<|fin2 (zZ yV O (J 2 O) O) (rs_c O) ?_
   rw [hm,sum_end zB zB,lAn,add_no' c6];rfl
  ·refine zH<|Y O<|zN yV (J 1 O) O<|rStR 2 sz59 O<|oi O<|zW _ (yK 0 O (regs':=[(137,.agg [_,_])]) (μ':=[_,_,_,_]) ⟨FLe.agg ⟨.inl O,.inr ⟨O,O⟩,T⟩,T⟩ ⟨EFle.row (ds:=[_,_]) ⟨.inl O,.inr ⟨O,O⟩,T⟩,EFle.row (ds:=[_,_]) ⟨.inl O,.inr ⟨O,O⟩,T⟩,EFle.refl _,EFle.refl _,T⟩)<|zM<|fin2 (zZ yV O (J 1 O) O) (rs_c O) ?_
   rw [hm,sum_end zB zB,lAn,add_ok' c6];rfl
def zEc (l:Lf) (s:nn) (u:Lf) (hl:l.L.length<=4294967296) (ht:u.L.length<=4294967296) (hrl:l.rng) (hrt:u.rng):
    Pur cfg 155 [dC l,vS s,dC u] (.tup [dC (bO l s u).1,vI (bO l s u).2]):=by
 refine zV func155 O ntmps155 results155 O ?_
 intro z hz
 obtain ⟨hr1,hr2⟩:=rest_rng hrl s
 refine Y O<|og O fun b1=>og O fun b2=>qA O O (qI [none,some 2] O U O) ?_
 rintro _ _ ⟨b3,rfl,rfl⟩
 refine oi O<|zF<|Y O<|zN yV (J 2 O) O<|qL O uB (zCh l zB) (vlr O)<|kU O<|G O<|rL0 O (fun g1_3=>qB O yV O (J 1 O) O) O<|rL1 15 O (fun g1_3=>qP O uB (zCh u zB) (vlr O)) O<|rL1 16 O (fun g1_3=>wV O O) O<|r_or O (fun h=>(lzf h))<|G O<|rL0 O (fun g1_8=>zQ O O) O<|rL1 20 O (fun g1_8=>qP O uB (zHr s) (vlr O)) O<|rL1 21 O (fun g1_8=>wV O O) O<|r_or O (fun h=>(lzf h))<|zA<|zK O ?_ ?_<;>intro c1<;>try simp only [sx] at c1
 ·have hS:bO l s u=(zL,1):=substR_bad c1
  refine Y O<|yQ [none,some 2] O U pl59<|rStR 0 sz59 O<|oi O<|zM<|fin2 (zZ yV O (J 0 O) O) (rs_c O) ?_
  rw [hS];rfl
 ·obtain ⟨hl1,hl2,hl3⟩:=substR_c1 c1
  refine zH<|oh O O<|Y O<|zC O zCc<|zE W (J 2 O) O<|yJ O U pl59<|qA O O (qZ O U) ?_
  rintro _ _ ⟨b4,rfl,rfl⟩
  refine yP _ (kF 139 2)<|rStR 1 sz59 O<|zA<|zF<|oh O O<|zS<|zW ⟨[(10,.c _),(8,.c _),(1,.c _),(3,.c _),(5,.c _),(6,.c _),(9,.c _)],[_,_,_,_,_]⟩ (Weak.mk [true,true,true,true,true] ⟨zD,zD,zD,zD,zD,zD,zD,T⟩ O)<|qG 2 2 O O (Nat×Value) (fun ⟨k,sv⟩=>[(10,vI k),(8,vI (bN (l.L.take k) s))]) (fun ⟨k,sv⟩=>[E.vec sv 139 2 (((l.L.take k).filter (fun m=> !decide (m.Name=s))).map Mono.cells),E.row b4 59 [cI l.K,.lit sv]]) (fun ⟨k,sv⟩=>k<=l.L.length) (fun ⟨k,sv⟩=>l.L.length-k) ⟨⟨0,_⟩,zB,Weak.mk [true,true,true,true,true] ⟨zD,VLe.of_eq (O),zD,zD,zD,zD,zD,T⟩ O⟩ ?_
  rintro ⟨k,sv⟩ hk
  show AWP _ _ _ _ _ ⟨[(10,vI k),(8,vI (bN (l.L.take k) s))]++_,[E.vec sv 139 2 (((l.L.take k).filter (fun m=> !decide (m.Name=s))).map Mono.cells),E.row b4 59 [cI l.K,.lit sv]]++_⟩
  refine zF<|ol O O<|zC O kC<|zE wA (J 4 O) O<|qC O D<|yC O<|zA<|zK O ?_ ?_<;>intro c2<;>try simp only [sx] at c2
  ·obtain ⟨x,hx⟩:=qX l.L k zB
   refine zH<|zF<|zS<|Y O<|zC O kC<|zE wA (J 4 O) O<|G O<|qE O D zB (getm uC)<|qR O wE<|zE one9 qF O<|G O<|wC O<|zA<|zK O ?_ ?_<;>intro c3<;>try simp only [sx] at c3
   ·refine zP O<|zC O kC<|zE wA (J 4 O) O<|G O<|qE O D zB (getm uC)<|qR O zBm<|zE W qF O<|oi O<|zP O<|G O<|qH O ⟨zB,zB⟩<|G O<|zA ?_
    exact v24
   ·refine yH 8 mixed uB O O<|oo O (zG O kC O)<|oo O (zJ O wA O (J 1 O) O)<|oo O (zG O kC O)<|oo O (zJ O wA O (J 4 O) O)<|oo O (zQ O O)<|oo O (qK O D O O zB (getm uC))<|oo O (qB O zFb O qF O)<|oo O (kW O D zEk O O O O)<|kE<|qA O O (yB 0 O D O O O (by have:=dt (fun m:Mono=> !decide (m.Name=s)) (l.L.take k);simp only [lLm,lLa,lLc,lLn,aq] at *;omega) (by have:=dt (fun m:Mono=> !decide (m.Name=s)) (l.L.take k);simp only [lLm,lLa,lLc,lLn,aq] at *;omega)) ?_
    rintro _ _ ⟨sv6,rfl,rfl⟩
    refine zC O kC<|rStR 1 sz57 O<|zA<|zP O<|G O<|qH O ⟨zB,zB⟩<|G O<|zA ?_
    exact v24
  ·rw [yI (l:=l.L) (k:=k) zB]
   refine qM<|zF<|ol O O<|yT O<|zA<|qO O (fun c4=>?_) (fun c4=>?_)
   ·refine Y O<|zN yV (J 4 O) O<|rStR 2 sz59 O<|oi O<|zM<|fin2 (zZ yV O (J 2 O) O) (rs_c O) ?_
    rw [substR_same ⟨hl1,hl2,hl3⟩ c4];rfl
   ·refine zH<|zF<|Y O<|zN yV (J 3 O) O<|G O<|qL O uB (ref14_scales u (bN l.L s) ht hrt (zPs hrl s)) (vlr O)<|kU O<|zA<|zK O ?_ ?_<;>intro c5<;>try simp only [sx] at c5
    ·refine Y O<|yQ [none,some 2] O U pl59<|rStR 2 sz59 O<|oi O<|zM<|fin2 (zZ yV O (J 2 O) O) (rs_c O) ?_
     rw [substR_no ⟨hl1,hl2,hl3⟩ c4 c5];rfl
    ·refine zW _ (yK 0 O (regs':=[]) (μ':=[_,_,_,_]) T ⟨EFle.row (ds:=[_,_]) ⟨.inl O,.inr ⟨O,O⟩,T⟩,EFle.refl _,EFle.refl _,EFle.refl _,T⟩)<|zH<|Y O<|zN yV (J 0 O) O<|zN yV (J 2 O) O<|G O<|qL O uB (ref14_sum (lS l s) u (bN l.L s) zB ht hr1 hrt (zPs hrl s) (fun m hm=>(zGt hl1 m (da.1 hm).1).1)) (vlr O)<|zT O (yD O O O)<|yF O<|rStR 1 sz59 O<|oi O<|zM<|fin2 (zZ yV O (J 1 O) O) (rs_c O) ?_
     rw [substR_yes ⟨hl1,hl2,hl3⟩ c4 c5];rfl
def zLo (x:Ix) (s:nn) (u:Lf) (ht:u.L.length<=4294967296) (hrt:u.rng) (hx:x.wt<=4294967296) (hr1:x.Lin.rng) (hr2:∀l,l∈x.At->l.rng):
    Pur cfg 156 [jN x,vS s,dC u] (.tup [jN (iR (mIx (fun l=>bO l s u) x)),vI (gG (mIx (fun l=>bO l s u) x))]):=by
 refine zV func156 O ntmps156 results156 O ?_
 intro z hz
 have hxw:=hx
 unfold Ix.wt at hxw
 refine Y O<|og O fun b1=>og O fun b2=>qA O O (qI ns O zr93 O) ?_
 rintro _ _ ⟨b3,rfl,rfl⟩
 refine oi O<|Y O<|zC O zCy<|zN yV (J 2 O) O<|G O<|zN yV (J 1 O) O<|qL O uB (zEc x.Lin s u zB ht hr1 hrt) (vlr O)<|qW O<|zT O (yD O O O)<|yF O<|qA O O (qI [none,some 2] O U O) ?_
 rintro _ _ ⟨b4,rfl,rfl⟩
 refine rStR 0 sz59 O<|oi O<|zF<|ol O O<|yM O<|zA<|zK O ?_ ?_<;>intro c1<;>try simp only [sx] at c1
 ·refine Y O<|yQ ns O zr93 pl93<|G O<|rStR 1 sz93 O<|oi O<|zM<|fin2 (zZ zGp O (J 1 O) O) (rs_c O) ?_
  rw [mIx_e1 c1];rfl
 ·refine zH<|Y O<|zN yV (J 0 O) O<|zC O zEs<|zE one9 (J 3 O) O<|yJ O zr93 pl93<|qA O O (qZ O zr93) ?_
  rintro _ _ ⟨b5,rfl,rfl⟩
  refine yP _ (kF 139 2)<|yP _ (kF 59 2)<|rStR 2 sz93 O<|zA<|zF<|oh O O<|zS<|zW ⟨[(11,.c _),(1,.c _),(3,.c _),(5,.c _),(6,.c _),(10,.c _)],[_,_,_,_,_]⟩ (Weak.mk [true,false,true,false,true,true,true] ⟨zD,zD,zD,zD,zD,zD,T⟩ O)<|qG 1 2 O O (Nat×List Lf×Value) (fun ⟨k,outs,sv⟩=>[(11,vI k)]) (fun ⟨k,outs,sv⟩=>[E.vec sv 59 2 (outs.map Lf.cells),E.row b5 93 [cI (bO x.Lin s u).1.K,.sl 2 ((bO x.Lin s u).1.L.map Mono.cells),cS x.From,.lit sv]]) (fun ⟨k,outs,sv⟩=>k<=x.At.length/\(outs.length=k)/\(dL (fun l=>bO l s u) x.At=bW outs (dL (fun l=>bO l s u) (x.At.drop k)))) (fun ⟨k,outs,sv⟩=>x.At.length-k) ⟨⟨0,[],.slice none 0 0⟩,⟨zB,O,(zBj _).symm⟩,Weak.mk [true,true,true,true,true] ⟨zD,zD,zD,zD,zD,zD,T⟩ O⟩ ?_
  rintro ⟨k,outs,sv⟩ ⟨hk,ho,hp⟩
  show AWP _ _ _ _ _ ⟨[(11,vI k)]++_,[E.vec sv 59 2 (outs.map Lf.cells),E.row b5 93 [cI (bO x.Lin s u).1.K,.sl 2 ((bO x.Lin s u).1.L.map Mono.cells),cS x.From,.lit sv]]++_⟩
  refine zF<|ol O O<|zC O zAi<|zE zBs (J 4 O) O<|qC O el72<|yC O<|zA<|zK O ?_ ?_<;>intro c2<;>try simp only [sx] at c2
  ·obtain ⟨l,hl⟩:=qX x.At k zB
   refine zH<|zF<|zS<|zF<|yS 13 1 [⟨0,.q []⟩,⟨1,.q [5]⟩,⟨2,.q []⟩,⟨3,.q []⟩,⟨4,.q []⟩,⟨5,.q []⟩,⟨6,.q [4]⟩,⟨7,.q []⟩,⟨8,.q []⟩,⟨9,.q []⟩,⟨10,.q []⟩,⟨11,.e 0 []⟩,⟨12,.e 0 []⟩] mixed uB uB O O O<|zR O<|zR O<|zR O<|zR O<|zR O<|zR O<|zR O<|zR O<|zR O<|zR O<|zR O<|zR O<|zR O<|wQ<|om O (zG O zAi O)<|om O (zJ O zBs O (J 0 O) O)<|om O (zQ O O)<|om O (qK O el72 O O zB (getm uC))<|om O (qB O yV O qF O)<|om O (zQ O O)<|om O (qB O yV O (J 0 O) O)<|om O (qP O uB (zEc l s u (by have:=zBw (qD hl);omega) ht (hr2 l (qD hl)) hrt) (vlr O))<|om O (yW O O)<|om O (yD O O O)<|om O (kM O O O)<|zEm O O uA O O (qI [none,some 2] O U O) ?_
   rintro _ _ ⟨b8,rfl,rfl⟩
   refine ⟨_,O,?_⟩
   refine zCk O O uA O O (yO O sz59 O O O (zBo 0 O O)) ?_
   rintro _ _ ⟨rfl,rfl⟩
   refine ⟨_,O,?_⟩
   refine wP O<|oi O<|zF<|ol O O<|yM O<|zA<|zK O ?_ ?_<;>intro c3<;>try simp only [sx] at c3
   ·refine Y O<|yQ ns O zr93 pl93<|G O<|rStR 3 sz93 O<|oi O<|zM<|fin2 (zZ zGp O (J 3 O) O) (rs_c O) ?_
    rw [mIx_e2 c1 (mLins_no hl hp c3)];rfl
   ·refine zH<|zP O<|zC O zAi<|zE zBs (J 2 O) O<|zN yV (J 0 O) O<|yY O el72 U<|qA O O (yB 1 O el72 O O O uI uI) ?_
    rintro _ _ ⟨sv9,rfl,rfl⟩
    refine zC O zAi<|rStR 2 sz72 O<|zA<|zP O<|G O<|qH O ⟨zB,zB⟩<|G O<|zA ?_
    refine ⟨⟨k+1,outs++[(bO l s u).1],sv9⟩,⟨zB,uD,zRu hl hp c3⟩,(by show x.At.length-(k+1)<x.At.length-k;omega),Weak.mk [false,true,true,true,true,true] ⟨zD,zD,zD,zD,zD,zD,T⟩ (by exact zJv (by rw [ah];rfl))⟩
  ·have hml:=zWg hp zB
   refine zW _ (yK 0 O (regs':=[]) (μ':=[_,_,_,_]) T ⟨EFle.row (ds:=[_,_,_,_]) ⟨.inl O,.inl O,.inl O,.inr ⟨O,O⟩,T⟩,EFle.refl _,EFle.refl _,EFle.refl _,T⟩)<|qM<|Y O<|zN zGp (J 0 O) O<|rStR 1 sz93 O<|oi O<|zM<|fin2 (zZ zGp O (J 1 O) O) (rs_c O) ?_
   rw [mIx_ok c1 hml];rfl
def zLp (e:Ex) (s:nn) (u:Lf) (ht:u.L.length<=4294967296) (hrt:u.rng) (ih:∀a,a∈e.Args->a.allF Lf.rng->a.wt<=4294967296->Pur cfg 95 [vE a,vS s,dC u] (.tup [vE (jZ (mEx (fun l=>bO l s u) a)),vI (gG (mEx (fun l=>bO l s u) a))])) (hP:e.allF Lf.rng) (he:e.wt<=4294967296):
    Pur cfg 95 [vE e,vS s,dC u] (.tup [vE (jZ (mEx (fun l=>bO l s u) e)),vI (gG (mEx (fun l=>bO l s u) e))]):=by
 refine zV func95 O ntmps95 results95 O ?_
 intro z hz
 obtain ⟨hL,hI,hA⟩:=e.parts he
 have hew:=Ex.wt_eq e
 refine Y O<|og O fun b1=>og O fun b2=>qA O O (qI nr O zr62 O) ?_
 rintro _ _ ⟨b3,rfl,rfl⟩
 refine oi O<|Y O<|zC O wH<|zE one3 (J 2 O) O<|zC O zIa<|zE one9 (J 2 O) O<|zC O zMj<|zN zBy (J 2 O) O<|zC O zGl<|zN yE (J 2 O) O<|yJ O zr62 pl62<|qA O O (qZ O zr62) ?_
 rintro _ _ ⟨b4,rfl,rfl⟩
 refine yP _ (kF 139 2)<|yP _ (kF 93 4)<|yP _ (kF 62 13)<|rStR 3 sz62 O<|zA<|Y O<|zC O zDt<|zN yV (J 6 O) O<|G O<|zN yV (J 5 O) O<|qL O uB (zEc e.Lin s u hL ht (Ex.allF_lin hP) hrt) (vlr O)<|qW O<|zT O (yD O O O)<|yF O<|qA O O (qI [none,some 2] O U O) ?_
 rintro _ _ ⟨b8,rfl,rfl⟩
 refine rStR 0 sz59 O<|oi O<|zF<|ol O O<|yM O<|zA<|zK O ?_ ?_<;>intro c1<;>try simp only [sx] at c1
 ·refine Y O<|yQ nr O zr62 pl62<|G O<|rStR 5 sz62 O<|oi O<|zM<|fin2 (zZ yZ O (J 5 O) O) (rs_c O) ?_
  rw [mEx_e1 c1];rfl
 ·refine zH<|Y O<|zN yV (J 0 O) O<|zC O zDt<|rStR 4 sz59 O<|zA<|zF<|oh O O<|zS<|zW ⟨[(11,.c _),(1,.c _),(3,.c _),(5,.c _),(6,.c _),(8,.c _)],[_,_,_,_,_,_]⟩ (Weak.mk [false,true,true,false,true,true,true,true] ⟨zD,zD,zD,zD,zD,zD,T⟩ O)<|qG 1 3 O O (Nat×List Ix×Value) (fun ⟨k,outs,sv⟩=>[(11,vI k)]) (fun ⟨k,outs,sv⟩=>[E.vec (.slice none 0 0) 62 13 [],E.vec sv 93 4 (outs.map Ix.cells),E.row b4 62 [cI e.Op,cS e.Name,cI e.Val.N,cI e.Val.D,cI e.Ty.Kind,cI e.Ty.Bits,cI e.Ty.Frac,cI e.Ty.Round,cI e.Ty.Over,cI (bO e.Lin s u).1.K,.sl 2 ((bO e.Lin s u).1.L.map Mono.cells),.lit sv,.lit (.slice none 0 0)]]) (fun ⟨k,outs,sv⟩=>k<=e.Idx.length/\(outs.length=k)/\(dM (fun l=>bO l s u) e.Idx=bW outs (dM (fun l=>bO l s u) (e.Idx.drop k)))) (fun ⟨k,outs,sv⟩=>e.Idx.length-k) ⟨⟨0,[],.slice none 0 0⟩,⟨zB,O,(zBj _).symm⟩,Weak.mk [true,true,true,true,true,true] ⟨zD,zD,zD,zD,zD,zD,T⟩ O⟩ ?_
  rintro ⟨k,outs,sv⟩ ⟨hk,ho,hp⟩
  show AWP _ _ _ _ _ ⟨[(11,vI k)]++_,[E.vec (.slice none 0 0) 62 13 [],E.vec sv 93 4 (outs.map Ix.cells),E.row b4 62 [cI e.Op,cS e.Name,cI e.Val.N,cI e.Val.D,cI e.Ty.Kind,cI e.Ty.Bits,cI e.Ty.Frac,cI e.Ty.Round,cI e.Ty.Over,cI (bO e.Lin s u).1.K,.sl 2 ((bO e.Lin s u).1.L.map Mono.cells),.lit sv,.lit (.slice none 0 0)]]++_⟩
  refine zF<|ol O O<|zC O wB<|zE wX (J 5 O) O<|qC O el52<|yC O<|zA<|zK O ?_ ?_<;>intro c2<;>try simp only [sx] at c2
  ·obtain ⟨x,hx⟩:=qX e.Idx k zB
   refine zH<|zF<|zS<|zF<|yS 13 1 [⟨0,.q []⟩,⟨1,.q [6]⟩,⟨2,.q []⟩,⟨3,.q []⟩,⟨4,.q []⟩,⟨5,.q []⟩,⟨6,.q [5]⟩,⟨7,.q []⟩,⟨8,.q []⟩,⟨9,.q []⟩,⟨10,.q []⟩,⟨11,.e 0 []⟩,⟨12,.e 0 []⟩] mixed uB uB O O O<|zR O<|zR O<|zR O<|zR O<|zR O<|zR O<|zR O<|zR O<|zR O<|zR O<|zR O<|zR O<|zR O<|wQ<|om O (zG O wB O)<|om O (zJ O wX O (J 0 O) O)<|om O (zQ O O)<|om O (qK O el52 O O zB (getm uC))<|om O (qB O zGp O qF O)<|om O (zQ O O)<|om O (qB O yV O (J 0 O) O)<|om O (qP O uB (zLo x s u ht hrt (by have:=zDs (qD hx);omega) (Ex.allF_ix hP (qD hx)) (fun l hl=>Ex.allF_at hP (qD hx) hl)) (vlr O))<|om O (yW O O)<|om O (yD O O O)<|om O (kM O O O)<|zEm O O uA O O (qI ns O zr93 O) ?_
   rintro _ _ ⟨b9,rfl,rfl⟩
   refine ⟨_,O,?_⟩
   refine zCk O O uA O O (yO O sz93 O O O (zBo 0 O O)) ?_
   rintro _ _ ⟨rfl,rfl⟩
   refine ⟨_,O,?_⟩
   refine wP O<|oi O<|zF<|ol O O<|yM O<|zA<|zK O ?_ ?_<;>intro c3<;>try simp only [sx] at c3
   ·refine Y O<|yQ nr O zr62 pl62<|G O<|rStR 4 sz62 O<|oi O<|zM<|fin2 (zZ yZ O (J 4 O) O) (rs_c O) ?_
    rw [mEx_e2 c1 (mIxs_no' hx hp c3)];rfl
   ·refine zH<|zP O<|zC O wB<|zE wX (J 3 O) O<|zN zGp (J 0 O) O<|yY O el52 zr93<|qA O O (yB 2 O el52 O O O uI uI) ?_
    rintro _ _ ⟨sv10,rfl,rfl⟩
    refine zC O wB<|rStR 3 sz52 O<|zA<|zP O<|G O<|qH O ⟨zB,zB⟩<|G O<|zA ?_
    refine ⟨⟨k+1,outs++[iR (mIx (fun l=>bO l s u) x)],sv10⟩,⟨zB,uD,mIxs_next' hx hp c3⟩,(by show e.Idx.length-(k+1)<e.Idx.length-k;omega),Weak.mk [false,true,true,true,true,true,true] ⟨zD,zD,zD,zD,zD,zD,T⟩ (by exact mem3_eq (by rw [ah];rfl))⟩
  ·have hmi:=mIxs_end hp zB
   refine zW _ (yK 1 O (regs':=[]) (μ':=[_,_,_,_,_]) T ⟨EFle.refl _,EFle.row (ds:=[_,_,_,_,_,_,_,_,_,_,_,_,_]) ⟨.inl O,.inl O,.inl O,.inl O,.inl O,.inl O,.inl O,.inl O,.inl O,.inl O,.inl O,.inr ⟨O,O⟩,.inl O,T⟩,EFle.refl _,EFle.refl _,EFle.refl _,T⟩)<|qM<|zF<|oh O O<|zS<|zW ⟨[(14,.c _),(1,.c _),(3,.c _),(5,.c _),(6,.c _),(8,.c _)],[_,_,_,_,_]⟩ (Weak.mk [true,true,true,true,true] ⟨zD,zD,zD,zD,zD,zD,T⟩ O)<|qG 1 2 O O (Nat×List Ex×Value) (fun ⟨n,exs,sw⟩=>[(14,vI n)]) (fun ⟨n,exs,sw⟩=>[E.vec sw 62 13 (exs.map Ex.cells),E.row b4 62 [cI e.Op,cS e.Name,cI e.Val.N,cI e.Val.D,cI e.Ty.Kind,cI e.Ty.Bits,cI e.Ty.Frac,cI e.Ty.Round,cI e.Ty.Over,cI (bO e.Lin s u).1.K,.sl 2 ((bO e.Lin s u).1.L.map Mono.cells),.sl 4 (outs.map Ix.cells),.lit sw]]) (fun ⟨n,exs,sw⟩=>n<=e.Args.length/\(exs.length=n)/\(gB (fun l=>bO l s u) e.Args=bW exs (gB (fun l=>bO l s u) (e.Args.drop n)))) (fun ⟨n,exs,sw⟩=>e.Args.length-n) ⟨⟨0,[],.slice none 0 0⟩,⟨zB,O,(zBj _).symm⟩,Weak.mk [true,true,true,true,true] ⟨zD,zD,zD,zD,zD,zD,T⟩ O⟩ ?_
   rintro ⟨n,exs,sw⟩ ⟨hn,hno,hr⟩
   show AWP _ _ _ _ _ ⟨[(14,vI n)]++_,[E.vec sw 62 13 (exs.map Ex.cells),E.row b4 62 [cI e.Op,cS e.Name,cI e.Val.N,cI e.Val.D,cI e.Ty.Kind,cI e.Ty.Bits,cI e.Ty.Frac,cI e.Ty.Round,cI e.Ty.Over,cI (bO e.Lin s u).1.K,.sl 2 ((bO e.Lin s u).1.L.map Mono.cells),.sl 4 (outs.map Ix.cells),.lit sw]]++_⟩
   refine zF<|ol O O<|zC O zAc<|zE zDc (J 4 O) O<|qC O el60<|yC O<|zA<|zK O ?_ ?_<;>intro c4<;>try simp only [sx] at c4
   ·obtain ⟨a,ha⟩:=qX e.Args n zB
    refine zH<|zF<|zS<|zF<|yS 13 1 [⟨0,.q []⟩,⟨1,.q [5]⟩,⟨2,.q []⟩,⟨3,.q []⟩,⟨4,.q []⟩,⟨5,.q []⟩,⟨6,.q [4]⟩,⟨7,.q []⟩,⟨8,.q []⟩,⟨9,.q []⟩,⟨10,.q []⟩,⟨11,.e 0 []⟩,⟨12,.e 0 []⟩] mixed uB uB O O O<|zR O<|zR O<|zR O<|zR O<|zR O<|zR O<|zR O<|zR O<|zR O<|zR O<|zR O<|zR O<|zR O<|wQ<|om O (zG O zAc O)<|om O (zJ O zDc O (J 0 O) O)<|om O (zQ O O)<|om O (qK O el60 O O zB (zJz uC))<|om O (qB O yZ O qF O)<|om O (zQ O O)<|om O (qB O yV O (J 0 O) O)<|om O (qP O uB (ih a (qD ha) (Ex.allF_arg hP (qD ha)) (by have:=Ex.arg_wt (qD ha);omega)) (vlr O))<|om O (yW O O)<|om O (yD O O O)<|om O (kM O O O)<|zEm O O uA O O (qI nr O zr62 O) ?_
    rintro _ _ ⟨b11,rfl,rfl⟩
    refine ⟨_,O,?_⟩
    refine zCk O O uA O O (yO O sz62 O O O (zBo 0 O O)) ?_
    rintro _ _ ⟨rfl,rfl⟩
    refine ⟨_,O,?_⟩
    refine wP O<|oi O<|zF<|ol O O<|yM O<|zA<|zK O ?_ ?_<;>intro c5<;>try simp only [sx] at c5
    ·refine Y O<|yQ nr O zr62 pl62<|G O<|rStR 3 sz62 O<|oi O<|zM<|fin2 (zZ yZ O (J 3 O) O) (rs_c O) ?_
     rw [mEx_e3 c1 hmi (mExs_no ha hr c5)];rfl
    ·refine zH<|zP O<|zC O zAc<|zE zDc (J 2 O) O<|zN yZ (J 0 O) O<|yY O el60 zr62<|qA O O (yB 1 O el60 O O O uI uI) ?_
     rintro _ _ ⟨sv12,rfl,rfl⟩
     refine zC O zAc<|rStR 2 sz60 O<|zA<|zP O<|G O<|qH O ⟨zB,zB⟩<|G O<|zA ?_
     refine ⟨⟨n+1,exs++[jZ (mEx (fun l=>bO l s u) a)],sv12⟩,⟨zB,uD,zWk ha hr c5⟩,(by show e.Args.length-(n+1)<e.Args.length-n;omega),Weak.mk [false,true,true,true,true,true] ⟨zD,zD,zD,zD,zD,zD,T⟩ (by exact zJv (by rw [ah];simp only [aH,bp,Ex.cells_eq];rfl))⟩
   ·have hme:=mExs_end hr zB
    refine zW _ (yK 0 O (regs':=[]) (μ':=[_,_,_,_]) T ⟨EFle.row (ds:=[_,_,_,_,_,_,_,_,_,_,_,_,_]) ⟨.inl O,.inl O,.inl O,.inl O,.inl O,.inl O,.inl O,.inl O,.inl O,.inl O,.inl O,.inl O,.inr ⟨O,O⟩,T⟩,EFle.refl _,EFle.refl _,EFle.refl _,T⟩)<|qM<|Y O<|zN yZ (J 0 O) O<|rStR 1 sz62 O<|oi O<|zM<|fin2 (zZ yZ O (J 1 O) O) (rs_c O) ?_
    rw [mEx_ok c1 hmi hme];rfl
def zGg (e:Ex) (s:nn) (u:Lf) (ht:u.L.length<=4294967296) (hrt:u.rng) (hP:e.allF Lf.rng) (he:e.wt<=4294967296):Pur cfg 95 [vE e,vS s,dC u] (.tup [vE (jZ (mEx (fun l=>bO l s u) e)),vI (gG (mEx (fun l=>bO l s u) e))]):=by
  induction e using Ex.ind with
  |_ e ih=>exact zLp e s u ht hrt ih hP he
end Go.W
end
section
set_option maxRecDepth 10000
namespace Go.W
open Go Go.Eng Go.Proofs Go.L41 Go.Br Tryz
attribute [local irreducible] AWP RWP TD fY
end Go.W
end
section
set_option maxRecDepth 10000
namespace Go.W
open Go Go.Eng Go.Proofs Go.L41 Go.Br Tryz
attribute [local irreducible] AWP RWP TD fY
end Go.W
end
