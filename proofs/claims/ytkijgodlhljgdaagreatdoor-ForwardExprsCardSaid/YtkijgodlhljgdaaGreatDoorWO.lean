/-
  Walks: what functions of the program compute. Printed by wip/gen/mk2.py.
  Conditions: none.
-/
import Derived.Test.YtkijgodlhljgdaaGreatDoorWN
import Derived.Test.YtkijgodlhljgdaaGreatDoorEngZ
set_option linter.unusedSimpArgs false
set_option linter.unusedVariables false
set_option maxRecDepth 10000
namespace Go.W
open Go Go.Eng Go.Proofs Go.L41 Go.Br
attribute [local irreducible] AWP RWP TD finQ
theorem ok57:callOk Tryz.prog 57=true:=by kernel_rfl
theorem ok88:callOk Tryz.prog 88=true:=by kernel_rfl
theorem ok116:callOk Tryz.prog 116=true:=by kernel_rfl
theorem ok166:callOk Tryz.prog 166=true:=by kernel_rfl
theorem ok167:callOk Tryz.prog 167=true:=by kernel_rfl
theorem ref17_Find (p:Pg) (s:ByteArray) (hP:p.Ok):
    Pur cfg 57 [vPg p,vS s] (.tup [vTy (p.en.find s).ty,vLins (p.en.find s).dims,vB (p.en.find s).ok]):=by
 refine zT Tryz.func57 O Tryz.ntmps57 Tryz.results57 O ?_
 intro z hz
 have hpl:=hP.params
 have hpd:=hP.defs
 refine B O<|zV O O (qI O O) ?_
 rintro _ _ ⟨b1,rfl,rfl⟩
 refine zV O O (qX O zr31) ?_
 rintro _ _ ⟨b2,rfl,rfl⟩
 refine zX O (yN 2 O O)<|F O<|H<|W<|B O<|F O<|H<|zP<|zW ⟨[(7,.c _),(1,.c _),(2,.c _),(4,.c _)],[_,_]⟩ (Weak.mk [true,true] ⟨G,G,G,G,T⟩ O)<|qJ 1 0 O O (Nat) (fun k=>[(7,vI k)]) (fun k=>[]) (fun k=>k<=p.Params.length/\(findP s p.Defs p.Params=findP s p.Defs (p.Params.drop k))) (fun k=>p.Params.length-k) ⟨0,⟨by omega,O⟩,Weak.mk [true,true] ⟨G,G,G,G,T⟩ O⟩ ?_
 rintro k ⟨hk,hp⟩
 refine W<|B O<|F O<|zH O zAx<|zL zFl (K 1 O) O<|zZ O el24<|yD O<|H<|g O (fun c1=>?_) (fun c1=>?_)
 ·try simp only [I] at c1
  obtain ⟨x,hx⟩:=qQ p.Params k (by omega)
  refine zJ<|W<|zP<|B O<|zH O zAx<|zL zFl (K 1 O) O<|F O<|qH O el24 (by omega) (X (by assumption))<|zX O (qM O fd65_0 O)<|zL i qB O<|F O<|zX O (yL O O O)<|H<|g O (fun c2=>?_) (fun c2=>?_)
  ·try simp only [I] at c2
   refine W<|yF 13 0 [⟨0,.q []⟩,⟨1,.q [1]⟩,⟨2,.q []⟩,⟨3,.q []⟩,⟨4,.q []⟩,⟨5,.q []⟩,⟨6,.q []⟩,⟨7,.q [1]⟩,⟨8,.q []⟩,⟨9,.q []⟩,⟨10,.q []⟩,⟨11,.q []⟩,⟨12,.e 0 []⟩] mixed (by kernel_rfl) (by kernel_rfl) O O O<|L O<|L O<|L O<|L O<|L O<|L O<|L O<|L O<|L O<|L O<|L O<|L O<|L O<|wM<|v O (by decide) O O (zE O zAx O)<|v O (by decide) O O (zG O zFl O (K 0 O) O)<|v O (by decide) O O (zQ O O)<|v O (by decide) O O (qA O el24 O O (by omega) (X (by assumption)))<|v O (by decide) O O (qM O fd65_1 O)<|v O (by decide) O O (zM O yC O qB O)<|v O (by decide) O O (zE O zAx O)<|v O (by decide) O O (zG O zFl O (K 0 O) O)<|v O (by decide) O O (zQ O O)<|v O (by decide) O O (qA O el24 O O (by omega) (X (by assumption)))<|v O (by decide) O O (qM O zHf O)<|v O (by decide) O O (zG O zBf O qB O)<|zIm O O (by decide) O O (kX O sz31 O O O (zDz 0 O O)) ?_
   rintro _ _ ⟨rfl,rfl⟩
   refine ⟨_,O,?_⟩
   refine wL O<|F O<|F O<|H<|U<|fin3 (zR yC O (K 0 O) O) (o O) (o O) ?_
   rw [En.find,show p.en.pm=p.Params from rfl,show p.en.df=p.Defs from rfl,hp,find_at hx c2];rfl
  ·try simp only [I] at c2
   refine zJ<|zU O<|F O<|qL O ⟨by omega,by omega⟩<|F O<|H ?_
   refine ⟨k+1,⟨by omega,hp.trans (find_next hx c2)⟩,(by omega),Weak.mk [true,true] ⟨G,G,G,G,T⟩ O⟩
 ·try simp only [I] at c1
  have hF:p.en.find s=findD s p.Defs:=by rw [En.find,show p.en.pm=p.Params from rfl,show p.en.df=p.Defs from rfl,hp,zBe (by omega)];rfl
  refine qN<|W<|B O<|F O<|H<|zP<|zW ⟨[(8,.c _),(1,.c _),(2,.c _),(4,.c _)],[_,_]⟩ (Weak.mk [true,true] ⟨G,G,G,G,T⟩ O)<|qJ 1 0 O O (Nat) (fun k=>[(8,vI k)]) (fun k=>[]) (fun k=>k<=p.Defs.length/\(findD s p.Defs=findD s (p.Defs.drop k))) (fun k=>p.Defs.length-k) ⟨0,⟨by omega,O⟩,Weak.mk [true,true] ⟨G,G,G,G,T⟩ O⟩ ?_
  rintro k ⟨hk,hq⟩
  refine W<|B O<|F O<|zH O kW<|zL zBp (K 1 O) O<|zZ O el25<|yD O<|H<|g O (fun c3=>?_) (fun c3=>?_)
  ·try simp only [I] at c3
   obtain ⟨d,hd⟩:=qQ p.Defs k (by omega)
   refine zJ<|W<|zP<|B O<|zH O kW<|zL zBp (K 1 O) O<|F O<|qH O el25 (by omega) (X (by assumption))<|zX O (qM O zOc O)<|zL i qB O<|F O<|zX O (yL O O O)<|H<|g O (fun c4=>?_) (fun c4=>?_)
   ·try simp only [I] at c4
    have hdd:=(hP.ds d (qD hd)).1
    refine B O<|F O<|yZ _ (kN 34 2)<|H<|W<|B O<|F O<|H<|zP<|zW ⟨[(10,.c _),(9,.c _),(2,.c _),(4,.c _),(8,.c _)],[_,_,_]⟩ (Weak.mk [true,true,true] ⟨G,G,G,G,G,T⟩ O)<|qJ 2 1 O O (Nat×Value) (fun ⟨j,sv⟩=>[(10,vI j),(9,.c (.lit sv))]) (fun ⟨j,sv⟩=>[E.vec sv 34 2 ((d.Dims.take j).map fun a=>a.Size.cells)]) (fun ⟨j,sv⟩=>j<=d.Dims.length) (fun ⟨j,sv⟩=>d.Dims.length-j) ⟨⟨0,(.slice none 0 0)⟩,(by omega),Weak.mk [true,true,true] ⟨G,G,G,G,G,T⟩ O⟩ ?_
    rintro ⟨j,sv⟩ hj
    show AWP _ _ _ _ _ ⟨[(10,vI j),(9,.c (.lit sv))]++_,[E.vec sv 34 2 ((d.Dims.take j).map fun a=>a.Size.cells)]++_⟩
    refine W<|B O<|F O<|zH O kW<|zL zBp (K 2 O) O<|F O<|qH O el25 (by omega) (X (by assumption))<|zX O (qM O zDe O)<|zL zBm qB O<|zZ O el57<|yD O<|H<|g O (fun c5=>?_) (fun c5=>?_)
    ·try simp only [I] at c5
     obtain ⟨a,ha⟩:=qQ d.Dims j (by omega)
     refine zJ<|W<|zP<|zU O<|F O<|zH O kW<|zL zBp (K 2 O) O<|F O<|qH O el25 (by omega) (X (by assumption))<|zX O (qM O zDe O)<|zL zBm qB O<|F O<|qH O el57 (by omega) (X (by assumption))<|zX O (qM O fd105_1 O)<|zK kQ qB O<|yB O t zr34<|zV O O (yE 0 O t O O O (by simp only [List.length_take,List.length_map,List.length_cons,List.length_nil];omega) (by simp only [List.length_take,List.length_map,List.length_cons,List.length_nil];omega)) ?_
     rintro _ _ ⟨sv4,rfl,rfl⟩
     refine F O<|H<|zU O<|F O<|qL O ⟨by omega,by omega⟩<|F O<|H ?_
     refine ⟨⟨j+1,sv4⟩,(by omega),(by show d.Dims.length-(j+1)<d.Dims.length-j;omega),Weak.mk [true,true,true] ⟨G,G,G,G,G,T⟩ (by show _=[E.vec sv4 _ 2 ((d.Dims.take (j+1)).map fun a=>a.Size.cells)]++_;rw [qS ha,List.map_append (f:=fun a:Ax=>a.Size.cells)];rfl)⟩
    ·try simp only [I] at c5
     refine qN<|B O<|zH O kW<|zL zBp (K 2 O) O<|F O<|qH O el25 (by omega) (X (by assumption))<|zX O (qM O fd59_1 O)<|zK yC qB O<|F O<|N 1 sz31 O<|F O<|F O<|H<|zW _ (kJ 0 O (regs':=[(9,_),(83,_),(5,_)]) (μ':=[_,_]) ⟨FLe.sl,FLe.sl,FLe.sl,T⟩ ⟨EFle.refl _,EFle.refl _,T⟩)<|U<|fin3 (zR yC O (K 0 O) O) (o O) (o O) ?_
     rw [hF,hq,findD_at hd c4,qW (l:=d.Dims) (k:=j) (by omega)];simp only [vLins,List.map_map];rfl
   ·try simp only [I] at c4
    refine zJ<|zU O<|F O<|qL O ⟨by omega,by omega⟩<|F O<|H ?_
    refine ⟨k+1,⟨by omega,hq.trans (findD_next hd c4)⟩,(by omega),Weak.mk [true,true] ⟨G,G,G,G,T⟩ O⟩
  ·try simp only [I] at c3
   refine qN<|B O<|yV O zr31 pl31<|N 0 sz31 O<|zX O (yN 2 O O)<|F O<|H<|U<|fin3 (zR yC O (K 0 O) O) (o O) (o O) ?_
   rw [hF,hq,zBe (l:=p.Defs) (by omega)];rfl
theorem zMz (p:Pg) (vars:List ByteArray) (l:List Lf) (hz0:p.Sizes.length<=4294967296) (hv:vars.length<=4294967296) (hl0:l.length<=4294967296) (hx0:∀x,x∈l->x.L.length<=5864062014805):
    Pur cfg 166 [vPg p,vSs vars,vLins l] (vI (formsK (knB p.Sizes vars) l)):=by
 refine zT Tryz.func166 O Tryz.ntmps166 Tryz.results166 O ?_
 intro z hz
 refine B O<|zV O O (qI O O) ?_
 rintro _ _ ⟨b1,rfl,rfl⟩
 refine F O<|H<|W<|B O<|F O<|H<|zP<|zW ⟨[(7,.c _),(1,.c _),(2,.c _),(3,.c _)],[_]⟩ (Weak.mk [true] ⟨G,G,G,G,T⟩ O)<|qJ 1 0 O O (Nat) (fun k=>[(7,vI k)]) (fun k=>[]) (fun k=>k<=l.length/\((l.take k).all (fun x=>knL (knB p.Sizes vars) x.L)=true)) (fun k=>l.length-k) ⟨0,⟨by omega,O⟩,Weak.mk [true] ⟨G,G,G,G,T⟩ O⟩ ?_
 rintro k ⟨hk,hp⟩
 refine W<|B O<|F O<|F O<|zZ O t<|yD O<|H<|g O (fun c1=>?_) (fun c1=>?_)
 ·try simp only [I] at c1
  obtain ⟨x,hx⟩:=qQ l k (by omega)
  refine zJ<|W<|zP<|W<|qP 9 mixed (by kernel_rfl) O O<|Y O O (zQ O O)<|Y O O (zQ O O)<|Y O O (qA O t O O (by omega) (X (by assumption)))<|Y O O (zM O kQ O qB O)<|Y O O (zQ O O)<|Y O O (zE O zLe O)<|Y O O (zG O zDv O (K 0 O) O)<|Y O O (qF O ok116 (zMy x vars p.Sizes (hx0 x (qD hx)) hv hz0) ⟨G,O,G,O,G,O,T⟩)<|Y O O (wO O O)<|yK<|H<|g O (fun c2=>?_) (fun c2=>?_)
  ·try simp only [I] at c2
   refine B O<|F O<|H<|U<|M O ?_
   rw [formsK_no' hx c2]
  ·try simp only [I] at c2
   refine zJ<|zU O<|F O<|qL O ⟨by omega,by omega⟩<|F O<|H ?_
   refine ⟨k+1,⟨by omega,formsK_next' hx hp c2⟩,(by omega),Weak.mk [true] ⟨G,G,G,G,T⟩ O⟩
 ·try simp only [I] at c1
  refine qN<|B O<|F O<|H<|U<|M O ?_
  rw [qW (by omega)] at hp;rw [formsK_ok hp]
theorem ref17_read (p:Pg) (vars:List ByteArray) (e:Ex) (hP:p.Ok) (hv:vars.length<=4294967296) (he:e.wt<=4294967296):
    Pur cfg 167 [vPg p,vSs vars,vE e] (.tup [vTy (readK p.en (knB p.Sizes vars) e).1,vI (readK p.en (knB p.Sizes vars) e).2]):=by
 refine zT Tryz.func167 O Tryz.ntmps167 Tryz.results167 O ?_
 intro z hz
 obtain ⟨hLl,hIl,hAl⟩:=e.parts he
 have hwt:=Ex.wt_eq e
 have hz0:=hP.sizes
 refine B O<|zV O O (qI O O) ?_
 rintro _ _ ⟨b1,rfl,rfl⟩
 refine zV O O (qI O O) ?_
 rintro _ _ ⟨b2,rfl,rfl⟩
 refine zV O O (qX O zr31) ?_
 rintro _ _ ⟨b3,rfl,rfl⟩
 refine F O<|H<|B O<|zK kK (K 2 O) O<|zH O zAw<|zL i (K 1 O) O<|qK O ok57 (ref17_Find p e.Name hP) ⟨G,O,G,O,T⟩<|zX O (qU O O)<|zX O (yI O O O)<|zX O (yO O O O)<|zX O (yO O O O)<|zV O O (qX O zr31) ?_
 rintro _ _ ⟨b4,rfl,rfl⟩
 refine N 0 sz31 O<|F O<|F O<|H<|W<|B O<|F O<|wP O<|H<|g O (fun c1=>?_) (fun c1=>?_)
 ·try simp only [I] at c1
  refine B O<|yV O zr31 pl31<|N 1 sz31 O<|F O<|H<|U<|fin2 (zR yC O (K 1 O) O) (o O) ?_
  rw [readK_9 c1];rfl
 ·try simp only [I] at c1
  refine zJ<|W<|B O<|F O<|zZ O t<|zH O kF<|zL wQ (K 2 O) O<|zZ O s<|yU O<|H<|g O (fun c2=>?_) (fun c2=>?_)
  ·try simp only [I] at c2
   refine B O<|yV O zr31 pl31<|N 1 sz31 O<|F O<|H<|U<|fin2 (zR yC O (K 1 O) O) (o O) ?_
   rw [readK_11 c1 (by omega)];rfl
  ·try simp only [I] at c2
   refine zJ<|W<|B O<|F O<|H<|zP<|zW ⟨[(11,.c _),(1,.c _),(3,.c _),(5,.c _),(6,.c _),(8,.c _)],[_,_,_,_]⟩ (Weak.mk [true,true,true,true] ⟨G,G,G,G,G,G,T⟩ O)<|qJ 1 0 O O (Nat) (fun k=>[(11,vI k)]) (fun k=>[]) (fun k=>k<=e.Idx.length/\(indexL p.en (knB p.Sizes vars) e.Idx=indexL p.en (knB p.Sizes vars) (e.Idx.drop k))) (fun k=>e.Idx.length-k) ⟨0,⟨by omega,O⟩,Weak.mk [true,true,true,true] ⟨G,G,G,G,G,G,T⟩ O⟩ ?_
   rintro k ⟨hk,hp⟩
   refine W<|B O<|F O<|zH O kF<|zL wQ (K 2 O) O<|zZ O s<|yD O<|H<|g O (fun c3=>?_) (fun c3=>?_)
   ·try simp only [I] at c3
    obtain ⟨x,hx⟩:=qQ e.Idx k (by omega)
    have hxw:=Ex.idx_wt (qD hx)
    refine zJ<|W<|zP<|B O<|zH O kF<|zL wQ (K 2 O) O<|F O<|qH O s (by omega) (X (by assumption))<|zK zJn qB O<|zV O O (qG [none,some 2,none,some 2] O zr67 O) ?_
    rintro _ _ ⟨b5,rfl,rfl⟩
    refine N 0 sz67 O<|H<|W<|B O<|zH O zDc<|zL i (K 0 O) O<|zX O (yL O O O)<|H<|g O (fun c4=>?_) (fun c4=>?_)
    ·try simp only [I] at c4
     refine W<|B O<|zH O zDd<|zK kQ (K 0 O) O<|F O<|zH O zLe<|zL zDv (K 4 O) O<|qK O ok116 (zMy x.Lin vars p.Sizes (by omega) hv hz0) ⟨G,O,G,O,G,O,T⟩<|wP O<|H<|g O (fun c5=>?_) (fun c5=>?_)
     ·try simp only [I] at c5
      refine B O<|yV O zr31 pl31<|N 2 sz31 O<|F O<|H<|U<|fin2 (zR yC O (K 2 O) O) (o O) ?_
      rw [zIq c1 (by omega) hp hx ((indexK_lin c4).trans (zGr c5)) (by decide)];rfl
     ·try simp only [I] at c5
      have hix:indexK p.en (knB p.Sizes vars) x=0:=by rw [indexK_lin c4,zLx c5]
      refine zJ<|qN<|zU O<|F O<|qL O ⟨by omega,by omega⟩<|F O<|H ?_
      refine ⟨k+1,⟨by omega,hp.trans (zHx hx hix)⟩,(by omega),Weak.mk [false,true,true,true,true] ⟨G,G,G,G,G,G,T⟩ O⟩
    ·try simp only [I] at c4
     refine zJ<|B O<|zK kK (K 4 O) O<|zH O zDc<|zL i (K 0 O) O<|qK O ok57 (ref17_Find p x.From hP) ⟨G,O,G,O,T⟩<|zX O (qU O O)<|zX O (yI O O O)<|zX O (yO O O O)<|zX O (yO O O O)<|zV O O (qX O zr31) ?_
     rintro _ _ ⟨b6,rfl,rfl⟩
     refine N 0 sz31 O<|F O<|F O<|H<|W<|B O<|F O<|wP O<|H<|g O (fun c6=>?_) (fun c6=>?_)
     ·try simp only [I] at c6
      refine B O<|yV O zr31 pl31<|N 3 sz31 O<|F O<|H<|U<|fin2 (zR yC O (K 3 O) O) (o O) ?_
      rw [zIq c1 (by omega) hp hx (indexK_9 c4 c6) (by decide)];rfl
     ·try simp only [I] at c6
      refine zJ<|W<|B O<|zH O zAl<|zL P (K 0 O) O<|yU O<|H<|g O (fun c7=>?_) (fun c7=>?_)
      ·try simp only [I] at c7
       refine B O<|yV O zr31 pl31<|N 3 sz31 O<|F O<|H<|U<|fin2 (zR yC O (K 3 O) O) (o O) ?_
       rw [zIq c1 (by omega) hp hx (indexK_10 c4 c6 c7) (by decide)];rfl
      ·try simp only [I] at c7
       refine zJ<|W<|B O<|F O<|zZ O t<|zH O zAk<|zL zBf (K 1 O) O<|zZ O t<|yU O<|H<|g O (fun c8=>?_) (fun c8=>?_)
       ·try simp only [I] at c8
        refine B O<|yV O zr31 pl31<|N 3 sz31 O<|F O<|H<|U<|fin2 (zR yC O (K 3 O) O) (o O) ?_
        rw [zIq c1 (by omega) hp hx (indexK_11 c4 c6 c7 (by omega)) (by decide)];rfl
       ·try simp only [I] at c8
        refine zJ<|B O<|zK kK (K 5 O) O<|F O<|zH O zAk<|zL zBf (K 1 O) O<|qK O ok166 (zMz p vars x.At hz0 hv (by omega) (fun l hl=>by have:=zBi hl;omega)) ⟨G,O,G,O,G,O,T⟩<|F O<|H<|B O<|F O<|yU O<|H<|g O (fun c9=>?_) (fun c9=>?_)
        ·try simp only [I] at c9
         refine B O<|yV O zr31 pl31<|F O<|N 3 sz31 O<|F O<|H<|U<|fin2 (zR yC O (K 3 O) O) (o O) ?_
         rw [zIq c1 (by omega) hp hx (indexK_at c4 c6 c7 (by omega)) c9];rfl
        ·try simp only [I] at c9
         have hix:indexK p.en (knB p.Sizes vars) x=0:=by rw [indexK_at c4 c6 c7 (by omega)];exact c9
         refine zJ<|zU O<|F O<|qL O ⟨by omega,by omega⟩<|F O<|H ?_
         refine ⟨k+1,⟨by omega,hp.trans (zHx hx hix)⟩,(by omega),Weak.mk [false,false,true,true,true,true] ⟨G,G,G,G,G,G,T⟩ O⟩
   ·try simp only [I] at c3
    refine qN<|B O<|zK yC (K 0 O) O<|N 1 sz31 O<|F O<|H<|U<|fin2 (zR yC O (K 1 O) O) (o O) ?_
    rw [readK_0 c1 (by omega) (by rw [hp,zBe (by omega)];rfl)];rfl
theorem zMx (p:Pg) (vars:List ByteArray) (hP:p.Ok) (hv:vars.length<=4294967296) (e:Ex) (ih:∀a,a∈e.Args->partE a=0->a.wt<=4294967296->Pur cfg 88 [vPg p,vSs vars,vE a] (.tup [vTy (nodeT (refN p.en (knB p.Sizes vars)) a).1,vI (nodeT (refN p.en (knB p.Sizes vars)) a).2])) (hpart:partE e=0) (he:e.wt<=4294967296):
    Pur cfg 88 [vPg p,vSs vars,vE e] (.tup [vTy (nodeT (refN p.en (knB p.Sizes vars)) e).1,vI (nodeT (refN p.en (knB p.Sizes vars)) e).2]):=by
 refine zT Tryz.func88 O Tryz.ntmps88 Tryz.results88 O ?_
 intro z hz
 obtain ⟨hLl,hIl,hAl⟩:=e.parts he
 have hwt:=Ex.wt_eq e
 have hz0:=hP.sizes
 refine B O<|zV O O (qI O O) ?_
 rintro _ _ ⟨b1,rfl,rfl⟩
 refine zV O O (qI O O) ?_
 rintro _ _ ⟨b2,rfl,rfl⟩
 refine zV O O (qX O zr31) ?_
 rintro _ _ ⟨b3,rfl,rfl⟩
 refine F O<|H<|B O<|F O<|yZ _ (kN 31 5)<|H<|W<|B O<|F O<|H<|zP<|zW ⟨[(9,.c _),(8,.c _),(1,.c _),(3,.c _),(5,.c _),(6,.c _)],[_,_,_,_]⟩ (Weak.mk [true,true,true,true] ⟨G,G,G,G,G,G,T⟩ O)<|qJ 2 1 O O (Nat×Value) (fun ⟨k,sv⟩=>[(9,vI k),(8,.c (.lit sv))]) (fun ⟨k,sv⟩=>[E.vec sv 31 5 ((nodeL (refN p.en (knB p.Sizes vars)) (e.Args.take k)).1.map tyC)]) (fun ⟨k,sv⟩=>k<=e.Args.length/\((nodeL (refN p.en (knB p.Sizes vars)) (e.Args.take k)).2=0)) (fun ⟨k,sv⟩=>e.Args.length-k) ⟨⟨0,(.slice none 0 0)⟩,⟨by omega,O⟩,Weak.mk [true,true,true,true] ⟨G,G,G,G,G,G,T⟩ O⟩ ?_
 rintro ⟨k,sv⟩ ⟨hk,hp⟩
 show AWP _ _ _ _ _ ⟨[(9,vI k),(8,.c (.lit sv))]++_,[E.vec sv 31 5 ((nodeL (refN p.en (knB p.Sizes vars)) (e.Args.take k)).1.map tyC)]++_⟩
 refine W<|B O<|F O<|zH O kA<|zL wA (K 2 O) O<|zZ O A<|yD O<|H<|g O (fun c1=>?_) (fun c1=>?_)
 ·try simp only [I] at c1
  obtain ⟨x,hx⟩:=qQ e.Args k (by omega)
  have hll:=zFu _ _ hp
  refine zJ<|W<|zP<|W<|yF 13 1 [⟨0,.q [4]⟩,⟨1,.q []⟩,⟨2,.q []⟩,⟨3,.q [3]⟩,⟨4,.q []⟩,⟨5,.q []⟩,⟨6,.q []⟩,⟨7,.q []⟩,⟨8,.q []⟩,⟨9,.q []⟩,⟨10,.q []⟩,⟨11,.e 0 []⟩,⟨12,.e 0 []⟩] mixed (by kernel_rfl) (by kernel_rfl) O O O<|L O<|L O<|L O<|L O<|L O<|L O<|L O<|L O<|L O<|L O<|L O<|L O<|L O<|wM<|v O (by decide) O O (zM O kK O (K 0 O) O)<|v O (by decide) O O (zQ O O)<|v O (by decide) O O (zE O kA O)<|v O (by decide) O O (zG O wA O (K 0 O) O)<|v O (by decide) O O (zQ O O)<|v O (by decide) O O (qA O A O O (by omega) (yR (by assumption)))<|v O (by decide) O O (zM O Q O qB O)<|v O (by decide) O O (qF O ok88 (ih x (qD hx) (wI hpart (qD hx)) (by have:=Ex.arg_wt (qD hx);omega)) ⟨G,O,G,O,G,O,T⟩)<|v O (by decide) O O (qU O O)<|v O (by decide) O O (yI O O O)<|v O (by decide) O O (yO O O O)<|sq_op O O (by decide) O O (qX O zr31) ?_
  rintro _ _ ⟨b5,rfl,rfl⟩
  refine ⟨_,O,?_⟩
  refine zIm O O (by decide) O O (kX O sz31 O O O (zDz 0 O O)) ?_
  rintro _ _ ⟨rfl,rfl⟩
  refine ⟨_,O,?_⟩
  refine wL O<|F O<|H<|W<|B O<|F O<|yU O<|H<|g O (fun c2=>?_) (fun c2=>?_)
  ·try simp only [I] at c2
   refine B O<|yV O zr31 pl31<|F O<|N 2 sz31 O<|F O<|H<|U<|fin2 (zR yC O (K 2 O) O) (o O) ?_
   rw [nodeT_no hx hp c2];rfl
  ·try simp only [I] at c2
   refine zJ<|zU O<|F O<|zK yC (K 0 O) O<|yB O zCl zr31<|zV O O (yE 1 O zCl O O O (by simp only [List.length_map,List.length_cons,List.length_nil,hll,List.length_take];omega) (by simp only [List.length_map,List.length_cons,List.length_nil,hll,List.length_take];omega)) ?_
   rintro _ _ ⟨sv6,rfl,rfl⟩
   refine F O<|H<|zU O<|F O<|qL O ⟨by omega,by omega⟩<|F O<|H ?_
   refine ⟨⟨k+1,sv6⟩,⟨by omega,by rw [zGk hx hp c2]⟩,(by show e.Args.length-(k+1)<e.Args.length-k;omega),Weak.mk [false,true,true,true,true] ⟨G,G,G,G,G,G,T⟩ (by show _=[E.vec sv6 _ 5 ((nodeL (refN p.en (knB p.Sizes vars)) (e.Args.take (k+1))).1.map tyC)]++_;rw [zGk hx hp c2];simp only [List.map_append];rfl)⟩
 ·try simp only [I] at c1
  have hll:=zFu _ _ hp
  have hta:e.Args.take k=e.Args:=qW (by omega)
  rw [hta] at hll
  have hg:∀i,i<e.Args.length->((nodeL (refN p.en (knB p.Sizes vars)) (e.Args.take k)).1.map tyC)[i]? =some (tyC (tyAt (nodeL (refN p.en (knB p.Sizes vars)) (e.Args.take k)).1 i)):=fun i hi=>tyAt_get (by rw [hta];omega)
  have hT:nodeT (refN p.en (knB p.Sizes vars)) e=(refN p.en (knB p.Sizes vars)) e (nodeL (refN p.en (knB p.Sizes vars)) (e.Args.take k)).1:=nodeT_ok hta hp
  have hlk:(nodeL (refN p.en (knB p.Sizes vars)) (e.Args.take k)).1.length=e.Args.length:=by rw [hta];exact hll
  refine qN<|W<|zP<|B O<|zH O yQ<|zL P (K 2 O) O<|n O<|F O<|w O (fun g9_3=>zE O yQ O) O<|R 43 O (fun g9_3=>zG O P O (K 2 O) O) O<|R 44 O (fun g9_3=>yG O O O) O<|r_or O (fun h=>(lzf h))<|F O<|H<|g O (fun c3=>?_) (fun c3=>?_)
  ·try simp only [I] at c3
   refine B O<|zH O zCh<|zK yC (K 2 O) O<|N 1 sz31 O<|F O<|H<|U<|fin2 (zR yC O (K 1 O) O) (o O) ?_
   exact by rw [hT,refN_1 c3];rfl
  ·try simp only [I] at c3
   refine B O<|zH O yQ<|zL P (K 2 O) O<|n O<|F O<|H<|g O (fun c4=>?_) (fun c4=>?_)
   ·try simp only [I] at c4
    refine B O<|yV O zr31 pl31<|zK kK (K 3 O) O<|F O<|zH O zDf<|zK kQ (K 2 O) O<|yB O t zr34<|qK O ok166 (zMz p vars [e.Lin] hz0 hv (by simp) (fun x hx=>by rw [List.mem_singleton.1 hx];omega)) ⟨G,O,G,O,G,O,T⟩<|N 1 sz31 O<|F O<|H<|U<|fin2 (zR yC O (K 1 O) O) (o O) ?_
    exact by rw [hT,refN_2 c4];rfl
   ·try simp only [I] at c4
    refine B O<|zH O yQ<|zL P (K 2 O) O<|n O<|F O<|H<|g O (fun c5=>?_) (fun c5=>?_)
    ·try simp only [I] at c5
     refine B O<|zK kK (K 3 O) O<|F O<|zK Q (K 2 O) O<|qK O ok167 (ref17_read p vars e hP hv he) ⟨G,O,G,O,G,O,T⟩<|zX O (yI O O O)<|zX O (yO O O O)<|N 1 sz31 O<|F O<|H<|U<|fin2 (zR yC O (K 1 O) O) (o O) ?_
     exact by rw [hT,refN_3 c5];rfl
    ·try simp only [I] at c5
     refine B O<|zH O yQ<|zL P (K 2 O) O<|n O<|F O<|H<|g O (fun c6=>?_) (fun c6=>?_)
     ·try simp only [I] at c6
      have hlen3:=args_len3 hpart c6
      refine W<|W<|qP 7 mixed (by kernel_rfl) O O<|Y O O (zQ O O)<|Y O O (qV 0 O zCl O O O (by omega) (by simp only [List.length_map];omega))<|Y O O (zM O yC O (wU 0 O (hg 1 (by omega))) O)<|Y O O (zQ O O)<|Y O O (qV 0 O zCl O O O (by omega) (by simp only [List.length_map];omega))<|Y O O (zM O yC O (wU 0 O (hg 2 (by omega))) O)<|Y O O (zCm O fl31 O O O)<|yK<|H<|g O (fun c7=>?_) (fun c7=>?_)
      ·refine B O<|yV O zr31 pl31<|N 1 sz31 O<|F O<|H<|U<|fin2 (zR yC O (K 1 O) O) (o O) ?_
       exact by rw [hT,refN_11' c6 (zLq c7)];rfl
      ·refine zJ<|B O<|F O<|zX O (qV 0 O zCl O O O (by omega) (by simp only [List.length_map];omega))<|zK yC (wU 0 O (hg 1 (by omega))) O<|N 1 sz31 O<|F O<|H<|U<|fin2 (zR yC O (K 1 O) O) (o O) ?_
       exact by rw [hT,refN_11 c6 (zIe c7)];rfl
     ·try simp only [I] at c6
      refine B O<|zH O yQ<|zL P (K 2 O) O<|n O<|F O<|H<|g O (fun c8=>?_) (fun c8=>?_)
      ·try simp only [I] at c8
       have hlen1:=args_len hpart (by omega)
       refine B O<|F O<|zX O (qV 0 O zCl O O O (by omega) (by simp only [List.length_map];omega))<|zK yC (wU 0 O (hg 0 (by omega))) O<|N 1 sz31 O<|F O<|H<|U<|fin2 (zR yC O (K 1 O) O) (o O) ?_
       exact by rw [hT,refN_8 c8];rfl
      ·try simp only [I] at c8
       refine B O<|zH O yQ<|zL P (K 2 O) O<|zX O (wB O O O)<|F O<|H<|g O (fun c9=>?_) (fun c9=>?_)
       ·try simp only [I] at c9
        refine B O<|yV O zr31 pl31<|N 1 sz31 O<|F O<|H<|U<|fin2 (zR yC O (K 1 O) O) (o O) ?_
        exact by rw [hT,refN_16 c9];rfl
       ·try simp only [I] at c9
        have hlen2:=zGg hpart (by omega)
        refine zJ<|W<|W<|qP 7 mixed (by kernel_rfl) O O<|Y O O (zQ O O)<|Y O O (qV 0 O zCl O O O (by omega) (by simp only [List.length_map];omega))<|Y O O (zM O yC O (wU 0 O (hg 0 (by omega))) O)<|Y O O (zQ O O)<|Y O O (qV 0 O zCl O O O (by omega) (by simp only [List.length_map];omega))<|Y O O (zM O yC O (wU 0 O (hg 1 (by omega))) O)<|Y O O (zCm O fl31 O O O)<|yK<|H<|g O (fun c10=>?_) (fun c10=>?_)
        ·refine B O<|yV O zr31 pl31<|N 1 sz31 O<|F O<|H<|U<|fin2 (zR yC O (K 1 O) O) (o O) ?_
         exact by rw [hT,refN_no (by omega) (zLq c10)];rfl
        ·refine zJ<|W<|B O<|zH O yQ<|zL P (K 2 O) O<|zX O (wB O O O)<|H<|g O (fun c11=>?_) (fun c11=>?_)
         ·try simp only [I] at c11
          refine B O<|yV O zr31 pl31<|N 1 sz31 O<|F O<|H<|U<|fin2 (zR yC O (K 1 O) O) (o O) ?_
          exact by rw [hT,refN_13 (by omega) (zIe c10) c11];rfl
         ·try simp only [I] at c11
          refine zJ<|B O<|F O<|zX O (qV 0 O zCl O O O (by omega) (by simp only [List.length_map];omega))<|zK yC (wU 0 O (hg 0 (by omega))) O<|N 1 sz31 O<|F O<|H<|U<|fin2 (zR yC O (K 1 O) O) (o O) ?_
          exact by rw [hT,refN_o (by omega) (zIe c10)];rfl
theorem ref17_node (p:Pg) (vars:List ByteArray) (e:Ex) (hP:p.Ok) (hv:vars.length<=4294967296) (hpart:partE e=0) (he:e.wt<=4294967296):Pur cfg 88 [vPg p,vSs vars,vE e] (.tup [vTy (nodeT (refN p.en (knB p.Sizes vars)) e).1,vI (nodeT (refN p.en (knB p.Sizes vars)) e).2]):=by
  induction e using Ex.ind with
  |_ e ih=>exact zMx p vars hP hv e (fun a ha h1 h2=>ih a ha h1 h2) hpart he
theorem zKw (p:Pg) (vars:List ByteArray) (e:Ex) (hP:p.Ok) (hv:vars.length<=4294967296) (he:e.wt<=4294967296):
    Pur cfg 33 [vPg p,vSs vars,vE e] (.tup [vTy (typeR p.en vars e).1,vI (typeR p.en vars e).2]):=by
 refine zT Tryz.func33 O Tryz.ntmps33 Tryz.results33 O ?_
 intro z hz
 refine B O<|zV O O (qI O O) ?_
 rintro _ _ ⟨b1,rfl,rfl⟩
 refine zV O O (qI O O) ?_
 rintro _ _ ⟨b2,rfl,rfl⟩
 refine zV O O (qX O zr31) ?_
 rintro _ _ ⟨b3,rfl,rfl⟩
 refine F O<|H<|W<|B O<|zK Q (K 1 O) O<|qK O ok37 (zHc e (by omega)) ⟨G,O,T⟩<|F O<|H<|B O<|F O<|yU O<|H<|g O (fun c1=>?_) (fun c1=>?_)
 ·try simp only [I] at c1
  refine B O<|yV O zr31 pl31<|F O<|N 0 sz31 O<|F O<|H<|U<|fin2 (zR yC O (K 0 O) O) (o O) ?_
  rw [typeR_bad c1];rfl
 ·try simp only [I] at c1
  refine zJ<|W<|B O<|zK Q (K 1 O) O<|qK O ok87 (zBl e) ⟨G,O,T⟩<|H<|g O (fun c2=>?_) (fun c2=>?_)
  ·try simp only [I] at c2
   refine B O<|yV O zr31 pl31<|N 0 sz31 O<|F O<|H<|U<|fin2 (zR yC O (K 0 O) O) (o O) ?_
   rw [typeR_cond c1 c2];rfl
  ·try simp only [I] at c2
   have hTo:=typeR_of (n:=p.en) (vars:=vars) c1 c2
   refine zJ<|B O<|zK kK (K 2 O) O<|F O<|zK Q (K 1 O) O<|qK O ok88 (ref17_node p vars e hP hv (zCo c1) he) ⟨G,O,G,O,G,O,T⟩<|zX O (qU O O)<|zX O (yI O O O)<|zX O (yO O O O)<|zV O O (qX O zr31) ?_
   rintro _ _ ⟨b4,rfl,rfl⟩
   refine N 0 sz31 O<|F O<|H<|W<|B O<|F O<|yU O<|H<|g O (fun c3=>?_) (fun c3=>?_)
   ·try simp only [I] at c3
    refine B O<|yV O zr31 pl31<|F O<|N 1 sz31 O<|F O<|H<|U<|fin2 (zR yC O (K 1 O) O) (o O) ?_
    rw [hTo,if_neg (show ¬(nodeT (refN p.en (knB p.en.sz vars)) e).2=0 from c3)];rfl
   ·try simp only [I] at c3
    refine zJ<|B O<|zK yC (K 0 O) O<|N 1 sz31 O<|F O<|H<|U<|fin2 (zR yC O (K 1 O) O) (o O) ?_
    rw [hTo,if_pos (show (nodeT (refN p.en (knB p.en.sz vars)) e).2=0 from c3)];rfl
end Go.W
