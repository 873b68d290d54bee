/-
  Walks: what functions of the program compute. Printed by wip/gen/mk2.py.
  Conditions: none.
-/
import Derived.Test.YtkidnhldibjiaaaGreatDoorWN
import Derived.Test.YtkidnhldibjiaaaGreatDoorEngZ
set_option linter.unusedSimpArgs false
set_option linter.unusedVariables false
set_option maxRecDepth 10000
namespace Go.W
open Go Go.Eng Go.Proofs Go.L41 Go.Br
attribute [local irreducible] AWP RWP TD finQ
theorem ok59:callOk Tryz.prog 59=true:=by kernel_rfl
theorem ok108:callOk Tryz.prog 108=true:=by kernel_rfl
theorem ok162:callOk Tryz.prog 162=true:=by kernel_rfl
theorem ok215:callOk Tryz.prog 215=true:=by kernel_rfl
theorem ok216:callOk Tryz.prog 216=true:=by kernel_rfl
theorem zLa (p:Pg) (s:ByteArray) (hP:p.Ok):
    Pur cfg 59 [vPg p,vS s] (.tup [vTy (p.en.find s).ty,vLins (p.en.find s).dims,vB (p.en.find s).ok]):=by
 refine zS Tryz.func59 O Tryz.ntmps59 Tryz.results59 O ?_
 intro z hz
 have hpl:=hP.params
 have hpd:=hP.defs
 refine G O<|zT O O (qI O O) ?_
 rintro _ _ ⟨b1,rfl,rfl⟩
 refine zT O O (yD O zr37) ?_
 rintro _ _ ⟨b2,rfl,rfl⟩
 refine qA O (yE 2 O O)<|Y O<|W<|zG<|G O<|Y O<|W<|zN<|zU ⟨[(7,.c _),(1,.c _),(2,.c _),(4,.c _)],[_,_]⟩ (Weak.mk [true,true] ⟨U,U,U,U,T⟩ O)<|zY 1 0 O O (Nat) (fun k=>[(7,vI k)]) (fun k=>[]) (fun k=>k<=p.Params.length/\(findP s p.Defs p.Params=findP s p.Defs (p.Params.drop k))) (fun k=>p.Params.length-k) ⟨0,⟨by omega,O⟩,Weak.mk [true,true] ⟨U,U,U,U,T⟩ O⟩ ?_
 rintro k ⟨hk,hp⟩
 refine zG<|G O<|Y O<|zE O wS<|zH zCa (J 1 O) O<|zV O el24<|qY O<|W<|zF O (fun c1=>?_) (fun c1=>?_)
 ·try simp only [sx] at c1
  obtain ⟨x,hx⟩:=qP p.Params k (by omega)
  refine zJ<|zG<|zN<|G O<|zE O wS<|zH zCa (J 1 O) O<|Y O<|zZ O el24 (by omega) (getm (by assumption))<|qQ O zJv<|zH one9 zX O<|Y O<|kP O<|W<|zF O (fun c2=>?_) (fun c2=>?_)
  ·try simp only [sx] at c2
   refine zG<|wI 13 0 [⟨0,.q []⟩,⟨1,.q [1]⟩,⟨2,.q []⟩,⟨3,.q []⟩,⟨4,.q []⟩,⟨5,.q []⟩,⟨6,.q []⟩,⟨7,.q [1]⟩,⟨8,.q []⟩,⟨9,.q []⟩,⟨10,.q []⟩,⟨11,.q []⟩,⟨12,.e 0 []⟩] mixed (by kernel_rfl) (by kernel_rfl) O O O<|qJ O<|qJ O<|qJ O<|qJ O<|qJ O<|qJ O<|qJ O<|qJ O<|qJ O<|qJ O<|qJ O<|qJ O<|qJ O<|zEe<|qR O (by decide) O O (zD O wS O)<|qR O (by decide) O O (zI O zCa O (J 0 O) O)<|qR O (by decide) O O (zQ O O)<|qR O (by decide) O O (qH O el24 O O (by omega) (getm (by assumption)))<|qR O (by decide) O O (qN O fd67_1 O)<|qR O (by decide) O O (zR O yF O zX O)<|qR O (by decide) O O (zD O wS O)<|qR O (by decide) O O (zI O zCa O (J 0 O) O)<|qR O (by decide) O O (zQ O O)<|qR O (by decide) O O (qH O el24 O O (by omega) (getm (by assumption)))<|qR O (by decide) O O (qN O zFu O)<|qR O (by decide) O O (zI O zAr O zX O)<|zOl O O (by decide) O O (kR O sz37 O O O (zFz 0 O O)) ?_
   rintro _ _ ⟨rfl,rfl⟩
   refine ⟨_,O,?_⟩
   refine zDy O<|Y O<|Y O<|W<|zL<|fin3 (qF yF O (J 0 O) O) (v O) (v O) ?_
   rw [En.find,show p.en.pm=p.Params from rfl,show p.en.df=p.Defs from rfl,hp,find_at hx c2];rfl
  ·try simp only [sx] at c2
   refine zJ<|zO O<|Y O<|qB O ⟨by omega,by omega⟩<|Y O<|W ?_
   refine ⟨k+1,⟨by omega,hp.trans (find_next hx c2)⟩,(by omega),Weak.mk [true,true] ⟨U,U,U,U,T⟩ O⟩
 ·try simp only [sx] at c1
  have hF:p.en.find s=findD s p.Defs:=by rw [En.find,show p.en.pm=p.Params from rfl,show p.en.df=p.Defs from rfl,hp,wL (by omega)];rfl
  refine qE<|zG<|G O<|Y O<|W<|zN<|zU ⟨[(8,.c _),(1,.c _),(2,.c _),(4,.c _)],[_,_]⟩ (Weak.mk [true,true] ⟨U,U,U,U,T⟩ O)<|zY 1 0 O O (Nat) (fun k=>[(8,vI k)]) (fun k=>[]) (fun k=>k<=p.Defs.length/\(findD s p.Defs=findD s (p.Defs.drop k))) (fun k=>p.Defs.length-k) ⟨0,⟨by omega,O⟩,Weak.mk [true,true] ⟨U,U,U,U,T⟩ O⟩ ?_
  rintro k ⟨hk,hq⟩
  refine zG<|G O<|Y O<|zE O yK<|zH kO (J 1 O) O<|zV O el25<|qY O<|W<|zF O (fun c3=>?_) (fun c3=>?_)
  ·try simp only [sx] at c3
   obtain ⟨d,hd⟩:=qP p.Defs k (by omega)
   refine zJ<|zG<|zN<|G O<|zE O yK<|zH kO (J 1 O) O<|Y O<|zZ O el25 (by omega) (getm (by assumption))<|qQ O zDt<|zH one9 zX O<|Y O<|kP O<|W<|zF O (fun c4=>?_) (fun c4=>?_)
   ·try simp only [sx] at c4
    have hdd:=(hP.ds d (zW hd)).1
    refine G O<|Y O<|qV _ (yG 40 2)<|W<|zG<|G O<|Y O<|W<|zN<|zU ⟨[(10,.c _),(9,.c _),(2,.c _),(4,.c _),(8,.c _)],[_,_,_]⟩ (Weak.mk [true,true,true] ⟨U,U,U,U,U,T⟩ O)<|zY 2 1 O O (Nat×Value) (fun ⟨j,sv⟩=>[(10,vI j),(9,.c (.lit sv))]) (fun ⟨j,sv⟩=>[E.vec sv 40 2 ((d.Dims.take j).map fun a=>a.Size.cells)]) (fun ⟨j,sv⟩=>j<=d.Dims.length) (fun ⟨j,sv⟩=>d.Dims.length-j) ⟨⟨0,(.slice none 0 0)⟩,(by omega),Weak.mk [true,true,true] ⟨U,U,U,U,U,T⟩ O⟩ ?_
    rintro ⟨j,sv⟩ hj
    show AWP _ _ _ _ _ ⟨[(10,vI j),(9,.c (.lit sv))]++_,[E.vec sv 40 2 ((d.Dims.take j).map fun a=>a.Size.cells)]++_⟩
    refine zG<|G O<|Y O<|zE O yK<|zH kO (J 2 O) O<|Y O<|zZ O el25 (by omega) (getm (by assumption))<|qQ O zAh<|zH kM zX O<|zV O D<|qY O<|W<|zF O (fun c5=>?_) (fun c5=>?_)
    ·try simp only [sx] at c5
     obtain ⟨a,ha⟩:=qP d.Dims j (by omega)
     refine zJ<|zG<|zN<|zO O<|Y O<|zE O yK<|zH kO (J 2 O) O<|Y O<|zZ O el25 (by omega) (getm (by assumption))<|qQ O zAh<|zH kM zX O<|Y O<|zZ O D (by omega) (getm (by assumption))<|qQ O zDu<|zK kG zX O<|qZ O el65 zr40<|zT O O (qO 0 O el65 O O O (by simp only [List.length_take,List.length_map,List.length_cons,List.length_nil];omega) (by simp only [List.length_take,List.length_map,List.length_cons,List.length_nil];omega)) ?_
     rintro _ _ ⟨sv4,rfl,rfl⟩
     refine Y O<|W<|zO O<|Y O<|qB O ⟨by omega,by omega⟩<|Y O<|W ?_
     refine ⟨⟨j+1,sv4⟩,(by omega),(by show d.Dims.length-(j+1)<d.Dims.length-j;omega),Weak.mk [true,true,true] ⟨U,U,U,U,U,T⟩ (by show _=[E.vec sv4 _ 2 ((d.Dims.take (j+1)).map fun a=>a.Size.cells)]++_;rw [qM ha,List.map_append (f:=fun a:Ax=>a.Size.cells)];rfl)⟩
    ·try simp only [sx] at c5
     refine qE<|G O<|zE O yK<|zH kO (J 2 O) O<|Y O<|zZ O el25 (by omega) (getm (by assumption))<|qQ O zHy<|zK yF zX O<|Y O<|N 1 sz37 O<|Y O<|Y O<|W<|zU _ (yB 0 O (regs':=[(9,_),(83,_),(5,_)]) (μ':=[_,_]) ⟨FLe.sl,FLe.sl,FLe.sl,T⟩ ⟨EFle.refl _,EFle.refl _,T⟩)<|zL<|fin3 (qF yF O (J 0 O) O) (v O) (v O) ?_
     rw [hF,hq,findD_at hd c4,qT (l:=d.Dims) (k:=j) (by omega)];simp only [vLins,List.map_map];rfl
   ·try simp only [sx] at c4
    refine zJ<|zO O<|Y O<|qB O ⟨by omega,by omega⟩<|Y O<|W ?_
    refine ⟨k+1,⟨by omega,hq.trans (findD_next hd c4)⟩,(by omega),Weak.mk [true,true] ⟨U,U,U,U,T⟩ O⟩
  ·try simp only [sx] at c3
   refine qE<|G O<|yU O zr37 pl37<|N 0 sz37 O<|qA O (yE 2 O O)<|Y O<|W<|zL<|fin3 (qF yF O (J 0 O) O) (v O) (v O) ?_
   rw [hF,hq,wL (l:=p.Defs) (by omega)];rfl
theorem zCy (d:Df) (hD:d.Dims.length<=1073741824) (hR:d.Red.length<=1073741824):
    OwnR cfg 97 [vDf d] 9 1 ((namesD d).map fun s=>[cS s]):=by
 refine zS Tryz.func97 O Tryz.ntmps97 Tryz.results97 O ?_
 intro z hz
 refine G O<|zT O O (qI O O) ?_
 rintro _ _ ⟨b1,rfl,rfl⟩
 refine qA O (yE 1 O O)<|W<|G O<|Y O<|qV _ (yG 9 1)<|W<|zG<|G O<|Y O<|W<|zN<|zU ⟨[(4,.c _),(3,.c _),(1,.c _)],[_,_]⟩ (Weak.mk [true,true] ⟨U,U,U,T⟩ O)<|zY 2 1 O O (Nat×Value) (fun ⟨k,sv⟩=>[(4,vI k),(3,.c (.lit sv))]) (fun ⟨k,sv⟩=>[E.vec sv 9 1 ((d.Dims.take k).map fun a=>[cS a.Name])]) (fun ⟨k,sv⟩=>k<=d.Dims.length) (fun ⟨k,sv⟩=>d.Dims.length-k) ⟨⟨0,(.slice none 0 0)⟩,(by omega),Weak.mk [true,true] ⟨U,U,U,T⟩ O⟩ ?_
 rintro ⟨k,sv⟩ hk
 show AWP _ _ _ _ _ ⟨[(4,vI k),(3,.c (.lit sv))]++_,[E.vec sv 9 1 ((d.Dims.take k).map fun a=>[cS a.Name])]++_⟩
 refine zG<|G O<|Y O<|zE O zAh<|zH kM (J 1 O) O<|zV O D<|qY O<|W<|zF O (fun c1=>?_) (fun c1=>?_)
 ·try simp only [sx] at c1
  obtain ⟨x,hx⟩:=qP d.Dims k (by omega)
  refine zJ<|zG<|zN<|zO O<|Y O<|zE O zAh<|zH kM (J 1 O) O<|Y O<|zZ O D (by omega) (getm (by assumption))<|qQ O zAj<|zH one9 zX O<|qZ O r zr9<|zT O O (qO 0 O r O O O (by simp only [List.length_append,List.length_take,List.length_map,List.length_cons,List.length_nil];omega) (by simp only [List.length_append,List.length_take,List.length_map,List.length_cons,List.length_nil];omega)) ?_
  rintro _ _ ⟨sv3,rfl,rfl⟩
  refine Y O<|W<|zO O<|Y O<|qB O ⟨by omega,by omega⟩<|Y O<|W ?_
  refine ⟨⟨k+1,sv3⟩,(by omega),(by show d.Dims.length-(k+1)<d.Dims.length-k;omega),Weak.mk [true,true] ⟨U,U,U,T⟩ (by show _=[E.vec sv3 _ 1 ((d.Dims.take (k+1)).map fun a=>[cS a.Name])]++_;rw [qM hx,List.map_append (f:=fun a:Ax=>[cS a.Name])];rfl)⟩
 ·try simp only [sx] at c1
  refine qE<|zG<|G O<|Y O<|W<|zN<|zU ⟨[(5,.c _),(3,.c _),(1,.c _)],[_,_]⟩ (Weak.mk [true,true] ⟨U,U,U,T⟩ O)<|zY 2 1 O O (Nat×Value) (fun ⟨k,sw⟩=>[(5,vI k),(3,.c (.lit sw))]) (fun ⟨k,sw⟩=>[E.vec sw 9 1 ((d.Dims.map fun a=>[cS a.Name])++(d.Red.take k).map fun a=>[cS a.Name])]) (fun ⟨k,sw⟩=>k<=d.Red.length) (fun ⟨k,sw⟩=>d.Red.length-k) ⟨⟨0,sv⟩,(by omega),Weak.mk [true,true] ⟨U,U,U,T⟩ (by show _=[E.vec sv _ 1 ((d.Dims.map fun a=>[cS a.Name])++[])]++_;rw [qT (l:=d.Dims) (by omega),List.append_nil];rfl)⟩ ?_
  rintro ⟨k,sw⟩ hk2
  show AWP _ _ _ _ _ ⟨[(5,vI k),(3,.c (.lit sw))]++_,[E.vec sw 9 1 ((d.Dims.map fun a=>[cS a.Name])++(d.Red.take k).map fun a=>[cS a.Name])]++_⟩
  refine zG<|G O<|Y O<|zE O wY<|zH kM (J 1 O) O<|zV O D<|qY O<|W<|zF O (fun c2=>?_) (fun c2=>?_)
  ·try simp only [sx] at c2
   obtain ⟨x,hx⟩:=qP d.Red k (by omega)
   refine zJ<|zG<|zN<|zO O<|Y O<|zE O wY<|zH kM (J 1 O) O<|Y O<|zZ O D (by omega) (getm (by assumption))<|qQ O zAj<|zH one9 zX O<|qZ O r zr9<|zT O O (qO 0 O r O O O (by simp only [List.length_append,List.length_take,List.length_map,List.length_cons,List.length_nil];omega) (by simp only [List.length_append,List.length_take,List.length_map,List.length_cons,List.length_nil];omega)) ?_
   rintro _ _ ⟨sv4,rfl,rfl⟩
   refine Y O<|W<|zO O<|Y O<|qB O ⟨by omega,by omega⟩<|Y O<|W ?_
   refine ⟨⟨k+1,sv4⟩,(by omega),(by show d.Red.length-(k+1)<d.Red.length-k;omega),Weak.mk [true,true] ⟨U,U,U,T⟩ (by show _=[E.vec sv4 _ 1 ((d.Dims.map fun a=>[cS a.Name])++(d.Red.take (k+1)).map fun a=>[cS a.Name])]++_;rw [qM hx,List.map_append (f:=fun a:Ax=>[cS a.Name]),←List.append_assoc];rfl)⟩
  ·try simp only [sx] at c2
   refine qE<|G O<|Y O<|Y O<|W<|zU _ (Weak.mem [true,false] O)<|zL<|zP O ?_
   exact ⟨_,O,by rw [qT (l:=d.Red) (by omega),←List.map_append (f:=fun a:Ax=>[cS a.Name]),names_rows];rfl⟩
theorem zOx (p:Pg) (vars:List ByteArray) (l:List Lf) (hz0:p.Sizes.length<=4294967296) (hv:vars.length<=4294967296) (hl0:l.length<=4294967296) (hx0:∀x,x∈l->x.L.length<=5864062014805):
    Pur cfg 215 [vPg p,vSs vars,vLins l] (vI (formsK (knB p.Sizes vars) l)):=by
 refine zS Tryz.func215 O Tryz.ntmps215 Tryz.results215 O ?_
 intro z hz
 refine G O<|zT O O (qI O O) ?_
 rintro _ _ ⟨b1,rfl,rfl⟩
 refine Y O<|W<|zG<|G O<|Y O<|W<|zN<|zU ⟨[(7,.c _),(1,.c _),(2,.c _),(3,.c _)],[_]⟩ (Weak.mk [true] ⟨U,U,U,U,T⟩ O)<|zY 1 0 O O (Nat) (fun k=>[(7,vI k)]) (fun k=>[]) (fun k=>k<=l.length/\((l.take k).all (fun x=>knL (knB p.Sizes vars) x.L)=true)) (fun k=>l.length-k) ⟨0,⟨by omega,O⟩,Weak.mk [true] ⟨U,U,U,U,T⟩ O⟩ ?_
 rintro k ⟨hk,hp⟩
 refine zG<|G O<|Y O<|Y O<|zV O el65<|qY O<|W<|zF O (fun c1=>?_) (fun c1=>?_)
 ·try simp only [sx] at c1
  obtain ⟨x,hx⟩:=qP l k (by omega)
  refine zJ<|zG<|zN<|zG<|qW 9 mixed (by kernel_rfl) O O<|zM O O (zQ O O)<|zM O O (zQ O O)<|zM O O (qH O el65 O O (by omega) (getm (by assumption)))<|zM O O (zR O kG O zX O)<|zM O O (zQ O O)<|zM O O (zD O zBw O)<|zM O O (zI O zAu O (J 0 O) O)<|zM O O (qG O ok108 (zIi x vars p.Sizes (hx0 x (zW hx)) hv hz0) ⟨U,O,U,O,U,O,T⟩)<|zM O O (kS O O)<|yN<|W<|zF O (fun c2=>?_) (fun c2=>?_)
  ·try simp only [sx] at c2
   refine G O<|Y O<|W<|zL<|zP O ?_
   rw [formsK_no' hx c2]
  ·try simp only [sx] at c2
   refine zJ<|zO O<|Y O<|qB O ⟨by omega,by omega⟩<|Y O<|W ?_
   refine ⟨k+1,⟨by omega,formsK_next' hx hp c2⟩,(by omega),Weak.mk [true] ⟨U,U,U,U,T⟩ O⟩
 ·try simp only [sx] at c1
  refine qE<|G O<|Y O<|W<|zL<|zP O ?_
  rw [qT (by omega)] at hp;rw [formsK_ok hp]
theorem ref17_read (p:Pg) (vars:List ByteArray) (e:Ex) (hP:p.Ok) (hv:vars.length<=4294967296) (he:e.wt<=4294967296):
    Pur cfg 216 [vPg p,vSs vars,vE e] (.tup [vTy (readK p.en (knB p.Sizes vars) e).1,vI (readK p.en (knB p.Sizes vars) e).2]):=by
 refine zS Tryz.func216 O Tryz.ntmps216 Tryz.results216 O ?_
 intro z hz
 obtain ⟨hLl,hIl,hAl⟩:=e.parts he
 have hwt:=Ex.wt_eq e
 have hz0:=hP.sizes
 refine G O<|zT O O (qI O O) ?_
 rintro _ _ ⟨b1,rfl,rfl⟩
 refine zT O O (qI O O) ?_
 rintro _ _ ⟨b2,rfl,rfl⟩
 refine zT O O (yD O zr37) ?_
 rintro _ _ ⟨b3,rfl,rfl⟩
 refine Y O<|W<|G O<|zK kN (J 2 O) O<|zE O zFv<|zH one9 (J 1 O) O<|qK O ok59 (zLa p e.Name hP) ⟨U,O,U,O,T⟩<|qA O (yC O O)<|qA O (yW O O O)<|qA O (yO O O O)<|qA O (yO O O O)<|zT O O (yD O zr37) ?_
 rintro _ _ ⟨b4,rfl,rfl⟩
 refine N 0 sz37 O<|Y O<|Y O<|W<|zG<|G O<|Y O<|wK O<|W<|zF O (fun c1=>?_) (fun c1=>?_)
 ·try simp only [sx] at c1
  refine G O<|yU O zr37 pl37<|N 1 sz37 O<|Y O<|W<|zL<|fin2 (qF yF O (J 1 O) O) (v O) ?_
  rw [readK_9 c1];rfl
 ·try simp only [sx] at c1
  refine zJ<|zG<|G O<|Y O<|zV O el65<|zE O kC<|zH wN (J 2 O) O<|zV O el41<|yP O<|W<|zF O (fun c2=>?_) (fun c2=>?_)
  ·try simp only [sx] at c2
   refine G O<|yU O zr37 pl37<|N 1 sz37 O<|Y O<|W<|zL<|fin2 (qF yF O (J 1 O) O) (v O) ?_
   rw [readK_11 c1 (by omega)];rfl
  ·try simp only [sx] at c2
   refine zJ<|zG<|G O<|Y O<|W<|zN<|zU ⟨[(11,.c _),(1,.c _),(3,.c _),(5,.c _),(6,.c _),(8,.c _)],[_,_,_,_]⟩ (Weak.mk [true,true,true,true] ⟨U,U,U,U,U,U,T⟩ O)<|zY 1 0 O O (Nat) (fun k=>[(11,vI k)]) (fun k=>[]) (fun k=>k<=e.Idx.length/\(indexL p.en (knB p.Sizes vars) e.Idx=indexL p.en (knB p.Sizes vars) (e.Idx.drop k))) (fun k=>e.Idx.length-k) ⟨0,⟨by omega,O⟩,Weak.mk [true,true,true,true] ⟨U,U,U,U,U,U,T⟩ O⟩ ?_
   rintro k ⟨hk,hp⟩
   refine zG<|G O<|Y O<|zE O kC<|zH wN (J 2 O) O<|zV O el41<|qY O<|W<|zF O (fun c3=>?_) (fun c3=>?_)
   ·try simp only [sx] at c3
    obtain ⟨x,hx⟩:=qP e.Idx k (by omega)
    have hxw:=Ex.idx_wt (zW hx)
    refine zJ<|zG<|zN<|G O<|zE O kC<|zH wN (J 2 O) O<|Y O<|zZ O el41 (by omega) (getm (by assumption))<|zK zBf zX O<|zT O O (qD [none,some 2,none,some 2] O zDc O) ?_
    rintro _ _ ⟨b5,rfl,rfl⟩
    refine N 0 zOj O<|W<|zG<|G O<|zE O zAd<|zH one9 (J 0 O) O<|kP O<|W<|zF O (fun c4=>?_) (fun c4=>?_)
    ·try simp only [sx] at c4
     refine zG<|G O<|zE O zBh<|zK kG (J 0 O) O<|Y O<|zE O zBw<|zH zAu (J 4 O) O<|qK O ok108 (zIi x.Lin vars p.Sizes (by omega) hv hz0) ⟨U,O,U,O,U,O,T⟩<|wK O<|W<|zF O (fun c5=>?_) (fun c5=>?_)
     ·try simp only [sx] at c5
      refine G O<|yU O zr37 pl37<|N 2 sz37 O<|Y O<|W<|zL<|fin2 (qF yF O (J 2 O) O) (v O) ?_
      rw [zJm c1 (by omega) hp hx ((indexK_lin c4).trans (zHj c5)) (by decide)];rfl
     ·try simp only [sx] at c5
      have hix:indexK p.en (knB p.Sizes vars) x=0:=by rw [indexK_lin c4,zNs c5]
      refine zJ<|qE<|zO O<|Y O<|qB O ⟨by omega,by omega⟩<|Y O<|W ?_
      refine ⟨k+1,⟨by omega,hp.trans (zIp hx hix)⟩,(by omega),Weak.mk [false,true,true,true,true] ⟨U,U,U,U,U,U,T⟩ O⟩
    ·try simp only [sx] at c4
     refine zJ<|G O<|zK kN (J 4 O) O<|zE O zAd<|zH one9 (J 0 O) O<|qK O ok59 (zLa p x.From hP) ⟨U,O,U,O,T⟩<|qA O (yC O O)<|qA O (yW O O O)<|qA O (yO O O O)<|qA O (yO O O O)<|zT O O (yD O zr37) ?_
     rintro _ _ ⟨b6,rfl,rfl⟩
     refine N 0 sz37 O<|Y O<|Y O<|W<|zG<|G O<|Y O<|wK O<|W<|zF O (fun c6=>?_) (fun c6=>?_)
     ·try simp only [sx] at c6
      refine G O<|yU O zr37 pl37<|N 3 sz37 O<|Y O<|W<|zL<|fin2 (qF yF O (J 3 O) O) (v O) ?_
      rw [zJm c1 (by omega) hp hx (indexK_9 c4 c6) (by decide)];rfl
     ·try simp only [sx] at c6
      refine zJ<|zG<|G O<|zE O zEz<|zH one3 (J 0 O) O<|yP O<|W<|zF O (fun c7=>?_) (fun c7=>?_)
      ·try simp only [sx] at c7
       refine G O<|yU O zr37 pl37<|N 3 sz37 O<|Y O<|W<|zL<|fin2 (qF yF O (J 3 O) O) (v O) ?_
       rw [zJm c1 (by omega) hp hx (indexK_10 c4 c6 c7) (by decide)];rfl
      ·try simp only [sx] at c7
       refine zJ<|zG<|G O<|Y O<|zV O el65<|zE O wD<|zH zAr (J 1 O) O<|zV O el65<|yP O<|W<|zF O (fun c8=>?_) (fun c8=>?_)
       ·try simp only [sx] at c8
        refine G O<|yU O zr37 pl37<|N 3 sz37 O<|Y O<|W<|zL<|fin2 (qF yF O (J 3 O) O) (v O) ?_
        rw [zJm c1 (by omega) hp hx (indexK_11 c4 c6 c7 (by omega)) (by decide)];rfl
       ·try simp only [sx] at c8
        refine zJ<|G O<|zK kN (J 5 O) O<|Y O<|zE O wD<|zH zAr (J 1 O) O<|qK O ok215 (zOx p vars x.At hz0 hv (by omega) (fun l hl=>by have:=zBa hl;omega)) ⟨U,O,U,O,U,O,T⟩<|Y O<|W<|G O<|Y O<|yP O<|W<|zF O (fun c9=>?_) (fun c9=>?_)
        ·try simp only [sx] at c9
         refine G O<|yU O zr37 pl37<|Y O<|N 3 sz37 O<|Y O<|W<|zL<|fin2 (qF yF O (J 3 O) O) (v O) ?_
         rw [zJm c1 (by omega) hp hx (indexK_at c4 c6 c7 (by omega)) c9];rfl
        ·try simp only [sx] at c9
         have hix:indexK p.en (knB p.Sizes vars) x=0:=by rw [indexK_at c4 c6 c7 (by omega)];exact c9
         refine zJ<|zO O<|Y O<|qB O ⟨by omega,by omega⟩<|Y O<|W ?_
         refine ⟨k+1,⟨by omega,hp.trans (zIp hx hix)⟩,(by omega),Weak.mk [false,false,true,true,true,true] ⟨U,U,U,U,U,U,T⟩ O⟩
   ·try simp only [sx] at c3
    refine qE<|G O<|zK yF (J 0 O) O<|N 1 sz37 O<|Y O<|W<|zL<|fin2 (qF yF O (J 1 O) O) (v O) ?_
    rw [readK_0 c1 (by omega) (by rw [hp,wL (by omega)];rfl)];rfl
theorem zOw (p:Pg) (vars:List ByteArray) (hP:p.Ok) (hv:vars.length<=4294967296) (e:Ex) (ih:∀a,a∈e.Args->partE a=0->a.wt<=4294967296->Pur cfg 162 [vPg p,vSs vars,vE a] (.tup [vTy (nodeT (refN p.en (knB p.Sizes vars)) a).1,vI (nodeT (refN p.en (knB p.Sizes vars)) a).2])) (hpart:partE e=0) (he:e.wt<=4294967296):
    Pur cfg 162 [vPg p,vSs vars,vE e] (.tup [vTy (nodeT (refN p.en (knB p.Sizes vars)) e).1,vI (nodeT (refN p.en (knB p.Sizes vars)) e).2]):=by
 refine zS Tryz.func162 O Tryz.ntmps162 Tryz.results162 O ?_
 intro z hz
 obtain ⟨hLl,hIl,hAl⟩:=e.parts he
 have hwt:=Ex.wt_eq e
 have hz0:=hP.sizes
 refine G O<|zT O O (qI O O) ?_
 rintro _ _ ⟨b1,rfl,rfl⟩
 refine zT O O (qI O O) ?_
 rintro _ _ ⟨b2,rfl,rfl⟩
 refine zT O O (yD O zr37) ?_
 rintro _ _ ⟨b3,rfl,rfl⟩
 refine Y O<|W<|G O<|Y O<|qV _ (yG 37 5)<|W<|zG<|G O<|Y O<|W<|zN<|zU ⟨[(9,.c _),(8,.c _),(1,.c _),(3,.c _),(5,.c _),(6,.c _)],[_,_,_,_]⟩ (Weak.mk [true,true,true,true] ⟨U,U,U,U,U,U,T⟩ O)<|zY 2 1 O O (Nat×Value) (fun ⟨k,sv⟩=>[(9,vI k),(8,.c (.lit sv))]) (fun ⟨k,sv⟩=>[E.vec sv 37 5 ((nodeL (refN p.en (knB p.Sizes vars)) (e.Args.take k)).1.map tyC)]) (fun ⟨k,sv⟩=>k<=e.Args.length/\((nodeL (refN p.en (knB p.Sizes vars)) (e.Args.take k)).2=0)) (fun ⟨k,sv⟩=>e.Args.length-k) ⟨⟨0,(.slice none 0 0)⟩,⟨by omega,O⟩,Weak.mk [true,true,true,true] ⟨U,U,U,U,U,U,T⟩ O⟩ ?_
 rintro ⟨k,sv⟩ ⟨hk,hp⟩
 show AWP _ _ _ _ _ ⟨[(9,vI k),(8,.c (.lit sv))]++_,[E.vec sv 37 5 ((nodeL (refN p.en (knB p.Sizes vars)) (e.Args.take k)).1.map tyC)]++_⟩
 refine zG<|G O<|Y O<|zE O kE<|zH wR (J 2 O) O<|zV O el42<|qY O<|W<|zF O (fun c1=>?_) (fun c1=>?_)
 ·try simp only [sx] at c1
  obtain ⟨x,hx⟩:=qP e.Args k (by omega)
  have hll:=zGi _ _ hp
  refine zJ<|zG<|zN<|zG<|wI 13 1 [⟨0,.q [4]⟩,⟨1,.q []⟩,⟨2,.q []⟩,⟨3,.q [3]⟩,⟨4,.q []⟩,⟨5,.q []⟩,⟨6,.q []⟩,⟨7,.q []⟩,⟨8,.q []⟩,⟨9,.q []⟩,⟨10,.q []⟩,⟨11,.e 0 []⟩,⟨12,.e 0 []⟩] mixed (by kernel_rfl) (by kernel_rfl) O O O<|qJ O<|qJ O<|qJ O<|qJ O<|qJ O<|qJ O<|qJ O<|qJ O<|qJ O<|qJ O<|qJ O<|qJ O<|qJ O<|zEe<|qR O (by decide) O O (zR O kN O (J 0 O) O)<|qR O (by decide) O O (zQ O O)<|qR O (by decide) O O (zD O kE O)<|qR O (by decide) O O (zI O wR O (J 0 O) O)<|qR O (by decide) O O (zQ O O)<|qR O (by decide) O O (qH O el42 O O (by omega) (zBj (by assumption)))<|qR O (by decide) O O (zR O qX O zX O)<|qR O (by decide) O O (qG O ok162 (ih x (zW hx) (zPe hpart (zW hx)) (by have:=Ex.arg_wt (zW hx);omega)) ⟨U,O,U,O,U,O,T⟩)<|qR O (by decide) O O (yC O O)<|qR O (by decide) O O (yW O O O)<|qR O (by decide) O O (yO O O O)<|sq_op O O (by decide) O O (yD O zr37) ?_
  rintro _ _ ⟨b5,rfl,rfl⟩
  refine ⟨_,O,?_⟩
  refine zOl O O (by decide) O O (kR O sz37 O O O (zFz 0 O O)) ?_
  rintro _ _ ⟨rfl,rfl⟩
  refine ⟨_,O,?_⟩
  refine zDy O<|Y O<|W<|zG<|G O<|Y O<|yP O<|W<|zF O (fun c2=>?_) (fun c2=>?_)
  ·try simp only [sx] at c2
   refine G O<|yU O zr37 pl37<|Y O<|N 2 sz37 O<|Y O<|W<|zL<|fin2 (qF yF O (J 2 O) O) (v O) ?_
   rw [nodeT_no hx hp c2];rfl
  ·try simp only [sx] at c2
   refine zJ<|zO O<|Y O<|zK yF (J 0 O) O<|qZ O zDg zr37<|zT O O (qO 1 O zDg O O O (by simp only [List.length_map,List.length_cons,List.length_nil,hll,List.length_take];omega) (by simp only [List.length_map,List.length_cons,List.length_nil,hll,List.length_take];omega)) ?_
   rintro _ _ ⟨sv6,rfl,rfl⟩
   refine Y O<|W<|zO O<|Y O<|qB O ⟨by omega,by omega⟩<|Y O<|W ?_
   refine ⟨⟨k+1,sv6⟩,⟨by omega,by rw [zHd hx hp c2]⟩,(by show e.Args.length-(k+1)<e.Args.length-k;omega),Weak.mk [false,true,true,true,true] ⟨U,U,U,U,U,U,T⟩ (by show _=[E.vec sv6 _ 5 ((nodeL (refN p.en (knB p.Sizes vars)) (e.Args.take (k+1))).1.map tyC)]++_;rw [zHd hx hp c2];simp only [List.map_append];rfl)⟩
 ·try simp only [sx] at c1
  have hll:=zGi _ _ hp
  have hta:e.Args.take k=e.Args:=qT (by omega)
  rw [hta] at hll
  have hg:∀i,i<e.Args.length->((nodeL (refN p.en (knB p.Sizes vars)) (e.Args.take k)).1.map tyC)[i]? =some (tyC (tyAt (nodeL (refN p.en (knB p.Sizes vars)) (e.Args.take k)).1 i)):=fun i hi=>tyAt_get (by rw [hta];omega)
  have hT:nodeT (refN p.en (knB p.Sizes vars)) e=(refN p.en (knB p.Sizes vars)) e (nodeL (refN p.en (knB p.Sizes vars)) (e.Args.take k)).1:=nodeT_ok hta hp
  have hlk:(nodeL (refN p.en (knB p.Sizes vars)) (e.Args.take k)).1.length=e.Args.length:=by rw [hta];exact hll
  refine qE<|zG<|zN<|G O<|zE O yZ<|zH one3 (J 2 O) O<|yJ O<|Y O<|rL0 O (fun g9_3=>zD O yZ O) O<|rL1 43 O (fun g9_3=>zI O one3 O (J 2 O) O) O<|rL1 44 O (fun g9_3=>yL O O O) O<|r_or O (fun h=>(lzf h))<|Y O<|W<|zF O (fun c3=>?_) (fun c3=>?_)
  ·try simp only [sx] at c3
   refine G O<|zE O zEy<|zK yF (J 2 O) O<|N 1 sz37 O<|Y O<|W<|zL<|fin2 (qF yF O (J 1 O) O) (v O) ?_
   exact by rw [hT,refN_1 c3];rfl
  ·try simp only [sx] at c3
   refine G O<|zE O yZ<|zH one3 (J 2 O) O<|yJ O<|Y O<|W<|zF O (fun c4=>?_) (fun c4=>?_)
   ·try simp only [sx] at c4
    refine G O<|yU O zr37 pl37<|zK kN (J 3 O) O<|Y O<|zE O zCv<|zK kG (J 2 O) O<|qZ O el65 zr40<|qK O ok215 (zOx p vars [e.Lin] hz0 hv (by simp) (fun x hx=>by rw [List.mem_singleton.1 hx];omega)) ⟨U,O,U,O,U,O,T⟩<|N 1 sz37 O<|Y O<|W<|zL<|fin2 (qF yF O (J 1 O) O) (v O) ?_
    exact by rw [hT,refN_2 c4];rfl
   ·try simp only [sx] at c4
    refine G O<|zE O yZ<|zH one3 (J 2 O) O<|yJ O<|Y O<|W<|zF O (fun c5=>?_) (fun c5=>?_)
    ·try simp only [sx] at c5
     refine G O<|zK kN (J 3 O) O<|Y O<|zK qX (J 2 O) O<|qK O ok216 (ref17_read p vars e hP hv he) ⟨U,O,U,O,U,O,T⟩<|qA O (yW O O O)<|qA O (yO O O O)<|N 1 sz37 O<|Y O<|W<|zL<|fin2 (qF yF O (J 1 O) O) (v O) ?_
     exact by rw [hT,refN_3 c5];rfl
    ·try simp only [sx] at c5
     refine G O<|zE O yZ<|zH one3 (J 2 O) O<|yJ O<|Y O<|W<|zF O (fun c6=>?_) (fun c6=>?_)
     ·try simp only [sx] at c6
      have hlen3:=args_len3 hpart c6
      refine zG<|zG<|qW 7 mixed (by kernel_rfl) O O<|zM O O (zQ O O)<|zM O O (qS 0 O zDg O O O (by omega) (by simp only [List.length_map];omega))<|zM O O (zR O yF O (kQ 0 O (hg 1 (by omega))) O)<|zM O O (zQ O O)<|zM O O (qS 0 O zDg O O O (by omega) (by simp only [List.length_map];omega))<|zM O O (zR O yF O (kQ 0 O (hg 2 (by omega))) O)<|zM O O (zBd O fl37 O O O)<|yN<|W<|zF O (fun c7=>?_) (fun c7=>?_)
      ·refine G O<|yU O zr37 pl37<|N 1 sz37 O<|Y O<|W<|zL<|fin2 (qF yF O (J 1 O) O) (v O) ?_
       exact by rw [hT,refN_11' c6 (zJb c7)];rfl
      ·refine zJ<|G O<|Y O<|qA O (qS 0 O zDg O O O (by omega) (by simp only [List.length_map];omega))<|zK yF (kQ 0 O (hg 1 (by omega))) O<|N 1 sz37 O<|Y O<|W<|zL<|fin2 (qF yF O (J 1 O) O) (v O) ?_
       exact by rw [hT,refN_11 c6 (zGy c7)];rfl
     ·try simp only [sx] at c6
      refine G O<|zE O yZ<|zH one3 (J 2 O) O<|yJ O<|Y O<|W<|zF O (fun c8=>?_) (fun c8=>?_)
      ·try simp only [sx] at c8
       have hlen1:=args_len hpart (by omega)
       refine G O<|Y O<|qA O (qS 0 O zDg O O O (by omega) (by simp only [List.length_map];omega))<|zK yF (kQ 0 O (hg 0 (by omega))) O<|N 1 sz37 O<|Y O<|W<|zL<|fin2 (qF yF O (J 1 O) O) (v O) ?_
       exact by rw [hT,refN_8 c8];rfl
      ·try simp only [sx] at c8
       refine G O<|zE O yZ<|zH one3 (J 2 O) O<|qA O (wE O O O)<|Y O<|W<|zF O (fun c9=>?_) (fun c9=>?_)
       ·try simp only [sx] at c9
        refine G O<|yU O zr37 pl37<|N 1 sz37 O<|Y O<|W<|zL<|fin2 (qF yF O (J 1 O) O) (v O) ?_
        exact by rw [hT,refN_16 c9];rfl
       ·try simp only [sx] at c9
        have hlen2:=zGw hpart (by omega)
        refine zJ<|zG<|zG<|qW 7 mixed (by kernel_rfl) O O<|zM O O (zQ O O)<|zM O O (qS 0 O zDg O O O (by omega) (by simp only [List.length_map];omega))<|zM O O (zR O yF O (kQ 0 O (hg 0 (by omega))) O)<|zM O O (zQ O O)<|zM O O (qS 0 O zDg O O O (by omega) (by simp only [List.length_map];omega))<|zM O O (zR O yF O (kQ 0 O (hg 1 (by omega))) O)<|zM O O (zBd O fl37 O O O)<|yN<|W<|zF O (fun c10=>?_) (fun c10=>?_)
        ·refine G O<|yU O zr37 pl37<|N 1 sz37 O<|Y O<|W<|zL<|fin2 (qF yF O (J 1 O) O) (v O) ?_
         exact by rw [hT,refN_no (by omega) (zJb c10)];rfl
        ·refine zJ<|zG<|G O<|zE O yZ<|zH one3 (J 2 O) O<|qA O (wE O O O)<|W<|zF O (fun c11=>?_) (fun c11=>?_)
         ·try simp only [sx] at c11
          refine G O<|yU O zr37 pl37<|N 1 sz37 O<|Y O<|W<|zL<|fin2 (qF yF O (J 1 O) O) (v O) ?_
          exact by rw [hT,refN_13 (by omega) (zGy c10) c11];rfl
         ·try simp only [sx] at c11
          refine zJ<|G O<|Y O<|qA O (qS 0 O zDg O O O (by omega) (by simp only [List.length_map];omega))<|zK yF (kQ 0 O (hg 0 (by omega))) O<|N 1 sz37 O<|Y O<|W<|zL<|fin2 (qF yF O (J 1 O) O) (v O) ?_
          exact by rw [hT,refN_o (by omega) (zGy c10)];rfl
theorem ref17_node (p:Pg) (vars:List ByteArray) (e:Ex) (hP:p.Ok) (hv:vars.length<=4294967296) (hpart:partE e=0) (he:e.wt<=4294967296):Pur cfg 162 [vPg p,vSs vars,vE e] (.tup [vTy (nodeT (refN p.en (knB p.Sizes vars)) e).1,vI (nodeT (refN p.en (knB p.Sizes vars)) e).2]):=by
  induction e using Ex.ind with
  |_ e ih=>exact zOw p vars hP hv e (fun a ha h1 h2=>ih a ha h1 h2) hpart he
theorem zMk (p:Pg) (vars:List ByteArray) (e:Ex) (hP:p.Ok) (hv:vars.length<=4294967296) (he:e.wt<=4294967296):
    Pur cfg 96 [vPg p,vSs vars,vE e] (.tup [vTy (typeR p.en vars e).1,vI (typeR p.en vars e).2]):=by
 refine zS Tryz.func96 O Tryz.ntmps96 Tryz.results96 O ?_
 intro z hz
 refine G O<|zT O O (qI O O) ?_
 rintro _ _ ⟨b1,rfl,rfl⟩
 refine zT O O (qI O O) ?_
 rintro _ _ ⟨b2,rfl,rfl⟩
 refine zT O O (yD O zr37) ?_
 rintro _ _ ⟨b3,rfl,rfl⟩
 refine Y O<|W<|zG<|G O<|zK qX (J 1 O) O<|qK O ok160 (ref14_Validate e (by omega)) ⟨U,O,T⟩<|Y O<|W<|G O<|Y O<|yP O<|W<|zF O (fun c1=>?_) (fun c1=>?_)
 ·try simp only [sx] at c1
  refine G O<|yU O zr37 pl37<|Y O<|N 0 sz37 O<|Y O<|W<|zL<|fin2 (qF yF O (J 0 O) O) (v O) ?_
  rw [typeR_bad c1];rfl
 ·try simp only [sx] at c1
  refine zJ<|zG<|G O<|zK qX (J 1 O) O<|qK O ok161 (zAf e) ⟨U,O,T⟩<|W<|zF O (fun c2=>?_) (fun c2=>?_)
  ·try simp only [sx] at c2
   refine G O<|yU O zr37 pl37<|N 0 sz37 O<|Y O<|W<|zL<|fin2 (qF yF O (J 0 O) O) (v O) ?_
   rw [typeR_cond c1 c2];rfl
  ·try simp only [sx] at c2
   have hTo:=typeR_of (n:=p.en) (vars:=vars) c1 c2
   refine zJ<|G O<|zK kN (J 2 O) O<|Y O<|zK qX (J 1 O) O<|qK O ok162 (ref17_node p vars e hP hv (zCe c1) he) ⟨U,O,U,O,U,O,T⟩<|qA O (yC O O)<|qA O (yW O O O)<|qA O (yO O O O)<|zT O O (yD O zr37) ?_
   rintro _ _ ⟨b4,rfl,rfl⟩
   refine N 0 sz37 O<|Y O<|W<|zG<|G O<|Y O<|yP O<|W<|zF O (fun c3=>?_) (fun c3=>?_)
   ·try simp only [sx] at c3
    refine G O<|yU O zr37 pl37<|Y O<|N 1 sz37 O<|Y O<|W<|zL<|fin2 (qF yF O (J 1 O) O) (v O) ?_
    rw [hTo,if_neg (show ¬(nodeT (refN p.en (knB p.en.sz vars)) e).2=0 from c3)];rfl
   ·try simp only [sx] at c3
    refine zJ<|G O<|zK yF (J 0 O) O<|N 1 sz37 O<|Y O<|W<|zL<|fin2 (qF yF O (J 1 O) O) (v O) ?_
    rw [hTo,if_pos (show (nodeT (refN p.en (knB p.en.sz vars)) e).2=0 from c3)];rfl
end Go.W
