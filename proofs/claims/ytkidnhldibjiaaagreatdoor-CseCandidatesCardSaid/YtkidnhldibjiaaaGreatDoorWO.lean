/-
  Walks: what functions of the program compute. Printed by wip/gen/mk2.py.
  Conditions: none.
-/
import Derived.Test.YtkidnhldibjiaaaGreatDoorWN
import Derived.Test.YtkidnhldibjiaaaGreatDoorEngZ
set_option linter.unusedSimpArgs false
set_option linter.unusedVariables false
set_option maxRecDepth 10000
namespace Go.W
open Go Go.Eng Go.Proofs Go.L41 Go.Br
attribute [local irreducible] AWP RWP TD finQ
theorem ok59:callOk Tryz.prog 59=true:=by kernel_rfl
theorem ok108:callOk Tryz.prog 108=true:=by kernel_rfl
theorem ok162:callOk Tryz.prog 162=true:=by kernel_rfl
theorem ok215:callOk Tryz.prog 215=true:=by kernel_rfl
theorem ok216:callOk Tryz.prog 216=true:=by kernel_rfl
theorem zKm (p:Pg) (s:ByteArray) (hP:p.Ok):
    Pur cfg 59 [vPg p,vS s] (.tup [vTy (p.en.find s).ty,vLins (p.en.find s).dims,vB (p.en.find s).ok]):=by
 refine zR Tryz.func59 O Tryz.ntmps59 Tryz.results59 O ?_
 intro z hz
 have hpl:=hP.params
 have hpd:=hP.defs
 refine G O<|zS O O (qG O O) ?_
 rintro _ _ ⟨b1,rfl,rfl⟩
 refine zS O O (yB O zr37) ?_
 rintro _ _ ⟨b2,rfl,rfl⟩
 refine zX O (yA 2 O O)<|Y O<|W<|zG<|G O<|Y O<|W<|zN<|zU ⟨[(7,.c _),(1,.c _),(2,.c _),(4,.c _)],[_,_]⟩ (Weak.mk [true,true] ⟨U,U,U,U,T⟩ O)<|qA 1 0 O O (Nat) (fun k=>[(7,vI k)]) (fun k=>[]) (fun k=>k<=p.Params.length/\(findP s p.Defs p.Params=findP s p.Defs (p.Params.drop k))) (fun k=>p.Params.length-k) ⟨0,⟨by omega,O⟩,Weak.mk [true,true] ⟨U,U,U,U,T⟩ O⟩ ?_
 rintro k ⟨hk,hp⟩
 refine zG<|G O<|Y O<|zD O zBu<|zH zFp (J 1 O) O<|zV O el24<|qW O<|W<|zE O (fun c1=>?_) (fun c1=>?_)
 ·try simp only [sx] at c1
  obtain ⟨x,hx⟩:=qP p.Params k (by omega)
  refine zI<|zG<|zN<|G O<|zD O zBu<|zH zFp (J 1 O) O<|Y O<|zZ O el24 (by omega) (getm (by assumption))<|qN O fd67_0<|zH one9 zY O<|Y O<|zX O (yM O O O)<|W<|zE O (fun c2=>?_) (fun c2=>?_)
  ·try simp only [sx] at c2
   refine zG<|wO 13 0 [⟨0,.q []⟩,⟨1,.q [1]⟩,⟨2,.q []⟩,⟨3,.q []⟩,⟨4,.q []⟩,⟨5,.q []⟩,⟨6,.q []⟩,⟨7,.q [1]⟩,⟨8,.q []⟩,⟨9,.q []⟩,⟨10,.q []⟩,⟨11,.q []⟩,⟨12,.e 0 []⟩] mixed (by kernel_rfl) (by kernel_rfl) O O O<|qL O<|qL O<|qL O<|qL O<|qL O<|qL O<|qL O<|qL O<|qL O<|qL O<|qL O<|qL O<|qL O<|zFl<|qT O (by decide) O O (zF O zBu O)<|qT O (by decide) O O (zK O zFp O (J 0 O) O)<|qT O (by decide) O O (zQ O O)<|qT O (by decide) O O (qJ O el24 O O (by omega) (getm (by assumption)))<|qT O (by decide) O O (qQ O fd67_1 O)<|qT O (by decide) O O (zT O yD O zY O)<|qT O (by decide) O O (zF O zBu O)<|qT O (by decide) O O (zK O zFp O (J 0 O) O)<|qT O (by decide) O O (zQ O O)<|qT O (by decide) O O (qJ O el24 O O (by omega) (getm (by assumption)))<|qT O (by decide) O O (qQ O zHp O)<|qT O (by decide) O O (zK O zAr O zY O)<|sq_op0 O O (by decide) O O (kU O sz37 O O O (zHi 0 O O)) ?_
   rintro _ _ ⟨rfl,rfl⟩
   refine ⟨_,O,?_⟩
   refine zFh O<|Y O<|Y O<|W<|zJ<|fin3 (qF yD O (J 0 O) O) (v O) (v O) ?_
   rw [En.find,show p.en.pm=p.Params from rfl,show p.en.df=p.Defs from rfl,hp,find_at hx c2];rfl
  ·try simp only [sx] at c2
   refine zI<|zO O<|Y O<|qB O ⟨by omega,by omega⟩<|Y O<|W ?_
   refine ⟨k+1,⟨by omega,hp.trans (find_next hx c2)⟩,(by omega),Weak.mk [true,true] ⟨U,U,U,U,T⟩ O⟩
 ·try simp only [sx] at c1
  have hF:p.en.find s=findD s p.Defs:=by rw [En.find,show p.en.pm=p.Params from rfl,show p.en.df=p.Defs from rfl,hp,wE (by omega)];rfl
  refine qE<|zG<|G O<|Y O<|W<|zN<|zU ⟨[(8,.c _),(1,.c _),(2,.c _),(4,.c _)],[_,_]⟩ (Weak.mk [true,true] ⟨U,U,U,U,T⟩ O)<|qA 1 0 O O (Nat) (fun k=>[(8,vI k)]) (fun k=>[]) (fun k=>k<=p.Defs.length/\(findD s p.Defs=findD s (p.Defs.drop k))) (fun k=>p.Defs.length-k) ⟨0,⟨by omega,O⟩,Weak.mk [true,true] ⟨U,U,U,U,T⟩ O⟩ ?_
  rintro k ⟨hk,hq⟩
  refine zG<|G O<|Y O<|zD O yZ<|zH wL (J 1 O) O<|zV O el25<|qW O<|W<|zE O (fun c3=>?_) (fun c3=>?_)
  ·try simp only [sx] at c3
   obtain ⟨d,hd⟩:=qP p.Defs k (by omega)
   refine zI<|zG<|zN<|G O<|zD O yZ<|zH wL (J 1 O) O<|Y O<|zZ O el25 (by omega) (getm (by assumption))<|qN O zGf<|zH one9 zY O<|Y O<|zX O (yM O O O)<|W<|zE O (fun c4=>?_) (fun c4=>?_)
   ·try simp only [sx] at c4
    have hdd:=(hP.ds d (zW hd)).1
    refine G O<|Y O<|qV _ (yH 40 2)<|W<|zG<|G O<|Y O<|W<|zN<|zU ⟨[(10,.c _),(9,.c _),(2,.c _),(4,.c _),(8,.c _)],[_,_,_]⟩ (Weak.mk [true,true,true] ⟨U,U,U,U,U,T⟩ O)<|qA 2 1 O O (Nat×Value) (fun ⟨j,sv⟩=>[(10,vI j),(9,.c (.lit sv))]) (fun ⟨j,sv⟩=>[E.vec sv 40 2 ((d.Dims.take j).map fun a=>a.Size.cells)]) (fun ⟨j,sv⟩=>j<=d.Dims.length) (fun ⟨j,sv⟩=>d.Dims.length-j) ⟨⟨0,(.slice none 0 0)⟩,(by omega),Weak.mk [true,true,true] ⟨U,U,U,U,U,T⟩ O⟩ ?_
    rintro ⟨j,sv⟩ hj
    show AWP _ _ _ _ _ ⟨[(10,vI j),(9,.c (.lit sv))]++_,[E.vec sv 40 2 ((d.Dims.take j).map fun a=>a.Size.cells)]++_⟩
    refine zG<|G O<|Y O<|zD O yZ<|zH wL (J 2 O) O<|Y O<|zZ O el25 (by omega) (getm (by assumption))<|qN O zAl<|zH kQ zY O<|zV O D<|qW O<|W<|zE O (fun c5=>?_) (fun c5=>?_)
    ·try simp only [sx] at c5
     obtain ⟨a,ha⟩:=qP d.Dims j (by omega)
     refine zI<|zG<|zN<|zO O<|Y O<|zD O yZ<|zH wL (J 2 O) O<|Y O<|zZ O el25 (by omega) (getm (by assumption))<|qN O zAl<|zH kQ zY O<|Y O<|zZ O D (by omega) (getm (by assumption))<|qN O zDm<|zL kF zY O<|qX O el65 zr40<|zS O O (qO 0 O el65 O O O (by simp only [List.length_take,List.length_map,List.length_cons,List.length_nil];omega) (by simp only [List.length_take,List.length_map,List.length_cons,List.length_nil];omega)) ?_
     rintro _ _ ⟨sv4,rfl,rfl⟩
     refine Y O<|W<|zO O<|Y O<|qB O ⟨by omega,by omega⟩<|Y O<|W ?_
     refine ⟨⟨j+1,sv4⟩,(by omega),(by show d.Dims.length-(j+1)<d.Dims.length-j;omega),Weak.mk [true,true,true] ⟨U,U,U,U,U,T⟩ (by show _=[E.vec sv4 _ 2 ((d.Dims.take (j+1)).map fun a=>a.Size.cells)]++_;rw [qM ha,List.map_append (f:=fun a:Ax=>a.Size.cells)];rfl)⟩
    ·try simp only [sx] at c5
     refine qE<|G O<|zD O yZ<|zH wL (J 2 O) O<|Y O<|zZ O el25 (by omega) (getm (by assumption))<|qN O zLx<|zL yD zY O<|Y O<|N 1 sz37 O<|Y O<|Y O<|W<|zU _ (yJ 0 O (regs':=[(9,_),(83,_),(5,_)]) (μ':=[_,_]) ⟨FLe.sl,FLe.sl,FLe.sl,T⟩ ⟨EFle.refl _,EFle.refl _,T⟩)<|zJ<|fin3 (qF yD O (J 0 O) O) (v O) (v O) ?_
     rw [hF,hq,findD_at hd c4,qS (l:=d.Dims) (k:=j) (by omega)];simp only [vLins,List.map_map];rfl
   ·try simp only [sx] at c4
    refine zI<|zO O<|Y O<|qB O ⟨by omega,by omega⟩<|Y O<|W ?_
    refine ⟨k+1,⟨by omega,hq.trans (findD_next hd c4)⟩,(by omega),Weak.mk [true,true] ⟨U,U,U,U,T⟩ O⟩
  ·try simp only [sx] at c3
   refine qE<|G O<|yW O zr37 pl37<|N 0 sz37 O<|zX O (yA 2 O O)<|Y O<|W<|zJ<|fin3 (qF yD O (J 0 O) O) (v O) (v O) ?_
   rw [hF,hq,wE (l:=p.Defs) (by omega)];rfl
theorem zMg (d:Df) (hD:d.Dims.length<=1073741824) (hR:d.Red.length<=1073741824):
    OwnR cfg 97 [vDf d] 9 1 ((namesD d).map fun s=>[cS s]):=by
 refine zR Tryz.func97 O Tryz.ntmps97 Tryz.results97 O ?_
 intro z hz
 refine G O<|zS O O (qG O O) ?_
 rintro _ _ ⟨b1,rfl,rfl⟩
 refine zX O (yA 1 O O)<|W<|G O<|Y O<|qV _ (yH 9 1)<|W<|zG<|G O<|Y O<|W<|zN<|zU ⟨[(4,.c _),(3,.c _),(1,.c _)],[_,_]⟩ (Weak.mk [true,true] ⟨U,U,U,T⟩ O)<|qA 2 1 O O (Nat×Value) (fun ⟨k,sv⟩=>[(4,vI k),(3,.c (.lit sv))]) (fun ⟨k,sv⟩=>[E.vec sv 9 1 ((d.Dims.take k).map fun a=>[cS a.Name])]) (fun ⟨k,sv⟩=>k<=d.Dims.length) (fun ⟨k,sv⟩=>d.Dims.length-k) ⟨⟨0,(.slice none 0 0)⟩,(by omega),Weak.mk [true,true] ⟨U,U,U,T⟩ O⟩ ?_
 rintro ⟨k,sv⟩ hk
 show AWP _ _ _ _ _ ⟨[(4,vI k),(3,.c (.lit sv))]++_,[E.vec sv 9 1 ((d.Dims.take k).map fun a=>[cS a.Name])]++_⟩
 refine zG<|G O<|Y O<|zD O zAl<|zH kQ (J 1 O) O<|zV O D<|qW O<|W<|zE O (fun c1=>?_) (fun c1=>?_)
 ·try simp only [sx] at c1
  obtain ⟨x,hx⟩:=qP d.Dims k (by omega)
  refine zI<|zG<|zN<|zO O<|Y O<|zD O zAl<|zH kQ (J 1 O) O<|Y O<|zZ O D (by omega) (getm (by assumption))<|qN O zAj<|zH one9 zY O<|qX O r zr9<|zS O O (qO 0 O r O O O (by simp only [List.length_append,List.length_take,List.length_map,List.length_cons,List.length_nil];omega) (by simp only [List.length_append,List.length_take,List.length_map,List.length_cons,List.length_nil];omega)) ?_
  rintro _ _ ⟨sv3,rfl,rfl⟩
  refine Y O<|W<|zO O<|Y O<|qB O ⟨by omega,by omega⟩<|Y O<|W ?_
  refine ⟨⟨k+1,sv3⟩,(by omega),(by show d.Dims.length-(k+1)<d.Dims.length-k;omega),Weak.mk [true,true] ⟨U,U,U,T⟩ (by show _=[E.vec sv3 _ 1 ((d.Dims.take (k+1)).map fun a=>[cS a.Name])]++_;rw [qM hx,List.map_append (f:=fun a:Ax=>[cS a.Name])];rfl)⟩
 ·try simp only [sx] at c1
  refine qE<|zG<|G O<|Y O<|W<|zN<|zU ⟨[(5,.c _),(3,.c _),(1,.c _)],[_,_]⟩ (Weak.mk [true,true] ⟨U,U,U,T⟩ O)<|qA 2 1 O O (Nat×Value) (fun ⟨k,sw⟩=>[(5,vI k),(3,.c (.lit sw))]) (fun ⟨k,sw⟩=>[E.vec sw 9 1 ((d.Dims.map fun a=>[cS a.Name])++(d.Red.take k).map fun a=>[cS a.Name])]) (fun ⟨k,sw⟩=>k<=d.Red.length) (fun ⟨k,sw⟩=>d.Red.length-k) ⟨⟨0,sv⟩,(by omega),Weak.mk [true,true] ⟨U,U,U,T⟩ (by show _=[E.vec sv _ 1 ((d.Dims.map fun a=>[cS a.Name])++[])]++_;rw [qS (l:=d.Dims) (by omega),List.append_nil];rfl)⟩ ?_
  rintro ⟨k,sw⟩ hk2
  show AWP _ _ _ _ _ ⟨[(5,vI k),(3,.c (.lit sw))]++_,[E.vec sw 9 1 ((d.Dims.map fun a=>[cS a.Name])++(d.Red.take k).map fun a=>[cS a.Name])]++_⟩
  refine zG<|G O<|Y O<|zD O zAc<|zH kQ (J 1 O) O<|zV O D<|qW O<|W<|zE O (fun c2=>?_) (fun c2=>?_)
  ·try simp only [sx] at c2
   obtain ⟨x,hx⟩:=qP d.Red k (by omega)
   refine zI<|zG<|zN<|zO O<|Y O<|zD O zAc<|zH kQ (J 1 O) O<|Y O<|zZ O D (by omega) (getm (by assumption))<|qN O zAj<|zH one9 zY O<|qX O r zr9<|zS O O (qO 0 O r O O O (by simp only [List.length_append,List.length_take,List.length_map,List.length_cons,List.length_nil];omega) (by simp only [List.length_append,List.length_take,List.length_map,List.length_cons,List.length_nil];omega)) ?_
   rintro _ _ ⟨sv4,rfl,rfl⟩
   refine Y O<|W<|zO O<|Y O<|qB O ⟨by omega,by omega⟩<|Y O<|W ?_
   refine ⟨⟨k+1,sv4⟩,(by omega),(by show d.Red.length-(k+1)<d.Red.length-k;omega),Weak.mk [true,true] ⟨U,U,U,T⟩ (by show _=[E.vec sv4 _ 1 ((d.Dims.map fun a=>[cS a.Name])++(d.Red.take (k+1)).map fun a=>[cS a.Name])]++_;rw [qM hx,List.map_append (f:=fun a:Ax=>[cS a.Name]),←List.append_assoc];rfl)⟩
  ·try simp only [sx] at c2
   refine qE<|G O<|Y O<|Y O<|W<|zU _ (Weak.mem [true,false] O)<|zJ<|zP O ?_
   exact ⟨_,O,by rw [qS (l:=d.Red) (by omega),←List.map_append (f:=fun a:Ax=>[cS a.Name]),names_rows];rfl⟩
theorem zOc (p:Pg) (vars:List ByteArray) (l:List Lf) (hz0:p.Sizes.length<=4294967296) (hv:vars.length<=4294967296) (hl0:l.length<=4294967296) (hx0:∀x,x∈l->x.L.length<=5864062014805):
    Pur cfg 215 [vPg p,vSs vars,vLins l] (vI (formsK (knB p.Sizes vars) l)):=by
 refine zR Tryz.func215 O Tryz.ntmps215 Tryz.results215 O ?_
 intro z hz
 refine G O<|zS O O (qG O O) ?_
 rintro _ _ ⟨b1,rfl,rfl⟩
 refine Y O<|W<|zG<|G O<|Y O<|W<|zN<|zU ⟨[(7,.c _),(1,.c _),(2,.c _),(3,.c _)],[_]⟩ (Weak.mk [true] ⟨U,U,U,U,T⟩ O)<|qA 1 0 O O (Nat) (fun k=>[(7,vI k)]) (fun k=>[]) (fun k=>k<=l.length/\((l.take k).all (fun x=>knL (knB p.Sizes vars) x.L)=true)) (fun k=>l.length-k) ⟨0,⟨by omega,O⟩,Weak.mk [true] ⟨U,U,U,U,T⟩ O⟩ ?_
 rintro k ⟨hk,hp⟩
 refine zG<|G O<|Y O<|Y O<|zV O el65<|qW O<|W<|zE O (fun c1=>?_) (fun c1=>?_)
 ·try simp only [sx] at c1
  obtain ⟨x,hx⟩:=qP l k (by omega)
  refine zI<|zG<|zN<|zG<|qY 9 mixed (by kernel_rfl) O O<|zM O O (zQ O O)<|zM O O (zQ O O)<|zM O O (qJ O el65 O O (by omega) (getm (by assumption)))<|zM O O (zT O kF O zY O)<|zM O O (zQ O O)<|zM O O (zF O zCp O)<|zM O O (zK O zBq O (J 0 O) O)<|zM O O (qH O ok108 (zIa x vars p.Sizes (hx0 x (zW hx)) hv hz0) ⟨U,O,U,O,U,O,T⟩)<|zM O O (wB O O)<|yT<|W<|zE O (fun c2=>?_) (fun c2=>?_)
  ·try simp only [sx] at c2
   refine G O<|Y O<|W<|zJ<|zP O ?_
   rw [formsK_no' hx c2]
  ·try simp only [sx] at c2
   refine zI<|zO O<|Y O<|qB O ⟨by omega,by omega⟩<|Y O<|W ?_
   refine ⟨k+1,⟨by omega,formsK_next' hx hp c2⟩,(by omega),Weak.mk [true] ⟨U,U,U,U,T⟩ O⟩
 ·try simp only [sx] at c1
  refine qE<|G O<|Y O<|W<|zJ<|zP O ?_
  rw [qS (by omega)] at hp;rw [formsK_ok hp]
theorem ref17_read (p:Pg) (vars:List ByteArray) (e:Ex) (hP:p.Ok) (hv:vars.length<=4294967296) (he:e.wt<=4294967296):
    Pur cfg 216 [vPg p,vSs vars,vE e] (.tup [vTy (readK p.en (knB p.Sizes vars) e).1,vI (readK p.en (knB p.Sizes vars) e).2]):=by
 refine zR Tryz.func216 O Tryz.ntmps216 Tryz.results216 O ?_
 intro z hz
 obtain ⟨hLl,hIl,hAl⟩:=e.parts he
 have hwt:=Ex.wt_eq e
 have hz0:=hP.sizes
 refine G O<|zS O O (qG O O) ?_
 rintro _ _ ⟨b1,rfl,rfl⟩
 refine zS O O (qG O O) ?_
 rintro _ _ ⟨b2,rfl,rfl⟩
 refine zS O O (yB O zr37) ?_
 rintro _ _ ⟨b3,rfl,rfl⟩
 refine Y O<|W<|G O<|zL wC (J 2 O) O<|zD O zFm<|zH one9 (J 1 O) O<|qK O ok59 (zKm p e.Name hP) ⟨U,O,U,O,T⟩<|zX O (yE O O)<|zX O (kA O O O)<|zX O (yP O O O)<|zX O (yP O O O)<|zS O O (yB O zr37) ?_
 rintro _ _ ⟨b4,rfl,rfl⟩
 refine N 0 sz37 O<|Y O<|Y O<|W<|zG<|G O<|Y O<|wD O<|W<|zE O (fun c1=>?_) (fun c1=>?_)
 ·try simp only [sx] at c1
  refine G O<|yW O zr37 pl37<|N 1 sz37 O<|Y O<|W<|zJ<|fin2 (qF yD O (J 1 O) O) (v O) ?_
  rw [readK_9 c1];rfl
 ·try simp only [sx] at c1
  refine zI<|zG<|G O<|Y O<|zV O el65<|zD O kC<|zH wK (J 2 O) O<|zV O el41<|yR O<|W<|zE O (fun c2=>?_) (fun c2=>?_)
  ·try simp only [sx] at c2
   refine G O<|yW O zr37 pl37<|N 1 sz37 O<|Y O<|W<|zJ<|fin2 (qF yD O (J 1 O) O) (v O) ?_
   rw [readK_11 c1 (by omega)];rfl
  ·try simp only [sx] at c2
   refine zI<|zG<|G O<|Y O<|W<|zN<|zU ⟨[(11,.c _),(1,.c _),(3,.c _),(5,.c _),(6,.c _),(8,.c _)],[_,_,_,_]⟩ (Weak.mk [true,true,true,true] ⟨U,U,U,U,U,U,T⟩ O)<|qA 1 0 O O (Nat) (fun k=>[(11,vI k)]) (fun k=>[]) (fun k=>k<=e.Idx.length/\(indexL p.en (knB p.Sizes vars) e.Idx=indexL p.en (knB p.Sizes vars) (e.Idx.drop k))) (fun k=>e.Idx.length-k) ⟨0,⟨by omega,O⟩,Weak.mk [true,true,true,true] ⟨U,U,U,U,U,U,T⟩ O⟩ ?_
   rintro k ⟨hk,hp⟩
   refine zG<|G O<|Y O<|zD O kC<|zH wK (J 2 O) O<|zV O el41<|qW O<|W<|zE O (fun c3=>?_) (fun c3=>?_)
   ·try simp only [sx] at c3
    obtain ⟨x,hx⟩:=qP e.Idx k (by omega)
    have hxw:=Ex.idx_wt (zW hx)
    refine zI<|zG<|zN<|G O<|zD O kC<|zH wK (J 2 O) O<|Y O<|zZ O el41 (by omega) (getm (by assumption))<|zL zAx zY O<|zS O O (qD [none,some 2,none,some 2] O zDp O) ?_
    rintro _ _ ⟨b5,rfl,rfl⟩
    refine N 0 zNp O<|W<|zG<|G O<|zD O wX<|zH one9 (J 0 O) O<|zX O (yM O O O)<|W<|zE O (fun c4=>?_) (fun c4=>?_)
    ·try simp only [sx] at c4
     refine zG<|G O<|zD O zAz<|zL kF (J 0 O) O<|Y O<|zD O zCp<|zH zBq (J 4 O) O<|qK O ok108 (zIa x.Lin vars p.Sizes (by omega) hv hz0) ⟨U,O,U,O,U,O,T⟩<|wD O<|W<|zE O (fun c5=>?_) (fun c5=>?_)
     ·try simp only [sx] at c5
      refine G O<|yW O zr37 pl37<|N 2 sz37 O<|Y O<|W<|zJ<|fin2 (qF yD O (J 2 O) O) (v O) ?_
      rw [zJc c1 (by omega) hp hx ((indexK_lin c4).trans (zHa c5)) (by decide)];rfl
     ·try simp only [sx] at c5
      have hix:indexK p.en (knB p.Sizes vars) x=0:=by rw [indexK_lin c4,zMz c5]
      refine zI<|qE<|zO O<|Y O<|qB O ⟨by omega,by omega⟩<|Y O<|W ?_
      refine ⟨k+1,⟨by omega,hp.trans (zIg hx hix)⟩,(by omega),Weak.mk [false,true,true,true,true] ⟨U,U,U,U,U,U,T⟩ O⟩
    ·try simp only [sx] at c4
     refine zI<|G O<|zL wC (J 4 O) O<|zD O wX<|zH one9 (J 0 O) O<|qK O ok59 (zKm p x.From hP) ⟨U,O,U,O,T⟩<|zX O (yE O O)<|zX O (kA O O O)<|zX O (yP O O O)<|zX O (yP O O O)<|zS O O (yB O zr37) ?_
     rintro _ _ ⟨b6,rfl,rfl⟩
     refine N 0 sz37 O<|Y O<|Y O<|W<|zG<|G O<|Y O<|wD O<|W<|zE O (fun c6=>?_) (fun c6=>?_)
     ·try simp only [sx] at c6
      refine G O<|yW O zr37 pl37<|N 3 sz37 O<|Y O<|W<|zJ<|fin2 (qF yD O (J 3 O) O) (v O) ?_
      rw [zJc c1 (by omega) hp hx (indexK_9 c4 c6) (by decide)];rfl
     ·try simp only [sx] at c6
      refine zI<|zG<|G O<|zD O zEn<|zH one3 (J 0 O) O<|yR O<|W<|zE O (fun c7=>?_) (fun c7=>?_)
      ·try simp only [sx] at c7
       refine G O<|yW O zr37 pl37<|N 3 sz37 O<|Y O<|W<|zJ<|fin2 (qF yD O (J 3 O) O) (v O) ?_
       rw [zJc c1 (by omega) hp hx (indexK_10 c4 c6 c7) (by decide)];rfl
      ·try simp only [sx] at c7
       refine zI<|zG<|G O<|Y O<|zV O el65<|zD O kW<|zH zAr (J 1 O) O<|zV O el65<|yR O<|W<|zE O (fun c8=>?_) (fun c8=>?_)
       ·try simp only [sx] at c8
        refine G O<|yW O zr37 pl37<|N 3 sz37 O<|Y O<|W<|zJ<|fin2 (qF yD O (J 3 O) O) (v O) ?_
        rw [zJc c1 (by omega) hp hx (indexK_11 c4 c6 c7 (by omega)) (by decide)];rfl
       ·try simp only [sx] at c8
        refine zI<|G O<|zL wC (J 5 O) O<|Y O<|zD O kW<|zH zAr (J 1 O) O<|qK O ok215 (zOc p vars x.At hz0 hv (by omega) (fun l hl=>by have:=zAt hl;omega)) ⟨U,O,U,O,U,O,T⟩<|Y O<|W<|G O<|Y O<|yR O<|W<|zE O (fun c9=>?_) (fun c9=>?_)
        ·try simp only [sx] at c9
         refine G O<|yW O zr37 pl37<|Y O<|N 3 sz37 O<|Y O<|W<|zJ<|fin2 (qF yD O (J 3 O) O) (v O) ?_
         rw [zJc c1 (by omega) hp hx (indexK_at c4 c6 c7 (by omega)) c9];rfl
        ·try simp only [sx] at c9
         have hix:indexK p.en (knB p.Sizes vars) x=0:=by rw [indexK_at c4 c6 c7 (by omega)];exact c9
         refine zI<|zO O<|Y O<|qB O ⟨by omega,by omega⟩<|Y O<|W ?_
         refine ⟨k+1,⟨by omega,hp.trans (zIg hx hix)⟩,(by omega),Weak.mk [false,false,true,true,true,true] ⟨U,U,U,U,U,U,T⟩ O⟩
   ·try simp only [sx] at c3
    refine qE<|G O<|zL yD (J 0 O) O<|N 1 sz37 O<|Y O<|W<|zJ<|fin2 (qF yD O (J 1 O) O) (v O) ?_
    rw [readK_0 c1 (by omega) (by rw [hp,wE (by omega)];rfl)];rfl
theorem zOb (p:Pg) (vars:List ByteArray) (hP:p.Ok) (hv:vars.length<=4294967296) (e:Ex) (ih:∀a,a∈e.Args->partE a=0->a.wt<=4294967296->Pur cfg 162 [vPg p,vSs vars,vE a] (.tup [vTy (nodeT (refN p.en (knB p.Sizes vars)) a).1,vI (nodeT (refN p.en (knB p.Sizes vars)) a).2])) (hpart:partE e=0) (he:e.wt<=4294967296):
    Pur cfg 162 [vPg p,vSs vars,vE e] (.tup [vTy (nodeT (refN p.en (knB p.Sizes vars)) e).1,vI (nodeT (refN p.en (knB p.Sizes vars)) e).2]):=by
 refine zR Tryz.func162 O Tryz.ntmps162 Tryz.results162 O ?_
 intro z hz
 obtain ⟨hLl,hIl,hAl⟩:=e.parts he
 have hwt:=Ex.wt_eq e
 have hz0:=hP.sizes
 refine G O<|zS O O (qG O O) ?_
 rintro _ _ ⟨b1,rfl,rfl⟩
 refine zS O O (qG O O) ?_
 rintro _ _ ⟨b2,rfl,rfl⟩
 refine zS O O (yB O zr37) ?_
 rintro _ _ ⟨b3,rfl,rfl⟩
 refine Y O<|W<|G O<|Y O<|qV _ (yH 37 5)<|W<|zG<|G O<|Y O<|W<|zN<|zU ⟨[(9,.c _),(8,.c _),(1,.c _),(3,.c _),(5,.c _),(6,.c _)],[_,_,_,_]⟩ (Weak.mk [true,true,true,true] ⟨U,U,U,U,U,U,T⟩ O)<|qA 2 1 O O (Nat×Value) (fun ⟨k,sv⟩=>[(9,vI k),(8,.c (.lit sv))]) (fun ⟨k,sv⟩=>[E.vec sv 37 5 ((nodeL (refN p.en (knB p.Sizes vars)) (e.Args.take k)).1.map tyC)]) (fun ⟨k,sv⟩=>k<=e.Args.length/\((nodeL (refN p.en (knB p.Sizes vars)) (e.Args.take k)).2=0)) (fun ⟨k,sv⟩=>e.Args.length-k) ⟨⟨0,(.slice none 0 0)⟩,⟨by omega,O⟩,Weak.mk [true,true,true,true] ⟨U,U,U,U,U,U,T⟩ O⟩ ?_
 rintro ⟨k,sv⟩ ⟨hk,hp⟩
 show AWP _ _ _ _ _ ⟨[(9,vI k),(8,.c (.lit sv))]++_,[E.vec sv 37 5 ((nodeL (refN p.en (knB p.Sizes vars)) (e.Args.take k)).1.map tyC)]++_⟩
 refine zG<|G O<|Y O<|zD O kG<|zH wS (J 2 O) O<|zV O el42<|qW O<|W<|zE O (fun c1=>?_) (fun c1=>?_)
 ·try simp only [sx] at c1
  obtain ⟨x,hx⟩:=qP e.Args k (by omega)
  have hll:=zFz _ _ hp
  refine zI<|zG<|zN<|zG<|wO 13 1 [⟨0,.q [4]⟩,⟨1,.q []⟩,⟨2,.q []⟩,⟨3,.q [3]⟩,⟨4,.q []⟩,⟨5,.q []⟩,⟨6,.q []⟩,⟨7,.q []⟩,⟨8,.q []⟩,⟨9,.q []⟩,⟨10,.q []⟩,⟨11,.e 0 []⟩,⟨12,.e 0 []⟩] mixed (by kernel_rfl) (by kernel_rfl) O O O<|qL O<|qL O<|qL O<|qL O<|qL O<|qL O<|qL O<|qL O<|qL O<|qL O<|qL O<|qL O<|qL O<|zFl<|qT O (by decide) O O (zT O wC O (J 0 O) O)<|qT O (by decide) O O (zQ O O)<|qT O (by decide) O O (zF O kG O)<|qT O (by decide) O O (zK O wS O (J 0 O) O)<|qT O (by decide) O O (zQ O O)<|qT O (by decide) O O (qJ O el42 O O (by omega) (zBr (by assumption)))<|qT O (by decide) O O (zT O qZ O zY O)<|qT O (by decide) O O (qH O ok162 (ih x (zW hx) (zOi hpart (zW hx)) (by have:=Ex.arg_wt (zW hx);omega)) ⟨U,O,U,O,U,O,T⟩)<|qT O (by decide) O O (yE O O)<|qT O (by decide) O O (kA O O O)<|qT O (by decide) O O (yP O O O)<|sq_op O O (by decide) O O (yB O zr37) ?_
  rintro _ _ ⟨b5,rfl,rfl⟩
  refine ⟨_,O,?_⟩
  refine sq_op0 O O (by decide) O O (kU O sz37 O O O (zHi 0 O O)) ?_
  rintro _ _ ⟨rfl,rfl⟩
  refine ⟨_,O,?_⟩
  refine zFh O<|Y O<|W<|zG<|G O<|Y O<|yR O<|W<|zE O (fun c2=>?_) (fun c2=>?_)
  ·try simp only [sx] at c2
   refine G O<|yW O zr37 pl37<|Y O<|N 2 sz37 O<|Y O<|W<|zJ<|fin2 (qF yD O (J 2 O) O) (v O) ?_
   rw [nodeT_no hx hp c2];rfl
  ·try simp only [sx] at c2
   refine zI<|zO O<|Y O<|zL yD (J 0 O) O<|qX O zCy zr37<|zS O O (qO 1 O zCy O O O (by simp only [List.length_map,List.length_cons,List.length_nil,hll,List.length_take];omega) (by simp only [List.length_map,List.length_cons,List.length_nil,hll,List.length_take];omega)) ?_
   rintro _ _ ⟨sv6,rfl,rfl⟩
   refine Y O<|W<|zO O<|Y O<|qB O ⟨by omega,by omega⟩<|Y O<|W ?_
   refine ⟨⟨k+1,sv6⟩,⟨by omega,by rw [zGu hx hp c2]⟩,(by show e.Args.length-(k+1)<e.Args.length-k;omega),Weak.mk [false,true,true,true,true] ⟨U,U,U,U,U,U,T⟩ (by show _=[E.vec sv6 _ 5 ((nodeL (refN p.en (knB p.Sizes vars)) (e.Args.take (k+1))).1.map tyC)]++_;rw [zGu hx hp c2];simp only [List.map_append];rfl)⟩
 ·try simp only [sx] at c1
  have hll:=zFz _ _ hp
  have hta:e.Args.take k=e.Args:=qS (by omega)
  rw [hta] at hll
  have hg:∀i,i<e.Args.length->((nodeL (refN p.en (knB p.Sizes vars)) (e.Args.take k)).1.map tyC)[i]? =some (tyC (tyAt (nodeL (refN p.en (knB p.Sizes vars)) (e.Args.take k)).1 i)):=fun i hi=>tyAt_get (by rw [hta];omega)
  have hT:nodeT (refN p.en (knB p.Sizes vars)) e=(refN p.en (knB p.Sizes vars)) e (nodeL (refN p.en (knB p.Sizes vars)) (e.Args.take k)).1:=nodeT_ok hta hp
  have hlk:(nodeL (refN p.en (knB p.Sizes vars)) (e.Args.take k)).1.length=e.Args.length:=by rw [hta];exact hll
  refine qE<|zG<|zN<|G O<|zD O yY<|zH one3 (J 2 O) O<|yG O<|Y O<|rL0 O (fun g9_3=>zF O yY O) O<|rL1 43 O (fun g9_3=>zK O one3 O (J 2 O) O) O<|rL1 44 O (fun g9_3=>yL O O O) O<|r_or O (fun h=>(lzf h))<|Y O<|W<|zE O (fun c3=>?_) (fun c3=>?_)
  ·try simp only [sx] at c3
   refine G O<|zD O zEm<|zL yD (J 2 O) O<|N 1 sz37 O<|Y O<|W<|zJ<|fin2 (qF yD O (J 1 O) O) (v O) ?_
   exact by rw [hT,refN_1 c3];rfl
  ·try simp only [sx] at c3
   refine G O<|zD O yY<|zH one3 (J 2 O) O<|yG O<|Y O<|W<|zE O (fun c4=>?_) (fun c4=>?_)
   ·try simp only [sx] at c4
    refine G O<|yW O zr37 pl37<|zL wC (J 3 O) O<|Y O<|zD O zCo<|zL kF (J 2 O) O<|qX O el65 zr40<|qK O ok215 (zOc p vars [e.Lin] hz0 hv (by simp) (fun x hx=>by rw [List.mem_singleton.1 hx];omega)) ⟨U,O,U,O,U,O,T⟩<|N 1 sz37 O<|Y O<|W<|zJ<|fin2 (qF yD O (J 1 O) O) (v O) ?_
    exact by rw [hT,refN_2 c4];rfl
   ·try simp only [sx] at c4
    refine G O<|zD O yY<|zH one3 (J 2 O) O<|yG O<|Y O<|W<|zE O (fun c5=>?_) (fun c5=>?_)
    ·try simp only [sx] at c5
     refine G O<|zL wC (J 3 O) O<|Y O<|zL qZ (J 2 O) O<|qK O ok216 (ref17_read p vars e hP hv he) ⟨U,O,U,O,U,O,T⟩<|zX O (kA O O O)<|zX O (yP O O O)<|N 1 sz37 O<|Y O<|W<|zJ<|fin2 (qF yD O (J 1 O) O) (v O) ?_
     exact by rw [hT,refN_3 c5];rfl
    ·try simp only [sx] at c5
     refine G O<|zD O yY<|zH one3 (J 2 O) O<|yG O<|Y O<|W<|zE O (fun c6=>?_) (fun c6=>?_)
     ·try simp only [sx] at c6
      have hlen3:=args_len3 hpart c6
      refine zG<|zG<|qY 7 mixed (by kernel_rfl) O O<|zM O O (zQ O O)<|zM O O (qR 0 O zCy O O O (by omega) (by simp only [List.length_map];omega))<|zM O O (zT O yD O (kN 0 O (hg 1 (by omega))) O)<|zM O O (zQ O O)<|zM O O (qR 0 O zCy O O O (by omega) (by simp only [List.length_map];omega))<|zM O O (zT O yD O (kN 0 O (hg 2 (by omega))) O)<|zM O O (zBf O fl37 O O O)<|yT<|W<|zE O (fun c7=>?_) (fun c7=>?_)
      ·refine G O<|yW O zr37 pl37<|N 1 sz37 O<|Y O<|W<|zJ<|fin2 (qF yD O (J 1 O) O) (v O) ?_
       exact by rw [hT,refN_11' c6 (zIr c7)];rfl
      ·refine zI<|G O<|Y O<|zX O (qR 0 O zCy O O O (by omega) (by simp only [List.length_map];omega))<|zL yD (kN 0 O (hg 1 (by omega))) O<|N 1 sz37 O<|Y O<|W<|zJ<|fin2 (qF yD O (J 1 O) O) (v O) ?_
       exact by rw [hT,refN_11 c6 (zGq c7)];rfl
     ·try simp only [sx] at c6
      refine G O<|zD O yY<|zH one3 (J 2 O) O<|yG O<|Y O<|W<|zE O (fun c8=>?_) (fun c8=>?_)
      ·try simp only [sx] at c8
       have hlen1:=args_len hpart (by omega)
       refine G O<|Y O<|zX O (qR 0 O zCy O O O (by omega) (by simp only [List.length_map];omega))<|zL yD (kN 0 O (hg 0 (by omega))) O<|N 1 sz37 O<|Y O<|W<|zJ<|fin2 (qF yD O (J 1 O) O) (v O) ?_
       exact by rw [hT,refN_8 c8];rfl
      ·try simp only [sx] at c8
       refine G O<|zD O yY<|zH one3 (J 2 O) O<|zX O (kX O O O)<|Y O<|W<|zE O (fun c9=>?_) (fun c9=>?_)
       ·try simp only [sx] at c9
        refine G O<|yW O zr37 pl37<|N 1 sz37 O<|Y O<|W<|zJ<|fin2 (qF yD O (J 1 O) O) (v O) ?_
        exact by rw [hT,refN_16 c9];rfl
       ·try simp only [sx] at c9
        have hlen2:=zGo hpart (by omega)
        refine zI<|zG<|zG<|qY 7 mixed (by kernel_rfl) O O<|zM O O (zQ O O)<|zM O O (qR 0 O zCy O O O (by omega) (by simp only [List.length_map];omega))<|zM O O (zT O yD O (kN 0 O (hg 0 (by omega))) O)<|zM O O (zQ O O)<|zM O O (qR 0 O zCy O O O (by omega) (by simp only [List.length_map];omega))<|zM O O (zT O yD O (kN 0 O (hg 1 (by omega))) O)<|zM O O (zBf O fl37 O O O)<|yT<|W<|zE O (fun c10=>?_) (fun c10=>?_)
        ·refine G O<|yW O zr37 pl37<|N 1 sz37 O<|Y O<|W<|zJ<|fin2 (qF yD O (J 1 O) O) (v O) ?_
         exact by rw [hT,refN_no (by omega) (zIr c10)];rfl
        ·refine zI<|zG<|G O<|zD O yY<|zH one3 (J 2 O) O<|zX O (kX O O O)<|W<|zE O (fun c11=>?_) (fun c11=>?_)
         ·try simp only [sx] at c11
          refine G O<|yW O zr37 pl37<|N 1 sz37 O<|Y O<|W<|zJ<|fin2 (qF yD O (J 1 O) O) (v O) ?_
          exact by rw [hT,refN_13 (by omega) (zGq c10) c11];rfl
         ·try simp only [sx] at c11
          refine zI<|G O<|Y O<|zX O (qR 0 O zCy O O O (by omega) (by simp only [List.length_map];omega))<|zL yD (kN 0 O (hg 0 (by omega))) O<|N 1 sz37 O<|Y O<|W<|zJ<|fin2 (qF yD O (J 1 O) O) (v O) ?_
          exact by rw [hT,refN_o (by omega) (zGq c10)];rfl
theorem ref17_node (p:Pg) (vars:List ByteArray) (e:Ex) (hP:p.Ok) (hv:vars.length<=4294967296) (hpart:partE e=0) (he:e.wt<=4294967296):Pur cfg 162 [vPg p,vSs vars,vE e] (.tup [vTy (nodeT (refN p.en (knB p.Sizes vars)) e).1,vI (nodeT (refN p.en (knB p.Sizes vars)) e).2]):=by
  induction e using Ex.ind with
  |_ e ih=>exact zOb p vars hP hv e (fun a ha h1 h2=>ih a ha h1 h2) hpart he
theorem ref17_TypeOf (p:Pg) (vars:List ByteArray) (e:Ex) (hP:p.Ok) (hv:vars.length<=4294967296) (he:e.wt<=4294967296):
    Pur cfg 96 [vPg p,vSs vars,vE e] (.tup [vTy (typeR p.en vars e).1,vI (typeR p.en vars e).2]):=by
 refine zR Tryz.func96 O Tryz.ntmps96 Tryz.results96 O ?_
 intro z hz
 refine G O<|zS O O (qG O O) ?_
 rintro _ _ ⟨b1,rfl,rfl⟩
 refine zS O O (qG O O) ?_
 rintro _ _ ⟨b2,rfl,rfl⟩
 refine zS O O (yB O zr37) ?_
 rintro _ _ ⟨b3,rfl,rfl⟩
 refine Y O<|W<|zG<|G O<|zL qZ (J 1 O) O<|qK O ok160 (ref14_Validate e (by omega)) ⟨U,O,T⟩<|Y O<|W<|G O<|Y O<|yR O<|W<|zE O (fun c1=>?_) (fun c1=>?_)
 ·try simp only [sx] at c1
  refine G O<|yW O zr37 pl37<|Y O<|N 0 sz37 O<|Y O<|W<|zJ<|fin2 (qF yD O (J 0 O) O) (v O) ?_
  rw [typeR_bad c1];rfl
 ·try simp only [sx] at c1
  refine zI<|zG<|G O<|zL qZ (J 1 O) O<|qK O ok161 (zAa e) ⟨U,O,T⟩<|W<|zE O (fun c2=>?_) (fun c2=>?_)
  ·try simp only [sx] at c2
   refine G O<|yW O zr37 pl37<|N 0 sz37 O<|Y O<|W<|zJ<|fin2 (qF yD O (J 0 O) O) (v O) ?_
   rw [typeR_cond c1 c2];rfl
  ·try simp only [sx] at c2
   have hTo:=typeR_of (n:=p.en) (vars:=vars) c1 c2
   refine zI<|G O<|zL wC (J 2 O) O<|Y O<|zL qZ (J 1 O) O<|qK O ok162 (ref17_node p vars e hP hv (zBy c1) he) ⟨U,O,U,O,U,O,T⟩<|zX O (yE O O)<|zX O (kA O O O)<|zX O (yP O O O)<|zS O O (yB O zr37) ?_
   rintro _ _ ⟨b4,rfl,rfl⟩
   refine N 0 sz37 O<|Y O<|W<|zG<|G O<|Y O<|yR O<|W<|zE O (fun c3=>?_) (fun c3=>?_)
   ·try simp only [sx] at c3
    refine G O<|yW O zr37 pl37<|Y O<|N 1 sz37 O<|Y O<|W<|zJ<|fin2 (qF yD O (J 1 O) O) (v O) ?_
    rw [hTo,if_neg (show ¬(nodeT (refN p.en (knB p.en.sz vars)) e).2=0 from c3)];rfl
   ·try simp only [sx] at c3
    refine zI<|G O<|zL yD (J 0 O) O<|N 1 sz37 O<|Y O<|W<|zJ<|fin2 (qF yD O (J 1 O) O) (v O) ?_
    rw [hTo,if_pos (show (nodeT (refN p.en (knB p.en.sz vars)) e).2=0 from c3)];rfl
end Go.W
