/-
  Walks: what functions of the program compute. Printed by wip/gen/mk2.py.
  Conditions: none.
-/
import Derived.Test.YtkijgodlhljgdaaGreatDoorWN
import Derived.Test.YtkijgodlhljgdaaGreatDoorEngZ
set_option linter.unusedSimpArgs false
set_option linter.unusedVariables false
set_option maxRecDepth 10000
namespace Go.W
open Go Go.Eng Go.Proofs Go.L41 Go.Br
attribute [local irreducible] AWP RWP TD finQ
theorem ok57:callOk Tryz.prog 57=true:=by kernel_rfl
theorem ok88:callOk Tryz.prog 88=true:=by kernel_rfl
theorem ok116:callOk Tryz.prog 116=true:=by kernel_rfl
theorem ok166:callOk Tryz.prog 166=true:=by kernel_rfl
theorem ok167:callOk Tryz.prog 167=true:=by kernel_rfl
theorem zJo (p:Pg) (s:ByteArray) (hP:p.Ok):
    Pur cfg 57 [vPg p,vS s] (.tup [vTy (p.en.find s).ty,vLins (p.en.find s).dims,vB (p.en.find s).ok]):=by
 refine zT Tryz.func57 O Tryz.ntmps57 Tryz.results57 O ?_
 intro z hz
 have hpl:=hP.params
 have hpd:=hP.defs
 refine B O<|zZ O O (qI O O) ?_
 rintro _ _ ⟨b1,rfl,rfl⟩
 refine zZ O O (yB O zr31) ?_
 rintro _ _ ⟨b2,rfl,rfl⟩
 refine zX O (yU 2 O O)<|G O<|U<|zI<|B O<|G O<|U<|zP<|zU ⟨[(7,.c _),(1,.c _),(2,.c _),(4,.c _)],[_,_]⟩ (Weak.mk [true,true] ⟨Y,Y,Y,Y,T⟩ O)<|qF 1 0 O O (Nat) (fun k=>[(7,vI k)]) (fun k=>[]) (fun k=>k<=p.Params.length/\(findP s p.Defs p.Params=findP s p.Defs (p.Params.drop k))) (fun k=>p.Params.length-k) ⟨0,⟨by omega,O⟩,Weak.mk [true,true] ⟨Y,Y,Y,Y,T⟩ O⟩ ?_
 rintro k ⟨hk,hp⟩
 refine zI<|B O<|G O<|zG O wN<|zK zCk (J 1 O) O<|zY O el24<|yA O<|U<|zE O (fun c1=>?_) (fun c1=>?_)
 ·try simp only [W] at c1
  obtain ⟨x,hx⟩:=qQ p.Params k (by omega)
  refine zJ<|zI<|zP<|B O<|zG O wN<|zK zCk (J 1 O) O<|G O<|qE O el24 (by omega) (getm (by assumption))<|zX O (qL O zNp O)<|zK one9 qB O<|G O<|zX O (yL O O O)<|U<|zE O (fun c2=>?_) (fun c2=>?_)
  ·try simp only [W] at c2
   refine zI<|yH 13 0 [⟨0,.q []⟩,⟨1,.q [1]⟩,⟨2,.q []⟩,⟨3,.q []⟩,⟨4,.q []⟩,⟨5,.q []⟩,⟨6,.q []⟩,⟨7,.q [1]⟩,⟨8,.q []⟩,⟨9,.q []⟩,⟨10,.q []⟩,⟨11,.q []⟩,⟨12,.e 0 []⟩] mixed (by kernel_rfl) (by kernel_rfl) O O O<|zO O<|zO O<|zO O<|zO O<|zO O<|zO O<|zO O<|zO O<|zO O<|zO O<|zO O<|zO O<|zO O<|wM<|zW O (by decide) O O (zD O wN O)<|zW O (by decide) O O (zF O zCk O (J 0 O) O)<|zW O (by decide) O O (zR O O)<|zW O (by decide) O O (qA O el24 O O (by omega) (getm (by assumption)))<|zW O (by decide) O O (qL O fd65_1 O)<|zW O (by decide) O O (zN O qZ O qB O)<|zW O (by decide) O O (zD O wN O)<|zW O (by decide) O O (zF O zCk O (J 0 O) O)<|zW O (by decide) O O (zR O O)<|zW O (by decide) O O (qA O el24 O O (by omega) (getm (by assumption)))<|zW O (by decide) O O (qL O zEm O)<|zW O (by decide) O O (zF O zBa O qB O)<|zIc O O (by decide) O O (kW O sz31 O O O (zEe 0 O O)) ?_
   rintro _ _ ⟨rfl,rfl⟩
   refine ⟨_,O,?_⟩
   refine wJ O<|G O<|G O<|U<|zH<|fin3 (zV qZ O (J 0 O) O) (v O) (v O) ?_
   rw [En.find,show p.en.pm=p.Params from rfl,show p.en.df=p.Defs from rfl,hp,find_at hx c2];rfl
  ·try simp only [W] at c2
   refine zJ<|zS O<|G O<|qJ O ⟨by omega,by omega⟩<|G O<|U ?_
   refine ⟨k+1,⟨by omega,hp.trans (find_next hx c2)⟩,(by omega),Weak.mk [true,true] ⟨Y,Y,Y,Y,T⟩ O⟩
 ·try simp only [W] at c1
  have hF:p.en.find s=findD s p.Defs:=by rw [En.find,show p.en.pm=p.Params from rfl,show p.en.df=p.Defs from rfl,hp,wC (by omega)];rfl
  refine qO<|zI<|B O<|G O<|U<|zP<|zU ⟨[(8,.c _),(1,.c _),(2,.c _),(4,.c _)],[_,_]⟩ (Weak.mk [true,true] ⟨Y,Y,Y,Y,T⟩ O)<|qF 1 0 O O (Nat) (fun k=>[(8,vI k)]) (fun k=>[]) (fun k=>k<=p.Defs.length/\(findD s p.Defs=findD s (p.Defs.drop k))) (fun k=>p.Defs.length-k) ⟨0,⟨by omega,O⟩,Weak.mk [true,true] ⟨Y,Y,Y,Y,T⟩ O⟩ ?_
  rintro k ⟨hk,hq⟩
  refine zI<|B O<|G O<|zG O kE<|zK wX (J 1 O) O<|zY O el25<|yA O<|U<|zE O (fun c3=>?_) (fun c3=>?_)
  ·try simp only [W] at c3
   obtain ⟨d,hd⟩:=qQ p.Defs k (by omega)
   refine zJ<|zI<|zP<|B O<|zG O kE<|zK wX (J 1 O) O<|G O<|qE O el25 (by omega) (getm (by assumption))<|zX O (qL O zEn O)<|zK one9 qB O<|G O<|zX O (yL O O O)<|U<|zE O (fun c4=>?_) (fun c4=>?_)
   ·try simp only [W] at c4
    have hdd:=(hP.ds d (qD hd)).1
    refine B O<|G O<|yY _ (kM 34 2)<|U<|zI<|B O<|G O<|U<|zP<|zU ⟨[(10,.c _),(9,.c _),(2,.c _),(4,.c _),(8,.c _)],[_,_,_]⟩ (Weak.mk [true,true,true] ⟨Y,Y,Y,Y,Y,T⟩ O)<|qF 2 1 O O (Nat×Value) (fun ⟨j,sv⟩=>[(10,vI j),(9,.c (.lit sv))]) (fun ⟨j,sv⟩=>[E.vec sv 34 2 ((d.Dims.take j).map fun a=>a.Size.cells)]) (fun ⟨j,sv⟩=>j<=d.Dims.length) (fun ⟨j,sv⟩=>d.Dims.length-j) ⟨⟨0,(.slice none 0 0)⟩,(by omega),Weak.mk [true,true,true] ⟨Y,Y,Y,Y,Y,T⟩ O⟩ ?_
    rintro ⟨j,sv⟩ hj
    show AWP _ _ _ _ _ ⟨[(10,vI j),(9,.c (.lit sv))]++_,[E.vec sv 34 2 ((d.Dims.take j).map fun a=>a.Size.cells)]++_⟩
    refine zI<|B O<|G O<|zG O kE<|zK wX (J 2 O) O<|G O<|qE O el25 (by omega) (getm (by assumption))<|zX O (qL O zAv O)<|zK wK qB O<|zY O el57<|yA O<|U<|zE O (fun c5=>?_) (fun c5=>?_)
    ·try simp only [W] at c5
     obtain ⟨a,ha⟩:=qQ d.Dims j (by omega)
     refine zJ<|zI<|zP<|zS O<|G O<|zG O kE<|zK wX (J 2 O) O<|G O<|qE O el25 (by omega) (getm (by assumption))<|zX O (qL O zAv O)<|zK wK qB O<|G O<|qE O el57 (by omega) (getm (by assumption))<|zX O (qL O zHp O)<|zL kK qB O<|yE O el63 zr34<|zZ O O (qY 0 O el63 O O O (by simp only [List.length_take,List.length_map,List.length_cons,List.length_nil];omega) (by simp only [List.length_take,List.length_map,List.length_cons,List.length_nil];omega)) ?_
     rintro _ _ ⟨sv4,rfl,rfl⟩
     refine G O<|U<|zS O<|G O<|qJ O ⟨by omega,by omega⟩<|G O<|U ?_
     refine ⟨⟨j+1,sv4⟩,(by omega),(by show d.Dims.length-(j+1)<d.Dims.length-j;omega),Weak.mk [true,true,true] ⟨Y,Y,Y,Y,Y,T⟩ (by show _=[E.vec sv4 _ 2 ((d.Dims.take (j+1)).map fun a=>a.Size.cells)]++_;rw [qR ha,List.map_append (f:=fun a:Ax=>a.Size.cells)];rfl)⟩
    ·try simp only [W] at c5
     refine qO<|B O<|zG O kE<|zK wX (J 2 O) O<|G O<|qE O el25 (by omega) (getm (by assumption))<|zX O (qL O zIo O)<|zL qZ qB O<|G O<|N 1 sz31 O<|G O<|G O<|U<|zU _ (kJ 0 O (regs':=[(9,_),(83,_),(5,_)]) (μ':=[_,_]) ⟨FLe.sl,FLe.sl,FLe.sl,T⟩ ⟨EFle.refl _,EFle.refl _,T⟩)<|zH<|fin3 (zV qZ O (J 0 O) O) (v O) (v O) ?_
     rw [hF,hq,findD_at hd c4,qX (l:=d.Dims) (k:=j) (by omega)];simp only [vLins,List.map_map];rfl
   ·try simp only [W] at c4
    refine zJ<|zS O<|G O<|qJ O ⟨by omega,by omega⟩<|G O<|U ?_
    refine ⟨k+1,⟨by omega,hq.trans (findD_next hd c4)⟩,(by omega),Weak.mk [true,true] ⟨Y,Y,Y,Y,T⟩ O⟩
  ·try simp only [W] at c3
   refine qO<|B O<|yV O zr31 pl31<|N 0 sz31 O<|zX O (yU 2 O O)<|G O<|U<|zH<|fin3 (zV qZ O (J 0 O) O) (v O) (v O) ?_
   rw [hF,hq,wC (l:=p.Defs) (by omega)];rfl
theorem zLb (d:Df) (hD:d.Dims.length<=1073741824) (hR:d.Red.length<=1073741824):
    OwnR cfg 120 [vDf d] 9 1 ((namesD d).map fun s=>[cS s]):=by
 refine zT Tryz.func120 O Tryz.ntmps120 Tryz.results120 O ?_
 intro z hz
 refine B O<|zZ O O (qI O O) ?_
 rintro _ _ ⟨b1,rfl,rfl⟩
 refine zX O (yU 1 O O)<|U<|B O<|G O<|yY _ (kM 9 1)<|U<|zI<|B O<|G O<|U<|zP<|zU ⟨[(4,.c _),(3,.c _),(1,.c _)],[_,_]⟩ (Weak.mk [true,true] ⟨Y,Y,Y,T⟩ O)<|qF 2 1 O O (Nat×Value) (fun ⟨k,sv⟩=>[(4,vI k),(3,.c (.lit sv))]) (fun ⟨k,sv⟩=>[E.vec sv 9 1 ((d.Dims.take k).map fun a=>[cS a.Name])]) (fun ⟨k,sv⟩=>k<=d.Dims.length) (fun ⟨k,sv⟩=>d.Dims.length-k) ⟨⟨0,(.slice none 0 0)⟩,(by omega),Weak.mk [true,true] ⟨Y,Y,Y,T⟩ O⟩ ?_
 rintro ⟨k,sv⟩ hk
 show AWP _ _ _ _ _ ⟨[(4,vI k),(3,.c (.lit sv))]++_,[E.vec sv 9 1 ((d.Dims.take k).map fun a=>[cS a.Name])]++_⟩
 refine zI<|B O<|G O<|zG O zAv<|zK wK (J 1 O) O<|zY O el57<|yA O<|U<|zE O (fun c1=>?_) (fun c1=>?_)
 ·try simp only [W] at c1
  obtain ⟨x,hx⟩:=qQ d.Dims k (by omega)
  refine zJ<|zI<|zP<|zS O<|G O<|zG O zAv<|zK wK (J 1 O) O<|G O<|qE O el57 (by omega) (getm (by assumption))<|zX O (qL O zCo O)<|zK one9 qB O<|yE O el22 zr9<|zZ O O (qY 0 O el22 O O O (by simp only [List.length_append,List.length_take,List.length_map,List.length_cons,List.length_nil];omega) (by simp only [List.length_append,List.length_take,List.length_map,List.length_cons,List.length_nil];omega)) ?_
  rintro _ _ ⟨sv3,rfl,rfl⟩
  refine G O<|U<|zS O<|G O<|qJ O ⟨by omega,by omega⟩<|G O<|U ?_
  refine ⟨⟨k+1,sv3⟩,(by omega),(by show d.Dims.length-(k+1)<d.Dims.length-k;omega),Weak.mk [true,true] ⟨Y,Y,Y,T⟩ (by show _=[E.vec sv3 _ 1 ((d.Dims.take (k+1)).map fun a=>[cS a.Name])]++_;rw [qR hx,List.map_append (f:=fun a:Ax=>[cS a.Name])];rfl)⟩
 ·try simp only [W] at c1
  refine qO<|zI<|B O<|G O<|U<|zP<|zU ⟨[(5,.c _),(3,.c _),(1,.c _)],[_,_]⟩ (Weak.mk [true,true] ⟨Y,Y,Y,T⟩ O)<|qF 2 1 O O (Nat×Value) (fun ⟨k,sw⟩=>[(5,vI k),(3,.c (.lit sw))]) (fun ⟨k,sw⟩=>[E.vec sw 9 1 ((d.Dims.map fun a=>[cS a.Name])++(d.Red.take k).map fun a=>[cS a.Name])]) (fun ⟨k,sw⟩=>k<=d.Red.length) (fun ⟨k,sw⟩=>d.Red.length-k) ⟨⟨0,sv⟩,(by omega),Weak.mk [true,true] ⟨Y,Y,Y,T⟩ (by show _=[E.vec sv _ 1 ((d.Dims.map fun a=>[cS a.Name])++[])]++_;rw [qX (l:=d.Dims) (by omega),List.append_nil];rfl)⟩ ?_
  rintro ⟨k,sw⟩ hk2
  show AWP _ _ _ _ _ ⟨[(5,vI k),(3,.c (.lit sw))]++_,[E.vec sw 9 1 ((d.Dims.map fun a=>[cS a.Name])++(d.Red.take k).map fun a=>[cS a.Name])]++_⟩
  refine zI<|B O<|G O<|zG O zAm<|zK wK (J 1 O) O<|zY O el57<|yA O<|U<|zE O (fun c2=>?_) (fun c2=>?_)
  ·try simp only [W] at c2
   obtain ⟨x,hx⟩:=qQ d.Red k (by omega)
   refine zJ<|zI<|zP<|zS O<|G O<|zG O zAm<|zK wK (J 1 O) O<|G O<|qE O el57 (by omega) (getm (by assumption))<|zX O (qL O zCo O)<|zK one9 qB O<|yE O el22 zr9<|zZ O O (qY 0 O el22 O O O (by simp only [List.length_append,List.length_take,List.length_map,List.length_cons,List.length_nil];omega) (by simp only [List.length_append,List.length_take,List.length_map,List.length_cons,List.length_nil];omega)) ?_
   rintro _ _ ⟨sv4,rfl,rfl⟩
   refine G O<|U<|zS O<|G O<|qJ O ⟨by omega,by omega⟩<|G O<|U ?_
   refine ⟨⟨k+1,sv4⟩,(by omega),(by show d.Red.length-(k+1)<d.Red.length-k;omega),Weak.mk [true,true] ⟨Y,Y,Y,T⟩ (by show _=[E.vec sv4 _ 1 ((d.Dims.map fun a=>[cS a.Name])++(d.Red.take (k+1)).map fun a=>[cS a.Name])]++_;rw [qR hx,List.map_append (f:=fun a:Ax=>[cS a.Name]),←List.append_assoc];rfl)⟩
  ·try simp only [W] at c2
   refine qO<|B O<|G O<|G O<|U<|zU _ (Weak.mem [true,false] O)<|zH<|zQ O ?_
   exact ⟨_,O,by rw [qX (l:=d.Red) (by omega),←List.map_append (f:=fun a:Ax=>[cS a.Name]),names_rows];rfl⟩
theorem zMt (p:Pg) (vars:List ByteArray) (l:List Lf) (hz0:p.Sizes.length<=4294967296) (hv:vars.length<=4294967296) (hl0:l.length<=4294967296) (hx0:∀x,x∈l->x.L.length<=5864062014805):
    Pur cfg 166 [vPg p,vSs vars,vLins l] (vI (formsK (knB p.Sizes vars) l)):=by
 refine zT Tryz.func166 O Tryz.ntmps166 Tryz.results166 O ?_
 intro z hz
 refine B O<|zZ O O (qI O O) ?_
 rintro _ _ ⟨b1,rfl,rfl⟩
 refine G O<|U<|zI<|B O<|G O<|U<|zP<|zU ⟨[(7,.c _),(1,.c _),(2,.c _),(3,.c _)],[_]⟩ (Weak.mk [true] ⟨Y,Y,Y,Y,T⟩ O)<|qF 1 0 O O (Nat) (fun k=>[(7,vI k)]) (fun k=>[]) (fun k=>k<=l.length/\((l.take k).all (fun x=>knL (knB p.Sizes vars) x.L)=true)) (fun k=>l.length-k) ⟨0,⟨by omega,O⟩,Weak.mk [true] ⟨Y,Y,Y,Y,T⟩ O⟩ ?_
 rintro k ⟨hk,hp⟩
 refine zI<|B O<|G O<|G O<|zY O el63<|yA O<|U<|zE O (fun c1=>?_) (fun c1=>?_)
 ·try simp only [W] at c1
  obtain ⟨x,hx⟩:=qQ l k (by omega)
  refine zJ<|zI<|zP<|zI<|qT 9 mixed (by kernel_rfl) O O<|zM O O (zR O O)<|zM O O (zR O O)<|zM O O (qA O el63 O O (by omega) (getm (by assumption)))<|zM O O (zN O kK O qB O)<|zM O O (zR O O)<|zM O O (zD O zCm O)<|zM O O (zF O wY O (J 0 O) O)<|zM O O (qG O ok116 (zHi x vars p.Sizes (hx0 x (qD hx)) hv hz0) ⟨Y,O,Y,O,Y,O,T⟩)<|zM O O (wA O O)<|yM<|U<|zE O (fun c2=>?_) (fun c2=>?_)
  ·try simp only [W] at c2
   refine B O<|G O<|U<|zH<|zQ O ?_
   rw [formsK_no' hx c2]
  ·try simp only [W] at c2
   refine zJ<|zS O<|G O<|qJ O ⟨by omega,by omega⟩<|G O<|U ?_
   refine ⟨k+1,⟨by omega,formsK_next' hx hp c2⟩,(by omega),Weak.mk [true] ⟨Y,Y,Y,Y,T⟩ O⟩
 ·try simp only [W] at c1
  refine qO<|B O<|G O<|U<|zH<|zQ O ?_
  rw [qX (by omega)] at hp;rw [formsK_ok hp]
theorem ref17_read (p:Pg) (vars:List ByteArray) (e:Ex) (hP:p.Ok) (hv:vars.length<=4294967296) (he:e.wt<=4294967296):
    Pur cfg 167 [vPg p,vSs vars,vE e] (.tup [vTy (readK p.en (knB p.Sizes vars) e).1,vI (readK p.en (knB p.Sizes vars) e).2]):=by
 refine zT Tryz.func167 O Tryz.ntmps167 Tryz.results167 O ?_
 intro z hz
 obtain ⟨hLl,hIl,hAl⟩:=e.parts he
 have hwt:=Ex.wt_eq e
 have hz0:=hP.sizes
 refine B O<|zZ O O (qI O O) ?_
 rintro _ _ ⟨b1,rfl,rfl⟩
 refine zZ O O (qI O O) ?_
 rintro _ _ ⟨b2,rfl,rfl⟩
 refine zZ O O (yB O zr31) ?_
 rintro _ _ ⟨b3,rfl,rfl⟩
 refine G O<|U<|B O<|zL kO (J 2 O) O<|zG O zBw<|zK one9 (J 1 O) O<|qK O ok57 (zJo p e.Name hP) ⟨Y,O,Y,O,T⟩<|zX O (qV O O)<|zX O (yJ O O O)<|zX O (yI O O O)<|zX O (yI O O O)<|zZ O O (yB O zr31) ?_
 rintro _ _ ⟨b4,rfl,rfl⟩
 refine N 0 sz31 O<|G O<|G O<|U<|zI<|B O<|G O<|wB O<|U<|zE O (fun c1=>?_) (fun c1=>?_)
 ·try simp only [W] at c1
  refine B O<|yV O zr31 pl31<|N 1 sz31 O<|G O<|U<|zH<|fin2 (zV qZ O (J 1 O) O) (v O) ?_
  rw [readK_9 c1];rfl
 ·try simp only [W] at c1
  refine zJ<|zI<|B O<|G O<|zY O el63<|zG O kL<|zK zAd (J 2 O) O<|zY O el35<|yN O<|U<|zE O (fun c2=>?_) (fun c2=>?_)
  ·try simp only [W] at c2
   refine B O<|yV O zr31 pl31<|N 1 sz31 O<|G O<|U<|zH<|fin2 (zV qZ O (J 1 O) O) (v O) ?_
   rw [readK_11 c1 (by omega)];rfl
  ·try simp only [W] at c2
   refine zJ<|zI<|B O<|G O<|U<|zP<|zU ⟨[(11,.c _),(1,.c _),(3,.c _),(5,.c _),(6,.c _),(8,.c _)],[_,_,_,_]⟩ (Weak.mk [true,true,true,true] ⟨Y,Y,Y,Y,Y,Y,T⟩ O)<|qF 1 0 O O (Nat) (fun k=>[(11,vI k)]) (fun k=>[]) (fun k=>k<=e.Idx.length/\(indexL p.en (knB p.Sizes vars) e.Idx=indexL p.en (knB p.Sizes vars) (e.Idx.drop k))) (fun k=>e.Idx.length-k) ⟨0,⟨by omega,O⟩,Weak.mk [true,true,true,true] ⟨Y,Y,Y,Y,Y,Y,T⟩ O⟩ ?_
   rintro k ⟨hk,hp⟩
   refine zI<|B O<|G O<|zG O kL<|zK zAd (J 2 O) O<|zY O el35<|yA O<|U<|zE O (fun c3=>?_) (fun c3=>?_)
   ·try simp only [W] at c3
    obtain ⟨x,hx⟩:=qQ e.Idx k (by omega)
    have hxw:=Ex.idx_wt (qD hx)
    refine zJ<|zI<|zP<|B O<|zG O kL<|zK zAd (J 2 O) O<|G O<|qE O el35 (by omega) (getm (by assumption))<|zL zJe qB O<|zZ O O (qH [none,some 2,none,some 2] O zr67 O) ?_
    rintro _ _ ⟨b5,rfl,rfl⟩
    refine N 0 sz67 O<|U<|zI<|B O<|zG O zDk<|zK one9 (J 0 O) O<|zX O (yL O O O)<|U<|zE O (fun c4=>?_) (fun c4=>?_)
    ·try simp only [W] at c4
     refine zI<|B O<|zG O zDv<|zL kK (J 0 O) O<|G O<|zG O zCm<|zK wY (J 4 O) O<|qK O ok116 (zHi x.Lin vars p.Sizes (by omega) hv hz0) ⟨Y,O,Y,O,Y,O,T⟩<|wB O<|U<|zE O (fun c5=>?_) (fun c5=>?_)
     ·try simp only [W] at c5
      refine B O<|yV O zr31 pl31<|N 2 sz31 O<|G O<|U<|zH<|fin2 (zV qZ O (J 2 O) O) (v O) ?_
      rw [zIh c1 (by omega) hp hx ((indexK_lin c4).trans (zGm c5)) (by decide)];rfl
     ·try simp only [W] at c5
      have hix:indexK p.en (knB p.Sizes vars) x=0:=by rw [indexK_lin c4,zLo c5]
      refine zJ<|qO<|zS O<|G O<|qJ O ⟨by omega,by omega⟩<|G O<|U ?_
      refine ⟨k+1,⟨by omega,hp.trans (zHn hx hix)⟩,(by omega),Weak.mk [false,true,true,true,true] ⟨Y,Y,Y,Y,Y,Y,T⟩ O⟩
    ·try simp only [W] at c4
     refine zJ<|B O<|zL kO (J 4 O) O<|zG O zDk<|zK one9 (J 0 O) O<|qK O ok57 (zJo p x.From hP) ⟨Y,O,Y,O,T⟩<|zX O (qV O O)<|zX O (yJ O O O)<|zX O (yI O O O)<|zX O (yI O O O)<|zZ O O (yB O zr31) ?_
     rintro _ _ ⟨b6,rfl,rfl⟩
     refine N 0 sz31 O<|G O<|G O<|U<|zI<|B O<|G O<|wB O<|U<|zE O (fun c6=>?_) (fun c6=>?_)
     ·try simp only [W] at c6
      refine B O<|yV O zr31 pl31<|N 3 sz31 O<|G O<|U<|zH<|fin2 (zV qZ O (J 3 O) O) (v O) ?_
      rw [zIh c1 (by omega) hp hx (indexK_9 c4 c6) (by decide)];rfl
     ·try simp only [W] at c6
      refine zJ<|zI<|B O<|zG O zBp<|zK one3 (J 0 O) O<|yN O<|U<|zE O (fun c7=>?_) (fun c7=>?_)
      ·try simp only [W] at c7
       refine B O<|yV O zr31 pl31<|N 3 sz31 O<|G O<|U<|zH<|fin2 (zV qZ O (J 3 O) O) (v O) ?_
       rw [zIh c1 (by omega) hp hx (indexK_10 c4 c6 c7) (by decide)];rfl
      ·try simp only [W] at c7
       refine zJ<|zI<|B O<|G O<|zY O el63<|zG O zAu<|zK zBa (J 1 O) O<|zY O el63<|yN O<|U<|zE O (fun c8=>?_) (fun c8=>?_)
       ·try simp only [W] at c8
        refine B O<|yV O zr31 pl31<|N 3 sz31 O<|G O<|U<|zH<|fin2 (zV qZ O (J 3 O) O) (v O) ?_
        rw [zIh c1 (by omega) hp hx (indexK_11 c4 c6 c7 (by omega)) (by decide)];rfl
       ·try simp only [W] at c8
        refine zJ<|B O<|zL kO (J 5 O) O<|G O<|zG O zAu<|zK zBa (J 1 O) O<|qK O ok166 (zMt p vars x.At hz0 hv (by omega) (fun l hl=>by have:=zBz hl;omega)) ⟨Y,O,Y,O,Y,O,T⟩<|G O<|U<|B O<|G O<|yN O<|U<|zE O (fun c9=>?_) (fun c9=>?_)
        ·try simp only [W] at c9
         refine B O<|yV O zr31 pl31<|G O<|N 3 sz31 O<|G O<|U<|zH<|fin2 (zV qZ O (J 3 O) O) (v O) ?_
         rw [zIh c1 (by omega) hp hx (indexK_at c4 c6 c7 (by omega)) c9];rfl
        ·try simp only [W] at c9
         have hix:indexK p.en (knB p.Sizes vars) x=0:=by rw [indexK_at c4 c6 c7 (by omega)];exact c9
         refine zJ<|zS O<|G O<|qJ O ⟨by omega,by omega⟩<|G O<|U ?_
         refine ⟨k+1,⟨by omega,hp.trans (zHn hx hix)⟩,(by omega),Weak.mk [false,false,true,true,true,true] ⟨Y,Y,Y,Y,Y,Y,T⟩ O⟩
   ·try simp only [W] at c3
    refine qO<|B O<|zL qZ (J 0 O) O<|N 1 sz31 O<|G O<|U<|zH<|fin2 (zV qZ O (J 1 O) O) (v O) ?_
    rw [readK_0 c1 (by omega) (by rw [hp,wC (by omega)];rfl)];rfl
theorem zMs (p:Pg) (vars:List ByteArray) (hP:p.Ok) (hv:vars.length<=4294967296) (e:Ex) (ih:∀a,a∈e.Args->partE a=0->a.wt<=4294967296->Pur cfg 88 [vPg p,vSs vars,vE a] (.tup [vTy (nodeT (refN p.en (knB p.Sizes vars)) a).1,vI (nodeT (refN p.en (knB p.Sizes vars)) a).2])) (hpart:partE e=0) (he:e.wt<=4294967296):
    Pur cfg 88 [vPg p,vSs vars,vE e] (.tup [vTy (nodeT (refN p.en (knB p.Sizes vars)) e).1,vI (nodeT (refN p.en (knB p.Sizes vars)) e).2]):=by
 refine zT Tryz.func88 O Tryz.ntmps88 Tryz.results88 O ?_
 intro z hz
 obtain ⟨hLl,hIl,hAl⟩:=e.parts he
 have hwt:=Ex.wt_eq e
 have hz0:=hP.sizes
 refine B O<|zZ O O (qI O O) ?_
 rintro _ _ ⟨b1,rfl,rfl⟩
 refine zZ O O (qI O O) ?_
 rintro _ _ ⟨b2,rfl,rfl⟩
 refine zZ O O (yB O zr31) ?_
 rintro _ _ ⟨b3,rfl,rfl⟩
 refine G O<|U<|B O<|G O<|yY _ (kM 31 5)<|U<|zI<|B O<|G O<|U<|zP<|zU ⟨[(9,.c _),(8,.c _),(1,.c _),(3,.c _),(5,.c _),(6,.c _)],[_,_,_,_]⟩ (Weak.mk [true,true,true,true] ⟨Y,Y,Y,Y,Y,Y,T⟩ O)<|qF 2 1 O O (Nat×Value) (fun ⟨k,sv⟩=>[(9,vI k),(8,.c (.lit sv))]) (fun ⟨k,sv⟩=>[E.vec sv 31 5 ((nodeL (refN p.en (knB p.Sizes vars)) (e.Args.take k)).1.map tyC)]) (fun ⟨k,sv⟩=>k<=e.Args.length/\((nodeL (refN p.en (knB p.Sizes vars)) (e.Args.take k)).2=0)) (fun ⟨k,sv⟩=>e.Args.length-k) ⟨⟨0,(.slice none 0 0)⟩,⟨by omega,O⟩,Weak.mk [true,true,true,true] ⟨Y,Y,Y,Y,Y,Y,T⟩ O⟩ ?_
 rintro ⟨k,sv⟩ ⟨hk,hp⟩
 show AWP _ _ _ _ _ ⟨[(9,vI k),(8,.c (.lit sv))]++_,[E.vec sv 31 5 ((nodeL (refN p.en (knB p.Sizes vars)) (e.Args.take k)).1.map tyC)]++_⟩
 refine zI<|B O<|G O<|zG O kZ<|zK zAy (J 2 O) O<|zY O D<|yA O<|U<|zE O (fun c1=>?_) (fun c1=>?_)
 ·try simp only [W] at c1
  obtain ⟨x,hx⟩:=qQ e.Args k (by omega)
  have hll:=zFr _ _ hp
  refine zJ<|zI<|zP<|zI<|yH 13 1 [⟨0,.q [4]⟩,⟨1,.q []⟩,⟨2,.q []⟩,⟨3,.q [3]⟩,⟨4,.q []⟩,⟨5,.q []⟩,⟨6,.q []⟩,⟨7,.q []⟩,⟨8,.q []⟩,⟨9,.q []⟩,⟨10,.q []⟩,⟨11,.e 0 []⟩,⟨12,.e 0 []⟩] mixed (by kernel_rfl) (by kernel_rfl) O O O<|zO O<|zO O<|zO O<|zO O<|zO O<|zO O<|zO O<|zO O<|zO O<|zO O<|zO O<|zO O<|zO O<|wM<|zW O (by decide) O O (zN O kO O (J 0 O) O)<|zW O (by decide) O O (zR O O)<|zW O (by decide) O O (zD O kZ O)<|zW O (by decide) O O (zF O zAy O (J 0 O) O)<|zW O (by decide) O O (zR O O)<|zW O (by decide) O O (qA O D O O (by omega) (yZ (by assumption)))<|zW O (by decide) O O (zN O qN O qB O)<|zW O (by decide) O O (qG O ok88 (ih x (qD hx) (wW hpart (qD hx)) (by have:=Ex.arg_wt (qD hx);omega)) ⟨Y,O,Y,O,Y,O,T⟩)<|zW O (by decide) O O (qV O O)<|zW O (by decide) O O (yJ O O O)<|zW O (by decide) O O (yI O O O)<|zMh O O (by decide) O O (yB O zr31) ?_
  rintro _ _ ⟨b5,rfl,rfl⟩
  refine ⟨_,O,?_⟩
  refine zIc O O (by decide) O O (kW O sz31 O O O (zEe 0 O O)) ?_
  rintro _ _ ⟨rfl,rfl⟩
  refine ⟨_,O,?_⟩
  refine wJ O<|G O<|U<|zI<|B O<|G O<|yN O<|U<|zE O (fun c2=>?_) (fun c2=>?_)
  ·try simp only [W] at c2
   refine B O<|yV O zr31 pl31<|G O<|N 2 sz31 O<|G O<|U<|zH<|fin2 (zV qZ O (J 2 O) O) (v O) ?_
   rw [nodeT_no hx hp c2];rfl
  ·try simp only [W] at c2
   refine zJ<|zS O<|G O<|zL qZ (J 0 O) O<|yE O zCs zr31<|zZ O O (qY 1 O zCs O O O (by simp only [List.length_map,List.length_cons,List.length_nil,hll,List.length_take];omega) (by simp only [List.length_map,List.length_cons,List.length_nil,hll,List.length_take];omega)) ?_
   rintro _ _ ⟨sv6,rfl,rfl⟩
   refine G O<|U<|zS O<|G O<|qJ O ⟨by omega,by omega⟩<|G O<|U ?_
   refine ⟨⟨k+1,sv6⟩,⟨by omega,by rw [zGh hx hp c2]⟩,(by show e.Args.length-(k+1)<e.Args.length-k;omega),Weak.mk [false,true,true,true,true] ⟨Y,Y,Y,Y,Y,Y,T⟩ (by show _=[E.vec sv6 _ 5 ((nodeL (refN p.en (knB p.Sizes vars)) (e.Args.take (k+1))).1.map tyC)]++_;rw [zGh hx hp c2];simp only [List.map_append];rfl)⟩
 ·try simp only [W] at c1
  have hll:=zFr _ _ hp
  have hta:e.Args.take k=e.Args:=qX (by omega)
  rw [hta] at hll
  have hg:∀i,i<e.Args.length->((nodeL (refN p.en (knB p.Sizes vars)) (e.Args.take k)).1.map tyC)[i]? =some (tyC (tyAt (nodeL (refN p.en (knB p.Sizes vars)) (e.Args.take k)).1 i)):=fun i hi=>tyAt_get (by rw [hta];omega)
  have hT:nodeT (refN p.en (knB p.Sizes vars)) e=(refN p.en (knB p.Sizes vars)) e (nodeL (refN p.en (knB p.Sizes vars)) (e.Args.take k)).1:=nodeT_ok hta hp
  have hlk:(nodeL (refN p.en (knB p.Sizes vars)) (e.Args.take k)).1.length=e.Args.length:=by rw [hta];exact hll
  refine qO<|zI<|zP<|B O<|zG O yS<|zK one3 (J 2 O) O<|L O<|G O<|rL0 O (fun g9_3=>zD O yS O) O<|rL1 43 O (fun g9_3=>zF O one3 O (J 2 O) O) O<|rL1 44 O (fun g9_3=>yF O O O) O<|r_or O (fun h=>(lzf h))<|G O<|U<|zE O (fun c3=>?_) (fun c3=>?_)
  ·try simp only [W] at c3
   refine B O<|zG O zDm<|zL qZ (J 2 O) O<|N 1 sz31 O<|G O<|U<|zH<|fin2 (zV qZ O (J 1 O) O) (v O) ?_
   exact by rw [hT,refN_1 c3];rfl
  ·try simp only [W] at c3
   refine B O<|zG O yS<|zK one3 (J 2 O) O<|L O<|G O<|U<|zE O (fun c4=>?_) (fun c4=>?_)
   ·try simp only [W] at c4
    refine B O<|yV O zr31 pl31<|zL kO (J 3 O) O<|G O<|zG O zDw<|zL kK (J 2 O) O<|yE O el63 zr34<|qK O ok166 (zMt p vars [e.Lin] hz0 hv (by simp) (fun x hx=>by rw [List.mem_singleton.1 hx];omega)) ⟨Y,O,Y,O,Y,O,T⟩<|N 1 sz31 O<|G O<|U<|zH<|fin2 (zV qZ O (J 1 O) O) (v O) ?_
    exact by rw [hT,refN_2 c4];rfl
   ·try simp only [W] at c4
    refine B O<|zG O yS<|zK one3 (J 2 O) O<|L O<|G O<|U<|zE O (fun c5=>?_) (fun c5=>?_)
    ·try simp only [W] at c5
     refine B O<|zL kO (J 3 O) O<|G O<|zL qN (J 2 O) O<|qK O ok167 (ref17_read p vars e hP hv he) ⟨Y,O,Y,O,Y,O,T⟩<|zX O (yJ O O O)<|zX O (yI O O O)<|N 1 sz31 O<|G O<|U<|zH<|fin2 (zV qZ O (J 1 O) O) (v O) ?_
     exact by rw [hT,refN_3 c5];rfl
    ·try simp only [W] at c5
     refine B O<|zG O yS<|zK one3 (J 2 O) O<|L O<|G O<|U<|zE O (fun c6=>?_) (fun c6=>?_)
     ·try simp only [W] at c6
      have hlen3:=args_len3 hpart c6
      refine zI<|zI<|qT 7 mixed (by kernel_rfl) O O<|zM O O (zR O O)<|zM O O (qW 0 O zCs O O O (by omega) (by simp only [List.length_map];omega))<|zM O O (zN O qZ O (wQ 0 O (hg 1 (by omega))) O)<|zM O O (zR O O)<|zM O O (qW 0 O zCs O O O (by omega) (by simp only [List.length_map];omega))<|zM O O (zN O qZ O (wQ 0 O (hg 2 (by omega))) O)<|zM O O (zCf O fl31 O O O)<|yM<|U<|zE O (fun c7=>?_) (fun c7=>?_)
      ·refine B O<|yV O zr31 pl31<|N 1 sz31 O<|G O<|U<|zH<|fin2 (zV qZ O (J 1 O) O) (v O) ?_
       exact by rw [hT,refN_11' c6 (zHv c7)];rfl
      ·refine zJ<|B O<|G O<|zX O (qW 0 O zCs O O O (by omega) (by simp only [List.length_map];omega))<|zL qZ (wQ 0 O (hg 1 (by omega))) O<|N 1 sz31 O<|G O<|U<|zH<|fin2 (zV qZ O (J 1 O) O) (v O) ?_
       exact by rw [hT,refN_11 c6 (zGe c7)];rfl
     ·try simp only [W] at c6
      refine B O<|zG O yS<|zK one3 (J 2 O) O<|L O<|G O<|U<|zE O (fun c8=>?_) (fun c8=>?_)
      ·try simp only [W] at c8
       have hlen1:=args_len hpart (by omega)
       refine B O<|G O<|zX O (qW 0 O zCs O O O (by omega) (by simp only [List.length_map];omega))<|zL qZ (wQ 0 O (hg 0 (by omega))) O<|N 1 sz31 O<|G O<|U<|zH<|fin2 (zV qZ O (J 1 O) O) (v O) ?_
       exact by rw [hT,refN_8 c8];rfl
      ·try simp only [W] at c8
       refine B O<|zG O yS<|zK one3 (J 2 O) O<|zX O (wD O O O)<|G O<|U<|zE O (fun c9=>?_) (fun c9=>?_)
       ·try simp only [W] at c9
        refine B O<|yV O zr31 pl31<|N 1 sz31 O<|G O<|U<|zH<|fin2 (zV qZ O (J 1 O) O) (v O) ?_
        exact by rw [hT,refN_16 c9];rfl
       ·try simp only [W] at c9
        have hlen2:=zGc hpart (by omega)
        refine zJ<|zI<|zI<|qT 7 mixed (by kernel_rfl) O O<|zM O O (zR O O)<|zM O O (qW 0 O zCs O O O (by omega) (by simp only [List.length_map];omega))<|zM O O (zN O qZ O (wQ 0 O (hg 0 (by omega))) O)<|zM O O (zR O O)<|zM O O (qW 0 O zCs O O O (by omega) (by simp only [List.length_map];omega))<|zM O O (zN O qZ O (wQ 0 O (hg 1 (by omega))) O)<|zM O O (zCf O fl31 O O O)<|yM<|U<|zE O (fun c10=>?_) (fun c10=>?_)
        ·refine B O<|yV O zr31 pl31<|N 1 sz31 O<|G O<|U<|zH<|fin2 (zV qZ O (J 1 O) O) (v O) ?_
         exact by rw [hT,refN_no (by omega) (zHv c10)];rfl
        ·refine zJ<|zI<|B O<|zG O yS<|zK one3 (J 2 O) O<|zX O (wD O O O)<|U<|zE O (fun c11=>?_) (fun c11=>?_)
         ·try simp only [W] at c11
          refine B O<|yV O zr31 pl31<|N 1 sz31 O<|G O<|U<|zH<|fin2 (zV qZ O (J 1 O) O) (v O) ?_
          exact by rw [hT,refN_13 (by omega) (zGe c10) c11];rfl
         ·try simp only [W] at c11
          refine zJ<|B O<|G O<|zX O (qW 0 O zCs O O O (by omega) (by simp only [List.length_map];omega))<|zL qZ (wQ 0 O (hg 0 (by omega))) O<|N 1 sz31 O<|G O<|U<|zH<|fin2 (zV qZ O (J 1 O) O) (v O) ?_
          exact by rw [hT,refN_o (by omega) (zGe c10)];rfl
theorem ref17_node (p:Pg) (vars:List ByteArray) (e:Ex) (hP:p.Ok) (hv:vars.length<=4294967296) (hpart:partE e=0) (he:e.wt<=4294967296):Pur cfg 88 [vPg p,vSs vars,vE e] (.tup [vTy (nodeT (refN p.en (knB p.Sizes vars)) e).1,vI (nodeT (refN p.en (knB p.Sizes vars)) e).2]):=by
  induction e using Ex.ind with
  |_ e ih=>exact zMs p vars hP hv e (fun a ha h1 h2=>ih a ha h1 h2) hpart he
theorem ref17_TypeOf (p:Pg) (vars:List ByteArray) (e:Ex) (hP:p.Ok) (hv:vars.length<=4294967296) (he:e.wt<=4294967296):
    Pur cfg 33 [vPg p,vSs vars,vE e] (.tup [vTy (typeR p.en vars e).1,vI (typeR p.en vars e).2]):=by
 refine zT Tryz.func33 O Tryz.ntmps33 Tryz.results33 O ?_
 intro z hz
 refine B O<|zZ O O (qI O O) ?_
 rintro _ _ ⟨b1,rfl,rfl⟩
 refine zZ O O (qI O O) ?_
 rintro _ _ ⟨b2,rfl,rfl⟩
 refine zZ O O (yB O zr31) ?_
 rintro _ _ ⟨b3,rfl,rfl⟩
 refine G O<|U<|zI<|B O<|zL qN (J 1 O) O<|qK O ok37 (ref14_Validate e (by omega)) ⟨Y,O,T⟩<|G O<|U<|B O<|G O<|yN O<|U<|zE O (fun c1=>?_) (fun c1=>?_)
 ·try simp only [W] at c1
  refine B O<|yV O zr31 pl31<|G O<|N 0 sz31 O<|G O<|U<|zH<|fin2 (zV qZ O (J 0 O) O) (v O) ?_
  rw [typeR_bad c1];rfl
 ·try simp only [W] at c1
  refine zJ<|zI<|B O<|zL qN (J 1 O) O<|qK O ok87 (zBr e) ⟨Y,O,T⟩<|U<|zE O (fun c2=>?_) (fun c2=>?_)
  ·try simp only [W] at c2
   refine B O<|yV O zr31 pl31<|N 0 sz31 O<|G O<|U<|zH<|fin2 (zV qZ O (J 0 O) O) (v O) ?_
   rw [typeR_cond c1 c2];rfl
  ·try simp only [W] at c2
   have hTo:=typeR_of (n:=p.en) (vars:=vars) c1 c2
   refine zJ<|B O<|zL kO (J 2 O) O<|G O<|zL qN (J 1 O) O<|qK O ok88 (ref17_node p vars e hP hv (zCx c1) he) ⟨Y,O,Y,O,Y,O,T⟩<|zX O (qV O O)<|zX O (yJ O O O)<|zX O (yI O O O)<|zZ O O (yB O zr31) ?_
   rintro _ _ ⟨b4,rfl,rfl⟩
   refine N 0 sz31 O<|G O<|U<|zI<|B O<|G O<|yN O<|U<|zE O (fun c3=>?_) (fun c3=>?_)
   ·try simp only [W] at c3
    refine B O<|yV O zr31 pl31<|G O<|N 1 sz31 O<|G O<|U<|zH<|fin2 (zV qZ O (J 1 O) O) (v O) ?_
    rw [hTo,if_neg (show ¬(nodeT (refN p.en (knB p.en.sz vars)) e).2=0 from c3)];rfl
   ·try simp only [W] at c3
    refine zJ<|B O<|zL qZ (J 0 O) O<|N 1 sz31 O<|G O<|U<|zH<|fin2 (zV qZ O (J 1 O) O) (v O) ?_
    rw [hTo,if_pos (show (nodeT (refN p.en (knB p.en.sz vars)) e).2=0 from c3)];rfl
end Go.W
