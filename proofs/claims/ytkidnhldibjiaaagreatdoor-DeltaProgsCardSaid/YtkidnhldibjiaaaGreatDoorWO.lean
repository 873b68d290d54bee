/-
  What functions compute.
  Conditions: none.
-/
import Derived.Test.YtkidnhldibjiaaaGreatDoorWN
import Derived.Test.YtkidnhldibjiaaaGreatDoorEngZ
set_option linter.unusedSimpArgs false
set_option linter.unusedVariables false
set_option maxRecDepth 10000
namespace Go.W
open Go Go.Eng Go.Proofs Go.L41 Go.Br
attribute [local irreducible] AWP RWP TD fL
theorem ok59:bA Tryz.prog 59=true:=by kernel_rfl
theorem ok108:bA Tryz.prog 108=true:=by kernel_rfl
theorem ok162:bA Tryz.prog 162=true:=by kernel_rfl
theorem ok215:bA Tryz.prog 215=true:=by kernel_rfl
theorem ok216:bA Tryz.prog 216=true:=by kernel_rfl
theorem zMs (p:Pg) (s:ByteArray) (hP:p.Ok):
    Pur cfg 59 [vPg p,vS s] (.tup [vTy (p.en.find s).ty,mR (p.en.find s).dims,vB (p.en.find s).ok]):=by
 refine zW Tryz.func59 O Tryz.ntmps59 Tryz.results59 O ?_
 intro z hz
 have hpl:=hP.params
 have hpd:=hP.defs
 refine Y O<|zY O O (qN O O) ?_
 rintro _ _ ⟨b1,rfl,rfl⟩
 refine zY O O (yJ O zr37) ?_
 rintro _ _ ⟨b2,rfl,rfl⟩
 refine qA O (yQ 2 O O)<|G O<|W<|zM<|Y O<|G O<|W<|zR<|qC ⟨[(7,.c _),(1,.c _),(2,.c _),(4,.c _)],[_,_]⟩ (Weak.mk [true,true] ⟨U,U,U,U,T⟩ O)<|qG 1 0 O O (Nat) (fun k=>[(7,vI k)]) (fun k=>[]) (fun k=>k<=p.Params.length/\(gO s p.Defs p.Params=gO s p.Defs (p.Params.drop k))) (fun k=>p.Params.length-k) ⟨0,⟨by omega,O⟩,Weak.mk [true,true] ⟨U,U,U,U,T⟩ O⟩ ?_
 rintro k ⟨hk,hp⟩
 refine zM<|Y O<|G O<|zF O wM<|zK zBm (J 1 O) O<|qB O el24<|yI O<|W<|zH O (fun c1=>?_) (fun c1=>?_)
 ·try simp only [sx] at c1
  obtain ⟨x,hx⟩:=qU p.Params k (by omega)
  refine zN<|zM<|zR<|Y O<|zF O wM<|zK zBm (J 1 O) O<|G O<|qJ O el24 (by omega) (getm (by assumption))<|qS O zRz<|zK one9 qE O<|G O<|wD O<|W<|zH O (fun c2=>?_) (fun c2=>?_)
  ·try simp only [sx] at c2
   refine zM<|kI 13 0 [⟨0,.q []⟩,⟨1,.q [1]⟩,⟨2,.q []⟩,⟨3,.q []⟩,⟨4,.q []⟩,⟨5,.q []⟩,⟨6,.q []⟩,⟨7,.q [1]⟩,⟨8,.q []⟩,⟨9,.q []⟩,⟨10,.q []⟩,⟨11,.q []⟩,⟨12,.e 0 []⟩] mixed (by kernel_rfl) (by kernel_rfl) O O O<|qD O<|qD O<|qD O<|qD O<|qD O<|qD O<|qD O<|qD O<|qD O<|qD O<|qD O<|qD O<|qD O<|zBq<|qM O (by decide) O O (zE O wM O)<|qM O (by decide) O O (zJ O zBm O (J 0 O) O)<|qM O (by decide) O O (zS O O)<|qM O (by decide) O O (qH O el24 O O (by omega) (getm (by assumption)))<|qM O (by decide) O O (qP O fd67_1 O)<|qM O (by decide) O O (zU O yO O qE O)<|qM O (by decide) O O (zE O wM O)<|qM O (by decide) O O (zJ O zBm O (J 0 O) O)<|qM O (by decide) O O (zS O O)<|qM O (by decide) O O (qH O el24 O O (by omega) (getm (by assumption)))<|qM O (by decide) O O (qP O zCj O)<|qM O (by decide) O O (zJ O zAp O qE O)<|zHa O O (by decide) O O (kN O sz37 O O O (zCu 0 O O)) ?_
   rintro _ _ ⟨rfl,rfl⟩
   refine ⟨_,O,?_⟩
   refine zBp O<|G O<|G O<|W<|zO<|fin3 (zZ yO O (J 0 O) O) (rs_c O) (rs_c O) ?_
   rw [En.find,show p.en.pm=p.Params from rfl,show p.en.df=p.Defs from rfl,hp,find_at hx c2];rfl
  ·try simp only [sx] at c2
   refine zN<|zT O<|G O<|qK O ⟨by omega,by omega⟩<|G O<|W ?_
   refine ⟨k+1,⟨by omega,hp.trans (find_next hx c2)⟩,(by omega),Weak.mk [true,true] ⟨U,U,U,U,T⟩ O⟩
 ·try simp only [sx] at c1
  have hF:p.en.find s=gP s p.Defs:=by rw [En.find,show p.en.pm=p.Params from rfl,show p.en.df=p.Defs from rfl,hp,wV (by omega)];rfl
  refine qO<|zM<|Y O<|G O<|W<|zR<|qC ⟨[(8,.c _),(1,.c _),(2,.c _),(4,.c _)],[_,_]⟩ (Weak.mk [true,true] ⟨U,U,U,U,T⟩ O)<|qG 1 0 O O (Nat) (fun k=>[(8,vI k)]) (fun k=>[]) (fun k=>k<=p.Defs.length/\(gP s p.Defs=gP s (p.Defs.drop k))) (fun k=>p.Defs.length-k) ⟨0,⟨by omega,O⟩,Weak.mk [true,true] ⟨U,U,U,U,T⟩ O⟩ ?_
  rintro k ⟨hk,hq⟩
  refine zM<|Y O<|G O<|zF O kV<|zK zAq (J 1 O) O<|qB O el25<|yI O<|W<|zH O (fun c3=>?_) (fun c3=>?_)
  ·try simp only [sx] at c3
   obtain ⟨d,hd⟩:=qU p.Defs k (by omega)
   refine zN<|zM<|zR<|Y O<|zF O kV<|zK zAq (J 1 O) O<|G O<|qJ O el25 (by omega) (getm (by assumption))<|qS O zOe<|zK one9 qE O<|G O<|wD O<|W<|zH O (fun c4=>?_) (fun c4=>?_)
   ·try simp only [sx] at c4
    have hdd:=(hP.ds d (zX hd)).1
    refine Y O<|G O<|yE _ (yU 40 2)<|W<|zM<|Y O<|G O<|W<|zR<|qC ⟨[(10,.c _),(9,.c _),(2,.c _),(4,.c _),(8,.c _)],[_,_,_]⟩ (Weak.mk [true,true,true] ⟨U,U,U,U,U,T⟩ O)<|qG 2 1 O O (Nat×Value) (fun ⟨j,sv⟩=>[(10,vI j),(9,.c (.lit sv))]) (fun ⟨j,sv⟩=>[E.vec sv 40 2 ((d.Dims.take j).map fun a=>a.Size.cells)]) (fun ⟨j,sv⟩=>j<=d.Dims.length) (fun ⟨j,sv⟩=>d.Dims.length-j) ⟨⟨0,(.slice none 0 0)⟩,(by omega),Weak.mk [true,true,true] ⟨U,U,U,U,U,T⟩ O⟩ ?_
    rintro ⟨j,sv⟩ hj
    show AWP _ _ _ _ _ ⟨[(10,vI j),(9,.c (.lit sv))]++_,[E.vec sv 40 2 ((d.Dims.take j).map fun a=>a.Size.cells)]++_⟩
    refine zM<|Y O<|G O<|zF O kV<|zK zAq (J 2 O) O<|G O<|qJ O el25 (by omega) (getm (by assumption))<|qS O zAt<|zK kY qE O<|qB O N<|yI O<|W<|zH O (fun c5=>?_) (fun c5=>?_)
    ·try simp only [sx] at c5
     obtain ⟨a,ha⟩:=qU d.Dims j (by omega)
     refine zN<|zM<|zR<|zT O<|G O<|zF O kV<|zK zAq (J 2 O) O<|G O<|qJ O el25 (by omega) (getm (by assumption))<|qS O zAt<|zK kY qE O<|G O<|qJ O N (by omega) (getm (by assumption))<|qS O zEu<|zP yB qE O<|yV O el65 v<|zY O O (qV 0 O el65 O O O (by simp only [List.length_take,List.length_map,List.length_cons,List.length_nil];omega) (by simp only [List.length_take,List.length_map,List.length_cons,List.length_nil];omega)) ?_
     rintro _ _ ⟨sv4,rfl,rfl⟩
     refine G O<|W<|zT O<|G O<|qK O ⟨by omega,by omega⟩<|G O<|W ?_
     refine ⟨⟨j+1,sv4⟩,(by omega),(by show d.Dims.length-(j+1)<d.Dims.length-j;omega),Weak.mk [true,true,true] ⟨U,U,U,U,U,T⟩ (by show _=[E.vec sv4 _ 2 ((d.Dims.take (j+1)).map fun a=>a.Size.cells)]++_;rw [qT ha,List.map_append (f:=fun a:Ax=>a.Size.cells)];rfl)⟩
    ·try simp only [sx] at c5
     refine qO<|Y O<|zF O kV<|zK zAq (J 2 O) O<|G O<|qJ O el25 (by omega) (getm (by assumption))<|qS O zLr<|zP yO qE O<|G O<|rStR 1 sz37 O<|G O<|G O<|W<|qC _ (yC 0 O (regs':=[(9,_),(83,_),(5,_)]) (μ':=[_,_]) ⟨FLe.sl,FLe.sl,FLe.sl,T⟩ ⟨EFle.refl _,EFle.refl _,T⟩)<|zO<|fin3 (zZ yO O (J 0 O) O) (rs_c O) (rs_c O) ?_
     rw [hF,hq,findD_at hd c4,qY (l:=d.Dims) (k:=j) (by omega)];simp only [mR,List.map_map];rfl
   ·try simp only [sx] at c4
    refine zN<|zT O<|G O<|qK O ⟨by omega,by omega⟩<|G O<|W ?_
    refine ⟨k+1,⟨by omega,hq.trans (findD_next hd c4)⟩,(by omega),Weak.mk [true,true] ⟨U,U,U,U,T⟩ O⟩
  ·try simp only [sx] at c3
   refine qO<|Y O<|yN O zr37 pl37<|rStR 0 sz37 O<|qA O (yQ 2 O O)<|G O<|W<|zO<|fin3 (zZ yO O (J 0 O) O) (rs_c O) (rs_c O) ?_
   rw [hF,hq,wV (l:=p.Defs) (by omega)];rfl
theorem zOq (d:Df) (hD:d.Dims.length<=1073741824) (hR:d.Red.length<=1073741824):
    OwnR cfg 97 [vDf d] 9 1 ((bQ d).map fun s=>[cS s]):=by
 refine zW Tryz.func97 O Tryz.ntmps97 Tryz.results97 O ?_
 intro z hz
 refine Y O<|zY O O (qN O O) ?_
 rintro _ _ ⟨b1,rfl,rfl⟩
 refine qA O (yQ 1 O O)<|W<|Y O<|G O<|yE _ (yU 9 1)<|W<|zM<|Y O<|G O<|W<|zR<|qC ⟨[(4,.c _),(3,.c _),(1,.c _)],[_,_]⟩ (Weak.mk [true,true] ⟨U,U,U,T⟩ O)<|qG 2 1 O O (Nat×Value) (fun ⟨k,sv⟩=>[(4,vI k),(3,.c (.lit sv))]) (fun ⟨k,sv⟩=>[E.vec sv 9 1 ((d.Dims.take k).map fun a=>[cS a.Name])]) (fun ⟨k,sv⟩=>k<=d.Dims.length) (fun ⟨k,sv⟩=>d.Dims.length-k) ⟨⟨0,(.slice none 0 0)⟩,(by omega),Weak.mk [true,true] ⟨U,U,U,T⟩ O⟩ ?_
 rintro ⟨k,sv⟩ hk
 show AWP _ _ _ _ _ ⟨[(4,vI k),(3,.c (.lit sv))]++_,[E.vec sv 9 1 ((d.Dims.take k).map fun a=>[cS a.Name])]++_⟩
 refine zM<|Y O<|G O<|zF O zAt<|zK kY (J 1 O) O<|qB O N<|yI O<|W<|zH O (fun c1=>?_) (fun c1=>?_)
 ·try simp only [sx] at c1
  obtain ⟨x,hx⟩:=qU d.Dims k (by omega)
  refine zN<|zM<|zR<|zT O<|G O<|zF O zAt<|zK kY (J 1 O) O<|G O<|qJ O N (by omega) (getm (by assumption))<|qS O zAm<|zK one9 qE O<|yV O el22 zr9<|zY O O (qV 0 O el22 O O O (by simp only [List.length_append,List.length_take,List.length_map,List.length_cons,List.length_nil];omega) (by simp only [List.length_append,List.length_take,List.length_map,List.length_cons,List.length_nil];omega)) ?_
  rintro _ _ ⟨sv3,rfl,rfl⟩
  refine G O<|W<|zT O<|G O<|qK O ⟨by omega,by omega⟩<|G O<|W ?_
  refine ⟨⟨k+1,sv3⟩,(by omega),(by show d.Dims.length-(k+1)<d.Dims.length-k;omega),Weak.mk [true,true] ⟨U,U,U,T⟩ (by show _=[E.vec sv3 _ 1 ((d.Dims.take (k+1)).map fun a=>[cS a.Name])]++_;rw [qT hx,List.map_append (f:=fun a:Ax=>[cS a.Name])];rfl)⟩
 ·try simp only [sx] at c1
  refine qO<|zM<|Y O<|G O<|W<|zR<|qC ⟨[(5,.c _),(3,.c _),(1,.c _)],[_,_]⟩ (Weak.mk [true,true] ⟨U,U,U,T⟩ O)<|qG 2 1 O O (Nat×Value) (fun ⟨k,sw⟩=>[(5,vI k),(3,.c (.lit sw))]) (fun ⟨k,sw⟩=>[E.vec sw 9 1 ((d.Dims.map fun a=>[cS a.Name])++(d.Red.take k).map fun a=>[cS a.Name])]) (fun ⟨k,sw⟩=>k<=d.Red.length) (fun ⟨k,sw⟩=>d.Red.length-k) ⟨⟨0,sv⟩,(by omega),Weak.mk [true,true] ⟨U,U,U,T⟩ (by show _=[E.vec sv _ 1 ((d.Dims.map fun a=>[cS a.Name])++[])]++_;rw [qY (l:=d.Dims) (by omega),List.append_nil];rfl)⟩ ?_
  rintro ⟨k,sw⟩ hk2
  show AWP _ _ _ _ _ ⟨[(5,vI k),(3,.c (.lit sw))]++_,[E.vec sw 9 1 ((d.Dims.map fun a=>[cS a.Name])++(d.Red.take k).map fun a=>[cS a.Name])]++_⟩
  refine zM<|Y O<|G O<|zF O kU<|zK kY (J 1 O) O<|qB O N<|yI O<|W<|zH O (fun c2=>?_) (fun c2=>?_)
  ·try simp only [sx] at c2
   obtain ⟨x,hx⟩:=qU d.Red k (by omega)
   refine zN<|zM<|zR<|zT O<|G O<|zF O kU<|zK kY (J 1 O) O<|G O<|qJ O N (by omega) (getm (by assumption))<|qS O zAm<|zK one9 qE O<|yV O el22 zr9<|zY O O (qV 0 O el22 O O O (by simp only [List.length_append,List.length_take,List.length_map,List.length_cons,List.length_nil];omega) (by simp only [List.length_append,List.length_take,List.length_map,List.length_cons,List.length_nil];omega)) ?_
   rintro _ _ ⟨sv4,rfl,rfl⟩
   refine G O<|W<|zT O<|G O<|qK O ⟨by omega,by omega⟩<|G O<|W ?_
   refine ⟨⟨k+1,sv4⟩,(by omega),(by show d.Red.length-(k+1)<d.Red.length-k;omega),Weak.mk [true,true] ⟨U,U,U,T⟩ (by show _=[E.vec sv4 _ 1 ((d.Dims.map fun a=>[cS a.Name])++(d.Red.take (k+1)).map fun a=>[cS a.Name])]++_;rw [qT hx,List.map_append (f:=fun a:Ax=>[cS a.Name]),←List.append_assoc];rfl)⟩
  ·try simp only [sx] at c2
   refine qO<|Y O<|G O<|G O<|W<|qC _ (Weak.mem [true,false] O)<|zO<|zV O ?_
   exact ⟨_,O,by rw [qY (l:=d.Red) (by omega),←List.map_append (f:=fun a:Ax=>[cS a.Name]),names_rows];rfl⟩
theorem zQr (p:Pg) (vars:List ByteArray) (l:List Lf) (hz0:p.Sizes.length<=4294967296) (hv:vars.length<=4294967296) (hl0:l.length<=4294967296) (hx0:∀x,x∈l->x.L.length<=5864062014805):
    Pur cfg 215 [vPg p,vSs vars,mR l] (vI (gW (knB p.Sizes vars) l)):=by
 refine zW Tryz.func215 O Tryz.ntmps215 Tryz.results215 O ?_
 intro z hz
 refine Y O<|zY O O (qN O O) ?_
 rintro _ _ ⟨b1,rfl,rfl⟩
 refine G O<|W<|zM<|Y O<|G O<|W<|zR<|qC ⟨[(7,.c _),(1,.c _),(2,.c _),(3,.c _)],[_]⟩ (Weak.mk [true] ⟨U,U,U,U,T⟩ O)<|qG 1 0 O O (Nat) (fun k=>[(7,vI k)]) (fun k=>[]) (fun k=>k<=l.length/\((l.take k).all (fun x=>knL (knB p.Sizes vars) x.L)=true)) (fun k=>l.length-k) ⟨0,⟨by omega,O⟩,Weak.mk [true] ⟨U,U,U,U,T⟩ O⟩ ?_
 rintro k ⟨hk,hp⟩
 refine zM<|Y O<|G O<|G O<|qB O el65<|yI O<|W<|zH O (fun c1=>?_) (fun c1=>?_)
 ·try simp only [sx] at c1
  obtain ⟨x,hx⟩:=qU l k (by omega)
  refine zN<|zM<|zR<|zM<|qW 9 mixed (by kernel_rfl) O O<|zQ O O (zS O O)<|zQ O O (zS O O)<|zQ O O (qH O el65 O O (by omega) (getm (by assumption)))<|zQ O O (zU O yB O qE O)<|zQ O O (zS O O)<|zQ O O (zE O zCl O)<|zQ O O (zJ O zBn O (J 0 O) O)<|zQ O O (qL O ok108 (zJu x vars p.Sizes (hx0 x (zX hx)) hv hz0) ⟨U,O,U,O,U,O,T⟩)<|zQ O O (kT O O)<|yR<|W<|zH O (fun c2=>?_) (fun c2=>?_)
  ·try simp only [sx] at c2
   refine Y O<|G O<|W<|zO<|zV O ?_
   rw [formsK_no' hx c2]
  ·try simp only [sx] at c2
   refine zN<|zT O<|G O<|qK O ⟨by omega,by omega⟩<|G O<|W ?_
   refine ⟨k+1,⟨by omega,formsK_next' hx hp c2⟩,(by omega),Weak.mk [true] ⟨U,U,U,U,T⟩ O⟩
 ·try simp only [sx] at c1
  refine qO<|Y O<|G O<|W<|zO<|zV O ?_
  rw [qY (by omega)] at hp;rw [formsK_ok hp]
theorem ref17_read (p:Pg) (vars:List ByteArray) (e:Ex) (hP:p.Ok) (hv:vars.length<=4294967296) (he:e.wt<=4294967296):
    Pur cfg 216 [vPg p,vSs vars,vE e] (.tup [vTy (gF p.en (knB p.Sizes vars) e).1,vI (gF p.en (knB p.Sizes vars) e).2]):=by
 refine zW Tryz.func216 O Tryz.ntmps216 Tryz.results216 O ?_
 intro z hz
 obtain ⟨hLl,hIl,hAl⟩:=e.parts he
 have hwt:=Ex.wt_eq e
 have hz0:=hP.sizes
 refine Y O<|zY O O (qN O O) ?_
 rintro _ _ ⟨b1,rfl,rfl⟩
 refine zY O O (qN O O) ?_
 rintro _ _ ⟨b2,rfl,rfl⟩
 refine zY O O (yJ O zr37) ?_
 rintro _ _ ⟨b3,rfl,rfl⟩
 refine G O<|W<|Y O<|zP wY (J 2 O) O<|zF O zJi<|zK one9 (J 1 O) O<|qQ O ok59 (zMs p e.Name hP) ⟨U,O,U,O,T⟩<|yH O<|qA O (yA O O O)<|yX O<|yX O<|zY O O (yJ O zr37) ?_
 rintro _ _ ⟨b4,rfl,rfl⟩
 refine rStR 0 sz37 O<|G O<|G O<|W<|zM<|Y O<|G O<|wE O<|W<|zH O (fun c1=>?_) (fun c1=>?_)
 ·try simp only [sx] at c1
  refine Y O<|yN O zr37 pl37<|rStR 1 sz37 O<|G O<|W<|zO<|fin2 (zZ yO O (J 1 O) O) (rs_c O) ?_
  rw [readK_9 c1];rfl
 ·try simp only [sx] at c1
  refine zN<|zM<|Y O<|G O<|qB O el65<|zF O kM<|zK zAh (J 2 O) O<|qB O el41<|yW O<|W<|zH O (fun c2=>?_) (fun c2=>?_)
  ·try simp only [sx] at c2
   refine Y O<|yN O zr37 pl37<|rStR 1 sz37 O<|G O<|W<|zO<|fin2 (zZ yO O (J 1 O) O) (rs_c O) ?_
   rw [readK_11 c1 (by omega)];rfl
  ·try simp only [sx] at c2
   refine zN<|zM<|Y O<|G O<|W<|zR<|qC ⟨[(11,.c _),(1,.c _),(3,.c _),(5,.c _),(6,.c _),(8,.c _)],[_,_,_,_]⟩ (Weak.mk [true,true,true,true] ⟨U,U,U,U,U,U,T⟩ O)<|qG 1 0 O O (Nat) (fun k=>[(11,vI k)]) (fun k=>[]) (fun k=>k<=e.Idx.length/\(dU p.en (knB p.Sizes vars) e.Idx=dU p.en (knB p.Sizes vars) (e.Idx.drop k))) (fun k=>e.Idx.length-k) ⟨0,⟨by omega,O⟩,Weak.mk [true,true,true,true] ⟨U,U,U,U,U,U,T⟩ O⟩ ?_
   rintro k ⟨hk,hp⟩
   refine zM<|Y O<|G O<|zF O kM<|zK zAh (J 2 O) O<|qB O el41<|yI O<|W<|zH O (fun c3=>?_) (fun c3=>?_)
   ·try simp only [sx] at c3
    obtain ⟨x,hx⟩:=qU e.Idx k (by omega)
    have hxw:=Ex.idx_wt (zX hx)
    refine zN<|zM<|zR<|Y O<|zF O kM<|zK zAh (J 2 O) O<|G O<|qJ O el41 (by omega) (getm (by assumption))<|zP zDv qE O<|zY O O (qF [none,some 2,none,some 2] O zJa O) ?_
    rintro _ _ ⟨b5,rfl,rfl⟩
    refine rStR 0 zQb O<|W<|zM<|Y O<|zF O zCe<|zK one9 (J 0 O) O<|wD O<|W<|zH O (fun c4=>?_) (fun c4=>?_)
    ·try simp only [sx] at c4
     refine zM<|Y O<|zF O zCp<|zP yB (J 0 O) O<|G O<|zF O zCl<|zK zBn (J 4 O) O<|qQ O ok108 (zJu x.Lin vars p.Sizes (by omega) hv hz0) ⟨U,O,U,O,U,O,T⟩<|wE O<|W<|zH O (fun c5=>?_) (fun c5=>?_)
     ·try simp only [sx] at c5
      refine Y O<|yN O zr37 pl37<|rStR 2 sz37 O<|G O<|W<|zO<|fin2 (zZ yO O (J 2 O) O) (rs_c O) ?_
      rw [zLc c1 (by omega) hp hx ((indexK_lin c4).trans (zIs c5)) (by decide)];rfl
     ·try simp only [sx] at c5
      have hix:dD p.en (knB p.Sizes vars) x=0:=by rw [indexK_lin c4,zPj c5]
      refine zN<|qO<|zT O<|G O<|qK O ⟨by omega,by omega⟩<|G O<|W ?_
      refine ⟨k+1,⟨by omega,hp.trans (zJz hx hix)⟩,(by omega),Weak.mk [false,true,true,true,true] ⟨U,U,U,U,U,U,T⟩ O⟩
    ·try simp only [sx] at c4
     refine zN<|Y O<|zP wY (J 4 O) O<|zF O zCe<|zK one9 (J 0 O) O<|qQ O ok59 (zMs p x.From hP) ⟨U,O,U,O,T⟩<|yH O<|qA O (yA O O O)<|yX O<|yX O<|zY O O (yJ O zr37) ?_
     rintro _ _ ⟨b6,rfl,rfl⟩
     refine rStR 0 sz37 O<|G O<|G O<|W<|zM<|Y O<|G O<|wE O<|W<|zH O (fun c6=>?_) (fun c6=>?_)
     ·try simp only [sx] at c6
      refine Y O<|yN O zr37 pl37<|rStR 3 sz37 O<|G O<|W<|zO<|fin2 (zZ yO O (J 3 O) O) (rs_c O) ?_
      rw [zLc c1 (by omega) hp hx (indexK_9 c4 c6) (by decide)];rfl
     ·try simp only [sx] at c6
      refine zN<|zM<|Y O<|zF O zFg<|zK one3 (J 0 O) O<|yW O<|W<|zH O (fun c7=>?_) (fun c7=>?_)
      ·try simp only [sx] at c7
       refine Y O<|yN O zr37 pl37<|rStR 3 sz37 O<|G O<|W<|zO<|fin2 (zZ yO O (J 3 O) O) (rs_c O) ?_
       rw [zLc c1 (by omega) hp hx (indexK_10 c4 c6 c7) (by decide)];rfl
      ·try simp only [sx] at c7
       refine zN<|zM<|Y O<|G O<|qB O el65<|zF O wI<|zK zAp (J 1 O) O<|qB O el65<|yW O<|W<|zH O (fun c8=>?_) (fun c8=>?_)
       ·try simp only [sx] at c8
        refine Y O<|yN O zr37 pl37<|rStR 3 sz37 O<|G O<|W<|zO<|fin2 (zZ yO O (J 3 O) O) (rs_c O) ?_
        rw [zLc c1 (by omega) hp hx (indexK_11 c4 c6 c7 (by omega)) (by decide)];rfl
       ·try simp only [sx] at c8
        refine zN<|Y O<|zP wY (J 5 O) O<|G O<|zF O wI<|zK zAp (J 1 O) O<|qQ O ok215 (zQr p vars x.At hz0 hv (by omega) (fun l hl=>by have:=zDe hl;omega)) ⟨U,O,U,O,U,O,T⟩<|G O<|W<|Y O<|G O<|yW O<|W<|zH O (fun c9=>?_) (fun c9=>?_)
        ·try simp only [sx] at c9
         refine Y O<|yN O zr37 pl37<|G O<|rStR 3 sz37 O<|G O<|W<|zO<|fin2 (zZ yO O (J 3 O) O) (rs_c O) ?_
         rw [zLc c1 (by omega) hp hx (indexK_at c4 c6 c7 (by omega)) c9];rfl
        ·try simp only [sx] at c9
         have hix:dD p.en (knB p.Sizes vars) x=0:=by rw [indexK_at c4 c6 c7 (by omega)];exact c9
         refine zN<|zT O<|G O<|qK O ⟨by omega,by omega⟩<|G O<|W ?_
         refine ⟨k+1,⟨by omega,hp.trans (zJz hx hix)⟩,(by omega),Weak.mk [false,false,true,true,true,true] ⟨U,U,U,U,U,U,T⟩ O⟩
   ·try simp only [sx] at c3
    refine qO<|Y O<|zP yO (J 0 O) O<|rStR 1 sz37 O<|G O<|W<|zO<|fin2 (zZ yO O (J 1 O) O) (rs_c O) ?_
    rw [zMu c1 (by omega) (by rw [hp,wV (by omega)];rfl)];rfl
theorem zQq (p:Pg) (vars:List ByteArray) (hP:p.Ok) (hv:vars.length<=4294967296) (e:Ex) (ih:∀a,a∈e.Args->dQ a=0->a.wt<=4294967296->Pur cfg 162 [vPg p,vSs vars,vE a] (.tup [vTy (bE (fN p.en (knB p.Sizes vars)) a).1,vI (bE (fN p.en (knB p.Sizes vars)) a).2])) (hpart:dQ e=0) (he:e.wt<=4294967296):
    Pur cfg 162 [vPg p,vSs vars,vE e] (.tup [vTy (bE (fN p.en (knB p.Sizes vars)) e).1,vI (bE (fN p.en (knB p.Sizes vars)) e).2]):=by
 refine zW Tryz.func162 O Tryz.ntmps162 Tryz.results162 O ?_
 intro z hz
 obtain ⟨hLl,hIl,hAl⟩:=e.parts he
 have hwt:=Ex.wt_eq e
 have hz0:=hP.sizes
 refine Y O<|zY O O (qN O O) ?_
 rintro _ _ ⟨b1,rfl,rfl⟩
 refine zY O O (qN O O) ?_
 rintro _ _ ⟨b2,rfl,rfl⟩
 refine zY O O (yJ O zr37) ?_
 rintro _ _ ⟨b3,rfl,rfl⟩
 refine G O<|W<|Y O<|G O<|yE _ (yU 37 5)<|W<|zM<|Y O<|G O<|W<|zR<|qC ⟨[(9,.c _),(8,.c _),(1,.c _),(3,.c _),(5,.c _),(6,.c _)],[_,_,_,_]⟩ (Weak.mk [true,true,true,true] ⟨U,U,U,U,U,U,T⟩ O)<|qG 2 1 O O (Nat×Value) (fun ⟨k,sv⟩=>[(9,vI k),(8,.c (.lit sv))]) (fun ⟨k,sv⟩=>[E.vec sv 37 5 ((bF (fN p.en (knB p.Sizes vars)) (e.Args.take k)).1.map tyC)]) (fun ⟨k,sv⟩=>k<=e.Args.length/\((bF (fN p.en (knB p.Sizes vars)) (e.Args.take k)).2=0)) (fun ⟨k,sv⟩=>e.Args.length-k) ⟨⟨0,(.slice none 0 0)⟩,⟨by omega,O⟩,Weak.mk [true,true,true,true] ⟨U,U,U,U,U,U,T⟩ O⟩ ?_
 rintro ⟨k,sv⟩ ⟨hk,hp⟩
 show AWP _ _ _ _ _ ⟨[(9,vI k),(8,.c (.lit sv))]++_,[E.vec sv 37 5 ((bF (fN p.en (knB p.Sizes vars)) (e.Args.take k)).1.map tyC)]++_⟩
 refine zM<|Y O<|G O<|zF O kO<|zK zAj (J 2 O) O<|qB O el42<|yI O<|W<|zH O (fun c1=>?_) (fun c1=>?_)
 ·try simp only [sx] at c1
  obtain ⟨x,hx⟩:=qU e.Args k (by omega)
  have hll:=zHv _ _ hp
  refine zN<|zM<|zR<|zM<|kI 13 1 [⟨0,.q [4]⟩,⟨1,.q []⟩,⟨2,.q []⟩,⟨3,.q [3]⟩,⟨4,.q []⟩,⟨5,.q []⟩,⟨6,.q []⟩,⟨7,.q []⟩,⟨8,.q []⟩,⟨9,.q []⟩,⟨10,.q []⟩,⟨11,.e 0 []⟩,⟨12,.e 0 []⟩] mixed (by kernel_rfl) (by kernel_rfl) O O O<|qD O<|qD O<|qD O<|qD O<|qD O<|qD O<|qD O<|qD O<|qD O<|qD O<|qD O<|qD O<|qD O<|zBq<|qM O (by decide) O O (zU O wY O (J 0 O) O)<|qM O (by decide) O O (zS O O)<|qM O (by decide) O O (zE O kO O)<|qM O (by decide) O O (zJ O zAj O (J 0 O) O)<|qM O (by decide) O O (zS O O)<|qM O (by decide) O O (qH O el42 O O (by omega) (zBj (by assumption)))<|qM O (by decide) O O (zU O yG O qE O)<|qM O (by decide) O O (qL O ok162 (ih x (zX hx) (zDr hpart (zX hx)) (by have:=Ex.arg_wt (zX hx);omega)) ⟨U,O,U,O,U,O,T⟩)<|qM O (by decide) O O (kL O O)<|qM O (by decide) O O (yA O O O)<|qM O (by decide) O O (wW O O O)<|zFs O O (by decide) O O (yJ O zr37) ?_
  rintro _ _ ⟨b5,rfl,rfl⟩
  refine ⟨_,O,?_⟩
  refine zHa O O (by decide) O O (kN O sz37 O O O (zCu 0 O O)) ?_
  rintro _ _ ⟨rfl,rfl⟩
  refine ⟨_,O,?_⟩
  refine zBp O<|G O<|W<|zM<|Y O<|G O<|yW O<|W<|zH O (fun c2=>?_) (fun c2=>?_)
  ·try simp only [sx] at c2
   refine Y O<|yN O zr37 pl37<|G O<|rStR 2 sz37 O<|G O<|W<|zO<|fin2 (zZ yO O (J 2 O) O) (rs_c O) ?_
   rw [nodeT_no hx hp c2];rfl
  ·try simp only [sx] at c2
   refine zN<|zT O<|G O<|zP yO (J 0 O) O<|yV O zEd zr37<|zY O O (qV 1 O zEd O O O (by simp only [List.length_map,List.length_cons,List.length_nil,hll,List.length_take];omega) (by simp only [List.length_map,List.length_cons,List.length_nil,hll,List.length_take];omega)) ?_
   rintro _ _ ⟨sv6,rfl,rfl⟩
   refine G O<|W<|zT O<|G O<|qK O ⟨by omega,by omega⟩<|G O<|W ?_
   refine ⟨⟨k+1,sv6⟩,⟨by omega,by rw [zIk hx hp c2]⟩,(by show e.Args.length-(k+1)<e.Args.length-k;omega),Weak.mk [false,true,true,true,true] ⟨U,U,U,U,U,U,T⟩ (by show _=[E.vec sv6 _ 5 ((bF (fN p.en (knB p.Sizes vars)) (e.Args.take (k+1))).1.map tyC)]++_;rw [zIk hx hp c2];simp only [List.map_append];rfl)⟩
 ·try simp only [sx] at c1
  have hll:=zHv _ _ hp
  have hta:e.Args.take k=e.Args:=qY (by omega)
  rw [hta] at hll
  have hg:∀i,i<e.Args.length->((bF (fN p.en (knB p.Sizes vars)) (e.Args.take k)).1.map tyC)[i]? =some (tyC (fJ (bF (fN p.en (knB p.Sizes vars)) (e.Args.take k)).1 i)):=fun i hi=>tyAt_get (by rw [hta];omega)
  have hT:bE (fN p.en (knB p.Sizes vars)) e=(fN p.en (knB p.Sizes vars)) e (bF (fN p.en (knB p.Sizes vars)) (e.Args.take k)).1:=nodeT_ok hta hp
  have hlk:(bF (fN p.en (knB p.Sizes vars)) (e.Args.take k)).1.length=e.Args.length:=by rw [hta];exact hll
  refine qO<|zM<|zR<|Y O<|zF O kE<|zK one3 (J 2 O) O<|yK O<|G O<|rL0 O (fun g9_3=>zE O kE O) O<|rL1 43 O (fun g9_3=>zJ O one3 O (J 2 O) O) O<|rL1 44 O (fun g9_3=>yM O O O) O<|r_or O (fun h=>(lzf h))<|G O<|W<|zH O (fun c3=>?_) (fun c3=>?_)
  ·try simp only [sx] at c3
   refine Y O<|zF O zCw<|zP yO (J 2 O) O<|rStR 1 sz37 O<|G O<|W<|zO<|fin2 (zZ yO O (J 1 O) O) (rs_c O) ?_
   exact by rw [hT,refN_1 c3];rfl
  ·try simp only [sx] at c3
   refine Y O<|zF O kE<|zK one3 (J 2 O) O<|yK O<|G O<|W<|zH O (fun c4=>?_) (fun c4=>?_)
   ·try simp only [sx] at c4
    refine Y O<|yN O zr37 pl37<|zP wY (J 3 O) O<|G O<|zF O zBk<|zP yB (J 2 O) O<|yV O el65 v<|qQ O ok215 (zQr p vars [e.Lin] hz0 hv (by simp) (fun x hx=>by rw [List.mem_singleton.1 hx];omega)) ⟨U,O,U,O,U,O,T⟩<|rStR 1 sz37 O<|G O<|W<|zO<|fin2 (zZ yO O (J 1 O) O) (rs_c O) ?_
    exact by rw [hT,refN_2 c4];rfl
   ·try simp only [sx] at c4
    refine Y O<|zF O kE<|zK one3 (J 2 O) O<|yK O<|G O<|W<|zH O (fun c5=>?_) (fun c5=>?_)
    ·try simp only [sx] at c5
     refine Y O<|zP wY (J 3 O) O<|G O<|zP yG (J 2 O) O<|qQ O ok216 (ref17_read p vars e hP hv he) ⟨U,O,U,O,U,O,T⟩<|qA O (yA O O O)<|yX O<|rStR 1 sz37 O<|G O<|W<|zO<|fin2 (zZ yO O (J 1 O) O) (rs_c O) ?_
     exact by rw [hT,refN_3 c5];rfl
    ·try simp only [sx] at c5
     refine Y O<|zF O kE<|zK one3 (J 2 O) O<|yK O<|G O<|W<|zH O (fun c6=>?_) (fun c6=>?_)
     ·try simp only [sx] at c6
      have hlen3:=args_len3 hpart c6
      refine zM<|zM<|qW 7 mixed (by kernel_rfl) O O<|zQ O O (zS O O)<|zQ O O (qZ 0 O zEd O O O (by omega) (by simp only [List.length_map];omega))<|zQ O O (zU O yO O (wP 0 O (hg 1 (by omega))) O)<|zQ O O (zS O O)<|zQ O O (qZ 0 O zEd O O O (by omega) (by simp only [List.length_map];omega))<|zQ O O (zU O yO O (wP 0 O (hg 2 (by omega))) O)<|zQ O O (zBg O fl37 O O O)<|yR<|W<|zH O (fun c7=>?_) (fun c7=>?_)
      ·refine Y O<|yN O zr37 pl37<|rStR 1 sz37 O<|G O<|W<|zO<|fin2 (zZ yO O (J 1 O) O) (rs_c O) ?_
       exact by rw [hT,refN_11' c6 (zKr c7)];rfl
      ·refine zN<|Y O<|G O<|qA O (qZ 0 O zEd O O O (by omega) (by simp only [List.length_map];omega))<|zP yO (wP 0 O (hg 1 (by omega))) O<|rStR 1 sz37 O<|G O<|W<|zO<|fin2 (zZ yO O (J 1 O) O) (rs_c O) ?_
       exact by rw [hT,refN_11 c6 (zIi c7)];rfl
     ·try simp only [sx] at c6
      refine Y O<|zF O kE<|zK one3 (J 2 O) O<|yK O<|G O<|W<|zH O (fun c8=>?_) (fun c8=>?_)
      ·try simp only [sx] at c8
       have hlen1:=args_len hpart (by omega)
       refine Y O<|G O<|qA O (qZ 0 O zEd O O O (by omega) (by simp only [List.length_map];omega))<|zP yO (wP 0 O (hg 0 (by omega))) O<|rStR 1 sz37 O<|G O<|W<|zO<|fin2 (zZ yO O (J 1 O) O) (rs_c O) ?_
       exact by rw [hT,refN_8 c8];rfl
      ·try simp only [sx] at c8
       refine Y O<|zF O kE<|zK one3 (J 2 O) O<|qA O (wJ O O O)<|G O<|W<|zH O (fun c9=>?_) (fun c9=>?_)
       ·try simp only [sx] at c9
        refine Y O<|yN O zr37 pl37<|rStR 1 sz37 O<|G O<|W<|zO<|fin2 (zZ yO O (J 1 O) O) (rs_c O) ?_
        exact by rw [hT,refN_16 c9];rfl
       ·try simp only [sx] at c9
        have hlen2:=zIe hpart (by omega)
        refine zN<|zM<|zM<|qW 7 mixed (by kernel_rfl) O O<|zQ O O (zS O O)<|zQ O O (qZ 0 O zEd O O O (by omega) (by simp only [List.length_map];omega))<|zQ O O (zU O yO O (wP 0 O (hg 0 (by omega))) O)<|zQ O O (zS O O)<|zQ O O (qZ 0 O zEd O O O (by omega) (by simp only [List.length_map];omega))<|zQ O O (zU O yO O (wP 0 O (hg 1 (by omega))) O)<|zQ O O (zBg O fl37 O O O)<|yR<|W<|zH O (fun c10=>?_) (fun c10=>?_)
        ·refine Y O<|yN O zr37 pl37<|rStR 1 sz37 O<|G O<|W<|zO<|fin2 (zZ yO O (J 1 O) O) (rs_c O) ?_
         exact by rw [hT,refN_no (by omega) (zKr c10)];rfl
        ·refine zN<|zM<|Y O<|zF O kE<|zK one3 (J 2 O) O<|qA O (wJ O O O)<|W<|zH O (fun c11=>?_) (fun c11=>?_)
         ·try simp only [sx] at c11
          refine Y O<|yN O zr37 pl37<|rStR 1 sz37 O<|G O<|W<|zO<|fin2 (zZ yO O (J 1 O) O) (rs_c O) ?_
          exact by rw [hT,refN_13 (by omega) (zIi c10) c11];rfl
         ·try simp only [sx] at c11
          refine zN<|Y O<|G O<|qA O (qZ 0 O zEd O O O (by omega) (by simp only [List.length_map];omega))<|zP yO (wP 0 O (hg 0 (by omega))) O<|rStR 1 sz37 O<|G O<|W<|zO<|fin2 (zZ yO O (J 1 O) O) (rs_c O) ?_
          exact by rw [hT,refN_o (by omega) (zIi c10)];rfl
theorem ref17_node (p:Pg) (vars:List ByteArray) (e:Ex) (hP:p.Ok) (hv:vars.length<=4294967296) (hpart:dQ e=0) (he:e.wt<=4294967296):Pur cfg 162 [vPg p,vSs vars,vE e] (.tup [vTy (bE (fN p.en (knB p.Sizes vars)) e).1,vI (bE (fN p.en (knB p.Sizes vars)) e).2]):=by
  induction e using Ex.ind with
  |_ e ih=>exact zQq p vars hP hv e (fun a ha h1 h2=>ih a ha h1 h2) hpart he
theorem ref17_TypeOf (p:Pg) (vars:List ByteArray) (e:Ex) (hP:p.Ok) (hv:vars.length<=4294967296) (he:e.wt<=4294967296):
    Pur cfg 96 [vPg p,vSs vars,vE e] (.tup [vTy (lJ p.en vars e).1,vI (lJ p.en vars e).2]):=by
 refine zW Tryz.func96 O Tryz.ntmps96 Tryz.results96 O ?_
 intro z hz
 refine Y O<|zY O O (qN O O) ?_
 rintro _ _ ⟨b1,rfl,rfl⟩
 refine zY O O (qN O O) ?_
 rintro _ _ ⟨b2,rfl,rfl⟩
 refine zY O O (yJ O zr37) ?_
 rintro _ _ ⟨b3,rfl,rfl⟩
 refine G O<|W<|zM<|Y O<|zP yG (J 1 O) O<|qQ O ok160 (zDi e (by omega)) ⟨U,O,T⟩<|G O<|W<|Y O<|G O<|yW O<|W<|zH O (fun c1=>?_) (fun c1=>?_)
 ·try simp only [sx] at c1
  refine Y O<|yN O zr37 pl37<|G O<|rStR 0 sz37 O<|G O<|W<|zO<|fin2 (zZ yO O (J 0 O) O) (rs_c O) ?_
  rw [typeR_bad c1];rfl
 ·try simp only [sx] at c1
  refine zN<|zM<|Y O<|zP yG (J 1 O) O<|qQ O ok161 (zCn e) ⟨U,O,T⟩<|W<|zH O (fun c2=>?_) (fun c2=>?_)
  ·try simp only [sx] at c2
   refine Y O<|yN O zr37 pl37<|rStR 0 sz37 O<|G O<|W<|zO<|fin2 (zZ yO O (J 0 O) O) (rs_c O) ?_
   rw [typeR_cond c1 c2];rfl
  ·try simp only [sx] at c2
   have hTo:=typeR_of (n:=p.en) (vars:=vars) c1 c2
   refine zN<|Y O<|zP wY (J 2 O) O<|G O<|zP yG (J 1 O) O<|qQ O ok162 (ref17_node p vars e hP hv (wS c1) he) ⟨U,O,U,O,U,O,T⟩<|yH O<|qA O (yA O O O)<|yX O<|zY O O (yJ O zr37) ?_
   rintro _ _ ⟨b4,rfl,rfl⟩
   refine rStR 0 sz37 O<|G O<|W<|zM<|Y O<|G O<|yW O<|W<|zH O (fun c3=>?_) (fun c3=>?_)
   ·try simp only [sx] at c3
    refine Y O<|yN O zr37 pl37<|G O<|rStR 1 sz37 O<|G O<|W<|zO<|fin2 (zZ yO O (J 1 O) O) (rs_c O) ?_
    rw [hTo,if_neg (show ¬(bE (fN p.en (knB p.en.sz vars)) e).2=0 from c3)];rfl
   ·try simp only [sx] at c3
    refine zN<|Y O<|zP yO (J 0 O) O<|rStR 1 sz37 O<|G O<|W<|zO<|fin2 (zZ yO O (J 1 O) O) (rs_c O) ?_
    rw [hTo,if_pos (show (bE (fN p.en (knB p.en.sz vars)) e).2=0 from c3)];rfl
end Go.W
