/-
  Walks: what functions of the program compute. Printed by wip/gen/mk2.py.
  Conditions: none.
-/
import Derived.Test.YtkijgodlhljgdaaGreatDoorWN
import Derived.Test.YtkijgodlhljgdaaGreatDoorEngZ
set_option linter.unusedSimpArgs false
set_option linter.unusedVariables false
set_option maxRecDepth 10000
namespace Go.W
open Go Go.Eng Go.Proofs Go.L41 Go.Br
attribute [local irreducible] AWP RWP TD finQ
theorem ok57:callOk Tryz.prog 57=true:=by kernel_rfl
theorem ok88:callOk Tryz.prog 88=true:=by kernel_rfl
theorem ok116:callOk Tryz.prog 116=true:=by kernel_rfl
theorem ok166:callOk Tryz.prog 166=true:=by kernel_rfl
theorem ok167:callOk Tryz.prog 167=true:=by kernel_rfl
theorem zKp (p:Pg) (s:ByteArray) (hP:p.Ok):
    Pur cfg 57 [vPg p,vS s] (.tup [vTy (p.en.find s).ty,vLins (p.en.find s).dims,vB (p.en.find s).ok]):=by
 refine zV Tryz.func57 O Tryz.ntmps57 Tryz.results57 O ?_
 intro z hz
 have hpl:=hP.params
 have hpd:=hP.defs
 refine B O<|zW O O (qJ O O) ?_
 rintro _ _ ⟨b1,rfl,rfl⟩
 refine zW O O (yA O zr31) ?_
 rintro _ _ ⟨b2,rfl,rfl⟩
 refine qB O (yJ 2 O O)<|F O<|H<|U<|B O<|F O<|H<|zP<|zT ⟨[(7,.c _),(1,.c _),(2,.c _),(4,.c _)],[_,_]⟩ (Weak.mk [true,true] ⟨G,G,G,G,T⟩ O)<|qG 1 0 O O (Nat) (fun k=>[(7,vI k)]) (fun k=>[]) (fun k=>k<=p.Params.length/\(findP s p.Defs p.Params=findP s p.Defs (p.Params.drop k))) (fun k=>p.Params.length-k) ⟨0,⟨by omega,O⟩,Weak.mk [true,true] ⟨G,G,G,G,T⟩ O⟩ ?_
 rintro k ⟨hk,hp⟩
 refine U<|B O<|F O<|zG O kM<|zK zAl (K 1 O) O<|zZ O el24<|yB O<|H<|g O (fun c1=>?_) (fun c1=>?_)
 ·try simp only [I] at c1
  obtain ⟨x,hx⟩:=qP p.Params k (by omega)
  refine zJ<|U<|zP<|B O<|zG O kM<|zK zAl (K 1 O) O<|F O<|qE O el24 (by omega) (Q (by assumption))<|qR O zHy<|zK i qA O<|F O<|qB O (yQ O O O)<|H<|g O (fun c2=>?_) (fun c2=>?_)
  ·try simp only [I] at c2
   refine U<|yH 13 0 [⟨0,.q []⟩,⟨1,.q [1]⟩,⟨2,.q []⟩,⟨3,.q []⟩,⟨4,.q []⟩,⟨5,.q []⟩,⟨6,.q []⟩,⟨7,.q [1]⟩,⟨8,.q []⟩,⟨9,.q []⟩,⟨10,.q []⟩,⟨11,.q []⟩,⟨12,.e 0 []⟩] mixed (by kernel_rfl) (by kernel_rfl) O O O<|D O<|D O<|D O<|D O<|D O<|D O<|D O<|D O<|D O<|D O<|D O<|D O<|D O<|wG<|M O (by decide) O O (zD O kM O)<|M O (by decide) O O (zF O zAl O (K 0 O) O)<|M O (by decide) O O (zQ O O)<|M O (by decide) O O (zY O el24 O O (by omega) (Q (by assumption)))<|M O (by decide) O O (qT O zJr O)<|M O (by decide) O O (zN O yF O qA O)<|M O (by decide) O O (zD O kM O)<|M O (by decide) O O (zF O zAl O (K 0 O) O)<|M O (by decide) O O (zQ O O)<|M O (by decide) O O (zY O el24 O O (by omega) (Q (by assumption)))<|M O (by decide) O O (qT O zCy O)<|M O (by decide) O O (zF O zAv O qA O)<|zGb O O (by decide) O O (kT O sz31 O O O (zDo 0 O O)) ?_
   rintro _ _ ⟨rfl,rfl⟩
   refine ⟨_,O,?_⟩
   refine wF O<|F O<|F O<|H<|W<|fin3 (zS yF O (K 0 O) O) (o O) (o O) ?_
   rw [En.find,show p.en.pm=p.Params from rfl,show p.en.df=p.Defs from rfl,hp,find_at hx c2];rfl
  ·try simp only [I] at c2
   refine zJ<|zU O<|F O<|qL O ⟨by omega,by omega⟩<|F O<|H ?_
   refine ⟨k+1,⟨by omega,hp.trans (find_next hx c2)⟩,(by omega),Weak.mk [true,true] ⟨G,G,G,G,T⟩ O⟩
 ·try simp only [I] at c1
  have hF:p.en.find s=findD s p.Defs:=by rw [En.find,show p.en.pm=p.Params from rfl,show p.en.df=p.Defs from rfl,hp,wK (by omega)];rfl
  refine qM<|U<|B O<|F O<|H<|zP<|zT ⟨[(8,.c _),(1,.c _),(2,.c _),(4,.c _)],[_,_]⟩ (Weak.mk [true,true] ⟨G,G,G,G,T⟩ O)<|qG 1 0 O O (Nat) (fun k=>[(8,vI k)]) (fun k=>[]) (fun k=>k<=p.Defs.length/\(findD s p.Defs=findD s (p.Defs.drop k))) (fun k=>p.Defs.length-k) ⟨0,⟨by omega,O⟩,Weak.mk [true,true] ⟨G,G,G,G,T⟩ O⟩ ?_
  rintro k ⟨hk,hq⟩
  refine U<|B O<|F O<|zG O kE<|zK zAc (K 1 O) O<|zZ O el25<|yB O<|H<|g O (fun c3=>?_) (fun c3=>?_)
  ·try simp only [I] at c3
   obtain ⟨d,hd⟩:=qP p.Defs k (by omega)
   refine zJ<|U<|zP<|B O<|zG O kE<|zK zAc (K 1 O) O<|F O<|qE O el25 (by omega) (Q (by assumption))<|qR O zEk<|zK i qA O<|F O<|qB O (yQ O O O)<|H<|g O (fun c4=>?_) (fun c4=>?_)
   ·try simp only [I] at c4
    have hdd:=(hP.ds d (qD hd)).1
    refine B O<|F O<|yV _ (kG 34 2)<|H<|U<|B O<|F O<|H<|zP<|zT ⟨[(10,.c _),(9,.c _),(2,.c _),(4,.c _),(8,.c _)],[_,_,_]⟩ (Weak.mk [true,true,true] ⟨G,G,G,G,G,T⟩ O)<|qG 2 1 O O (Nat×Value) (fun ⟨j,sv⟩=>[(10,vI j),(9,.c (.lit sv))]) (fun ⟨j,sv⟩=>[E.vec sv 34 2 ((d.Dims.take j).map fun a=>a.Size.cells)]) (fun ⟨j,sv⟩=>j<=d.Dims.length) (fun ⟨j,sv⟩=>d.Dims.length-j) ⟨⟨0,(.slice none 0 0)⟩,(by omega),Weak.mk [true,true,true] ⟨G,G,G,G,G,T⟩ O⟩ ?_
    rintro ⟨j,sv⟩ hj
    show AWP _ _ _ _ _ ⟨[(10,vI j),(9,.c (.lit sv))]++_,[E.vec sv 34 2 ((d.Dims.take j).map fun a=>a.Size.cells)]++_⟩
    refine U<|B O<|F O<|zG O kE<|zK zAc (K 2 O) O<|F O<|qE O el25 (by omega) (Q (by assumption))<|qR O zBi<|zK wW qA O<|zZ O el57<|yB O<|H<|g O (fun c5=>?_) (fun c5=>?_)
    ·try simp only [I] at c5
     obtain ⟨a,ha⟩:=qP d.Dims j (by omega)
     refine zJ<|U<|zP<|zU O<|F O<|zG O kE<|zK zAc (K 2 O) O<|F O<|qE O el25 (by omega) (Q (by assumption))<|qR O zBi<|zK wW qA O<|F O<|qE O el57 (by omega) (Q (by assumption))<|qR O zIt<|zL kP qA O<|qZ O el63 zr34<|zW O O (qS 0 O el63 O O O (by simp only [List.length_take,List.length_map,List.length_cons,List.length_nil];omega) (by simp only [List.length_take,List.length_map,List.length_cons,List.length_nil];omega)) ?_
     rintro _ _ ⟨sv4,rfl,rfl⟩
     refine F O<|H<|zU O<|F O<|qL O ⟨by omega,by omega⟩<|F O<|H ?_
     refine ⟨⟨j+1,sv4⟩,(by omega),(by show d.Dims.length-(j+1)<d.Dims.length-j;omega),Weak.mk [true,true,true] ⟨G,G,G,G,G,T⟩ (by show _=[E.vec sv4 _ 2 ((d.Dims.take (j+1)).map fun a=>a.Size.cells)]++_;rw [qQ ha,List.map_append (f:=fun a:Ax=>a.Size.cells)];rfl)⟩
    ·try simp only [I] at c5
     refine qM<|B O<|zG O kE<|zK zAc (K 2 O) O<|F O<|qE O el25 (by omega) (Q (by assumption))<|qR O zHz<|zL yF qA O<|F O<|N 1 sz31 O<|F O<|F O<|H<|zT _ (kB 0 O (regs':=[(9,_),(83,_),(5,_)]) (μ':=[_,_]) ⟨FLe.sl,FLe.sl,FLe.sl,T⟩ ⟨EFle.refl _,EFle.refl _,T⟩)<|W<|fin3 (zS yF O (K 0 O) O) (o O) (o O) ?_
     rw [hF,hq,findD_at hd c4,qY (l:=d.Dims) (k:=j) (by omega)];simp only [vLins,List.map_map];rfl
   ·try simp only [I] at c4
    refine zJ<|zU O<|F O<|qL O ⟨by omega,by omega⟩<|F O<|H ?_
    refine ⟨k+1,⟨by omega,hq.trans (findD_next hd c4)⟩,(by omega),Weak.mk [true,true] ⟨G,G,G,G,T⟩ O⟩
  ·try simp only [I] at c3
   refine qM<|B O<|kA O zr31 pl31<|N 0 sz31 O<|qB O (yJ 2 O O)<|F O<|H<|W<|fin3 (zS yF O (K 0 O) O) (o O) (o O) ?_
   rw [hF,hq,wK (l:=p.Defs) (by omega)];rfl
theorem zMk (d:Df) (hD:d.Dims.length<=1073741824) (hR:d.Red.length<=1073741824):
    OwnR cfg 120 [vDf d] 9 1 ((namesD d).map fun s=>[cS s]):=by
 refine zV Tryz.func120 O Tryz.ntmps120 Tryz.results120 O ?_
 intro z hz
 refine B O<|zW O O (qJ O O) ?_
 rintro _ _ ⟨b1,rfl,rfl⟩
 refine qB O (yJ 1 O O)<|H<|B O<|F O<|yV _ (kG 9 1)<|H<|U<|B O<|F O<|H<|zP<|zT ⟨[(4,.c _),(3,.c _),(1,.c _)],[_,_]⟩ (Weak.mk [true,true] ⟨G,G,G,T⟩ O)<|qG 2 1 O O (Nat×Value) (fun ⟨k,sv⟩=>[(4,vI k),(3,.c (.lit sv))]) (fun ⟨k,sv⟩=>[E.vec sv 9 1 ((d.Dims.take k).map fun a=>[cS a.Name])]) (fun ⟨k,sv⟩=>k<=d.Dims.length) (fun ⟨k,sv⟩=>d.Dims.length-k) ⟨⟨0,(.slice none 0 0)⟩,(by omega),Weak.mk [true,true] ⟨G,G,G,T⟩ O⟩ ?_
 rintro ⟨k,sv⟩ hk
 show AWP _ _ _ _ _ ⟨[(4,vI k),(3,.c (.lit sv))]++_,[E.vec sv 9 1 ((d.Dims.take k).map fun a=>[cS a.Name])]++_⟩
 refine U<|B O<|F O<|zG O zBi<|zK wW (K 1 O) O<|zZ O el57<|yB O<|H<|g O (fun c1=>?_) (fun c1=>?_)
 ·try simp only [I] at c1
  obtain ⟨x,hx⟩:=qP d.Dims k (by omega)
  refine zJ<|U<|zP<|zU O<|F O<|zG O zBi<|zK wW (K 1 O) O<|F O<|qE O el57 (by omega) (Q (by assumption))<|qR O zCx<|zK i qA O<|qZ O el22 zr9<|zW O O (qS 0 O el22 O O O (by simp only [List.length_append,List.length_take,List.length_map,List.length_cons,List.length_nil];omega) (by simp only [List.length_append,List.length_take,List.length_map,List.length_cons,List.length_nil];omega)) ?_
  rintro _ _ ⟨sv3,rfl,rfl⟩
  refine F O<|H<|zU O<|F O<|qL O ⟨by omega,by omega⟩<|F O<|H ?_
  refine ⟨⟨k+1,sv3⟩,(by omega),(by show d.Dims.length-(k+1)<d.Dims.length-k;omega),Weak.mk [true,true] ⟨G,G,G,T⟩ (by show _=[E.vec sv3 _ 1 ((d.Dims.take (k+1)).map fun a=>[cS a.Name])]++_;rw [qQ hx,List.map_append (f:=fun a:Ax=>[cS a.Name])];rfl)⟩
 ·try simp only [I] at c1
  refine qM<|U<|B O<|F O<|H<|zP<|zT ⟨[(5,.c _),(3,.c _),(1,.c _)],[_,_]⟩ (Weak.mk [true,true] ⟨G,G,G,T⟩ O)<|qG 2 1 O O (Nat×Value) (fun ⟨k,sw⟩=>[(5,vI k),(3,.c (.lit sw))]) (fun ⟨k,sw⟩=>[E.vec sw 9 1 ((d.Dims.map fun a=>[cS a.Name])++(d.Red.take k).map fun a=>[cS a.Name])]) (fun ⟨k,sw⟩=>k<=d.Red.length) (fun ⟨k,sw⟩=>d.Red.length-k) ⟨⟨0,sv⟩,(by omega),Weak.mk [true,true] ⟨G,G,G,T⟩ (by show _=[E.vec sv _ 1 ((d.Dims.map fun a=>[cS a.Name])++[])]++_;rw [qY (l:=d.Dims) (by omega),List.append_nil];rfl)⟩ ?_
  rintro ⟨k,sw⟩ hk2
  show AWP _ _ _ _ _ ⟨[(5,vI k),(3,.c (.lit sw))]++_,[E.vec sw 9 1 ((d.Dims.map fun a=>[cS a.Name])++(d.Red.take k).map fun a=>[cS a.Name])]++_⟩
  refine U<|B O<|F O<|zG O zAx<|zK wW (K 1 O) O<|zZ O el57<|yB O<|H<|g O (fun c2=>?_) (fun c2=>?_)
  ·try simp only [I] at c2
   obtain ⟨x,hx⟩:=qP d.Red k (by omega)
   refine zJ<|U<|zP<|zU O<|F O<|zG O zAx<|zK wW (K 1 O) O<|F O<|qE O el57 (by omega) (Q (by assumption))<|qR O zCx<|zK i qA O<|qZ O el22 zr9<|zW O O (qS 0 O el22 O O O (by simp only [List.length_append,List.length_take,List.length_map,List.length_cons,List.length_nil];omega) (by simp only [List.length_append,List.length_take,List.length_map,List.length_cons,List.length_nil];omega)) ?_
   rintro _ _ ⟨sv4,rfl,rfl⟩
   refine F O<|H<|zU O<|F O<|qL O ⟨by omega,by omega⟩<|F O<|H ?_
   refine ⟨⟨k+1,sv4⟩,(by omega),(by show d.Red.length-(k+1)<d.Red.length-k;omega),Weak.mk [true,true] ⟨G,G,G,T⟩ (by show _=[E.vec sv4 _ 1 ((d.Dims.map fun a=>[cS a.Name])++(d.Red.take (k+1)).map fun a=>[cS a.Name])]++_;rw [qQ hx,List.map_append (f:=fun a:Ax=>[cS a.Name]),←List.append_assoc];rfl)⟩
  ·try simp only [I] at c2
   refine qM<|B O<|F O<|F O<|H<|zT _ (Weak.mem [true,false] O)<|W<|R O ?_
   exact ⟨_,O,by rw [qY (l:=d.Red) (by omega),←List.map_append (f:=fun a:Ax=>[cS a.Name]),names_rows];rfl⟩
theorem zOa (p:Pg) (vars:List ByteArray) (l:List Lf) (hz0:p.Sizes.length<=4294967296) (hv:vars.length<=4294967296) (hl0:l.length<=4294967296) (hx0:∀x,x∈l->x.L.length<=5864062014805):
    Pur cfg 166 [vPg p,vSs vars,vLins l] (vI (formsK (knB p.Sizes vars) l)):=by
 refine zV Tryz.func166 O Tryz.ntmps166 Tryz.results166 O ?_
 intro z hz
 refine B O<|zW O O (qJ O O) ?_
 rintro _ _ ⟨b1,rfl,rfl⟩
 refine F O<|H<|U<|B O<|F O<|H<|zP<|zT ⟨[(7,.c _),(1,.c _),(2,.c _),(3,.c _)],[_]⟩ (Weak.mk [true] ⟨G,G,G,G,T⟩ O)<|qG 1 0 O O (Nat) (fun k=>[(7,vI k)]) (fun k=>[]) (fun k=>k<=l.length/\((l.take k).all (fun x=>knL (knB p.Sizes vars) x.L)=true)) (fun k=>l.length-k) ⟨0,⟨by omega,O⟩,Weak.mk [true] ⟨G,G,G,G,T⟩ O⟩ ?_
 rintro k ⟨hk,hp⟩
 refine U<|B O<|F O<|F O<|zZ O el63<|yB O<|H<|g O (fun c1=>?_) (fun c1=>?_)
 ·try simp only [I] at c1
  obtain ⟨x,hx⟩:=qP l k (by omega)
  refine zJ<|U<|zP<|U<|qO 9 mixed (by kernel_rfl) O O<|Y O O (zQ O O)<|Y O O (zQ O O)<|Y O O (zY O el63 O O (by omega) (Q (by assumption)))<|Y O O (zN O kP O qA O)<|Y O O (zQ O O)<|Y O O (zD O zBy O)<|Y O O (zF O wT O (K 0 O) O)<|Y O O (qF O ok116 (zIl x vars p.Sizes (hx0 x (qD hx)) hv hz0) ⟨G,O,G,O,G,O,T⟩)<|Y O O (kU O O)<|yK<|H<|g O (fun c2=>?_) (fun c2=>?_)
  ·try simp only [I] at c2
   refine B O<|F O<|H<|W<|R O ?_
   rw [formsK_no' hx c2]
  ·try simp only [I] at c2
   refine zJ<|zU O<|F O<|qL O ⟨by omega,by omega⟩<|F O<|H ?_
   refine ⟨k+1,⟨by omega,formsK_next' hx hp c2⟩,(by omega),Weak.mk [true] ⟨G,G,G,G,T⟩ O⟩
 ·try simp only [I] at c1
  refine qM<|B O<|F O<|H<|W<|R O ?_
  rw [qY (by omega)] at hp;rw [formsK_ok hp]
theorem ref17_read (p:Pg) (vars:List ByteArray) (e:Ex) (hP:p.Ok) (hv:vars.length<=4294967296) (he:e.wt<=4294967296):
    Pur cfg 167 [vPg p,vSs vars,vE e] (.tup [vTy (readK p.en (knB p.Sizes vars) e).1,vI (readK p.en (knB p.Sizes vars) e).2]):=by
 refine zV Tryz.func167 O Tryz.ntmps167 Tryz.results167 O ?_
 intro z hz
 obtain ⟨hLl,hIl,hAl⟩:=e.parts he
 have hwt:=Ex.wt_eq e
 have hz0:=hP.sizes
 refine B O<|zW O O (qJ O O) ?_
 rintro _ _ ⟨b1,rfl,rfl⟩
 refine zW O O (qJ O O) ?_
 rintro _ _ ⟨b2,rfl,rfl⟩
 refine zW O O (yA O zr31) ?_
 rintro _ _ ⟨b3,rfl,rfl⟩
 refine F O<|H<|B O<|zL kC (K 2 O) O<|zG O zBm<|zK i (K 1 O) O<|qK O ok57 (zKp p e.Name hP) ⟨G,O,G,O,T⟩<|qB O (qU O O)<|qB O (yN O O O)<|qB O (yG O O O)<|qB O (yG O O O)<|zW O O (yA O zr31) ?_
 rintro _ _ ⟨b4,rfl,rfl⟩
 refine N 0 sz31 O<|F O<|F O<|H<|U<|B O<|F O<|wI O<|H<|g O (fun c1=>?_) (fun c1=>?_)
 ·try simp only [I] at c1
  refine B O<|kA O zr31 pl31<|N 1 sz31 O<|F O<|H<|W<|fin2 (zS yF O (K 1 O) O) (o O) ?_
  rw [readK_9 c1];rfl
 ·try simp only [I] at c1
  refine zJ<|U<|B O<|F O<|zZ O el63<|zG O kL<|zK wX (K 2 O) O<|zZ O d<|yP O<|H<|g O (fun c2=>?_) (fun c2=>?_)
  ·try simp only [I] at c2
   refine B O<|kA O zr31 pl31<|N 1 sz31 O<|F O<|H<|W<|fin2 (zS yF O (K 1 O) O) (o O) ?_
   rw [readK_11 c1 (by omega)];rfl
  ·try simp only [I] at c2
   refine zJ<|U<|B O<|F O<|H<|zP<|zT ⟨[(11,.c _),(1,.c _),(3,.c _),(5,.c _),(6,.c _),(8,.c _)],[_,_,_,_]⟩ (Weak.mk [true,true,true,true] ⟨G,G,G,G,G,G,T⟩ O)<|qG 1 0 O O (Nat) (fun k=>[(11,vI k)]) (fun k=>[]) (fun k=>k<=e.Idx.length/\(indexL p.en (knB p.Sizes vars) e.Idx=indexL p.en (knB p.Sizes vars) (e.Idx.drop k))) (fun k=>e.Idx.length-k) ⟨0,⟨by omega,O⟩,Weak.mk [true,true,true,true] ⟨G,G,G,G,G,G,T⟩ O⟩ ?_
   rintro k ⟨hk,hp⟩
   refine U<|B O<|F O<|zG O kL<|zK wX (K 2 O) O<|zZ O d<|yB O<|H<|g O (fun c3=>?_) (fun c3=>?_)
   ·try simp only [I] at c3
    obtain ⟨x,hx⟩:=qP e.Idx k (by omega)
    have hxw:=Ex.idx_wt (qD hx)
    refine zJ<|U<|zP<|B O<|zG O kL<|zK wX (K 2 O) O<|F O<|qE O d (by omega) (Q (by assumption))<|zL zKg qA O<|zW O O (qI [none,some 2,none,some 2] O zr67 O) ?_
    rintro _ _ ⟨b5,rfl,rfl⟩
    refine N 0 sz67 O<|H<|U<|B O<|zG O zDv<|zK i (K 0 O) O<|qB O (yQ O O O)<|H<|g O (fun c4=>?_) (fun c4=>?_)
    ·try simp only [I] at c4
     refine U<|B O<|zG O zDw<|zL kP (K 0 O) O<|F O<|zG O zBy<|zK wT (K 4 O) O<|qK O ok116 (zIl x.Lin vars p.Sizes (by omega) hv hz0) ⟨G,O,G,O,G,O,T⟩<|wI O<|H<|g O (fun c5=>?_) (fun c5=>?_)
     ·try simp only [I] at c5
      refine B O<|kA O zr31 pl31<|N 2 sz31 O<|F O<|H<|W<|fin2 (zS yF O (K 2 O) O) (o O) ?_
      rw [zJk c1 (by omega) hp hx ((indexK_lin c4).trans (zHj c5)) (by decide)];rfl
     ·try simp only [I] at c5
      have hix:indexK p.en (knB p.Sizes vars) x=0:=by rw [indexK_lin c4,zMv c5]
      refine zJ<|qM<|zU O<|F O<|qL O ⟨by omega,by omega⟩<|F O<|H ?_
      refine ⟨k+1,⟨by omega,hp.trans (zIr hx hix)⟩,(by omega),Weak.mk [false,true,true,true,true] ⟨G,G,G,G,G,G,T⟩ O⟩
    ·try simp only [I] at c4
     refine zJ<|B O<|zL kC (K 4 O) O<|zG O zDv<|zK i (K 0 O) O<|qK O ok57 (zKp p x.From hP) ⟨G,O,G,O,T⟩<|qB O (qU O O)<|qB O (yN O O O)<|qB O (yG O O O)<|qB O (yG O O O)<|zW O O (yA O zr31) ?_
     rintro _ _ ⟨b6,rfl,rfl⟩
     refine N 0 sz31 O<|F O<|F O<|H<|U<|B O<|F O<|wI O<|H<|g O (fun c6=>?_) (fun c6=>?_)
     ·try simp only [I] at c6
      refine B O<|kA O zr31 pl31<|N 3 sz31 O<|F O<|H<|W<|fin2 (zS yF O (K 3 O) O) (o O) ?_
      rw [zJk c1 (by omega) hp hx (indexK_9 c4 c6) (by decide)];rfl
     ·try simp only [I] at c6
      refine zJ<|U<|B O<|zG O zAn<|zK w (K 0 O) O<|yP O<|H<|g O (fun c7=>?_) (fun c7=>?_)
      ·try simp only [I] at c7
       refine B O<|kA O zr31 pl31<|N 3 sz31 O<|F O<|H<|W<|fin2 (zS yF O (K 3 O) O) (o O) ?_
       rw [zJk c1 (by omega) hp hx (indexK_10 c4 c6 c7) (by decide)];rfl
      ·try simp only [I] at c7
       refine zJ<|U<|B O<|F O<|zZ O el63<|zG O zAw<|zK zAv (K 1 O) O<|zZ O el63<|yP O<|H<|g O (fun c8=>?_) (fun c8=>?_)
       ·try simp only [I] at c8
        refine B O<|kA O zr31 pl31<|N 3 sz31 O<|F O<|H<|W<|fin2 (zS yF O (K 3 O) O) (o O) ?_
        rw [zJk c1 (by omega) hp hx (indexK_11 c4 c6 c7 (by omega)) (by decide)];rfl
       ·try simp only [I] at c8
        refine zJ<|B O<|zL kC (K 5 O) O<|F O<|zG O zAw<|zK zAv (K 1 O) O<|qK O ok166 (zOa p vars x.At hz0 hv (by omega) (fun l hl=>by have:=zBw hl;omega)) ⟨G,O,G,O,G,O,T⟩<|F O<|H<|B O<|F O<|yP O<|H<|g O (fun c9=>?_) (fun c9=>?_)
        ·try simp only [I] at c9
         refine B O<|kA O zr31 pl31<|F O<|N 3 sz31 O<|F O<|H<|W<|fin2 (zS yF O (K 3 O) O) (o O) ?_
         rw [zJk c1 (by omega) hp hx (indexK_at c4 c6 c7 (by omega)) c9];rfl
        ·try simp only [I] at c9
         have hix:indexK p.en (knB p.Sizes vars) x=0:=by rw [indexK_at c4 c6 c7 (by omega)];exact c9
         refine zJ<|zU O<|F O<|qL O ⟨by omega,by omega⟩<|F O<|H ?_
         refine ⟨k+1,⟨by omega,hp.trans (zIr hx hix)⟩,(by omega),Weak.mk [false,false,true,true,true,true] ⟨G,G,G,G,G,G,T⟩ O⟩
   ·try simp only [I] at c3
    refine qM<|B O<|zL yF (K 0 O) O<|N 1 sz31 O<|F O<|H<|W<|fin2 (zS yF O (K 1 O) O) (o O) ?_
    rw [readK_0 c1 (by omega) (by rw [hp,wK (by omega)];rfl)];rfl
theorem zNz (p:Pg) (vars:List ByteArray) (hP:p.Ok) (hv:vars.length<=4294967296) (e:Ex) (ih:∀a,a∈e.Args->partE a=0->a.wt<=4294967296->Pur cfg 88 [vPg p,vSs vars,vE a] (.tup [vTy (nodeT (refN p.en (knB p.Sizes vars)) a).1,vI (nodeT (refN p.en (knB p.Sizes vars)) a).2])) (hpart:partE e=0) (he:e.wt<=4294967296):
    Pur cfg 88 [vPg p,vSs vars,vE e] (.tup [vTy (nodeT (refN p.en (knB p.Sizes vars)) e).1,vI (nodeT (refN p.en (knB p.Sizes vars)) e).2]):=by
 refine zV Tryz.func88 O Tryz.ntmps88 Tryz.results88 O ?_
 intro z hz
 obtain ⟨hLl,hIl,hAl⟩:=e.parts he
 have hwt:=Ex.wt_eq e
 have hz0:=hP.sizes
 refine B O<|zW O O (qJ O O) ?_
 rintro _ _ ⟨b1,rfl,rfl⟩
 refine zW O O (qJ O O) ?_
 rintro _ _ ⟨b2,rfl,rfl⟩
 refine zW O O (yA O zr31) ?_
 rintro _ _ ⟨b3,rfl,rfl⟩
 refine F O<|H<|B O<|F O<|yV _ (kG 31 5)<|H<|U<|B O<|F O<|H<|zP<|zT ⟨[(9,.c _),(8,.c _),(1,.c _),(3,.c _),(5,.c _),(6,.c _)],[_,_,_,_]⟩ (Weak.mk [true,true,true,true] ⟨G,G,G,G,G,G,T⟩ O)<|qG 2 1 O O (Nat×Value) (fun ⟨k,sv⟩=>[(9,vI k),(8,.c (.lit sv))]) (fun ⟨k,sv⟩=>[E.vec sv 31 5 ((nodeL (refN p.en (knB p.Sizes vars)) (e.Args.take k)).1.map tyC)]) (fun ⟨k,sv⟩=>k<=e.Args.length/\((nodeL (refN p.en (knB p.Sizes vars)) (e.Args.take k)).2=0)) (fun ⟨k,sv⟩=>e.Args.length-k) ⟨⟨0,(.slice none 0 0)⟩,⟨by omega,O⟩,Weak.mk [true,true,true,true] ⟨G,G,G,G,G,G,T⟩ O⟩ ?_
 rintro ⟨k,sv⟩ ⟨hk,hp⟩
 show AWP _ _ _ _ _ ⟨[(9,vI k),(8,.c (.lit sv))]++_,[E.vec sv 31 5 ((nodeL (refN p.en (knB p.Sizes vars)) (e.Args.take k)).1.map tyC)]++_⟩
 refine U<|B O<|F O<|zG O kF<|zK wJ (K 2 O) O<|zZ O A<|yB O<|H<|g O (fun c1=>?_) (fun c1=>?_)
 ·try simp only [I] at c1
  obtain ⟨x,hx⟩:=qP e.Args k (by omega)
  have hll:=zGj _ _ hp
  refine zJ<|U<|zP<|U<|yH 13 1 [⟨0,.q [4]⟩,⟨1,.q []⟩,⟨2,.q []⟩,⟨3,.q [3]⟩,⟨4,.q []⟩,⟨5,.q []⟩,⟨6,.q []⟩,⟨7,.q []⟩,⟨8,.q []⟩,⟨9,.q []⟩,⟨10,.q []⟩,⟨11,.e 0 []⟩,⟨12,.e 0 []⟩] mixed (by kernel_rfl) (by kernel_rfl) O O O<|D O<|D O<|D O<|D O<|D O<|D O<|D O<|D O<|D O<|D O<|D O<|D O<|D O<|wG<|M O (by decide) O O (zN O kC O (K 0 O) O)<|M O (by decide) O O (zQ O O)<|M O (by decide) O O (zD O kF O)<|M O (by decide) O O (zF O wJ O (K 0 O) O)<|M O (by decide) O O (zQ O O)<|M O (by decide) O O (zY O A O O (by omega) (yU (by assumption)))<|M O (by decide) O O (zN O qH O qA O)<|M O (by decide) O O (qF O ok88 (ih x (qD hx) (wQ hpart (qD hx)) (by have:=Ex.arg_wt (qD hx);omega)) ⟨G,O,G,O,G,O,T⟩)<|M O (by decide) O O (qU O O)<|M O (by decide) O O (yN O O O)<|M O (by decide) O O (yG O O O)<|zKl O O (by decide) O O (yA O zr31) ?_
  rintro _ _ ⟨b5,rfl,rfl⟩
  refine ⟨_,O,?_⟩
  refine zGb O O (by decide) O O (kT O sz31 O O O (zDo 0 O O)) ?_
  rintro _ _ ⟨rfl,rfl⟩
  refine ⟨_,O,?_⟩
  refine wF O<|F O<|H<|U<|B O<|F O<|yP O<|H<|g O (fun c2=>?_) (fun c2=>?_)
  ·try simp only [I] at c2
   refine B O<|kA O zr31 pl31<|F O<|N 2 sz31 O<|F O<|H<|W<|fin2 (zS yF O (K 2 O) O) (o O) ?_
   rw [nodeT_no hx hp c2];rfl
  ·try simp only [I] at c2
   refine zJ<|zU O<|F O<|zL yF (K 0 O) O<|qZ O zDd zr31<|zW O O (qS 1 O zDd O O O (by simp only [List.length_map,List.length_cons,List.length_nil,hll,List.length_take];omega) (by simp only [List.length_map,List.length_cons,List.length_nil,hll,List.length_take];omega)) ?_
   rintro _ _ ⟨sv6,rfl,rfl⟩
   refine F O<|H<|zU O<|F O<|qL O ⟨by omega,by omega⟩<|F O<|H ?_
   refine ⟨⟨k+1,sv6⟩,⟨by omega,by rw [zHb hx hp c2]⟩,(by show e.Args.length-(k+1)<e.Args.length-k;omega),Weak.mk [false,true,true,true,true] ⟨G,G,G,G,G,G,T⟩ (by show _=[E.vec sv6 _ 5 ((nodeL (refN p.en (knB p.Sizes vars)) (e.Args.take (k+1))).1.map tyC)]++_;rw [zHb hx hp c2];simp only [List.map_append];rfl)⟩
 ·try simp only [I] at c1
  have hll:=zGj _ _ hp
  have hta:e.Args.take k=e.Args:=qY (by omega)
  rw [hta] at hll
  have hg:∀i,i<e.Args.length->((nodeL (refN p.en (knB p.Sizes vars)) (e.Args.take k)).1.map tyC)[i]? =some (tyC (tyAt (nodeL (refN p.en (knB p.Sizes vars)) (e.Args.take k)).1 i)):=fun i hi=>tyAt_get (by rw [hta];omega)
  have hT:nodeT (refN p.en (knB p.Sizes vars)) e=(refN p.en (knB p.Sizes vars)) e (nodeL (refN p.en (knB p.Sizes vars)) (e.Args.take k)).1:=nodeT_ok hta hp
  have hlk:(nodeL (refN p.en (knB p.Sizes vars)) (e.Args.take k)).1.length=e.Args.length:=by rw [hta];exact hll
  refine qM<|U<|zP<|B O<|zG O yT<|zK w (K 2 O) O<|qX O<|F O<|u O (fun g9_3=>zD O yT O) O<|J 43 O (fun g9_3=>zF O w O (K 2 O) O) O<|J 44 O (fun g9_3=>yL O O O) O<|r_or O (fun h=>(lzf h))<|F O<|H<|g O (fun c3=>?_) (fun c3=>?_)
  ·try simp only [I] at c3
   refine B O<|zG O zCz<|zL yF (K 2 O) O<|N 1 sz31 O<|F O<|H<|W<|fin2 (zS yF O (K 1 O) O) (o O) ?_
   exact by rw [hT,refN_1 c3];rfl
  ·try simp only [I] at c3
   refine B O<|zG O yT<|zK w (K 2 O) O<|qX O<|F O<|H<|g O (fun c4=>?_) (fun c4=>?_)
   ·try simp only [I] at c4
    refine B O<|kA O zr31 pl31<|zL kC (K 3 O) O<|F O<|zG O zDy<|zL kP (K 2 O) O<|qZ O el63 zr34<|qK O ok166 (zOa p vars [e.Lin] hz0 hv (by simp) (fun x hx=>by rw [List.mem_singleton.1 hx];omega)) ⟨G,O,G,O,G,O,T⟩<|N 1 sz31 O<|F O<|H<|W<|fin2 (zS yF O (K 1 O) O) (o O) ?_
    exact by rw [hT,refN_2 c4];rfl
   ·try simp only [I] at c4
    refine B O<|zG O yT<|zK w (K 2 O) O<|qX O<|F O<|H<|g O (fun c5=>?_) (fun c5=>?_)
    ·try simp only [I] at c5
     refine B O<|zL kC (K 3 O) O<|F O<|zL qH (K 2 O) O<|qK O ok167 (ref17_read p vars e hP hv he) ⟨G,O,G,O,G,O,T⟩<|qB O (yN O O O)<|qB O (yG O O O)<|N 1 sz31 O<|F O<|H<|W<|fin2 (zS yF O (K 1 O) O) (o O) ?_
     exact by rw [hT,refN_3 c5];rfl
    ·try simp only [I] at c5
     refine B O<|zG O yT<|zK w (K 2 O) O<|qX O<|F O<|H<|g O (fun c6=>?_) (fun c6=>?_)
     ·try simp only [I] at c6
      have hlen3:=args_len3 hpart c6
      refine U<|U<|qO 7 mixed (by kernel_rfl) O O<|Y O O (zQ O O)<|Y O O (yC 0 O zDd O O O (by omega) (by simp only [List.length_map];omega))<|Y O O (zN O yF O (zAb 0 O (hg 1 (by omega))) O)<|Y O O (zQ O O)<|Y O O (yC 0 O zDd O O O (by omega) (by simp only [List.length_map];omega))<|Y O O (zN O yF O (zAb 0 O (hg 2 (by omega))) O)<|Y O O (zCj O fl31 O O O)<|yK<|H<|g O (fun c7=>?_) (fun c7=>?_)
      ·refine B O<|kA O zr31 pl31<|N 1 sz31 O<|F O<|H<|W<|fin2 (zS yF O (K 1 O) O) (o O) ?_
       exact by rw [hT,refN_11' c6 (zIz c7)];rfl
      ·refine zJ<|B O<|F O<|qB O (yC 0 O zDd O O O (by omega) (by simp only [List.length_map];omega))<|zL yF (zAb 0 O (hg 1 (by omega))) O<|N 1 sz31 O<|F O<|H<|W<|fin2 (zS yF O (K 1 O) O) (o O) ?_
       exact by rw [hT,refN_11 c6 (zGx c7)];rfl
     ·try simp only [I] at c6
      refine B O<|zG O yT<|zK w (K 2 O) O<|qX O<|F O<|H<|g O (fun c8=>?_) (fun c8=>?_)
      ·try simp only [I] at c8
       have hlen1:=args_len hpart (by omega)
       refine B O<|F O<|qB O (yC 0 O zDd O O O (by omega) (by simp only [List.length_map];omega))<|zL yF (zAb 0 O (hg 0 (by omega))) O<|N 1 sz31 O<|F O<|H<|W<|fin2 (zS yF O (K 1 O) O) (o O) ?_
       exact by rw [hT,refN_8 c8];rfl
      ·try simp only [I] at c8
       refine B O<|zG O yT<|zK w (K 2 O) O<|qB O (wL O O O)<|F O<|H<|g O (fun c9=>?_) (fun c9=>?_)
       ·try simp only [I] at c9
        refine B O<|kA O zr31 pl31<|N 1 sz31 O<|F O<|H<|W<|fin2 (zS yF O (K 1 O) O) (o O) ?_
        exact by rw [hT,refN_16 c9];rfl
       ·try simp only [I] at c9
        have hlen2:=zGv hpart (by omega)
        refine zJ<|U<|U<|qO 7 mixed (by kernel_rfl) O O<|Y O O (zQ O O)<|Y O O (yC 0 O zDd O O O (by omega) (by simp only [List.length_map];omega))<|Y O O (zN O yF O (zAb 0 O (hg 0 (by omega))) O)<|Y O O (zQ O O)<|Y O O (yC 0 O zDd O O O (by omega) (by simp only [List.length_map];omega))<|Y O O (zN O yF O (zAb 0 O (hg 1 (by omega))) O)<|Y O O (zCj O fl31 O O O)<|yK<|H<|g O (fun c10=>?_) (fun c10=>?_)
        ·refine B O<|kA O zr31 pl31<|N 1 sz31 O<|F O<|H<|W<|fin2 (zS yF O (K 1 O) O) (o O) ?_
         exact by rw [hT,refN_no (by omega) (zIz c10)];rfl
        ·refine zJ<|U<|B O<|zG O yT<|zK w (K 2 O) O<|qB O (wL O O O)<|H<|g O (fun c11=>?_) (fun c11=>?_)
         ·try simp only [I] at c11
          refine B O<|kA O zr31 pl31<|N 1 sz31 O<|F O<|H<|W<|fin2 (zS yF O (K 1 O) O) (o O) ?_
          exact by rw [hT,refN_13 (by omega) (zGx c10) c11];rfl
         ·try simp only [I] at c11
          refine zJ<|B O<|F O<|qB O (yC 0 O zDd O O O (by omega) (by simp only [List.length_map];omega))<|zL yF (zAb 0 O (hg 0 (by omega))) O<|N 1 sz31 O<|F O<|H<|W<|fin2 (zS yF O (K 1 O) O) (o O) ?_
          exact by rw [hT,refN_o (by omega) (zGx c10)];rfl
theorem ref17_node (p:Pg) (vars:List ByteArray) (e:Ex) (hP:p.Ok) (hv:vars.length<=4294967296) (hpart:partE e=0) (he:e.wt<=4294967296):Pur cfg 88 [vPg p,vSs vars,vE e] (.tup [vTy (nodeT (refN p.en (knB p.Sizes vars)) e).1,vI (nodeT (refN p.en (knB p.Sizes vars)) e).2]):=by
  induction e using Ex.ind with
  |_ e ih=>exact zNz p vars hP hv e (fun a ha h1 h2=>ih a ha h1 h2) hpart he
theorem zGh (p:Pg) (vars:List ByteArray) (e:Ex) (hP:p.Ok) (hv:vars.length<=4294967296) (he:e.wt<=4294967296):
    Pur cfg 33 [vPg p,vSs vars,vE e] (.tup [vTy (typeR p.en vars e).1,vI (typeR p.en vars e).2]):=by
 refine zV Tryz.func33 O Tryz.ntmps33 Tryz.results33 O ?_
 intro z hz
 refine B O<|zW O O (qJ O O) ?_
 rintro _ _ ⟨b1,rfl,rfl⟩
 refine zW O O (qJ O O) ?_
 rintro _ _ ⟨b2,rfl,rfl⟩
 refine zW O O (yA O zr31) ?_
 rintro _ _ ⟨b3,rfl,rfl⟩
 refine F O<|H<|U<|B O<|zL qH (K 1 O) O<|qK O ok37 (zHv e (by omega)) ⟨G,O,T⟩<|F O<|H<|B O<|F O<|yP O<|H<|g O (fun c1=>?_) (fun c1=>?_)
 ·try simp only [I] at c1
  refine B O<|kA O zr31 pl31<|F O<|N 0 sz31 O<|F O<|H<|W<|fin2 (zS yF O (K 0 O) O) (o O) ?_
  rw [typeR_bad c1];rfl
 ·try simp only [I] at c1
  refine zJ<|U<|B O<|zL qH (K 1 O) O<|qK O ok87 (zCa e) ⟨G,O,T⟩<|H<|g O (fun c2=>?_) (fun c2=>?_)
  ·try simp only [I] at c2
   refine B O<|kA O zr31 pl31<|N 0 sz31 O<|F O<|H<|W<|fin2 (zS yF O (K 0 O) O) (o O) ?_
   rw [typeR_cond c1 c2];rfl
  ·try simp only [I] at c2
   have hTo:=typeR_of (n:=p.en) (vars:=vars) c1 c2
   refine zJ<|B O<|zL kC (K 2 O) O<|F O<|zL qH (K 1 O) O<|qK O ok88 (ref17_node p vars e hP hv (zDh c1) he) ⟨G,O,G,O,G,O,T⟩<|qB O (qU O O)<|qB O (yN O O O)<|qB O (yG O O O)<|zW O O (yA O zr31) ?_
   rintro _ _ ⟨b4,rfl,rfl⟩
   refine N 0 sz31 O<|F O<|H<|U<|B O<|F O<|yP O<|H<|g O (fun c3=>?_) (fun c3=>?_)
   ·try simp only [I] at c3
    refine B O<|kA O zr31 pl31<|F O<|N 1 sz31 O<|F O<|H<|W<|fin2 (zS yF O (K 1 O) O) (o O) ?_
    rw [hTo,if_neg (show ¬(nodeT (refN p.en (knB p.en.sz vars)) e).2=0 from c3)];rfl
   ·try simp only [I] at c3
    refine zJ<|B O<|zL yF (K 0 O) O<|N 1 sz31 O<|F O<|H<|W<|fin2 (zS yF O (K 1 O) O) (o O) ?_
    rw [hTo,if_pos (show (nodeT (refN p.en (knB p.en.sz vars)) e).2=0 from c3)];rfl
end Go.W
