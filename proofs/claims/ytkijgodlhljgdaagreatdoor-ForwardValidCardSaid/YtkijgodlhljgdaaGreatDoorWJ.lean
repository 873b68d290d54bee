/-
  Walks: what functions of the program compute. Printed by wip/gen/mk2.py.
  Conditions: none.
-/
import Derived.Test.YtkijgodlhljgdaaGreatDoorWG
import Derived.Test.YtkijgodlhljgdaaGreatDoorPlain
import Derived.Test.YtkijgodlhljgdaaGreatDoorEngZ
set_option linter.unusedSimpArgs false
set_option linter.unusedVariables false
set_option maxRecDepth 10000
namespace Go.W
open Go Go.Eng Go.Proofs Go.L41 Go.Br
attribute [local irreducible] AWP RWP TD finQ
theorem zCv:aggT Tryz.prog 59=some 22:=by kernel_rfl
theorem el25:elemT Tryz.prog 25=some (59,22,272):=by kernel_rfl
theorem kE:fieldT Tryz.prog 27 3=some (3,25):=by kernel_rfl
theorem zEn:fieldT Tryz.prog 59 0=some (0,9):=by kernel_rfl
theorem ok108:callOk Tryz.prog 108=true:=by kernel_rfl
theorem ok275:callOk Tryz.prog 275=true:=by kernel_rfl
theorem ok276:callOk Tryz.prog 276=true:=by kernel_rfl
theorem wX:oneT Tryz.prog 25=true:=by kernel_rfl
theorem zAg (l:Lf) (hl:l.L.length<=5864062014805):
    Pur cfg 108 [vLin l] (vLin l):=by
 refine zT Tryz.func108 O Tryz.ntmps108 Tryz.results108 O ?_
 intro z hz
 refine B O<|zZ O O (qI O O) ?_
 rintro _ _ ⟨b1,rfl,rfl⟩
 refine zZ O O (qH [none,some 2] O zr34 O) ?_
 rintro _ _ ⟨b2,rfl,rfl⟩
 refine U<|zI<|qT 6 mixed (by kernel_rfl) O O<|zM O O (zD O zIp O)<|zM O O (zF O one2 O (J 1 O) O)<|zM O O (zD O wU O)<|zM O O (zF O zBv O (J 1 O) O)<|zM O O (qG O ok86 (OwnR.pur (zEg l.L hl)) ⟨Y,O,T⟩)<|zM O O (kX O zr34 pl34 O)<|yM<|N 0 sz34 O<|U<|zH<|fin1 (zV kK O (J 0 O) O) ?_
 exact O
theorem zBy (l:List Lf) (hl:l.length<=4294967296) (hx:∀x,x∈l->x.L.length<=5864062014805):
    OwnR cfg 109 [vLins l] 34 2 (l.map Lf.cells):=by
 refine zT Tryz.func109 O Tryz.ntmps109 Tryz.results109 O ?_
 intro z hz
 have hl0:=hx
 clear hx
 refine B O<|zX O (yU 2 O O)<|U<|B O<|G O<|yY _ (kM 34 2)<|U<|zI<|B O<|G O<|zY O el63<|G O<|U<|zP<|zU ⟨[(8,.c _),(3,.c _),(6,.c _),(7,.c _)],[_]⟩ (Weak.mk [true] ⟨Y,Y,Y,Y,T⟩ O)<|qF 2 1 O O (Nat×Value) (fun ⟨k,sv⟩=>[(8,vI k),(3,.c (.lit sv))]) (fun ⟨k,sv⟩=>[E.vec sv 34 2 ((l.take k).map Lf.cells)]) (fun ⟨k,sv⟩=>k<=l.length) (fun ⟨k,sv⟩=>l.length-k) ⟨⟨0,(.slice none 0 0)⟩,(by omega),Weak.mk [true] ⟨Y,Y,Y,Y,T⟩ O⟩ ?_
 rintro ⟨k,sv⟩ hk
 show AWP _ _ _ _ _ ⟨[(8,vI k),(3,.c (.lit sv))]++_,[E.vec sv 34 2 ((l.take k).map Lf.cells)]++_⟩
 refine B O<|yA O<|U<|zI<|zE O (fun c1=>?_) (fun c1=>?_)
 ·try simp only [W] at c1
  obtain ⟨x,hx⟩:=qQ l k (by omega)
  refine zJ<|zI<|zP<|B O<|qE O el63 (by omega) (getm (by assumption))<|zL kK qB O<|zZ O O (qH [none,some 2] O zr34 O) ?_
  rintro _ _ ⟨b2,rfl,rfl⟩
  refine N 0 sz34 O<|U<|zS O<|G O<|zL kK (J 0 O) O<|qK O ok108 (zAg _ (hl0 _ (qD hx))) ⟨Y,O,T⟩<|yE O el63 zr34<|zZ O O (qY 1 O el63 O O O (by first|omega|(simp only [List.length_take,List.length_map,List.length_append,List.length_nil,List.length_cons];omega)) (by first|omega|(simp only [List.length_take,List.length_map,List.length_append,List.length_nil,List.length_cons];omega))) ?_
  rintro _ _ ⟨sv3,rfl,rfl⟩
  refine G O<|U<|zS O<|qJ O ⟨by omega,by omega⟩<|G O<|U ?_
  refine ⟨⟨k+1,sv3⟩,(by omega),(by show l.length-(k+1)<l.length-k;omega),Weak.mk [false,true] ⟨Y,Y,Y,Y,T⟩ (by show _=[E.vec sv3 _ 2 ((l.take (k+1)).map Lf.cells)]++_;rw [qR hx,List.map_append];rfl)⟩
 ·try simp only [W] at c1
  refine qO<|B O<|G O<|G O<|U<|zH<|zQ O ?_
  exact ⟨_,O,by rw [qX (by omega)];rfl⟩
theorem zJr (d:Df) (s:ByteArray):
    Pur cfg 276 [vDf d,.c (.iptr [cS s])] (vB (decide (d.Name=s))):=by
 refine zT Tryz.func276 O Tryz.ntmps276 Tryz.results276 O ?_
 intro z hz
 refine B O<|zZ O O (qI O O) ?_
 rintro _ _ ⟨b1,rfl,rfl⟩
 refine G O<|U<|B O<|zG O zEn<|zK one9 (J 0 O) O<|zK one9 qB O<|zX O (yL O O O)<|G O<|U<|zH<|zQ O ?_
 exact O
theorem zHg (l:List Df) (c:C) (p:Df->Bool) (hl:l.length<=4294967296) (hc:∀x,x∈l->FnPur cfg c [vDf x] (vB (p x))):
    Pur cfg 275 [.c (.sl 22 (l.map Df.cells)),.c c] (vI (idxOf p l)):=by
 refine zT Tryz.func275 O Tryz.ntmps275 Tryz.results275 O ?_
 intro z hz
 refine B O<|G O<|U<|zI<|B O<|G O<|zY O el25<|G O<|U<|zP<|zU ⟨[(8,.c _),(0,.c _),(1,.c _),(7,.c _)],[]⟩ (Weak.mk [] ⟨Y,Y,Y,Y,T⟩ O)<|qF 1 0 O O (Nat) (fun k=>[(8,vI k)]) (fun k=>[]) (fun k=>k<=l.length/\((l.take k).any p=false)) (fun k=>l.length-k) ⟨0,⟨by omega,O⟩,Weak.mk [] ⟨Y,Y,Y,Y,T⟩ O⟩ ?_
 rintro k ⟨hk,hp⟩
 refine B O<|yA O<|U<|zI<|zE O (fun c1=>?_) (fun c1=>?_)
 ·try simp only [W] at c1
  obtain ⟨x,hx⟩:=qQ l k (by omega)
  refine zJ<|zI<|zP<|B O<|G O<|G O<|U<|B O<|G O<|G O<|G O<|qE O el25 (by omega) (getm (by assumption))<|zL zCv qB O<|zX O (wO O O (hc _ (qD hx)) ⟨Y,O,T⟩)<|U<|zE O (fun c2=>?_) (fun c2=>?_)
  ·try simp only [W] at c2
   refine B O<|G O<|G O<|U<|zH<|zQ O ?_
   rw [zLn hx c2 hp]
  ·try simp only [W] at c2
   refine zJ<|zS O<|qJ O ⟨by omega,by omega⟩<|G O<|U ?_
   refine ⟨k+1,⟨by omega,zFa hx hp c2⟩,(by omega),Weak.mk [] ⟨Y,Y,Y,Y,T⟩ O⟩
 ·try simp only [W] at c1
  refine qO<|B O<|G O<|U<|zH<|zQ O ?_
  rw [zGj (by rw [qX (by omega)] at hp;exact hp)]
theorem zMw (p:Pg) (s:ByteArray) (hd:p.Defs.length<=4294967296):
    Pur cfg 236 [vPg p,vS s] (vI (defOf s p.Defs)):=by
 refine zT Tryz.func236 O Tryz.ntmps236 Tryz.results236 O ?_
 intro z hz
 refine B O<|zZ O O (qI O O) ?_
 rintro _ _ ⟨b1,rfl,rfl⟩
 refine zZ O O (qI O O) ?_
 rintro _ _ ⟨b2,rfl,rfl⟩
 refine G O<|U<|B O<|zG O kE<|zK wX (J 1 O) O<|zX O (zIq O O O O O)<|yY _ (kH 0 O 7 (.c (.fn _ _ [_])) (PLe.fn ⟨.inr ⟨O,O⟩,T⟩))<|qK O ok275 (zHg p.Defs _ (fun d=>decide (d.Name=s)) hd (fun x _=>FnPur.of_pur (first:=[]) (cap:=[.iptr [cS s]]) ok276 (zJr x s))) ⟨Y,O,Y,O,T⟩<|G O<|U<|zH<|zQ O ?_
 exact O
theorem ref17_IndexOf (p:Pg) (s:ByteArray) (hd:p.Defs.length<=4294967296):
    Pur cfg 20 [vPg p,vS s] (vI (defOf s p.Defs)):=by
 refine zT Tryz.func20 O Tryz.ntmps20 Tryz.results20 O ?_
 intro z hz
 refine B O<|zZ O O (qI O O) ?_
 rintro _ _ ⟨b1,rfl,rfl⟩
 refine G O<|U<|zI<|B O<|G O<|U<|zP<|zU ⟨[(5,.c _),(1,.c _),(2,.c _)],[_]⟩ (Weak.mk [true] ⟨Y,Y,Y,T⟩ O)<|qF 1 0 O O (Nat) (fun k=>[(5,vI k)]) (fun k=>[]) (fun k=>k<=p.Defs.length/\((p.Defs.take k).any (fun d=>decide (d.Name=s))=false)) (fun k=>p.Defs.length-k) ⟨0,⟨by omega,O⟩,Weak.mk [true] ⟨Y,Y,Y,T⟩ O⟩ ?_
 rintro k ⟨hk,hp⟩
 refine zI<|B O<|G O<|zG O kE<|zK wX (J 0 O) O<|zY O el25<|yA O<|U<|zE O (fun c1=>?_) (fun c1=>?_)
 ·try simp only [W] at c1
  obtain ⟨x,hx⟩:=qQ p.Defs k (by omega)
  refine zJ<|zI<|zP<|B O<|zG O kE<|zK wX (J 0 O) O<|G O<|qE O el25 (by omega) (getm (by assumption))<|zX O (qL O zEn O)<|zK one9 qB O<|G O<|zX O (yL O O O)<|U<|zE O (fun c2=>?_) (fun c2=>?_)
  ·try simp only [W] at c2
   refine B O<|G O<|G O<|U<|zH<|zQ O ?_
   rw [defOf,zLn hx (kT c2) hp]
  ·try simp only [W] at c2
   refine zJ<|zS O<|G O<|qJ O ⟨by omega,by omega⟩<|G O<|U ?_
   refine ⟨k+1,⟨by omega,zFa hx hp (yC c2)⟩,(by omega),Weak.mk [true] ⟨Y,Y,Y,T⟩ O⟩
 ·try simp only [W] at c1
  refine qO<|B O<|G O<|U<|zH<|zQ O ?_
  rw [defOf,zGj (by rw [qX (by omega)] at hp;exact hp)]
theorem zHi (l:Lf) (v sz:List ByteArray) (hl:l.L.length<=5864062014805) (hv:v.length<=4294967296) (hz0:sz.length<=4294967296):
    Pur cfg 116 [vLin l,vSs v,vSs sz] (vB (knL (knB sz v) l.L)):=by
 refine zT Tryz.func116 O Tryz.ntmps116 Tryz.results116 O ?_
 intro z hz
 refine B O<|zZ O O (qI O O) ?_
 rintro _ _ ⟨b1,rfl,rfl⟩
 refine G O<|U<|zI<|B O<|G O<|U<|zP<|zU ⟨[(7,.c _),(1,.c _),(2,.c _),(3,.c _)],[_]⟩ (Weak.mk [true] ⟨Y,Y,Y,Y,T⟩ O)<|qF 1 0 O O (Nat) (fun k=>[(7,vI k)]) (fun k=>[]) (fun k=>k<=l.L.length/\(knL (knB sz v) (l.L.take k)=true)) (fun k=>l.L.length-k) ⟨0,⟨by omega,O⟩,Weak.mk [true] ⟨Y,Y,Y,Y,T⟩ O⟩ ?_
 rintro k ⟨hk,hp⟩
 refine zI<|B O<|G O<|zG O wU<|zK zBv (J 0 O) O<|zY O el32<|yA O<|U<|zE O (fun c1=>?_) (fun c1=>?_)
 ·try simp only [W] at c1
  obtain ⟨x,hx⟩:=qQ l.L k (by omega)
  refine zJ<|zI<|zP<|B O<|G O<|zG O wU<|zK zBv (J 0 O) O<|G O<|qE O el32 (by omega) (getm (by assumption))<|zX O (qL O zBj O)<|zK one9 qB O<|qK O ok50 (zJa v x.Name (by omega)) ⟨Y,O,Y,O,T⟩<|wB O<|G O<|rL0 O (fun g4_9=>zR O O) O<|rL0 O (fun g4_9=>zD O wU O) O<|rL1 26 O (fun g4_9=>zF O zBv O (J 0 O) O) O<|rL0 O (fun g4_9=>zR O O) O<|rLz [(27,_),(28,_)] O gv1 ⟨O,O,O,O,T⟩ (fun g4_9=>qA O el32 O O (by omega) (getm (by assumption))) O<|rL1 29 O (fun g4_9=>qL O zBj O) O<|rL1 30 O (fun g4_9=>zF O one9 O qB O) O<|rLz [(25,_),(31,_)] O gv1 ⟨O,O,O,O,T⟩ (fun g4_9=>qG O ok50 (zJa sz x.Name (by omega)) ⟨Y,O,Y,O,T⟩) O<|rL1 32 O (fun g4_9=>wA O O) O<|yW O (fun h=>h)<|U<|zE O (fun c2=>?_) (fun c2=>?_)
  ·refine B O<|G O<|U<|zH<|zQ O ?_
   rw [kn_no hx c2]
  ·refine zJ<|zS O<|G O<|qJ O ⟨by omega,by omega⟩<|G O<|U ?_
   refine ⟨k+1,⟨by omega,kn_next hx hp c2⟩,(by omega),Weak.mk [true] ⟨Y,Y,Y,Y,T⟩ O⟩
 ·try simp only [W] at c1
  refine qO<|B O<|G O<|U<|zH<|zQ O ?_
  rw [qX (by omega)] at hp;rw [hp]
end Go.W
