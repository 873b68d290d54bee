/-
  Walks: what functions of the program compute. Printed by wip/gen/mk2.py.
  Conditions: none.
-/
import Derived.Test.YtkijgodlhljgdaaGreatDoorVC
import Derived.Test.YtkijgodlhljgdaaGreatDoorWI
import Derived.Test.YtkijgodlhljgdaaGreatDoorPlain2
import Derived.Test.YtkijgodlhljgdaaGreatDoorEngZ
set_option linter.unusedSimpArgs false
set_option linter.unusedVariables false
set_option maxRecDepth 10000
namespace Go.W
open Go Go.Eng Go.Proofs Go.L41 Go.Br
attribute [local irreducible] AWP RWP TD finQ
theorem ok43:callOk Tryz.prog 43=true:=by kernel_rfl
theorem ok107:callOk Tryz.prog 107=true:=by kernel_rfl
theorem ok110:callOk Tryz.prog 110=true:=by kernel_rfl
theorem pl93:placesT Tryz.prog 93=some [(0,2),(2,1)]:=by kernel_rfl
theorem pl105:placesT Tryz.prog 105=some [(0,1),(1,2)]:=by kernel_rfl
theorem sz23:(Tryz.prog.info? 23).map (·.size)=some 1:=by kernel_rfl
theorem sz24:(Tryz.prog.info? 24).map (·.size)=some 1:=by kernel_rfl
theorem sz57:(Tryz.prog.info? 57).map (·.size)=some 1:=by kernel_rfl
theorem zBe (l:List ByteArray) (hl:l.length<=4294967296):
    OwnR cfg 107 [.c (.sl 1 (l.map fun s=>[cS s]))] 9 1 (l.map (fun s=>[cS s])):=by
 refine zT Tryz.func107 O Tryz.ntmps107 Tryz.results107 O ?_
 intro z hz
 refine B O<|zX O (yU 1 O O)<|U<|zI<|B O<|G O<|zZ O O (zFq O el22 O O) ?_
 rintro _ _ ⟨nb1,rfl,hnil1,rfl⟩
 refine U<|zE O (fun c1=>?_) (fun c1=>?_)
 ·try simp only [W] at c1
  refine B O<|G O<|yY _ (kM 9 1)<|U<|zH<|zQ O ?_
  exact ⟨_,O,by rw [hnil1 c1]⟩
 ·try simp only [W] at c1
  refine zJ<|B O<|zZ O O (zBm O el22 zr9 O O O O) ?_
  rintro _ _ ⟨sv3,rfl,rfl⟩
  refine G O<|zZ O O (qY 0 O el22 O O O (by simp only [List.length_map,List.length_nil,Nat.zero_add];omega) (by simp only [List.length_map,List.length_nil,Nat.zero_add];omega)) ?_
  rintro _ _ ⟨sv4,rfl,rfl⟩
  refine G O<|U<|zH<|zQ O ?_
  exact ⟨_,O,O⟩
theorem zBg (l:List Ax) (hl:l.length<=4294967296) (hx0:∀x,x∈l->x.Size.L.length<=5864062014805):
    OwnR cfg 110 [.c (.sl 3 (l.map Ax.cells))] 105 3 (l.map Ax.cells):=by
 refine zT Tryz.func110 O Tryz.ntmps110 Tryz.results110 O ?_
 intro z hz
 refine B O<|zX O (yU 3 O O)<|U<|B O<|G O<|yY _ (kM 105 3)<|U<|zI<|B O<|G O<|zY O el57<|G O<|U<|zP<|zU ⟨[(8,.c _),(3,.c _),(6,.c _),(7,.c _)],[_]⟩ (Weak.mk [true] ⟨Y,Y,Y,Y,T⟩ O)<|qF 2 1 O O (Nat×Value) (fun ⟨k,sv⟩=>[(8,vI k),(3,.c (.lit sv))]) (fun ⟨k,sv⟩=>[E.vec sv 105 3 ((l.take k).map Ax.cells)]) (fun ⟨k,sv⟩=>k<=l.length) (fun ⟨k,sv⟩=>l.length-k) ⟨⟨0,(.slice none 0 0)⟩,(by omega),Weak.mk [true] ⟨Y,Y,Y,Y,T⟩ O⟩ ?_
 rintro ⟨k,sv⟩ hk
 show AWP _ _ _ _ _ ⟨[(8,vI k),(3,.c (.lit sv))]++_,[E.vec sv 105 3 ((l.take k).map Ax.cells)]++_⟩
 refine B O<|yA O<|U<|zI<|zE O (fun c1=>?_) (fun c1=>?_)
 ·try simp only [W] at c1
  obtain ⟨x,hx⟩:=qQ l k (by omega)
  refine zJ<|zI<|zP<|B O<|qE O el57 (by omega) (getm (by assumption))<|zL agg105 qB O<|zZ O O (qH [none,none,some 2] O zr105 O) ?_
  rintro _ _ ⟨b2,rfl,rfl⟩
  refine N 0 sz105 O<|U<|qT 8 mixed (by kernel_rfl) O O<|zM O O (zR O O)<|zM O O (zD O zCo O)<|zM O O (zF O one9 O (J 0 O) O)<|zM O O (zD O zHp O)<|zM O O (zN O kK O (J 0 O) O)<|zM O O (qG O ok108 (zAg _ (hx0 _ (qD hx))) ⟨Y,O,T⟩)<|zM O O (kX O zr105 pl105 O)<|zM O O (yT O el57 zr105 O O O O)<|yM<|zZ O O (qY 1 O el57 O O O (by first|omega|(simp only [List.length_take,List.length_map,List.length_append,List.length_nil,List.length_cons];omega)) (by first|omega|(simp only [List.length_take,List.length_map,List.length_append,List.length_nil,List.length_cons];omega))) ?_
  rintro _ _ ⟨sv3,rfl,rfl⟩
  refine G O<|U<|zS O<|qJ O ⟨by omega,by omega⟩<|G O<|U ?_
  refine ⟨⟨k+1,sv3⟩,(by omega),(by show l.length-(k+1)<l.length-k;omega),Weak.mk [false,true] ⟨Y,Y,Y,Y,T⟩ (by exact mem1_eq (by rw [qR hx,List.map_append];rfl))⟩
 ·try simp only [W] at c1
  refine qO<|B O<|G O<|G O<|U<|zH<|zQ O ?_
  exact ⟨_,O,by rw [qX (by omega)];rfl⟩
theorem program_Copy (p:Pg) (hP:p.OkC):
    Pur cfg 43 [vPg p] (vPg p):=by
 refine zT Tryz.func43 O Tryz.ntmps43 Tryz.results43 O ?_
 intro z hz
 have hP1:=hP.wh
 have hP2:=hP.params
 have hP3:=hP.defs
 refine B O<|zZ O O (qI O O) ?_
 rintro _ _ ⟨b1,rfl,rfl⟩
 refine zZ O O (qH [some 1,some 3,some 7,some 22,some 1] O zr27 O) ?_
 rintro _ _ ⟨b2,rfl,rfl⟩
 refine U<|zI<|yH 8 1 [⟨0,.q []⟩,⟨1,.q [2]⟩,⟨2,.q []⟩,⟨3,.q []⟩,⟨4,.q [2]⟩,⟨5,.q []⟩,⟨6,.q []⟩,⟨7,.f 0⟩] mixed (by kernel_rfl) (by kernel_rfl) O O O<|zO O<|zO O<|zO O<|zO O<|zO O<|zO O<|zO O<|zIn O O (zAc (yB O zr27)) ⟨_,_,0,O,O⟩<|wM<|zW O (by decide) O O (zD O zCm O)<|zW O (by decide) O O (zF O wY O (J 0 O) O)<|zW O (by decide) O O (qG O ok107 (OwnR.pur (zBe p.Sizes hP.sizes)) ⟨Y,O,T⟩)<|zW O (by decide) O O (zD O zBb O)<|zW O (by decide) O O (zF O wY O (J 0 O) O)<|zW O (by decide) O O (qG O ok107 (OwnR.pur (zBe p.Outs hP.outs)) ⟨Y,O,T⟩)<|zW O (by decide) O O (kX O zr27 pl27 O)<|zId O O ?_
 rintro _ _ ⟨b3,rfl,rfl⟩
 refine wJ O<|N 0 sz27 O<|U<|zI<|B O<|yY _ (kM 93 3)<|yY _ (kM 65 7)<|yY _ (kM 59 22)<|zG O zFg<|zK one23 (J 5 O) O<|zY O el23<|G O<|U<|zP<|zU ⟨[(20,.c _),(1,.c _),(2,.c _),(3,.c _),(18,.c _),(19,.c _)],[_,_,_,_,_,_]⟩ (Weak.mk [true,true,true,true,true,true] ⟨Y,Y,Y,Y,Y,Y,T⟩ O)<|qF 1 4 O O (Nat×Value) (fun ⟨k,sv⟩=>[(20,vI k)]) (fun ⟨k,sv⟩=>[E.vec (.slice none 0 0) 59 22 ([]),E.vec (.slice none 0 0) 65 7 ([]),E.vec sv 93 3 ((p.Where.take k).map Cn.cells),E.row b3 27 [.sl 1 (p.Sizes.map fun s=>[cS s]),.lit sv,.lit (.slice none 0 0),.lit (.slice none 0 0),.sl 1 (p.Outs.map fun s=>[cS s])]]) (fun ⟨k,sv⟩=>k<=p.Where.length) (fun ⟨k,sv⟩=>p.Where.length-k) ⟨⟨0,(.slice none 0 0)⟩,(by omega),Weak.mk [true,true,true,true,true,true] ⟨Y,Y,Y,Y,Y,Y,T⟩ O⟩ ?_
 rintro ⟨k,sv⟩ hk
 show AWP _ _ _ _ _ ⟨[(20,vI k)]++_,[E.vec (.slice none 0 0) 59 22 ([]),E.vec (.slice none 0 0) 65 7 ([]),E.vec sv 93 3 ((p.Where.take k).map Cn.cells),E.row b3 27 [.sl 1 (p.Sizes.map fun s=>[cS s]),.lit sv,.lit (.slice none 0 0),.lit (.slice none 0 0),.sl 1 (p.Outs.map fun s=>[cS s])]]++_⟩
 refine B O<|yA O<|U<|zI<|zE O (fun c1=>?_) (fun c1=>?_)
 ·try simp only [W] at c1
  obtain ⟨x,hx⟩:=qQ p.Where k (by omega)
  refine zJ<|zI<|zP<|B O<|qE O el23 (by omega) (getm (by assumption))<|zL agg93 qB O<|zZ O O (qH [none,some 2,none] O zr93 O) ?_
  rintro _ _ ⟨b4,rfl,rfl⟩
  refine N 0 sz93 O<|U<|qT 9 mixed (by kernel_rfl) O O<|zM O O (zD O zFg O)<|zM O O (zF O one23 O (J 4 O) O)<|zM O O (zD O fd93_0 O)<|zM O O (zN O kK O (J 0 O) O)<|zM O O (qG O ok108 (zAg x.Lin (hP.whs x (qD hx))) ⟨Y,O,T⟩)<|zM O O (zD O fd93_1 O)<|zM O O (zF O one4 O (J 0 O) O)<|zM O O (kX O zr93 pl93 O)<|zM O O (yT O el23 zr93 O O O O)<|yM<|zZ O O (qY 3 O el23 O O O (by simp only [List.length_take,List.length_map,List.length_append,List.length_cons,List.length_nil];omega) (by simp only [List.length_take,List.length_map,List.length_append,List.length_cons,List.length_nil];omega)) ?_
  rintro _ _ ⟨sv5,rfl,rfl⟩
  refine zG O zFg<|N 4 sz23 O<|U<|zS O<|qJ O ⟨by omega,by omega⟩<|G O<|U ?_
  refine ⟨⟨k+1,sv5⟩,(by omega),(by show p.Where.length-(k+1)<p.Where.length-k;omega),Weak.mk [false,true,true,true,true,true,true] ⟨Y,Y,Y,Y,Y,Y,T⟩ (by exact mem4_eq (by rw [qR hx,List.map_append];rfl))⟩
 ·try simp only [W] at c1
  rw [qX (l:=p.Where) (k:=k) (by omega)]
  refine zU _ (kJ 2 O (regs':=[]) (μ':=[_,_,_,_,_]) T ⟨EFle.refl _,EFle.refl _,EFle.row (ds:=[_,_,_,_,_]) ⟨.inl O,.inr ⟨O,O⟩,.inl O,.inl O,.inl O,T⟩,EFle.refl _,EFle.refl _,T⟩)<|qO<|zI<|B O<|zG O wN<|zK zCk (J 4 O) O<|zY O el24<|G O<|U<|zP<|zU ⟨[(39,.c _),(1,.c _),(2,.c _),(3,.c _),(37,.c _),(38,.c _)],[_,_,_,_,_]⟩ (Weak.mk [true,true,true,true,true] ⟨Y,Y,Y,Y,Y,Y,T⟩ O)<|qF 1 3 O O (Nat×Value) (fun ⟨k,sw⟩=>[(39,vI k)]) (fun ⟨k,sw⟩=>[E.vec (.slice none 0 0) 59 22 ([]),E.vec sw 65 7 ((p.Params.take k).map Pm.cells),E.row b3 27 [.sl 1 (p.Sizes.map fun s=>[cS s]),.sl 3 (p.Where.map Cn.cells),.lit sw,.lit (.slice none 0 0),.sl 1 (p.Outs.map fun s=>[cS s])]]) (fun ⟨k,sw⟩=>k<=p.Params.length) (fun ⟨k,sw⟩=>p.Params.length-k) ⟨⟨0,(.slice none 0 0)⟩,(by omega),Weak.mk [true,true,true,true,true] ⟨Y,Y,Y,Y,Y,Y,T⟩ O⟩ ?_
  rintro ⟨k,sw⟩ hk
  show AWP _ _ _ _ _ ⟨[(39,vI k)]++_,[E.vec (.slice none 0 0) 59 22 ([]),E.vec sw 65 7 ((p.Params.take k).map Pm.cells),E.row b3 27 [.sl 1 (p.Sizes.map fun s=>[cS s]),.sl 3 (p.Where.map Cn.cells),.lit sw,.lit (.slice none 0 0),.sl 1 (p.Outs.map fun s=>[cS s])]]++_⟩
  refine B O<|yA O<|U<|zI<|zE O (fun c2=>?_) (fun c2=>?_)
  ·try simp only [W] at c2
   obtain ⟨y,hy⟩:=qQ p.Params k (by omega)
   refine zJ<|zI<|zP<|B O<|qE O el24 (by omega) (getm (by assumption))<|zL zLd qB O<|zZ O O (qH [none,none,none,none,none,none,some 2] O zr65 O) ?_
   rintro _ _ ⟨b6,rfl,rfl⟩
   refine N 0 sz65 O<|U<|B O<|zG O zEm<|zK zBa (J 0 O) O<|qK O ok109 (OwnR.pur (zBy y.Dims (hP.ps y (qD hy)).1 (hP.ps y (qD hy)).2)) ⟨Y,O,T⟩<|zG O zEm<|N 0 sz63 O<|U<|zS O<|zG O wN<|zK zCk (J 3 O) O<|zL zLd (J 0 O) O<|yE O el24 zr65<|zZ O O (qY 2 O el24 O O O (by simp only [List.length_take,List.length_map,List.length_append,List.length_cons,List.length_nil];omega) (by simp only [List.length_take,List.length_map,List.length_append,List.length_cons,List.length_nil];omega)) ?_
   rintro _ _ ⟨sv7,rfl,rfl⟩
   refine zG O wN<|N 3 sz24 O<|U<|zS O<|qJ O ⟨by omega,by omega⟩<|G O<|U ?_
   refine ⟨⟨k+1,sv7⟩,(by omega),(by show p.Params.length-(k+1)<p.Params.length-k;omega),Weak.mk [false,true,true,true,true,true] ⟨Y,Y,Y,Y,Y,Y,T⟩ (by exact mem3_eq (by rw [qR hy,List.map_append];rfl))⟩
  ·try simp only [W] at c2
   rw [qX (l:=p.Params) (k:=k) (by omega)]
   refine zU _ (kJ 1 O (regs':=[]) (μ':=[_,_,_,_]) T ⟨EFle.refl _,EFle.row (ds:=[_,_,_,_,_]) ⟨.inl O,.inl O,.inr ⟨O,O⟩,.inl O,.inl O,T⟩,EFle.refl _,EFle.refl _,T⟩)<|qO<|zI<|B O<|zG O kE<|zK wX (J 3 O) O<|zY O el25<|G O<|U<|zP<|zU ⟨[(57,.c _),(2,.c _),(3,.c _),(55,.c _),(56,.c _)],[_,_,_]⟩ (Weak.mk [true,true,true,false] ⟨Y,Y,Y,Y,Y,T⟩ O)<|qF 1 2 O O (Nat×Value) (fun ⟨k,su⟩=>[(57,vI k)]) (fun ⟨k,su⟩=>[E.vec su 59 22 ((p.Defs.take k).map Df.cells),E.row b3 27 [.sl 1 (p.Sizes.map fun s=>[cS s]),.sl 3 (p.Where.map Cn.cells),.sl 7 (p.Params.map Pm.cells),.lit su,.sl 1 (p.Outs.map fun s=>[cS s])]]) (fun ⟨k,su⟩=>k<=p.Defs.length) (fun ⟨k,su⟩=>p.Defs.length-k) ⟨⟨0,(.slice none 0 0)⟩,(by omega),Weak.mk [true,true,true] ⟨Y,Y,Y,Y,Y,T⟩ O⟩ ?_
   rintro ⟨k,su⟩ hk
   show AWP _ _ _ _ _ ⟨[(57,vI k)]++_,[E.vec su 59 22 ((p.Defs.take k).map Df.cells),E.row b3 27 [.sl 1 (p.Sizes.map fun s=>[cS s]),.sl 3 (p.Where.map Cn.cells),.sl 7 (p.Params.map Pm.cells),.lit su,.sl 1 (p.Outs.map fun s=>[cS s])]]++_⟩
   refine B O<|yA O<|U<|zI<|zE O (fun c3=>?_) (fun c3=>?_)
   ·try simp only [W] at c3
    obtain ⟨d,hd⟩:=qQ p.Defs k (by omega)
    refine zJ<|zI<|zP<|B O<|qE O el25 (by omega) (getm (by assumption))<|zL zCv qB O<|zZ O O (qH [none,none,none,none,none,none,some 3,some 3,none,none,none,none,none,none,none,none,none,none,none,some 2,some 4,some 13] O zr59 O) ?_
    rintro _ _ ⟨b8,rfl,rfl⟩
    refine N 0 sz59 O<|U<|zI<|qT 10 mixed (by kernel_rfl) O O<|zM O O (zD O zAv O)<|zM O O (zF O wK O (J 0 O) O)<|zM O O (qG O ok110 (OwnR.pur (zBg d.Dims (by have:=(hP.ds d (qD hd)).1;omega) (hP.ds d (qD hd)).2.2.1)) ⟨Y,O,T⟩)<|zM O O (zD O zAm O)<|zM O O (zF O wK O (J 0 O) O)<|zM O O (qG O ok110 (OwnR.pur (zBg d.Red (by have:=(hP.ds d (qD hd)).2.1;omega) (hP.ds d (qD hd)).2.2.2.1)) ⟨Y,O,T⟩)<|zM O O (zD O zDl O)<|zM O O (zN O qN O (J 0 O) O)<|zM O O (qG O ok32 (zKf d.Body (hP.ds d (qD hd)).2.2.2.2.1 (hP.ds d (qD hd)).2.2.2.2.2) ⟨Y,O,T⟩)<|zM O O (zD O zAv O)<|yM<|N 0 sz57 O<|zG O zAm<|N 0 sz57 O<|zG O zDl<|N 0 sz38 O<|U<|zS O<|zG O kE<|zK wX (J 2 O) O<|zL zCv (J 0 O) O<|yE O el25 zr59<|zZ O O (qY 1 O el25 O O O (by simp only [List.length_take,List.length_map,List.length_append,List.length_cons,List.length_nil];omega) (by simp only [List.length_take,List.length_map,List.length_append,List.length_cons,List.length_nil];omega)) ?_
    rintro _ _ ⟨sv9,rfl,rfl⟩
    refine zG O kE<|N 2 sz25 O<|U<|zS O<|qJ O ⟨by omega,by omega⟩<|G O<|U ?_
    refine ⟨⟨k+1,sv9⟩,(by omega),(by show p.Defs.length-(k+1)<p.Defs.length-k;omega),Weak.mk [false,true,true,true] ⟨Y,Y,Y,Y,Y,T⟩ (by exact mem2_eq' (by rw [qR hd,List.map_append];rfl))⟩
   ·try simp only [W] at c3
    rw [qX (l:=p.Defs) (k:=k) (by omega)]
    refine zU _ (kJ 0 O (regs':=[]) (μ':=[_,_]) T ⟨EFle.row (ds:=[_,_,_,_,_]) ⟨.inl O,.inl O,.inl O,.inr ⟨O,O⟩,.inl O,T⟩,EFle.refl _,T⟩)<|qO<|B O<|zL kO (J 0 O) O<|N 1 sz27 O<|U<|zH<|fin1 (zV kO O (J 1 O) O) ?_
    exact O
end Go.W
