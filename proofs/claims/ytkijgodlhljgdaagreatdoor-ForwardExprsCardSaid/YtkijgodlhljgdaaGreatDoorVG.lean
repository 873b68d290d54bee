/-
  Walks: what functions of the program compute. Printed by wip/gen/mk2.py.
  Conditions: none.
-/
import Derived.Test.YtkijgodlhljgdaaGreatDoorVC
import Derived.Test.YtkijgodlhljgdaaGreatDoorWI
import Derived.Test.YtkijgodlhljgdaaGreatDoorPlain2
import Derived.Test.YtkijgodlhljgdaaGreatDoorEngZ
set_option linter.unusedSimpArgs false
set_option linter.unusedVariables false
set_option maxRecDepth 10000
namespace Go.W
open Go Go.Eng Go.Proofs Go.L41 Go.Br
attribute [local irreducible] AWP RWP TD finQ
theorem ok43:callOk Tryz.prog 43=true:=by kernel_rfl
theorem ok107:callOk Tryz.prog 107=true:=by kernel_rfl
theorem ok110:callOk Tryz.prog 110=true:=by kernel_rfl
theorem pl93:placesT Tryz.prog 93=some [(0,2),(2,1)]:=by kernel_rfl
theorem pl105:placesT Tryz.prog 105=some [(0,1),(1,2)]:=by kernel_rfl
theorem sz23:(Tryz.prog.info? 23).map (·.size)=some 1:=by kernel_rfl
theorem sz24:(Tryz.prog.info? 24).map (·.size)=some 1:=by kernel_rfl
theorem sz57:(Tryz.prog.info? 57).map (·.size)=some 1:=by kernel_rfl
theorem zBa (l:List ByteArray) (hl:l.length<=4294967296):
    OwnR cfg 107 [.c (.sl 1 (l.map fun s=>[cS s]))] 9 1 (l.map (fun s=>[cS s])):=by
 refine zT Tryz.func107 O Tryz.ntmps107 Tryz.results107 O ?_
 intro z hz
 refine B O<|zX O (yN 1 O O)<|H<|W<|B O<|F O<|zV O O (zFt O el22 O O) ?_
 rintro _ _ ⟨nb1,rfl,hnil1,rfl⟩
 refine H<|g O (fun c1=>?_) (fun c1=>?_)
 ·try simp only [I] at c1
  refine B O<|F O<|yZ _ (kN 9 1)<|H<|U<|M O ?_
  exact ⟨_,O,by rw [hnil1 c1]⟩
 ·try simp only [I] at c1
  refine zJ<|B O<|zV O O (zCr O el22 zr9 O O O O) ?_
  rintro _ _ ⟨sv3,rfl,rfl⟩
  refine F O<|zV O O (yE 0 O el22 O O O (by simp only [List.length_map,List.length_nil,Nat.zero_add];omega) (by simp only [List.length_map,List.length_nil,Nat.zero_add];omega)) ?_
  rintro _ _ ⟨sv4,rfl,rfl⟩
  refine F O<|H<|U<|M O ?_
  exact ⟨_,O,O⟩
theorem zBc (l:List Ax) (hl:l.length<=4294967296) (hx0:∀x,x∈l->x.Size.L.length<=5864062014805):
    OwnR cfg 110 [.c (.sl 3 (l.map Ax.cells))] 105 3 (l.map Ax.cells):=by
 refine zT Tryz.func110 O Tryz.ntmps110 Tryz.results110 O ?_
 intro z hz
 refine B O<|zX O (yN 3 O O)<|H<|B O<|F O<|yZ _ (kN 105 3)<|H<|W<|B O<|F O<|zZ O el57<|F O<|H<|zP<|zW ⟨[(8,.c _),(3,.c _),(6,.c _),(7,.c _)],[_]⟩ (Weak.mk [true] ⟨G,G,G,G,T⟩ O)<|qJ 2 1 O O (Nat×Value) (fun ⟨k,sv⟩=>[(8,vI k),(3,.c (.lit sv))]) (fun ⟨k,sv⟩=>[E.vec sv 105 3 ((l.take k).map Ax.cells)]) (fun ⟨k,sv⟩=>k<=l.length) (fun ⟨k,sv⟩=>l.length-k) ⟨⟨0,(.slice none 0 0)⟩,(by omega),Weak.mk [true] ⟨G,G,G,G,T⟩ O⟩ ?_
 rintro ⟨k,sv⟩ hk
 show AWP _ _ _ _ _ ⟨[(8,vI k),(3,.c (.lit sv))]++_,[E.vec sv 105 3 ((l.take k).map Ax.cells)]++_⟩
 refine B O<|yD O<|H<|W<|g O (fun c1=>?_) (fun c1=>?_)
 ·try simp only [I] at c1
  obtain ⟨x,hx⟩:=qQ l k (by omega)
  refine zJ<|W<|zP<|B O<|qH O el57 (by omega) (X (by assumption))<|zK agg105 qB O<|zV O O (qG [none,none,some 2] O zr105 O) ?_
  rintro _ _ ⟨b2,rfl,rfl⟩
  refine N 0 sz105 O<|H<|qP 8 mixed (by kernel_rfl) O O<|Y O O (zQ O O)<|Y O O (zE O zKm O)<|Y O O (zG O i O (K 0 O) O)<|Y O O (zE O fd105_1 O)<|Y O O (zM O kQ O (K 0 O) O)<|Y O O (qF O ok108 (zAh _ (hx0 _ (qD hx))) ⟨G,O,T⟩)<|Y O O (kY O zr105 pl105 O)<|Y O O (qY O el57 zr105 O O O O)<|yK<|zV O O (yE 1 O el57 O O O (by first|omega|(simp only [List.length_take,List.length_map,List.length_append,List.length_nil,List.length_cons];omega)) (by first|omega|(simp only [List.length_take,List.length_map,List.length_append,List.length_nil,List.length_cons];omega))) ?_
  rintro _ _ ⟨sv3,rfl,rfl⟩
  refine F O<|H<|zU O<|qL O ⟨by omega,by omega⟩<|F O<|H ?_
  refine ⟨⟨k+1,sv3⟩,(by omega),(by show l.length-(k+1)<l.length-k;omega),Weak.mk [false,true] ⟨G,G,G,G,T⟩ (by exact mem1_eq (by rw [qS hx,List.map_append];rfl))⟩
 ·try simp only [I] at c1
  refine qN<|B O<|F O<|F O<|H<|U<|M O ?_
  exact ⟨_,O,by rw [qW (by omega)];rfl⟩
theorem program_Copy (p:Pg) (hP:p.OkC):
    Pur cfg 43 [vPg p] (vPg p):=by
 refine zT Tryz.func43 O Tryz.ntmps43 Tryz.results43 O ?_
 intro z hz
 have hP1:=hP.wh
 have hP2:=hP.params
 have hP3:=hP.defs
 refine B O<|zV O O (qI O O) ?_
 rintro _ _ ⟨b1,rfl,rfl⟩
 refine zV O O (qG [some 1,some 3,some 7,some 22,some 1] O zr27 O) ?_
 rintro _ _ ⟨b2,rfl,rfl⟩
 refine H<|W<|yF 8 1 [⟨0,.q []⟩,⟨1,.q [2]⟩,⟨2,.q []⟩,⟨3,.q []⟩,⟨4,.q [2]⟩,⟨5,.q []⟩,⟨6,.q []⟩,⟨7,.f 0⟩] mixed (by kernel_rfl) (by kernel_rfl) O O O<|L O<|L O<|L O<|L O<|L O<|L O<|L O<|zEr O O (wF (qX O zr27)) ⟨_,_,0,O,O⟩<|wM<|v O (by decide) O O (zE O zLe O)<|v O (by decide) O O (zG O zDv O (K 0 O) O)<|v O (by decide) O O (qF O ok107 (OwnR.pur (zBa p.Sizes hP.sizes)) ⟨G,O,T⟩)<|v O (by decide) O O (zE O zHi O)<|v O (by decide) O O (zG O zDv O (K 0 O) O)<|v O (by decide) O O (qF O ok107 (OwnR.pur (zBa p.Outs hP.outs)) ⟨G,O,T⟩)<|v O (by decide) O O (kY O zr27 pl27 O)<|zEm O O ?_
 rintro _ _ ⟨b3,rfl,rfl⟩
 refine wL O<|N 0 sz27 O<|H<|W<|B O<|yZ _ (kN 93 3)<|yZ _ (kN 65 7)<|yZ _ (kN 59 22)<|zH O zIy<|zL one23 (K 5 O) O<|zZ O el23<|F O<|H<|zP<|zW ⟨[(20,.c _),(1,.c _),(2,.c _),(3,.c _),(18,.c _),(19,.c _)],[_,_,_,_,_,_]⟩ (Weak.mk [true,true,true,true,true,true] ⟨G,G,G,G,G,G,T⟩ O)<|qJ 1 4 O O (Nat×Value) (fun ⟨k,sv⟩=>[(20,vI k)]) (fun ⟨k,sv⟩=>[E.vec (.slice none 0 0) 59 22 ([]),E.vec (.slice none 0 0) 65 7 ([]),E.vec sv 93 3 ((p.Where.take k).map Cn.cells),E.row b3 27 [.sl 1 (p.Sizes.map fun s=>[cS s]),.lit sv,.lit (.slice none 0 0),.lit (.slice none 0 0),.sl 1 (p.Outs.map fun s=>[cS s])]]) (fun ⟨k,sv⟩=>k<=p.Where.length) (fun ⟨k,sv⟩=>p.Where.length-k) ⟨⟨0,(.slice none 0 0)⟩,(by omega),Weak.mk [true,true,true,true,true,true] ⟨G,G,G,G,G,G,T⟩ O⟩ ?_
 rintro ⟨k,sv⟩ hk
 show AWP _ _ _ _ _ ⟨[(20,vI k)]++_,[E.vec (.slice none 0 0) 59 22 ([]),E.vec (.slice none 0 0) 65 7 ([]),E.vec sv 93 3 ((p.Where.take k).map Cn.cells),E.row b3 27 [.sl 1 (p.Sizes.map fun s=>[cS s]),.lit sv,.lit (.slice none 0 0),.lit (.slice none 0 0),.sl 1 (p.Outs.map fun s=>[cS s])]]++_⟩
 refine B O<|yD O<|H<|W<|g O (fun c1=>?_) (fun c1=>?_)
 ·try simp only [I] at c1
  obtain ⟨x,hx⟩:=qQ p.Where k (by omega)
  refine zJ<|W<|zP<|B O<|qH O el23 (by omega) (X (by assumption))<|zK agg93 qB O<|zV O O (qG [none,some 2,none] O zr93 O) ?_
  rintro _ _ ⟨b4,rfl,rfl⟩
  refine N 0 sz93 O<|H<|qP 9 mixed (by kernel_rfl) O O<|Y O O (zE O zIy O)<|Y O O (zG O one23 O (K 4 O) O)<|Y O O (zE O fd93_0 O)<|Y O O (zM O kQ O (K 0 O) O)<|Y O O (qF O ok108 (zAh x.Lin (hP.whs x (qD hx))) ⟨G,O,T⟩)<|Y O O (zE O fd93_1 O)<|Y O O (zG O one4 O (K 0 O) O)<|Y O O (kY O zr93 pl93 O)<|Y O O (qY O el23 zr93 O O O O)<|yK<|zV O O (yE 3 O el23 O O O (by simp only [List.length_take,List.length_map,List.length_append,List.length_cons,List.length_nil];omega) (by simp only [List.length_take,List.length_map,List.length_append,List.length_cons,List.length_nil];omega)) ?_
  rintro _ _ ⟨sv5,rfl,rfl⟩
  refine zH O zIy<|N 4 sz23 O<|H<|zU O<|qL O ⟨by omega,by omega⟩<|F O<|H ?_
  refine ⟨⟨k+1,sv5⟩,(by omega),(by show p.Where.length-(k+1)<p.Where.length-k;omega),Weak.mk [false,true,true,true,true,true,true] ⟨G,G,G,G,G,G,T⟩ (by exact mem4_eq (by rw [qS hx,List.map_append];rfl))⟩
 ·try simp only [I] at c1
  rw [qW (l:=p.Where) (k:=k) (by omega)]
  refine zW _ (kJ 2 O (regs':=[]) (μ':=[_,_,_,_,_]) T ⟨EFle.refl _,EFle.refl _,EFle.row (ds:=[_,_,_,_,_]) ⟨.inl O,.inr ⟨O,O⟩,.inl O,.inl O,.inl O,T⟩,EFle.refl _,EFle.refl _,T⟩)<|qN<|W<|B O<|zH O zAx<|zL zFl (K 4 O) O<|zZ O el24<|F O<|H<|zP<|zW ⟨[(39,.c _),(1,.c _),(2,.c _),(3,.c _),(37,.c _),(38,.c _)],[_,_,_,_,_]⟩ (Weak.mk [true,true,true,true,true] ⟨G,G,G,G,G,G,T⟩ O)<|qJ 1 3 O O (Nat×Value) (fun ⟨k,sw⟩=>[(39,vI k)]) (fun ⟨k,sw⟩=>[E.vec (.slice none 0 0) 59 22 ([]),E.vec sw 65 7 ((p.Params.take k).map Pm.cells),E.row b3 27 [.sl 1 (p.Sizes.map fun s=>[cS s]),.sl 3 (p.Where.map Cn.cells),.lit sw,.lit (.slice none 0 0),.sl 1 (p.Outs.map fun s=>[cS s])]]) (fun ⟨k,sw⟩=>k<=p.Params.length) (fun ⟨k,sw⟩=>p.Params.length-k) ⟨⟨0,(.slice none 0 0)⟩,(by omega),Weak.mk [true,true,true,true,true] ⟨G,G,G,G,G,G,T⟩ O⟩ ?_
  rintro ⟨k,sw⟩ hk
  show AWP _ _ _ _ _ ⟨[(39,vI k)]++_,[E.vec (.slice none 0 0) 59 22 ([]),E.vec sw 65 7 ((p.Params.take k).map Pm.cells),E.row b3 27 [.sl 1 (p.Sizes.map fun s=>[cS s]),.sl 3 (p.Where.map Cn.cells),.lit sw,.lit (.slice none 0 0),.sl 1 (p.Outs.map fun s=>[cS s])]]++_⟩
  refine B O<|yD O<|H<|W<|g O (fun c2=>?_) (fun c2=>?_)
  ·try simp only [I] at c2
   obtain ⟨y,hy⟩:=qQ p.Params k (by omega)
   refine zJ<|W<|zP<|B O<|qH O el24 (by omega) (X (by assumption))<|zK zPb qB O<|zV O O (qG [none,none,none,none,none,none,some 2] O zr65 O) ?_
   rintro _ _ ⟨b6,rfl,rfl⟩
   refine N 0 sz65 O<|H<|B O<|zH O zHf<|zL zBf (K 0 O) O<|qK O ok109 (OwnR.pur (zBu y.Dims (hP.ps y (qD hy)).1 (hP.ps y (qD hy)).2)) ⟨G,O,T⟩<|zH O zHf<|N 0 sz63 O<|H<|zU O<|zH O zAx<|zL zFl (K 3 O) O<|zK zPb (K 0 O) O<|yB O el24 zr65<|zV O O (yE 2 O el24 O O O (by simp only [List.length_take,List.length_map,List.length_append,List.length_cons,List.length_nil];omega) (by simp only [List.length_take,List.length_map,List.length_append,List.length_cons,List.length_nil];omega)) ?_
   rintro _ _ ⟨sv7,rfl,rfl⟩
   refine zH O zAx<|N 3 sz24 O<|H<|zU O<|qL O ⟨by omega,by omega⟩<|F O<|H ?_
   refine ⟨⟨k+1,sv7⟩,(by omega),(by show p.Params.length-(k+1)<p.Params.length-k;omega),Weak.mk [false,true,true,true,true,true] ⟨G,G,G,G,G,G,T⟩ (by exact mem3_eq (by rw [qS hy,List.map_append];rfl))⟩
  ·try simp only [I] at c2
   rw [qW (l:=p.Params) (k:=k) (by omega)]
   refine zW _ (kJ 1 O (regs':=[]) (μ':=[_,_,_,_]) T ⟨EFle.refl _,EFle.row (ds:=[_,_,_,_,_]) ⟨.inl O,.inl O,.inr ⟨O,O⟩,.inl O,.inl O,T⟩,EFle.refl _,EFle.refl _,T⟩)<|qN<|W<|B O<|zH O kW<|zL zBp (K 3 O) O<|zZ O el25<|F O<|H<|zP<|zW ⟨[(57,.c _),(2,.c _),(3,.c _),(55,.c _),(56,.c _)],[_,_,_]⟩ (Weak.mk [true,true,true,false] ⟨G,G,G,G,G,T⟩ O)<|qJ 1 2 O O (Nat×Value) (fun ⟨k,su⟩=>[(57,vI k)]) (fun ⟨k,su⟩=>[E.vec su 59 22 ((p.Defs.take k).map Df.cells),E.row b3 27 [.sl 1 (p.Sizes.map fun s=>[cS s]),.sl 3 (p.Where.map Cn.cells),.sl 7 (p.Params.map Pm.cells),.lit su,.sl 1 (p.Outs.map fun s=>[cS s])]]) (fun ⟨k,su⟩=>k<=p.Defs.length) (fun ⟨k,su⟩=>p.Defs.length-k) ⟨⟨0,(.slice none 0 0)⟩,(by omega),Weak.mk [true,true,true] ⟨G,G,G,G,G,T⟩ O⟩ ?_
   rintro ⟨k,su⟩ hk
   show AWP _ _ _ _ _ ⟨[(57,vI k)]++_,[E.vec su 59 22 ((p.Defs.take k).map Df.cells),E.row b3 27 [.sl 1 (p.Sizes.map fun s=>[cS s]),.sl 3 (p.Where.map Cn.cells),.sl 7 (p.Params.map Pm.cells),.lit su,.sl 1 (p.Outs.map fun s=>[cS s])]]++_⟩
   refine B O<|yD O<|H<|W<|g O (fun c3=>?_) (fun c3=>?_)
   ·try simp only [I] at c3
    obtain ⟨d,hd⟩:=qQ p.Defs k (by omega)
    refine zJ<|W<|zP<|B O<|qH O el25 (by omega) (X (by assumption))<|zK zFb qB O<|zV O O (qG [none,none,none,none,none,none,some 3,some 3,none,none,none,none,none,none,none,none,none,none,none,some 2,some 4,some 13] O zr59 O) ?_
    rintro _ _ ⟨b8,rfl,rfl⟩
    refine N 0 sz59 O<|H<|W<|qP 10 mixed (by kernel_rfl) O O<|Y O O (zE O zDe O)<|Y O O (zG O zBm O (K 0 O) O)<|Y O O (qF O ok110 (OwnR.pur (zBc d.Dims (by have:=(hP.ds d (qD hd)).1;omega) (hP.ds d (qD hd)).2.2.1)) ⟨G,O,T⟩)<|Y O O (zE O zCf O)<|Y O O (zG O zBm O (K 0 O) O)<|Y O O (qF O ok110 (OwnR.pur (zBc d.Red (by have:=(hP.ds d (qD hd)).2.1;omega) (hP.ds d (qD hd)).2.2.2.1)) ⟨G,O,T⟩)<|Y O O (zE O zFg O)<|Y O O (zM O Q O (K 0 O) O)<|Y O O (qF O ok32 (zKo d.Body (hP.ds d (qD hd)).2.2.2.2.1 (hP.ds d (qD hd)).2.2.2.2.2) ⟨G,O,T⟩)<|Y O O (zE O zDe O)<|yK<|N 0 sz57 O<|zH O zCf<|N 0 sz57 O<|zH O zFg<|N 0 D O<|H<|zU O<|zH O kW<|zL zBp (K 2 O) O<|zK zFb (K 0 O) O<|yB O el25 zr59<|zV O O (yE 1 O el25 O O O (by simp only [List.length_take,List.length_map,List.length_append,List.length_cons,List.length_nil];omega) (by simp only [List.length_take,List.length_map,List.length_append,List.length_cons,List.length_nil];omega)) ?_
    rintro _ _ ⟨sv9,rfl,rfl⟩
    refine zH O kW<|N 2 sz25 O<|H<|zU O<|qL O ⟨by omega,by omega⟩<|F O<|H ?_
    refine ⟨⟨k+1,sv9⟩,(by omega),(by show p.Defs.length-(k+1)<p.Defs.length-k;omega),Weak.mk [false,true,true,true] ⟨G,G,G,G,G,T⟩ (by exact mem2_eq' (by rw [qS hd,List.map_append];rfl))⟩
   ·try simp only [I] at c3
    rw [qW (l:=p.Defs) (k:=k) (by omega)]
    refine zW _ (kJ 0 O (regs':=[]) (μ':=[_,_]) T ⟨EFle.row (ds:=[_,_,_,_,_]) ⟨.inl O,.inl O,.inl O,.inr ⟨O,O⟩,.inl O,T⟩,EFle.refl _,T⟩)<|qN<|B O<|zK kK (K 0 O) O<|N 1 sz27 O<|H<|U<|j (zR kK O (K 1 O) O) ?_
    exact O
end Go.W
