/-
  Walks: what functions of the program compute. Printed by wip/gen/mk2.py.
  Conditions: none.
-/
import Derived.Test.YtkijgodlhljgdaaGreatDoorVC
import Derived.Test.YtkijgodlhljgdaaGreatDoorWI
import Derived.Test.YtkijgodlhljgdaaGreatDoorPlain2
import Derived.Test.YtkijgodlhljgdaaGreatDoorEngZ
set_option linter.unusedSimpArgs false
set_option linter.unusedVariables false
set_option maxRecDepth 10000
namespace Go.W
open Go Go.Eng Go.Proofs Go.L41 Go.Br
attribute [local irreducible] AWP RWP TD finQ
theorem ok43:callOk Tryz.prog 43=true:=by kernel_rfl
theorem ok107:callOk Tryz.prog 107=true:=by kernel_rfl
theorem ok110:callOk Tryz.prog 110=true:=by kernel_rfl
theorem pl93:placesT Tryz.prog 93=some [(0,2),(2,1)]:=by kernel_rfl
theorem pl105:placesT Tryz.prog 105=some [(0,1),(1,2)]:=by kernel_rfl
theorem sz23:(Tryz.prog.info? 23).map (·.size)=some 1:=by kernel_rfl
theorem sz24:(Tryz.prog.info? 24).map (·.size)=some 1:=by kernel_rfl
theorem sz57:(Tryz.prog.info? 57).map (·.size)=some 1:=by kernel_rfl
theorem zBq (l:List ByteArray) (hl:l.length<=4294967296):
    OwnR cfg 107 [.c (.sl 1 (l.map fun s=>[cS s]))] 9 1 (l.map (fun s=>[cS s])):=by
 refine zV Tryz.func107 O Tryz.ntmps107 Tryz.results107 O ?_
 intro z hz
 refine B O<|qB O (yJ 1 O O)<|H<|U<|B O<|F O<|zW O O (zGi O el22 O O) ?_
 rintro _ _ ⟨nb1,rfl,hnil1,rfl⟩
 refine H<|g O (fun c1=>?_) (fun c1=>?_)
 ·try simp only [I] at c1
  refine B O<|F O<|yV _ (kG 9 1)<|H<|W<|R O ?_
  exact ⟨_,O,by rw [hnil1 c1]⟩
 ·try simp only [I] at c1
  refine zJ<|B O<|zW O O (zBe O el22 zr9 O O O O) ?_
  rintro _ _ ⟨sv3,rfl,rfl⟩
  refine F O<|zW O O (qS 0 O el22 O O O (by simp only [List.length_map,List.length_nil,Nat.zero_add];omega) (by simp only [List.length_map,List.length_nil,Nat.zero_add];omega)) ?_
  rintro _ _ ⟨sv4,rfl,rfl⟩
  refine F O<|H<|W<|R O ?_
  exact ⟨_,O,O⟩
theorem zBs (l:List Ax) (hl:l.length<=4294967296) (hx0:∀x,x∈l->x.Size.L.length<=5864062014805):
    OwnR cfg 110 [.c (.sl 3 (l.map Ax.cells))] 105 3 (l.map Ax.cells):=by
 refine zV Tryz.func110 O Tryz.ntmps110 Tryz.results110 O ?_
 intro z hz
 refine B O<|qB O (yJ 3 O O)<|H<|B O<|F O<|yV _ (kG 105 3)<|H<|U<|B O<|F O<|zZ O el57<|F O<|H<|zP<|zT ⟨[(8,.c _),(3,.c _),(6,.c _),(7,.c _)],[_]⟩ (Weak.mk [true] ⟨G,G,G,G,T⟩ O)<|qG 2 1 O O (Nat×Value) (fun ⟨k,sv⟩=>[(8,vI k),(3,.c (.lit sv))]) (fun ⟨k,sv⟩=>[E.vec sv 105 3 ((l.take k).map Ax.cells)]) (fun ⟨k,sv⟩=>k<=l.length) (fun ⟨k,sv⟩=>l.length-k) ⟨⟨0,(.slice none 0 0)⟩,(by omega),Weak.mk [true] ⟨G,G,G,G,T⟩ O⟩ ?_
 rintro ⟨k,sv⟩ hk
 show AWP _ _ _ _ _ ⟨[(8,vI k),(3,.c (.lit sv))]++_,[E.vec sv 105 3 ((l.take k).map Ax.cells)]++_⟩
 refine B O<|yB O<|H<|U<|g O (fun c1=>?_) (fun c1=>?_)
 ·try simp only [I] at c1
  obtain ⟨x,hx⟩:=qP l k (by omega)
  refine zJ<|U<|zP<|B O<|qE O el57 (by omega) (Q (by assumption))<|zL agg105 qA O<|zW O O (qI [none,none,some 2] O zr105 O) ?_
  rintro _ _ ⟨b2,rfl,rfl⟩
  refine N 0 sz105 O<|H<|qO 8 mixed (by kernel_rfl) O O<|Y O O (zQ O O)<|Y O O (zD O zCx O)<|Y O O (zF O i O (K 0 O) O)<|Y O O (zD O zIt O)<|Y O O (zN O kP O (K 0 O) O)<|Y O O (qF O ok108 (zAs _ (hx0 _ (qD hx))) ⟨G,O,T⟩)<|Y O O (kZ O zr105 pl105 O)<|Y O O (yD O el57 zr105 O O O O)<|yK<|zW O O (qS 1 O el57 O O O (by first|omega|(simp only [List.length_take,List.length_map,List.length_append,List.length_nil,List.length_cons];omega)) (by first|omega|(simp only [List.length_take,List.length_map,List.length_append,List.length_nil,List.length_cons];omega))) ?_
  rintro _ _ ⟨sv3,rfl,rfl⟩
  refine F O<|H<|zU O<|qL O ⟨by omega,by omega⟩<|F O<|H ?_
  refine ⟨⟨k+1,sv3⟩,(by omega),(by show l.length-(k+1)<l.length-k;omega),Weak.mk [false,true] ⟨G,G,G,G,T⟩ (by exact mem1_eq (by rw [qQ hx,List.map_append];rfl))⟩
 ·try simp only [I] at c1
  refine qM<|B O<|F O<|F O<|H<|W<|R O ?_
  exact ⟨_,O,by rw [qY (by omega)];rfl⟩
theorem program_Copy (p:Pg) (hP:p.OkC):
    Pur cfg 43 [vPg p] (vPg p):=by
 refine zV Tryz.func43 O Tryz.ntmps43 Tryz.results43 O ?_
 intro z hz
 have hP1:=hP.wh
 have hP2:=hP.params
 have hP3:=hP.defs
 refine B O<|zW O O (qJ O O) ?_
 rintro _ _ ⟨b1,rfl,rfl⟩
 refine zW O O (qI [some 1,some 3,some 7,some 22,some 1] O zr27 O) ?_
 rintro _ _ ⟨b2,rfl,rfl⟩
 refine H<|U<|yH 8 1 [⟨0,.q []⟩,⟨1,.q [2]⟩,⟨2,.q []⟩,⟨3,.q []⟩,⟨4,.q [2]⟩,⟨5,.q []⟩,⟨6,.q []⟩,⟨7,.f 0⟩] mixed (by kernel_rfl) (by kernel_rfl) O O O<|D O<|D O<|D O<|D O<|D O<|D O<|D O<|zFk O O (wN (yA O zr27)) ⟨_,_,0,O,O⟩<|wG<|M O (by decide) O O (zD O zBy O)<|M O (by decide) O O (zF O wT O (K 0 O) O)<|M O (by decide) O O (qF O ok107 (OwnR.pur (zBq p.Sizes hP.sizes)) ⟨G,O,T⟩)<|M O (by decide) O O (zD O zAt O)<|M O (by decide) O O (zF O wT O (K 0 O) O)<|M O (by decide) O O (qF O ok107 (OwnR.pur (zBq p.Outs hP.outs)) ⟨G,O,T⟩)<|M O (by decide) O O (kZ O zr27 pl27 O)<|zFe O O ?_
 rintro _ _ ⟨b3,rfl,rfl⟩
 refine wF O<|N 0 sz27 O<|H<|U<|B O<|yV _ (kG 93 3)<|yV _ (kG 65 7)<|yV _ (kG 59 22)<|zG O zDz<|zK zKv (K 5 O) O<|zZ O el23<|F O<|H<|zP<|zT ⟨[(20,.c _),(1,.c _),(2,.c _),(3,.c _),(18,.c _),(19,.c _)],[_,_,_,_,_,_]⟩ (Weak.mk [true,true,true,true,true,true] ⟨G,G,G,G,G,G,T⟩ O)<|qG 1 4 O O (Nat×Value) (fun ⟨k,sv⟩=>[(20,vI k)]) (fun ⟨k,sv⟩=>[E.vec (.slice none 0 0) 59 22 ([]),E.vec (.slice none 0 0) 65 7 ([]),E.vec sv 93 3 ((p.Where.take k).map Cn.cells),E.row b3 27 [.sl 1 (p.Sizes.map fun s=>[cS s]),.lit sv,.lit (.slice none 0 0),.lit (.slice none 0 0),.sl 1 (p.Outs.map fun s=>[cS s])]]) (fun ⟨k,sv⟩=>k<=p.Where.length) (fun ⟨k,sv⟩=>p.Where.length-k) ⟨⟨0,(.slice none 0 0)⟩,(by omega),Weak.mk [true,true,true,true,true,true] ⟨G,G,G,G,G,G,T⟩ O⟩ ?_
 rintro ⟨k,sv⟩ hk
 show AWP _ _ _ _ _ ⟨[(20,vI k)]++_,[E.vec (.slice none 0 0) 59 22 ([]),E.vec (.slice none 0 0) 65 7 ([]),E.vec sv 93 3 ((p.Where.take k).map Cn.cells),E.row b3 27 [.sl 1 (p.Sizes.map fun s=>[cS s]),.lit sv,.lit (.slice none 0 0),.lit (.slice none 0 0),.sl 1 (p.Outs.map fun s=>[cS s])]]++_⟩
 refine B O<|yB O<|H<|U<|g O (fun c1=>?_) (fun c1=>?_)
 ·try simp only [I] at c1
  obtain ⟨x,hx⟩:=qP p.Where k (by omega)
  refine zJ<|U<|zP<|B O<|qE O el23 (by omega) (Q (by assumption))<|zL agg93 qA O<|zW O O (qI [none,some 2,none] O zr93 O) ?_
  rintro _ _ ⟨b4,rfl,rfl⟩
  refine N 0 sz93 O<|H<|qO 9 mixed (by kernel_rfl) O O<|Y O O (zD O zDz O)<|Y O O (zF O zKv O (K 4 O) O)<|Y O O (zD O zPb O)<|Y O O (zN O kP O (K 0 O) O)<|Y O O (qF O ok108 (zAs x.Lin (hP.whs x (qD hx))) ⟨G,O,T⟩)<|Y O O (zD O fd93_1 O)<|Y O O (zF O one4 O (K 0 O) O)<|Y O O (kZ O zr93 pl93 O)<|Y O O (yD O el23 zr93 O O O O)<|yK<|zW O O (qS 3 O el23 O O O (by simp only [List.length_take,List.length_map,List.length_append,List.length_cons,List.length_nil];omega) (by simp only [List.length_take,List.length_map,List.length_append,List.length_cons,List.length_nil];omega)) ?_
  rintro _ _ ⟨sv5,rfl,rfl⟩
  refine zG O zDz<|N 4 sz23 O<|H<|zU O<|qL O ⟨by omega,by omega⟩<|F O<|H ?_
  refine ⟨⟨k+1,sv5⟩,(by omega),(by show p.Where.length-(k+1)<p.Where.length-k;omega),Weak.mk [false,true,true,true,true,true,true] ⟨G,G,G,G,G,G,T⟩ (by exact mem4_eq (by rw [qQ hx,List.map_append];rfl))⟩
 ·try simp only [I] at c1
  rw [qY (l:=p.Where) (k:=k) (by omega)]
  refine zT _ (kB 2 O (regs':=[]) (μ':=[_,_,_,_,_]) T ⟨EFle.refl _,EFle.refl _,EFle.row (ds:=[_,_,_,_,_]) ⟨.inl O,.inr ⟨O,O⟩,.inl O,.inl O,.inl O,T⟩,EFle.refl _,EFle.refl _,T⟩)<|qM<|U<|B O<|zG O kM<|zK zAl (K 4 O) O<|zZ O el24<|F O<|H<|zP<|zT ⟨[(39,.c _),(1,.c _),(2,.c _),(3,.c _),(37,.c _),(38,.c _)],[_,_,_,_,_]⟩ (Weak.mk [true,true,true,true,true] ⟨G,G,G,G,G,G,T⟩ O)<|qG 1 3 O O (Nat×Value) (fun ⟨k,sw⟩=>[(39,vI k)]) (fun ⟨k,sw⟩=>[E.vec (.slice none 0 0) 59 22 ([]),E.vec sw 65 7 ((p.Params.take k).map Pm.cells),E.row b3 27 [.sl 1 (p.Sizes.map fun s=>[cS s]),.sl 3 (p.Where.map Cn.cells),.lit sw,.lit (.slice none 0 0),.sl 1 (p.Outs.map fun s=>[cS s])]]) (fun ⟨k,sw⟩=>k<=p.Params.length) (fun ⟨k,sw⟩=>p.Params.length-k) ⟨⟨0,(.slice none 0 0)⟩,(by omega),Weak.mk [true,true,true,true,true] ⟨G,G,G,G,G,G,T⟩ O⟩ ?_
  rintro ⟨k,sw⟩ hk
  show AWP _ _ _ _ _ ⟨[(39,vI k)]++_,[E.vec (.slice none 0 0) 59 22 ([]),E.vec sw 65 7 ((p.Params.take k).map Pm.cells),E.row b3 27 [.sl 1 (p.Sizes.map fun s=>[cS s]),.sl 3 (p.Where.map Cn.cells),.lit sw,.lit (.slice none 0 0),.sl 1 (p.Outs.map fun s=>[cS s])]]++_⟩
  refine B O<|yB O<|H<|U<|g O (fun c2=>?_) (fun c2=>?_)
  ·try simp only [I] at c2
   obtain ⟨y,hy⟩:=qP p.Params k (by omega)
   refine zJ<|U<|zP<|B O<|qE O el24 (by omega) (Q (by assumption))<|zL zMm qA O<|zW O O (qI [none,none,none,none,none,none,some 2] O zr65 O) ?_
   rintro _ _ ⟨b6,rfl,rfl⟩
   refine N 0 sz65 O<|H<|B O<|zG O zCy<|zK zAv (K 0 O) O<|qK O ok109 (OwnR.pur (zCl y.Dims (hP.ps y (qD hy)).1 (hP.ps y (qD hy)).2)) ⟨G,O,T⟩<|zG O zCy<|N 0 sz63 O<|H<|zU O<|zG O kM<|zK zAl (K 3 O) O<|zL zMm (K 0 O) O<|qZ O el24 zr65<|zW O O (qS 2 O el24 O O O (by simp only [List.length_take,List.length_map,List.length_append,List.length_cons,List.length_nil];omega) (by simp only [List.length_take,List.length_map,List.length_append,List.length_cons,List.length_nil];omega)) ?_
   rintro _ _ ⟨sv7,rfl,rfl⟩
   refine zG O kM<|N 3 sz24 O<|H<|zU O<|qL O ⟨by omega,by omega⟩<|F O<|H ?_
   refine ⟨⟨k+1,sv7⟩,(by omega),(by show p.Params.length-(k+1)<p.Params.length-k;omega),Weak.mk [false,true,true,true,true,true] ⟨G,G,G,G,G,G,T⟩ (by exact mem3_eq (by rw [qQ hy,List.map_append];rfl))⟩
  ·try simp only [I] at c2
   rw [qY (l:=p.Params) (k:=k) (by omega)]
   refine zT _ (kB 1 O (regs':=[]) (μ':=[_,_,_,_]) T ⟨EFle.refl _,EFle.row (ds:=[_,_,_,_,_]) ⟨.inl O,.inl O,.inr ⟨O,O⟩,.inl O,.inl O,T⟩,EFle.refl _,EFle.refl _,T⟩)<|qM<|U<|B O<|zG O kE<|zK zAc (K 3 O) O<|zZ O el25<|F O<|H<|zP<|zT ⟨[(57,.c _),(2,.c _),(3,.c _),(55,.c _),(56,.c _)],[_,_,_]⟩ (Weak.mk [true,true,true,false] ⟨G,G,G,G,G,T⟩ O)<|qG 1 2 O O (Nat×Value) (fun ⟨k,su⟩=>[(57,vI k)]) (fun ⟨k,su⟩=>[E.vec su 59 22 ((p.Defs.take k).map Df.cells),E.row b3 27 [.sl 1 (p.Sizes.map fun s=>[cS s]),.sl 3 (p.Where.map Cn.cells),.sl 7 (p.Params.map Pm.cells),.lit su,.sl 1 (p.Outs.map fun s=>[cS s])]]) (fun ⟨k,su⟩=>k<=p.Defs.length) (fun ⟨k,su⟩=>p.Defs.length-k) ⟨⟨0,(.slice none 0 0)⟩,(by omega),Weak.mk [true,true,true] ⟨G,G,G,G,G,T⟩ O⟩ ?_
   rintro ⟨k,su⟩ hk
   show AWP _ _ _ _ _ ⟨[(57,vI k)]++_,[E.vec su 59 22 ((p.Defs.take k).map Df.cells),E.row b3 27 [.sl 1 (p.Sizes.map fun s=>[cS s]),.sl 3 (p.Where.map Cn.cells),.sl 7 (p.Params.map Pm.cells),.lit su,.sl 1 (p.Outs.map fun s=>[cS s])]]++_⟩
   refine B O<|yB O<|H<|U<|g O (fun c3=>?_) (fun c3=>?_)
   ·try simp only [I] at c3
    obtain ⟨d,hd⟩:=qP p.Defs k (by omega)
    refine zJ<|U<|zP<|B O<|qE O el25 (by omega) (Q (by assumption))<|zL zCn qA O<|zW O O (qI [none,none,none,none,none,none,some 3,some 3,none,none,none,none,none,none,none,none,none,none,none,some 2,some 4,some 13] O zr59 O) ?_
    rintro _ _ ⟨b8,rfl,rfl⟩
    refine N 0 sz59 O<|H<|U<|qO 10 mixed (by kernel_rfl) O O<|Y O O (zD O zBi O)<|Y O O (zF O wW O (K 0 O) O)<|Y O O (qF O ok110 (OwnR.pur (zBs d.Dims (by have:=(hP.ds d (qD hd)).1;omega) (hP.ds d (qD hd)).2.2.1)) ⟨G,O,T⟩)<|Y O O (zD O zAx O)<|Y O O (zF O wW O (K 0 O) O)<|Y O O (qF O ok110 (OwnR.pur (zBs d.Red (by have:=(hP.ds d (qD hd)).2.1;omega) (hP.ds d (qD hd)).2.2.2.1)) ⟨G,O,T⟩)<|Y O O (zD O zCg O)<|Y O O (zN O qH O (K 0 O) O)<|Y O O (qF O ok32 (zLk d.Body (hP.ds d (qD hd)).2.2.2.2.1 (hP.ds d (qD hd)).2.2.2.2.2) ⟨G,O,T⟩)<|Y O O (zD O zBi O)<|yK<|N 0 sz57 O<|zG O zAx<|N 0 sz57 O<|zG O zCg<|N 0 v O<|H<|zU O<|zG O kE<|zK zAc (K 2 O) O<|zL zCn (K 0 O) O<|qZ O el25 zr59<|zW O O (qS 1 O el25 O O O (by simp only [List.length_take,List.length_map,List.length_append,List.length_cons,List.length_nil];omega) (by simp only [List.length_take,List.length_map,List.length_append,List.length_cons,List.length_nil];omega)) ?_
    rintro _ _ ⟨sv9,rfl,rfl⟩
    refine zG O kE<|N 2 sz25 O<|H<|zU O<|qL O ⟨by omega,by omega⟩<|F O<|H ?_
    refine ⟨⟨k+1,sv9⟩,(by omega),(by show p.Defs.length-(k+1)<p.Defs.length-k;omega),Weak.mk [false,true,true,true] ⟨G,G,G,G,G,T⟩ (by exact mem2_eq' (by rw [qQ hd,List.map_append];rfl))⟩
   ·try simp only [I] at c3
    rw [qY (l:=p.Defs) (k:=k) (by omega)]
    refine zT _ (kB 0 O (regs':=[]) (μ':=[_,_]) T ⟨EFle.row (ds:=[_,_,_,_,_]) ⟨.inl O,.inl O,.inl O,.inr ⟨O,O⟩,.inl O,T⟩,EFle.refl _,T⟩)<|qM<|B O<|zL kC (K 0 O) O<|N 1 sz27 O<|H<|W<|X (zS kC O (K 1 O) O) ?_
    exact O
end Go.W
