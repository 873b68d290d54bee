/-
  Walks: what functions of the program compute. Printed by wip/gen/mk2.py.
  Walks: what functions of the program compute. Printed by wip/gen/mk2.py.
  Walks: what functions of the program compute. Printed by wip/gen/mk2.py.
  Walks: what functions of the program compute. Printed by wip/gen/mk2.py.
  Walks: what functions of the program compute. Printed by wip/gen/mk2.py.
  Walks: what functions of the program compute. Printed by wip/gen/mk2.py.
  Conditions: none.
-/
import Derived.Test.YtkidnhldibjiaaaGreatDoorGC
import Derived.Test.YtkidnhldibjiaaaGreatDoorPlain2
import Derived.Test.YtkidnhldibjiaaaGreatDoorGB
import Derived.Test.YtkidnhldibjiaaaGreatDoorEngZ
set_option linter.unusedSimpArgs false
set_option linter.unusedVariables false
section
set_option maxRecDepth 10000
namespace Go.W
open Go Go.Eng Go.Proofs Go.L41 Go.Br
attribute [local irreducible] AWP RWP TD finQ
end Go.W
end
section
set_option maxRecDepth 10000
namespace Go.W
open Go Go.Eng Go.Proofs Go.L41 Go.Br
attribute [local irreducible] AWP RWP TD finQ
end Go.W
end
section
set_option maxRecDepth 10000
namespace Go.W
open Go Go.Eng Go.Proofs Go.L41 Go.Br
attribute [local irreducible] AWP RWP TD finQ
theorem ok37:callOk Tryz.prog 37=true:=by kernel_rfl
theorem ok83:callOk Tryz.prog 83=true:=by kernel_rfl
theorem ok86:callOk Tryz.prog 86=true:=by kernel_rfl
theorem pl101:placesT Tryz.prog 101=some [(0,2),(2,1)]:=by kernel_rfl
theorem pl111:placesT Tryz.prog 111=some [(0,1),(1,2)]:=by kernel_rfl
theorem sz23:(Tryz.prog.info? 23).map (·.size)=some 1:=by kernel_rfl
theorem sz24:(Tryz.prog.info? 24).map (·.size)=some 1:=by kernel_rfl
theorem sz61:(Tryz.prog.info? 61).map (·.size)=some 1:=by kernel_rfl
theorem zCx (l:List ByteArray) (hl:l.length<=4294967296):
    OwnR cfg 83 [.c (.sl 1 (l.map fun s=>[cS s]))] 9 1 (l.map (fun s=>[cS s])):=by
 refine zS Tryz.func83 O Tryz.ntmps83 Tryz.results83 O ?_
 intro z hz
 refine G O<|qC O (yN 1 O O)<|W<|zH<|G O<|Y O<|zU O O (zGa O r O O) ?_
 rintro _ _ ⟨nb1,rfl,hnil1,rfl⟩
 refine W<|zF O (fun c1=>?_) (fun c1=>?_)
 ·try simp only [sx] at c1
  refine G O<|Y O<|qV _ (yF 9 1)<|W<|zK<|zP O ?_
  exact ⟨_,O,by rw [hnil1 c1]⟩
 ·try simp only [sx] at c1
  refine zJ<|G O<|zU O O (zBp O r zr9 O O O O) ?_
  rintro _ _ ⟨sv3,rfl,rfl⟩
  refine Y O<|zU O O (qQ 0 O r O O O (by simp only [List.length_map,List.length_nil,Nat.zero_add];omega) (by simp only [List.length_map,List.length_nil,Nat.zero_add];omega)) ?_
  rintro _ _ ⟨sv4,rfl,rfl⟩
  refine Y O<|W<|zK<|zP O ?_
  exact ⟨_,O,O⟩
theorem zFm (l:List Ax) (hl:l.length<=4294967296) (hx0:∀x,x∈l->x.Size.L.length<=5864062014805):
    OwnR cfg 86 [.c (.sl 3 (l.map Ax.cells))] 111 3 (l.map Ax.cells):=by
 refine zS Tryz.func86 O Tryz.ntmps86 Tryz.results86 O ?_
 intro z hz
 refine G O<|qC O (yN 3 O O)<|W<|G O<|Y O<|qV _ (yF 111 3)<|W<|zH<|G O<|Y O<|zT O el61<|Y O<|W<|zN<|zV ⟨[(8,.c _),(3,.c _),(6,.c _),(7,.c _)],[_]⟩ (Weak.mk [true] ⟨U,U,U,U,T⟩ O)<|zY 2 1 O O (Nat×Value) (fun ⟨k,sv⟩=>[(8,vI k),(3,.c (.lit sv))]) (fun ⟨k,sv⟩=>[E.vec sv 111 3 ((l.take k).map Ax.cells)]) (fun ⟨k,sv⟩=>k<=l.length) (fun ⟨k,sv⟩=>l.length-k) ⟨⟨0,(.slice none 0 0)⟩,(by omega),Weak.mk [true] ⟨U,U,U,U,T⟩ O⟩ ?_
 rintro ⟨k,sv⟩ hk
 show AWP _ _ _ _ _ ⟨[(8,vI k),(3,.c (.lit sv))]++_,[E.vec sv 111 3 ((l.take k).map Ax.cells)]++_⟩
 refine G O<|qW O<|W<|zH<|zF O (fun c1=>?_) (fun c1=>?_)
 ·try simp only [sx] at c1
  obtain ⟨x,hx⟩:=qO l k (by omega)
  refine zJ<|zH<|zN<|G O<|zZ O el61 (by omega) (getm (by assumption))<|zL zGr zX O<|zU O O (qD [none,none,some 2] O zIr O) ?_
  rintro _ _ ⟨b2,rfl,rfl⟩
  refine N 0 sz111 O<|W<|qS 8 mixed (by kernel_rfl) O O<|zM O O (zQ O O)<|zM O O (zD O zBe O)<|zM O O (zG O one9 O (J 0 O) O)<|zM O O (zD O zCg O)<|zM O O (zR O kA O (J 0 O) O)<|zM O O (qG O ok84 (zBk _ (hx0 _ (zW hx))) ⟨U,O,T⟩)<|zM O O (kZ O zIr pl111 O)<|zM O O (wK O el61 zIr O O O O)<|yJ<|zU O O (qQ 1 O el61 O O O (by first|omega|(simp only [List.length_take,List.length_map,List.length_append,List.length_nil,List.length_cons];omega)) (by first|omega|(simp only [List.length_take,List.length_map,List.length_append,List.length_nil,List.length_cons];omega))) ?_
  rintro _ _ ⟨sv3,rfl,rfl⟩
  refine Y O<|W<|zO O<|qB O ⟨by omega,by omega⟩<|Y O<|W ?_
  refine ⟨⟨k+1,sv3⟩,(by omega),(by show l.length-(k+1)<l.length-k;omega),Weak.mk [false,true] ⟨U,U,U,U,T⟩ (by exact kL (by rw [qM hx,List.map_append];rfl))⟩
 ·try simp only [sx] at c1
  refine qF<|G O<|Y O<|Y O<|W<|zK<|zP O ?_
  exact ⟨_,O,by rw [qT (by omega)];rfl⟩
theorem zCs (p:Pg) (hP:p.OkC):
    Pur cfg 37 [vPg p] (vPg p):=by
 refine zS Tryz.func37 O Tryz.ntmps37 Tryz.results37 O ?_
 intro z hz
 have hP1:=hP.wh
 have hP2:=hP.params
 have hP3:=hP.defs
 refine G O<|zU O O (qI O O) ?_
 rintro _ _ ⟨b1,rfl,rfl⟩
 refine zU O O (qD [some 1,some 3,some 7,some 22,some 1] O zr27 O) ?_
 rintro _ _ ⟨b2,rfl,rfl⟩
 refine W<|zH<|wR 8 1 [⟨0,.q []⟩,⟨1,.q [2]⟩,⟨2,.q []⟩,⟨3,.q []⟩,⟨4,.q [2]⟩,⟨5,.q []⟩,⟨6,.q []⟩,⟨7,.f 0⟩] mixed (by kernel_rfl) (by kernel_rfl) O O O<|qL O<|qL O<|qL O<|qL O<|qL O<|qL O<|qL O<|fx_fresh O O (zBt (yE O zr27)) ⟨_,_,0,O,O⟩<|zFn<|qR O (by decide) O O (zD O zCa O)<|qR O (by decide) O O (zG O zAu O (J 0 O) O)<|qR O (by decide) O O (qG O ok83 (OwnR.pur (zCx p.Sizes hP.sizes)) ⟨U,O,T⟩)<|qR O (by decide) O O (zD O zEc O)<|qR O (by decide) O O (zG O zAu O (J 0 O) O)<|qR O (by decide) O O (qG O ok83 (OwnR.pur (zCx p.Outs hP.outs)) ⟨U,O,T⟩)<|qR O (by decide) O O (kZ O zr27 pl27 O)<|sq_fresh O O ?_
 rintro _ _ ⟨b3,rfl,rfl⟩
 refine zFj O<|N 0 sz27 O<|W<|zH<|G O<|qV _ (yF 101 3)<|qV _ (yF 67 7)<|qV _ (yF 63 22)<|zE O zGi<|zI one23 (J 5 O) O<|zT O el23<|Y O<|W<|zN<|zV ⟨[(20,.c _),(1,.c _),(2,.c _),(3,.c _),(18,.c _),(19,.c _)],[_,_,_,_,_,_]⟩ (Weak.mk [true,true,true,true,true,true] ⟨U,U,U,U,U,U,T⟩ O)<|zY 1 4 O O (Nat×Value) (fun ⟨k,sv⟩=>[(20,vI k)]) (fun ⟨k,sv⟩=>[E.vec (.slice none 0 0) 63 22 ([]),E.vec (.slice none 0 0) 67 7 ([]),E.vec sv 101 3 ((p.Where.take k).map Cn.cells),E.row b3 27 [.sl 1 (p.Sizes.map fun s=>[cS s]),.lit sv,.lit (.slice none 0 0),.lit (.slice none 0 0),.sl 1 (p.Outs.map fun s=>[cS s])]]) (fun ⟨k,sv⟩=>k<=p.Where.length) (fun ⟨k,sv⟩=>p.Where.length-k) ⟨⟨0,(.slice none 0 0)⟩,(by omega),Weak.mk [true,true,true,true,true,true] ⟨U,U,U,U,U,U,T⟩ O⟩ ?_
 rintro ⟨k,sv⟩ hk
 show AWP _ _ _ _ _ ⟨[(20,vI k)]++_,[E.vec (.slice none 0 0) 63 22 ([]),E.vec (.slice none 0 0) 67 7 ([]),E.vec sv 101 3 ((p.Where.take k).map Cn.cells),E.row b3 27 [.sl 1 (p.Sizes.map fun s=>[cS s]),.lit sv,.lit (.slice none 0 0),.lit (.slice none 0 0),.sl 1 (p.Outs.map fun s=>[cS s])]]++_⟩
 refine G O<|qW O<|W<|zH<|zF O (fun c1=>?_) (fun c1=>?_)
 ·try simp only [sx] at c1
  obtain ⟨x,hx⟩:=qO p.Where k (by omega)
  refine zJ<|zH<|zN<|G O<|zZ O el23 (by omega) (getm (by assumption))<|zL agg101 zX O<|zU O O (qD [none,some 2,none] O zr101 O) ?_
  rintro _ _ ⟨b4,rfl,rfl⟩
  refine N 0 sz101 O<|W<|qS 9 mixed (by kernel_rfl) O O<|zM O O (zD O zGi O)<|zM O O (zG O one23 O (J 4 O) O)<|zM O O (zD O zLh O)<|zM O O (zR O kA O (J 0 O) O)<|zM O O (qG O ok84 (zBk x.Lin (hP.whs x (zW hx))) ⟨U,O,T⟩)<|zM O O (zD O fd101_1 O)<|zM O O (zG O one4 O (J 0 O) O)<|zM O O (kZ O zr101 pl101 O)<|zM O O (wK O el23 zr101 O O O O)<|yJ<|zU O O (qQ 3 O el23 O O O (by simp only [List.length_take,List.length_map,List.length_append,List.length_cons,List.length_nil];omega) (by simp only [List.length_take,List.length_map,List.length_append,List.length_cons,List.length_nil];omega)) ?_
  rintro _ _ ⟨sv5,rfl,rfl⟩
  refine zE O zGi<|N 4 sz23 O<|W<|zO O<|qB O ⟨by omega,by omega⟩<|Y O<|W ?_
  refine ⟨⟨k+1,sv5⟩,(by omega),(by show p.Where.length-(k+1)<p.Where.length-k;omega),Weak.mk [false,true,true,true,true,true,true] ⟨U,U,U,U,U,U,T⟩ (by exact mem4_eq (by rw [qM hx,List.map_append];rfl))⟩
 ·try simp only [sx] at c1
  rw [qT (l:=p.Where) (k:=k) (by omega)]
  refine zV _ (yC 2 O (regs':=[]) (μ':=[_,_,_,_,_]) T ⟨EFle.refl _,EFle.refl _,EFle.row (ds:=[_,_,_,_,_]) ⟨.inl O,.inr ⟨O,O⟩,.inl O,.inl O,.inl O,T⟩,EFle.refl _,EFle.refl _,T⟩)<|qF<|zH<|G O<|zE O wZ<|zI zCf (J 4 O) O<|zT O el24<|Y O<|W<|zN<|zV ⟨[(39,.c _),(1,.c _),(2,.c _),(3,.c _),(37,.c _),(38,.c _)],[_,_,_,_,_]⟩ (Weak.mk [true,true,true,true,true] ⟨U,U,U,U,U,U,T⟩ O)<|zY 1 3 O O (Nat×Value) (fun ⟨k,sw⟩=>[(39,vI k)]) (fun ⟨k,sw⟩=>[E.vec (.slice none 0 0) 63 22 ([]),E.vec sw 67 7 ((p.Params.take k).map Pm.cells),E.row b3 27 [.sl 1 (p.Sizes.map fun s=>[cS s]),.sl 3 (p.Where.map Cn.cells),.lit sw,.lit (.slice none 0 0),.sl 1 (p.Outs.map fun s=>[cS s])]]) (fun ⟨k,sw⟩=>k<=p.Params.length) (fun ⟨k,sw⟩=>p.Params.length-k) ⟨⟨0,(.slice none 0 0)⟩,(by omega),Weak.mk [true,true,true,true,true] ⟨U,U,U,U,U,U,T⟩ O⟩ ?_
  rintro ⟨k,sw⟩ hk
  show AWP _ _ _ _ _ ⟨[(39,vI k)]++_,[E.vec (.slice none 0 0) 63 22 ([]),E.vec sw 67 7 ((p.Params.take k).map Pm.cells),E.row b3 27 [.sl 1 (p.Sizes.map fun s=>[cS s]),.sl 3 (p.Where.map Cn.cells),.lit sw,.lit (.slice none 0 0),.sl 1 (p.Outs.map fun s=>[cS s])]]++_⟩
  refine G O<|qW O<|W<|zH<|zF O (fun c2=>?_) (fun c2=>?_)
  ·try simp only [sx] at c2
   obtain ⟨y,hy⟩:=qO p.Params k (by omega)
   refine zJ<|zH<|zN<|G O<|zZ O el24 (by omega) (getm (by assumption))<|zL agg67 zX O<|zU O O (qD [none,none,none,none,none,none,some 2] O zr67 O) ?_
   rintro _ _ ⟨b6,rfl,rfl⟩
   refine N 0 sz67 O<|W<|G O<|zE O zFo<|zI zAg (J 0 O) O<|qK O ok85 (OwnR.pur (zEo y.Dims (hP.ps y (zW hy)).1 (hP.ps y (zW hy)).2)) ⟨U,O,T⟩<|zE O zFo<|N 0 sz65 O<|W<|zO O<|zE O wZ<|zI zCf (J 3 O) O<|zL agg67 (J 0 O) O<|qX O el24 zr67<|zU O O (qQ 2 O el24 O O O (by simp only [List.length_take,List.length_map,List.length_append,List.length_cons,List.length_nil];omega) (by simp only [List.length_take,List.length_map,List.length_append,List.length_cons,List.length_nil];omega)) ?_
   rintro _ _ ⟨sv7,rfl,rfl⟩
   refine zE O wZ<|N 3 sz24 O<|W<|zO O<|qB O ⟨by omega,by omega⟩<|Y O<|W ?_
   refine ⟨⟨k+1,sv7⟩,(by omega),(by show p.Params.length-(k+1)<p.Params.length-k;omega),Weak.mk [false,true,true,true,true,true] ⟨U,U,U,U,U,U,T⟩ (by exact mem3_eq (by rw [qM hy,List.map_append];rfl))⟩
  ·try simp only [sx] at c2
   rw [qT (l:=p.Params) (k:=k) (by omega)]
   refine zV _ (yC 1 O (regs':=[]) (μ':=[_,_,_,_]) T ⟨EFle.refl _,EFle.row (ds:=[_,_,_,_,_]) ⟨.inl O,.inl O,.inr ⟨O,O⟩,.inl O,.inl O,T⟩,EFle.refl _,EFle.refl _,T⟩)<|qF<|zH<|G O<|zE O yK<|zI kU (J 3 O) O<|zT O el25<|Y O<|W<|zN<|zV ⟨[(57,.c _),(2,.c _),(3,.c _),(55,.c _),(56,.c _)],[_,_,_]⟩ (Weak.mk [true,true,true,false] ⟨U,U,U,U,U,T⟩ O)<|zY 1 2 O O (Nat×Value) (fun ⟨k,su⟩=>[(57,vI k)]) (fun ⟨k,su⟩=>[E.vec su 63 22 ((p.Defs.take k).map Df.cells),E.row b3 27 [.sl 1 (p.Sizes.map fun s=>[cS s]),.sl 3 (p.Where.map Cn.cells),.sl 7 (p.Params.map Pm.cells),.lit su,.sl 1 (p.Outs.map fun s=>[cS s])]]) (fun ⟨k,su⟩=>k<=p.Defs.length) (fun ⟨k,su⟩=>p.Defs.length-k) ⟨⟨0,(.slice none 0 0)⟩,(by omega),Weak.mk [true,true,true] ⟨U,U,U,U,U,T⟩ O⟩ ?_
   rintro ⟨k,su⟩ hk
   show AWP _ _ _ _ _ ⟨[(57,vI k)]++_,[E.vec su 63 22 ((p.Defs.take k).map Df.cells),E.row b3 27 [.sl 1 (p.Sizes.map fun s=>[cS s]),.sl 3 (p.Where.map Cn.cells),.sl 7 (p.Params.map Pm.cells),.lit su,.sl 1 (p.Outs.map fun s=>[cS s])]]++_⟩
   refine G O<|qW O<|W<|zH<|zF O (fun c3=>?_) (fun c3=>?_)
   ·try simp only [sx] at c3
    obtain ⟨d,hd⟩:=qO p.Defs k (by omega)
    refine zJ<|zH<|zN<|G O<|zZ O el25 (by omega) (getm (by assumption))<|zL wP zX O<|zU O O (qD [none,none,none,none,none,none,some 3,some 3,none,none,none,none,none,none,none,none,none,none,none,some 2,some 4,some 13] O zr63 O) ?_
    rintro _ _ ⟨b8,rfl,rfl⟩
    refine N 0 sz63 O<|W<|zH<|qS 10 mixed (by kernel_rfl) O O<|zM O O (zD O zAm O)<|zM O O (zG O kP O (J 0 O) O)<|zM O O (qG O ok86 (OwnR.pur (zFm d.Dims (by have:=(hP.ds d (zW hd)).1;omega) (hP.ds d (zW hd)).2.2.1)) ⟨U,O,T⟩)<|zM O O (zD O zAd O)<|zM O O (zG O kP O (J 0 O) O)<|zM O O (qG O ok86 (OwnR.pur (zFm d.Red (by have:=(hP.ds d (zW hd)).2.1;omega) (hP.ds d (zW hd)).2.2.2.1)) ⟨U,O,T⟩)<|zM O O (zD O zAw O)<|zM O O (zR O qZ O (J 0 O) O)<|zM O O (qG O ok32 (expr_CopyW d.Body (hP.ds d (zW hd)).2.2.2.2.1 (hP.ds d (zW hd)).2.2.2.2.2) ⟨U,O,T⟩)<|zM O O (zD O zAm O)<|yJ<|N 0 sz61 O<|zE O zAd<|N 0 sz61 O<|zE O zAw<|N 0 sz44 O<|W<|zO O<|zE O yK<|zI kU (J 2 O) O<|zL wP (J 0 O) O<|qX O el25 zr63<|zU O O (qQ 1 O el25 O O O (by simp only [List.length_take,List.length_map,List.length_append,List.length_cons,List.length_nil];omega) (by simp only [List.length_take,List.length_map,List.length_append,List.length_cons,List.length_nil];omega)) ?_
    rintro _ _ ⟨sv9,rfl,rfl⟩
    refine zE O yK<|N 2 sz25 O<|W<|zO O<|qB O ⟨by omega,by omega⟩<|Y O<|W ?_
    refine ⟨⟨k+1,sv9⟩,(by omega),(by show p.Defs.length-(k+1)<p.Defs.length-k;omega),Weak.mk [false,true,true,true] ⟨U,U,U,U,U,T⟩ (by exact zDh (by rw [qM hd,List.map_append];rfl))⟩
   ·try simp only [sx] at c3
    rw [qT (l:=p.Defs) (k:=k) (by omega)]
    refine zV _ (yC 0 O (regs':=[]) (μ':=[_,_]) T ⟨EFle.row (ds:=[_,_,_,_,_]) ⟨.inl O,.inl O,.inl O,.inr ⟨O,O⟩,.inl O,T⟩,EFle.refl _,T⟩)<|qF<|G O<|zL kT (J 0 O) O<|N 1 sz27 O<|W<|zK<|fin1 (qH kT O (J 1 O) O) ?_
    exact O
end Go.W
end
section
set_option maxRecDepth 10000
namespace Go.W
open Go Go.Eng Go.Proofs Go.L41 Go.Br
attribute [local irreducible] AWP RWP TD finQ
theorem pl63:placesT Tryz.prog 63=some [(0,1),(1,5),(6,1),(7,1),(8,1),(9,13)]:=by kernel_rfl
end Go.W
end
section
set_option maxRecDepth 10000
namespace Go.W
open Go Go.Eng Go.Proofs Go.L41 Go.Br
attribute [local irreducible] AWP RWP TD finQ
end Go.W
end
section
set_option maxRecDepth 10000
namespace Go.W
open Go Go.Eng Go.Proofs Go.L41 Go.Br
attribute [local irreducible] AWP RWP TD finQ
end Go.W
end
