/-
  Walks: what functions of the program compute. Printed by wip/gen/mk2.py.
  Walks: what functions of the program compute. Printed by wip/gen/mk2.py.
  Walks: what functions of the program compute. Printed by wip/gen/mk2.py.
  Walks: what functions of the program compute. Printed by wip/gen/mk2.py.
  Walks: what functions of the program compute. Printed by wip/gen/mk2.py.
  Walks: what functions of the program compute. Printed by wip/gen/mk2.py.
  Conditions: none.
-/
import Derived.Test.YtkidnhldibjiaaaGreatDoorGC
import Derived.Test.YtkidnhldibjiaaaGreatDoorPlain2
import Derived.Test.YtkidnhldibjiaaaGreatDoorGB
import Derived.Test.YtkidnhldibjiaaaGreatDoorEngZ
set_option linter.unusedSimpArgs false
set_option linter.unusedVariables false
section
set_option maxRecDepth 10000
namespace Go.W
open Go Go.Eng Go.Proofs Go.L41 Go.Br
attribute [local irreducible] AWP RWP TD finQ
end Go.W
end
section
set_option maxRecDepth 10000
namespace Go.W
open Go Go.Eng Go.Proofs Go.L41 Go.Br
attribute [local irreducible] AWP RWP TD finQ
end Go.W
end
section
set_option maxRecDepth 10000
namespace Go.W
open Go Go.Eng Go.Proofs Go.L41 Go.Br
attribute [local irreducible] AWP RWP TD finQ
theorem ok37:callOk Tryz.prog 37=true:=by kernel_rfl
theorem ok83:callOk Tryz.prog 83=true:=by kernel_rfl
theorem ok86:callOk Tryz.prog 86=true:=by kernel_rfl
theorem pl101:placesT Tryz.prog 101=some [(0,2),(2,1)]:=by kernel_rfl
theorem pl111:placesT Tryz.prog 111=some [(0,1),(1,2)]:=by kernel_rfl
theorem sz23:(Tryz.prog.info? 23).map (·.size)=some 1:=by kernel_rfl
theorem sz24:(Tryz.prog.info? 24).map (·.size)=some 1:=by kernel_rfl
theorem sz61:(Tryz.prog.info? 61).map (·.size)=some 1:=by kernel_rfl
theorem zCr (l:List ByteArray) (hl:l.length<=4294967296):
    OwnR cfg 83 [.c (.sl 1 (l.map fun s=>[cS s]))] 9 1 (l.map (fun s=>[cS s])):=by
 refine zR Tryz.func83 O Tryz.ntmps83 Tryz.results83 O ?_
 intro z hz
 refine G O<|zX O (yA 1 O O)<|W<|zG<|G O<|Y O<|zS O O (zFx O r O O) ?_
 rintro _ _ ⟨nb1,rfl,hnil1,rfl⟩
 refine W<|zE O (fun c1=>?_) (fun c1=>?_)
 ·try simp only [sx] at c1
  refine G O<|Y O<|qV _ (yH 9 1)<|W<|zJ<|zP O ?_
  exact ⟨_,O,by rw [hnil1 c1]⟩
 ·try simp only [sx] at c1
  refine zI<|G O<|zS O O (zAq O r zr9 O O O O) ?_
  rintro _ _ ⟨sv3,rfl,rfl⟩
  refine Y O<|zS O O (qO 0 O r O O O (by simp only [List.length_map,List.length_nil,Nat.zero_add];omega) (by simp only [List.length_map,List.length_nil,Nat.zero_add];omega)) ?_
  rintro _ _ ⟨sv4,rfl,rfl⟩
  refine Y O<|W<|zJ<|zP O ?_
  exact ⟨_,O,O⟩
theorem zFk (l:List Ax) (hl:l.length<=4294967296) (hx0:∀x,x∈l->x.Size.L.length<=5864062014805):
    OwnR cfg 86 [.c (.sl 3 (l.map Ax.cells))] 111 3 (l.map Ax.cells):=by
 refine zR Tryz.func86 O Tryz.ntmps86 Tryz.results86 O ?_
 intro z hz
 refine G O<|zX O (yA 3 O O)<|W<|G O<|Y O<|qV _ (yH 111 3)<|W<|zG<|G O<|Y O<|zV O D<|Y O<|W<|zN<|zU ⟨[(8,.c _),(3,.c _),(6,.c _),(7,.c _)],[_]⟩ (Weak.mk [true] ⟨U,U,U,U,T⟩ O)<|qA 2 1 O O (Nat×Value) (fun ⟨k,sv⟩=>[(8,vI k),(3,.c (.lit sv))]) (fun ⟨k,sv⟩=>[E.vec sv 111 3 ((l.take k).map Ax.cells)]) (fun ⟨k,sv⟩=>k<=l.length) (fun ⟨k,sv⟩=>l.length-k) ⟨⟨0,(.slice none 0 0)⟩,(by omega),Weak.mk [true] ⟨U,U,U,U,T⟩ O⟩ ?_
 rintro ⟨k,sv⟩ hk
 show AWP _ _ _ _ _ ⟨[(8,vI k),(3,.c (.lit sv))]++_,[E.vec sv 111 3 ((l.take k).map Ax.cells)]++_⟩
 refine G O<|qW O<|W<|zG<|zE O (fun c1=>?_) (fun c1=>?_)
 ·try simp only [sx] at c1
  obtain ⟨x,hx⟩:=qP l k (by omega)
  refine zI<|zG<|zN<|G O<|zZ O D (by omega) (getm (by assumption))<|zL zEr zY O<|zS O O (qD [none,none,some 2] O zHg O) ?_
  rintro _ _ ⟨b2,rfl,rfl⟩
  refine N 0 sz111 O<|W<|qY 8 mixed (by kernel_rfl) O O<|zM O O (zQ O O)<|zM O O (zF O zAj O)<|zM O O (zK O one9 O (J 0 O) O)<|zM O O (zF O zDm O)<|zM O O (zT O kF O (J 0 O) O)<|zM O O (qH O ok84 (zBe _ (hx0 _ (zW hx))) ⟨U,O,T⟩)<|zM O O (kV O zHg pl111 O)<|zM O O (wN O D zHg O O O O)<|yT<|zS O O (qO 1 O D O O O (by first|omega|(simp only [List.length_take,List.length_map,List.length_append,List.length_nil,List.length_cons];omega)) (by first|omega|(simp only [List.length_take,List.length_map,List.length_append,List.length_nil,List.length_cons];omega))) ?_
  rintro _ _ ⟨sv3,rfl,rfl⟩
  refine Y O<|W<|zO O<|qB O ⟨by omega,by omega⟩<|Y O<|W ?_
  refine ⟨⟨k+1,sv3⟩,(by omega),(by show l.length-(k+1)<l.length-k;omega),Weak.mk [false,true] ⟨U,U,U,U,T⟩ (by exact yX (by rw [qM hx,List.map_append];rfl))⟩
 ·try simp only [sx] at c1
  refine qE<|G O<|Y O<|Y O<|W<|zJ<|zP O ?_
  exact ⟨_,O,by rw [qS (by omega)];rfl⟩
theorem zCk (p:Pg) (hP:p.OkC):
    Pur cfg 37 [vPg p] (vPg p):=by
 refine zR Tryz.func37 O Tryz.ntmps37 Tryz.results37 O ?_
 intro z hz
 have hP1:=hP.wh
 have hP2:=hP.params
 have hP3:=hP.defs
 refine G O<|zS O O (qG O O) ?_
 rintro _ _ ⟨b1,rfl,rfl⟩
 refine zS O O (qD [some 1,some 3,some 7,some 22,some 1] O zr27 O) ?_
 rintro _ _ ⟨b2,rfl,rfl⟩
 refine W<|zG<|wO 8 1 [⟨0,.q []⟩,⟨1,.q [2]⟩,⟨2,.q []⟩,⟨3,.q []⟩,⟨4,.q [2]⟩,⟨5,.q []⟩,⟨6,.q []⟩,⟨7,.f 0⟩] mixed (by kernel_rfl) (by kernel_rfl) O O O<|qL O<|qL O<|qL O<|qL O<|qL O<|qL O<|qL O<|fx_fresh O O (zBo (yB O zr27)) ⟨_,_,0,O,O⟩<|zFl<|qT O (by decide) O O (zF O zCp O)<|qT O (by decide) O O (zK O zBq O (J 0 O) O)<|qT O (by decide) O O (qH O ok83 (OwnR.pur (zCr p.Sizes hP.sizes)) ⟨U,O,T⟩)<|qT O (by decide) O O (zF O zGg O)<|qT O (by decide) O O (zK O zBq O (J 0 O) O)<|qT O (by decide) O O (qH O ok83 (OwnR.pur (zCr p.Outs hP.outs)) ⟨U,O,T⟩)<|qT O (by decide) O O (kV O zr27 pl27 O)<|sq_fresh O O ?_
 rintro _ _ ⟨b3,rfl,rfl⟩
 refine zFh O<|N 0 sz27 O<|W<|zG<|G O<|qV _ (yH 101 3)<|qV _ (yH 67 7)<|qV _ (yH 63 22)<|zD O zJl<|zH one23 (J 5 O) O<|zV O el23<|Y O<|W<|zN<|zU ⟨[(20,.c _),(1,.c _),(2,.c _),(3,.c _),(18,.c _),(19,.c _)],[_,_,_,_,_,_]⟩ (Weak.mk [true,true,true,true,true,true] ⟨U,U,U,U,U,U,T⟩ O)<|qA 1 4 O O (Nat×Value) (fun ⟨k,sv⟩=>[(20,vI k)]) (fun ⟨k,sv⟩=>[E.vec (.slice none 0 0) 63 22 ([]),E.vec (.slice none 0 0) 67 7 ([]),E.vec sv 101 3 ((p.Where.take k).map Cn.cells),E.row b3 27 [.sl 1 (p.Sizes.map fun s=>[cS s]),.lit sv,.lit (.slice none 0 0),.lit (.slice none 0 0),.sl 1 (p.Outs.map fun s=>[cS s])]]) (fun ⟨k,sv⟩=>k<=p.Where.length) (fun ⟨k,sv⟩=>p.Where.length-k) ⟨⟨0,(.slice none 0 0)⟩,(by omega),Weak.mk [true,true,true,true,true,true] ⟨U,U,U,U,U,U,T⟩ O⟩ ?_
 rintro ⟨k,sv⟩ hk
 show AWP _ _ _ _ _ ⟨[(20,vI k)]++_,[E.vec (.slice none 0 0) 63 22 ([]),E.vec (.slice none 0 0) 67 7 ([]),E.vec sv 101 3 ((p.Where.take k).map Cn.cells),E.row b3 27 [.sl 1 (p.Sizes.map fun s=>[cS s]),.lit sv,.lit (.slice none 0 0),.lit (.slice none 0 0),.sl 1 (p.Outs.map fun s=>[cS s])]]++_⟩
 refine G O<|qW O<|W<|zG<|zE O (fun c1=>?_) (fun c1=>?_)
 ·try simp only [sx] at c1
  obtain ⟨x,hx⟩:=qP p.Where k (by omega)
  refine zI<|zG<|zN<|G O<|zZ O el23 (by omega) (getm (by assumption))<|zL agg101 zY O<|zS O O (qD [none,some 2,none] O zr101 O) ?_
  rintro _ _ ⟨b4,rfl,rfl⟩
  refine N 0 sz101 O<|W<|qY 9 mixed (by kernel_rfl) O O<|zM O O (zF O zJl O)<|zM O O (zK O one23 O (J 4 O) O)<|zM O O (zF O fd101_0 O)<|zM O O (zT O kF O (J 0 O) O)<|zM O O (qH O ok84 (zBe x.Lin (hP.whs x (zW hx))) ⟨U,O,T⟩)<|zM O O (zF O fd101_1 O)<|zM O O (zK O one4 O (J 0 O) O)<|zM O O (kV O zr101 pl101 O)<|zM O O (wN O el23 zr101 O O O O)<|yT<|zS O O (qO 3 O el23 O O O (by simp only [List.length_take,List.length_map,List.length_append,List.length_cons,List.length_nil];omega) (by simp only [List.length_take,List.length_map,List.length_append,List.length_cons,List.length_nil];omega)) ?_
  rintro _ _ ⟨sv5,rfl,rfl⟩
  refine zD O zJl<|N 4 sz23 O<|W<|zO O<|qB O ⟨by omega,by omega⟩<|Y O<|W ?_
  refine ⟨⟨k+1,sv5⟩,(by omega),(by show p.Where.length-(k+1)<p.Where.length-k;omega),Weak.mk [false,true,true,true,true,true,true] ⟨U,U,U,U,U,U,T⟩ (by exact mem4_eq (by rw [qM hx,List.map_append];rfl))⟩
 ·try simp only [sx] at c1
  rw [qS (l:=p.Where) (k:=k) (by omega)]
  refine zU _ (yJ 2 O (regs':=[]) (μ':=[_,_,_,_,_]) T ⟨EFle.refl _,EFle.refl _,EFle.row (ds:=[_,_,_,_,_]) ⟨.inl O,.inr ⟨O,O⟩,.inl O,.inl O,.inl O,T⟩,EFle.refl _,EFle.refl _,T⟩)<|qE<|zG<|G O<|zD O zBu<|zH zFp (J 4 O) O<|zV O el24<|Y O<|W<|zN<|zU ⟨[(39,.c _),(1,.c _),(2,.c _),(3,.c _),(37,.c _),(38,.c _)],[_,_,_,_,_]⟩ (Weak.mk [true,true,true,true,true] ⟨U,U,U,U,U,U,T⟩ O)<|qA 1 3 O O (Nat×Value) (fun ⟨k,sw⟩=>[(39,vI k)]) (fun ⟨k,sw⟩=>[E.vec (.slice none 0 0) 63 22 ([]),E.vec sw 67 7 ((p.Params.take k).map Pm.cells),E.row b3 27 [.sl 1 (p.Sizes.map fun s=>[cS s]),.sl 3 (p.Where.map Cn.cells),.lit sw,.lit (.slice none 0 0),.sl 1 (p.Outs.map fun s=>[cS s])]]) (fun ⟨k,sw⟩=>k<=p.Params.length) (fun ⟨k,sw⟩=>p.Params.length-k) ⟨⟨0,(.slice none 0 0)⟩,(by omega),Weak.mk [true,true,true,true,true] ⟨U,U,U,U,U,U,T⟩ O⟩ ?_
  rintro ⟨k,sw⟩ hk
  show AWP _ _ _ _ _ ⟨[(39,vI k)]++_,[E.vec (.slice none 0 0) 63 22 ([]),E.vec sw 67 7 ((p.Params.take k).map Pm.cells),E.row b3 27 [.sl 1 (p.Sizes.map fun s=>[cS s]),.sl 3 (p.Where.map Cn.cells),.lit sw,.lit (.slice none 0 0),.sl 1 (p.Outs.map fun s=>[cS s])]]++_⟩
  refine G O<|qW O<|W<|zG<|zE O (fun c2=>?_) (fun c2=>?_)
  ·try simp only [sx] at c2
   obtain ⟨y,hy⟩:=qP p.Params k (by omega)
   refine zI<|zG<|zN<|G O<|zZ O el24 (by omega) (getm (by assumption))<|zL agg67 zY O<|zS O O (qD [none,none,none,none,none,none,some 2] O zr67 O) ?_
   rintro _ _ ⟨b6,rfl,rfl⟩
   refine N 0 sz67 O<|W<|G O<|zD O zHp<|zH zAr (J 0 O) O<|qK O ok85 (OwnR.pur (zEf y.Dims (hP.ps y (zW hy)).1 (hP.ps y (zW hy)).2)) ⟨U,O,T⟩<|zD O zHp<|N 0 sz65 O<|W<|zO O<|zD O zBu<|zH zFp (J 3 O) O<|zL agg67 (J 0 O) O<|qX O el24 zr67<|zS O O (qO 2 O el24 O O O (by simp only [List.length_take,List.length_map,List.length_append,List.length_cons,List.length_nil];omega) (by simp only [List.length_take,List.length_map,List.length_append,List.length_cons,List.length_nil];omega)) ?_
   rintro _ _ ⟨sv7,rfl,rfl⟩
   refine zD O zBu<|N 3 sz24 O<|W<|zO O<|qB O ⟨by omega,by omega⟩<|Y O<|W ?_
   refine ⟨⟨k+1,sv7⟩,(by omega),(by show p.Params.length-(k+1)<p.Params.length-k;omega),Weak.mk [false,true,true,true,true,true] ⟨U,U,U,U,U,U,T⟩ (by exact mem3_eq (by rw [qM hy,List.map_append];rfl))⟩
  ·try simp only [sx] at c2
   rw [qS (l:=p.Params) (k:=k) (by omega)]
   refine zU _ (yJ 1 O (regs':=[]) (μ':=[_,_,_,_]) T ⟨EFle.refl _,EFle.row (ds:=[_,_,_,_,_]) ⟨.inl O,.inl O,.inr ⟨O,O⟩,.inl O,.inl O,T⟩,EFle.refl _,EFle.refl _,T⟩)<|qE<|zG<|G O<|zD O yZ<|zH wL (J 3 O) O<|zV O el25<|Y O<|W<|zN<|zU ⟨[(57,.c _),(2,.c _),(3,.c _),(55,.c _),(56,.c _)],[_,_,_]⟩ (Weak.mk [true,true,true,false] ⟨U,U,U,U,U,T⟩ O)<|qA 1 2 O O (Nat×Value) (fun ⟨k,su⟩=>[(57,vI k)]) (fun ⟨k,su⟩=>[E.vec su 63 22 ((p.Defs.take k).map Df.cells),E.row b3 27 [.sl 1 (p.Sizes.map fun s=>[cS s]),.sl 3 (p.Where.map Cn.cells),.sl 7 (p.Params.map Pm.cells),.lit su,.sl 1 (p.Outs.map fun s=>[cS s])]]) (fun ⟨k,su⟩=>k<=p.Defs.length) (fun ⟨k,su⟩=>p.Defs.length-k) ⟨⟨0,(.slice none 0 0)⟩,(by omega),Weak.mk [true,true,true] ⟨U,U,U,U,U,T⟩ O⟩ ?_
   rintro ⟨k,su⟩ hk
   show AWP _ _ _ _ _ ⟨[(57,vI k)]++_,[E.vec su 63 22 ((p.Defs.take k).map Df.cells),E.row b3 27 [.sl 1 (p.Sizes.map fun s=>[cS s]),.sl 3 (p.Where.map Cn.cells),.sl 7 (p.Params.map Pm.cells),.lit su,.sl 1 (p.Outs.map fun s=>[cS s])]]++_⟩
   refine G O<|qW O<|W<|zG<|zE O (fun c3=>?_) (fun c3=>?_)
   ·try simp only [sx] at c3
    obtain ⟨d,hd⟩:=qP p.Defs k (by omega)
    refine zI<|zG<|zN<|G O<|zZ O el25 (by omega) (getm (by assumption))<|zL wM zY O<|zS O O (qD [none,none,none,none,none,none,some 3,some 3,none,none,none,none,none,none,none,none,none,none,none,some 2,some 4,some 13] O zr63 O) ?_
    rintro _ _ ⟨b8,rfl,rfl⟩
    refine N 0 sz63 O<|W<|zG<|qY 10 mixed (by kernel_rfl) O O<|zM O O (zF O zAl O)<|zM O O (zK O kQ O (J 0 O) O)<|zM O O (qH O ok86 (OwnR.pur (zFk d.Dims (by have:=(hP.ds d (zW hd)).1;omega) (hP.ds d (zW hd)).2.2.1)) ⟨U,O,T⟩)<|zM O O (zF O zAc O)<|zM O O (zK O kQ O (J 0 O) O)<|zM O O (qH O ok86 (OwnR.pur (zFk d.Red (by have:=(hP.ds d (zW hd)).2.1;omega) (hP.ds d (zW hd)).2.2.2.1)) ⟨U,O,T⟩)<|zM O O (zF O zBx O)<|zM O O (zT O qZ O (J 0 O) O)<|zM O O (qH O ok32 (expr_CopyW d.Body (hP.ds d (zW hd)).2.2.2.2.1 (hP.ds d (zW hd)).2.2.2.2.2) ⟨U,O,T⟩)<|zM O O (zF O zAl O)<|yT<|N 0 sz61 O<|zD O zAc<|N 0 sz61 O<|zD O zBx<|N 0 sz44 O<|W<|zO O<|zD O yZ<|zH wL (J 2 O) O<|zL wM (J 0 O) O<|qX O el25 zr63<|zS O O (qO 1 O el25 O O O (by simp only [List.length_take,List.length_map,List.length_append,List.length_cons,List.length_nil];omega) (by simp only [List.length_take,List.length_map,List.length_append,List.length_cons,List.length_nil];omega)) ?_
    rintro _ _ ⟨sv9,rfl,rfl⟩
    refine zD O yZ<|N 2 sz25 O<|W<|zO O<|qB O ⟨by omega,by omega⟩<|Y O<|W ?_
    refine ⟨⟨k+1,sv9⟩,(by omega),(by show p.Defs.length-(k+1)<p.Defs.length-k;omega),Weak.mk [false,true,true,true] ⟨U,U,U,U,U,T⟩ (by exact zEy (by rw [qM hd,List.map_append];rfl))⟩
   ·try simp only [sx] at c3
    rw [qS (l:=p.Defs) (k:=k) (by omega)]
    refine zU _ (yJ 0 O (regs':=[]) (μ':=[_,_]) T ⟨EFle.row (ds:=[_,_,_,_,_]) ⟨.inl O,.inl O,.inl O,.inr ⟨O,O⟩,.inl O,T⟩,EFle.refl _,T⟩)<|qE<|G O<|zL wC (J 0 O) O<|N 1 sz27 O<|W<|zJ<|fin1 (qF wC O (J 1 O) O) ?_
    exact O
end Go.W
end
section
set_option maxRecDepth 10000
namespace Go.W
open Go Go.Eng Go.Proofs Go.L41 Go.Br
attribute [local irreducible] AWP RWP TD finQ
theorem pl63:placesT Tryz.prog 63=some [(0,1),(1,5),(6,1),(7,1),(8,1),(9,13)]:=by kernel_rfl
end Go.W
end
section
set_option maxRecDepth 10000
namespace Go.W
open Go Go.Eng Go.Proofs Go.L41 Go.Br
attribute [local irreducible] AWP RWP TD finQ
end Go.W
end
section
set_option maxRecDepth 10000
namespace Go.W
open Go Go.Eng Go.Proofs Go.L41 Go.Br
attribute [local irreducible] AWP RWP TD finQ
theorem ok250:callOk Tryz.prog 250=true:=by kernel_rfl
theorem ok286:callOk Tryz.prog 286=true:=by kernel_rfl
theorem ref14_With (l:List ByteArray) (s:ByteArray) (hl:l.length<=4294967296):
    Pur cfg 286 [vSs l,vS s] (vSs (insW l s)):=by
 refine zR Tryz.func286 O Tryz.ntmps286 Tryz.results286 O ?_
 intro z hz
 refine G O<|zX O (yA 1 O O)<|W<|G O<|Y O<|W<|zG<|zN<|zU ⟨[(5,.c _),(0,.c _),(1,.c _)],[]⟩ (Weak.mk [] ⟨U,U,U,T⟩ O)<|qA 1 0 O O (Nat) (fun k=>[(5,vI k)]) (fun k=>[]) (fun k=>k<=l.length/\(l.take k).all (below s)=true) (fun k=>l.length-k) ⟨0,⟨by omega,O⟩,Weak.mk [] ⟨U,U,U,T⟩ O⟩ ?_
 rintro k ⟨hk,hp⟩
 refine zG<|G O<|Y O<|Y O<|zV O r<|qW O<|Y O<|rL0 O (fun g2_4=>zQ O O) O<|rL0 O (fun g2_4=>zQ O O) O<|rLz [(12,_),(13,_)] O gv1 ⟨O,O,O,O,T⟩ (fun g2_4=>qJ O r O O (by simp only [Lz,cond_true,cond_false,Bool.and_eq_true,Bool.or_eq_true,Bool.not_eq_true',Bool.not_eq_false',Bool.or_eq_false_iff,Bool.and_eq_false_iff,decide_eq_true_eq,decide_eq_false_iff_not,Bool.not_eq_true,Bool.not_eq_false] at g2_4;omega) (getm (zQj (by simp only [Lz,cond_true,cond_false,Bool.and_eq_true,Bool.or_eq_true,Bool.not_eq_true',Bool.not_eq_false',Bool.or_eq_false_iff,Bool.and_eq_false_iff,decide_eq_true_eq,decide_eq_false_iff_not,Bool.not_eq_true,Bool.not_eq_false] at g2_4;omega)))) O<|rL1 14 O (fun g2_4=>zK O one9 O zY O) O<|rL0 O (fun g2_4=>zQ O O) O<|rLz [(15,_),(16,_)] O gv1 ⟨O,O,O,O,T⟩ (fun g2_4=>det_slss O O O) O<|kD O (fun h=>h)<|W<|zE O (fun c1=>?_) (fun c1=>?_)
 ·obtain ⟨hlt,hlt2⟩:=with_1t c1
  refine zI<|zN<|zO O<|Y O<|qB O ⟨by omega,by omega⟩<|Y O<|W ?_
  refine ⟨k+1,⟨by omega,below_next (zQj hlt) hp hlt2⟩,(by omega),Weak.mk [] ⟨U,U,U,T⟩ O⟩
 ·have h1f:=with_1f c1
  refine qE<|zG<|G O<|Y O<|Y O<|zV O r<|qW O<|Y O<|rL0 O (fun g4_4=>zQ O O) O<|rL0 O (fun g4_4=>zQ O O) O<|rLz [(26,_),(27,_)] O gv1 ⟨O,O,O,O,T⟩ (fun g4_4=>qJ O r O O (by simp only [Lz,cond_true,cond_false,Bool.and_eq_true,Bool.or_eq_true,Bool.not_eq_true',Bool.not_eq_false',Bool.or_eq_false_iff,Bool.and_eq_false_iff,decide_eq_true_eq,decide_eq_false_iff_not,Bool.not_eq_true,Bool.not_eq_false] at g4_4;omega) (getm (zQj (by simp only [Lz,cond_true,cond_false,Bool.and_eq_true,Bool.or_eq_true,Bool.not_eq_true',Bool.not_eq_false',Bool.or_eq_false_iff,Bool.and_eq_false_iff,decide_eq_true_eq,decide_eq_false_iff_not,Bool.not_eq_true,Bool.not_eq_false] at g4_4;omega)))) O<|rL1 28 O (fun g4_4=>zK O one9 O zY O) O<|rL0 O (fun g4_4=>zQ O O) O<|rLz [(29,_),(30,_)] O gv1 ⟨O,O,O,O,T⟩ (fun g4_4=>yM O O O) O<|kD O (fun h=>h)<|W<|zE O (fun c2=>?_) (fun c2=>?_)
  ·have h2t:=with_2t c2
   refine G O<|Y O<|Y O<|W<|zJ<|zP O ?_
   rw [with_is hp h1f h2t]
  ·have h2f:=with_2f c2
   have hnew:=with_new hk hp h1f h2f
   refine zI<|G O<|Y O<|qV _ (yH 9 1)<|W<|G O<|Y O<|Y O<|Y O<|zX O (zAd O r O O (by omega))<|zS O O (qO 0 O r O O O (by simp only [List.length_map,List.length_append,List.length_cons,List.length_nil,List.length_take,List.length_drop];omega) (by simp only [List.length_map,List.length_append,List.length_cons,List.length_nil,List.length_take,List.length_drop];omega)) ?_
   rintro _ _ ⟨sv2,rfl,rfl⟩
   refine Y O<|W<|G O<|Y O<|Y O<|qX O r zr9<|zS O O (qO 0 O r O O O (by simp only [List.length_map,List.length_append,List.length_cons,List.length_nil,List.length_take,List.length_drop];omega) (by simp only [List.length_map,List.length_append,List.length_cons,List.length_nil,List.length_take,List.length_drop];omega)) ?_
   rintro _ _ ⟨sv3,rfl,rfl⟩
   refine Y O<|W<|G O<|Y O<|Y O<|Y O<|zX O (zLz O r O O (by omega))<|zS O O (qO 0 O r O O O (by simp only [List.length_map,List.length_append,List.length_cons,List.length_nil,List.length_take,List.length_drop];omega) (by simp only [List.length_map,List.length_append,List.length_cons,List.length_nil,List.length_take,List.length_drop];omega)) ?_
   rintro _ _ ⟨sv4,rfl,rfl⟩
   refine Y O<|W<|zU _ (Weak.vecEq 0 O (rows':=(insW l s).map fun s=>[cS s]) (by rw [hnew];simp))<|zU _ (yJ 0 O (regs':=[(47,_),(4,_)]) (μ':=[]) ⟨FLe.sl,FLe.sl,T⟩ T)<|zJ<|zP O ?_
   rfl
theorem zIb (w:List ByteArray) (l:Lf) (hw:w.length+l.L.length<=4294967295):
    Pur cfg 250 [vSs w,vLin l] (vSs (insWs w (namesF l))):=by
 refine zR Tryz.func250 O Tryz.ntmps250 Tryz.results250 O ?_
 intro z hz
 refine G O<|zS O O (qG O O) ?_
 rintro _ _ ⟨b1,rfl,rfl⟩
 refine zX O (yA 1 O O)<|W<|zG<|G O<|Y O<|W<|zN<|zU ⟨[(5,.c _),(0,.c _),(3,.c _)],[_]⟩ (Weak.mk [true] ⟨U,U,U,T⟩ O)<|qA 2 0 O O (Nat) (fun k=>[(5,vI k),(0,vSs (insWs w ((l.L.take k).map Mono.Name)))]) (fun k=>[]) (fun k=>k<=l.L.length) (fun k=>l.L.length-k) ⟨0,(by omega),Weak.mk [true] ⟨U,VLe.of_eq (O),U,T⟩ O⟩ ?_
 rintro k hk
 refine zG<|G O<|Y O<|zD O kR<|zH zAm (J 0 O) O<|zV O el38<|qW O<|W<|zE O (fun c1=>?_) (fun c1=>?_)
 ·try simp only [sx] at c1
  obtain ⟨m,hm⟩:=qP l.L k (by omega)
  refine zI<|zG<|zN<|zO O<|Y O<|zD O kR<|zH zAm (J 0 O) O<|Y O<|zZ O el38 (by omega) (getm (by assumption))<|qN O zAk<|zH one9 zY O<|qK O ok286 (ref14_With (insWs w ((l.L.take k).map Mono.Name)) m.Name (by have h1:=zPc ((l.L.take k).map Mono.Name) w;rw [List.length_map] at h1;have h2:=List.length_take_le k l.L;omega)) ⟨U,O,U,O,T⟩<|Y O<|W<|zO O<|Y O<|qB O ⟨by omega,by omega⟩<|Y O<|W ?_
  refine ⟨k+1,(by omega),(by omega),Weak.mk [true] ⟨U,VLe.of_eq (congrArg vSs (by rw [zOu hm,zDt];rfl)),U,T⟩ O⟩
 ·try simp only [sx] at c1
  refine qE<|G O<|Y O<|Y O<|W<|zJ<|zP O ?_
  rw [qS (l:=l.L) (k:=k) (by omega)];rfl
theorem zMh (e:Ex) (he:e.wt<=2000000):
    Pur cfg 204 [vE e] (vSs (indexW e)):=by
 refine zR Tryz.func204 O Tryz.ntmps204 Tryz.results204 O ?_
 intro z hz
 have hnl:=nodes_wt e
 refine G O<|zS O O (qG O O) ?_
 rintro _ _ ⟨b1,rfl,rfl⟩
 refine zX O (yA 1 O O)<|W<|G O<|zX O (yA 1 O O)<|W<|G O<|zL qZ (J 0 O) O<|qK O ok249 (OwnR.pur (ref14_All e (by omega))) ⟨U,O,T⟩<|Y O<|W<|zG<|G O<|Y O<|W<|zN<|zU ⟨[(5,.c _),(3,.c _),(4,.c _)],[]⟩ (Weak.mk [false] ⟨U,U,U,T⟩ O)<|qA 2 0 O O (Nat) (fun k=>[(5,vI k),(3,vSs (insWs [] (namesA ((nodes e).take k))))]) (fun k=>[]) (fun k=>k<=(nodes e).length) (fun k=>(nodes e).length-k) ⟨0,(by omega),Weak.mk [] ⟨U,VLe.of_eq (O),U,T⟩ O⟩ ?_
 rintro k hk
 refine zG<|G O<|Y O<|Y O<|zV O el42<|qW O<|W<|zE O (fun c1=>?_) (fun c1=>?_)
 ·try simp only [sx] at c1
  obtain ⟨x,hx⟩:=qP (nodes e) k (by omega)
  have hxw:=zAo e x (zW hx)
  have hxe:=Ex.wt_eq x
  refine zI<|zG<|zN<|G O<|Y O<|Y O<|Y O<|zZ O el42 (by omega) (zBr hx)<|qN O zCo<|zL kF zY O<|qK O ok250 (zIb (insWs [] (namesA ((nodes e).take k))) x.Lin (by have q1:=zGx (namesA ((nodes e).take k));(try simp only [List.length_append,zKy] at q1⊢);have q2:=zKx (e:=e) (k:=k);  omega)) ⟨U,O,U,O,T⟩<|Y O<|W<|G O<|Y O<|W<|zN<|zU ⟨[(6,.c _),(3,.c _),(4,.c _),(5,.c _)],[]⟩ (Weak.mk [] ⟨U,U,U,U,T⟩ O) ?_
  refine qA 2 0 O O (Nat) (fun j=>[(6,vI j),(3,vSs (insWs [] (namesA ((nodes e).take k)++namesF x.Lin++((x.Idx.take j).flatMap ixF).flatMap namesF)))]) (fun j=>[]) (fun j=>j<=x.Idx.length) (fun j=>x.Idx.length-j) ⟨0,(by omega),Weak.mk [] ⟨U,VLe.of_eq (congrArg vSs (iw_1 _ _)),U,U,T⟩ O⟩ ?_
  rintro j hj
  refine zG<|G O<|Y O<|Y O<|Y O<|zZ O el42 (by omega) (zBr hx)<|qN O kC<|zH wK zY O<|zV O el41<|qW O<|W<|zE O (fun c2=>?_) (fun c2=>?_)
  ·try simp only [sx] at c2
   obtain ⟨y,hy⟩:=qP x.Idx j (by omega)
   have hyw:=zDl (zW hy)
   rw [Ix.wt] at hyw
   refine zI<|zG<|zN<|G O<|Y O<|Y O<|Y O<|zZ O el42 (by omega) (zBr hx)<|qN O kC<|zH wK zY O<|Y O<|zZ O el41 (by omega) (getm (by assumption))<|qN O zAz<|zL kF zY O<|qK O ok250 (zIb (insWs [] (namesA ((nodes e).take k)++namesF x.Lin++((x.Idx.take j).flatMap ixF).flatMap namesF)) y.Lin (by have q1:=zGx ((namesA ((nodes e).take k)++namesF x.Lin++((x.Idx.take j).flatMap ixF).flatMap namesF));(try simp only [List.length_append,zKy] at q1⊢);have q2:=zKx (e:=e) (k:=k);have q3:=idxP_len x.Idx j;omega)) ⟨U,O,U,O,T⟩<|Y O<|W<|G O<|Y O<|W<|zN<|zU ⟨[(7,.c _),(3,.c _),(4,.c _),(5,.c _),(6,.c _)],[]⟩ (Weak.mk [] ⟨U,U,U,U,U,T⟩ O) ?_
   refine qA 2 0 O O (Nat) (fun i=>[(7,vI i),(3,vSs (insWs [] ((namesA ((nodes e).take k)++namesF x.Lin++((x.Idx.take j).flatMap ixF).flatMap namesF)++namesF y.Lin++(y.At.take i).flatMap namesF)))]) (fun i=>[]) (fun i=>i<=y.At.length) (fun i=>y.At.length-i) ⟨0,(by omega),Weak.mk [] ⟨U,VLe.of_eq (congrArg vSs (iw_2 _ _)),U,U,U,T⟩ O⟩ ?_
   rintro i hi
   refine zG<|G O<|Y O<|Y O<|Y O<|zZ O el42 (by omega) (zBr hx)<|qN O kC<|zH wK zY O<|Y O<|zZ O el41 (by omega) (getm (by assumption))<|qN O kW<|zH zAr zY O<|zV O el65<|qW O<|W<|zE O (fun c3=>?_) (fun c3=>?_)
   ·try simp only [sx] at c3
    obtain ⟨l,hl⟩:=qP y.At i (by omega)
    have hlw:=zAt (zW hl)
    refine zI<|zG<|zN<|zO O<|Y O<|Y O<|Y O<|zZ O el42 (by omega) (zBr hx)<|qN O kC<|zH wK zY O<|Y O<|zZ O el41 (by omega) (getm (by assumption))<|qN O kW<|zH zAr zY O<|Y O<|zZ O el65 (by omega) (getm (by assumption))<|zL kF zY O<|qK O ok250 (zIb (insWs [] ((namesA ((nodes e).take k)++namesF x.Lin++((x.Idx.take j).flatMap ixF).flatMap namesF)++namesF y.Lin++(y.At.take i).flatMap namesF)) l (by have q1:=zGx (((namesA ((nodes e).take k)++namesF x.Lin++((x.Idx.take j).flatMap ixF).flatMap namesF)++namesF y.Lin++(y.At.take i).flatMap namesF));(try simp only [List.length_append,zKy] at q1⊢);have q2:=zKx (e:=e) (k:=k);have q3:=idxP_len x.Idx j;have q4:=zPa y.At i;omega)) ⟨U,O,U,O,T⟩<|Y O<|W<|zO O<|Y O<|qB O ⟨by omega,by omega⟩<|Y O<|W ?_
    refine ⟨i+1,(by omega),(by omega),Weak.mk [] ⟨U,VLe.of_eq (congrArg vSs (iw_at hl)),U,U,U,T⟩ O⟩
   ·try simp only [sx] at c3
    rw [qS (l:=y.At) (k:=i) (by omega)]
    refine qE<|zO O<|Y O<|qB O ⟨by omega,by omega⟩<|Y O<|W ?_
    refine ⟨j+1,(by omega),(by omega),Weak.mk [] ⟨U,VLe.of_eq (congrArg vSs (iw_ix hy)),U,U,T⟩ O⟩
  ·try simp only [sx] at c2
   rw [qS (l:=x.Idx) (k:=j) (by omega)]
   refine qE<|zO O<|Y O<|qB O ⟨by omega,by omega⟩<|Y O<|W ?_
   refine ⟨k+1,(by omega),(by omega),Weak.mk [] ⟨U,VLe.of_eq (congrArg vSs (iw_nd hx)),U,T⟩ O⟩
 ·try simp only [sx] at c1
  refine qE<|G O<|Y O<|Y O<|W<|zJ<|zP O ?_
  rw [qS (l:=nodes e) (k:=k) (by omega)];rfl
end Go.W
end
