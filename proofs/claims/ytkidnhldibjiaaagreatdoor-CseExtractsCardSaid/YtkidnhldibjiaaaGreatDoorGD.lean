/-
  Walks: what functions of the program compute. Printed by wip/gen/mk2.py.
  Walks: what functions of the program compute. Printed by wip/gen/mk2.py.
  Walks: what functions of the program compute. Printed by wip/gen/mk2.py.
  Walks: what functions of the program compute. Printed by wip/gen/mk2.py.
  Walks: what functions of the program compute. Printed by wip/gen/mk2.py.
  Walks: what functions of the program compute. Printed by wip/gen/mk2.py.
  Conditions: none.
-/
import Derived.Test.YtkidnhldibjiaaaGreatDoorGC
import Derived.Test.YtkidnhldibjiaaaGreatDoorPlain2
import Derived.Test.YtkidnhldibjiaaaGreatDoorGB
import Derived.Test.YtkidnhldibjiaaaGreatDoorEngZ
set_option linter.unusedSimpArgs false
set_option linter.unusedVariables false
section
set_option maxRecDepth 10000
namespace Go.W
open Go Go.Eng Go.Proofs Go.L41 Go.Br
attribute [local irreducible] AWP RWP TD finQ
end Go.W
end
section
set_option maxRecDepth 10000
namespace Go.W
open Go Go.Eng Go.Proofs Go.L41 Go.Br
attribute [local irreducible] AWP RWP TD finQ
end Go.W
end
section
set_option maxRecDepth 10000
namespace Go.W
open Go Go.Eng Go.Proofs Go.L41 Go.Br
attribute [local irreducible] AWP RWP TD finQ
theorem ok37:callOk Tryz.prog 37=true:=by kernel_rfl
theorem ok83:callOk Tryz.prog 83=true:=by kernel_rfl
theorem ok86:callOk Tryz.prog 86=true:=by kernel_rfl
theorem pl101:placesT Tryz.prog 101=some [(0,2),(2,1)]:=by kernel_rfl
theorem pl111:placesT Tryz.prog 111=some [(0,1),(1,2)]:=by kernel_rfl
theorem sz23:(Tryz.prog.info? 23).map (·.size)=some 1:=by kernel_rfl
theorem sz24:(Tryz.prog.info? 24).map (·.size)=some 1:=by kernel_rfl
theorem sz61:(Tryz.prog.info? 61).map (·.size)=some 1:=by kernel_rfl
theorem zCx (l:List ByteArray) (hl:l.length<=4294967296):
    OwnR cfg 83 [.c (.sl 1 (l.map fun s=>[cS s]))] 9 1 (l.map (fun s=>[cS s])):=by
 refine zS Tryz.func83 O Tryz.ntmps83 Tryz.results83 O ?_
 intro z hz
 refine G O<|qA O (yE 1 O O)<|W<|zG<|G O<|Y O<|zT O O (zGg O r O O) ?_
 rintro _ _ ⟨nb1,rfl,hnil1,rfl⟩
 refine W<|zF O (fun c1=>?_) (fun c1=>?_)
 ·try simp only [sx] at c1
  refine G O<|Y O<|qV _ (yG 9 1)<|W<|zL<|zP O ?_
  exact ⟨_,O,by rw [hnil1 c1]⟩
 ·try simp only [sx] at c1
  refine zJ<|G O<|zT O O (zAz O r zr9 O O O O) ?_
  rintro _ _ ⟨sv3,rfl,rfl⟩
  refine Y O<|zT O O (qO 0 O r O O O (by simp only [List.length_map,List.length_nil,Nat.zero_add];omega) (by simp only [List.length_map,List.length_nil,Nat.zero_add];omega)) ?_
  rintro _ _ ⟨sv4,rfl,rfl⟩
  refine Y O<|W<|zL<|zP O ?_
  exact ⟨_,O,O⟩
theorem zFt (l:List Ax) (hl:l.length<=4294967296) (hx0:∀x,x∈l->x.Size.L.length<=5864062014805):
    OwnR cfg 86 [.c (.sl 3 (l.map Ax.cells))] 111 3 (l.map Ax.cells):=by
 refine zS Tryz.func86 O Tryz.ntmps86 Tryz.results86 O ?_
 intro z hz
 refine G O<|qA O (yE 3 O O)<|W<|G O<|Y O<|qV _ (yG 111 3)<|W<|zG<|G O<|Y O<|zV O D<|Y O<|W<|zN<|zU ⟨[(8,.c _),(3,.c _),(6,.c _),(7,.c _)],[_]⟩ (Weak.mk [true] ⟨U,U,U,U,T⟩ O)<|zY 2 1 O O (Nat×Value) (fun ⟨k,sv⟩=>[(8,vI k),(3,.c (.lit sv))]) (fun ⟨k,sv⟩=>[E.vec sv 111 3 ((l.take k).map Ax.cells)]) (fun ⟨k,sv⟩=>k<=l.length) (fun ⟨k,sv⟩=>l.length-k) ⟨⟨0,(.slice none 0 0)⟩,(by omega),Weak.mk [true] ⟨U,U,U,U,T⟩ O⟩ ?_
 rintro ⟨k,sv⟩ hk
 show AWP _ _ _ _ _ ⟨[(8,vI k),(3,.c (.lit sv))]++_,[E.vec sv 111 3 ((l.take k).map Ax.cells)]++_⟩
 refine G O<|qY O<|W<|zG<|zF O (fun c1=>?_) (fun c1=>?_)
 ·try simp only [sx] at c1
  obtain ⟨x,hx⟩:=qP l k (by omega)
  refine zJ<|zG<|zN<|G O<|zZ O D (by omega) (getm (by assumption))<|zK zFf zX O<|zT O O (qD [none,none,some 2] O zHp O) ?_
  rintro _ _ ⟨b2,rfl,rfl⟩
  refine N 0 sz111 O<|W<|qW 8 mixed (by kernel_rfl) O O<|zM O O (zQ O O)<|zM O O (zD O zAj O)<|zM O O (zI O one9 O (J 0 O) O)<|zM O O (zD O zDu O)<|zM O O (zR O kG O (J 0 O) O)<|zM O O (qG O ok84 (zBn _ (hx0 _ (zW hx))) ⟨U,O,T⟩)<|zM O O (wB O zHp pl111 O)<|zM O O (wH O D zHp O O O O)<|yN<|zT O O (qO 1 O D O O O (by first|omega|(simp only [List.length_take,List.length_map,List.length_append,List.length_nil,List.length_cons];omega)) (by first|omega|(simp only [List.length_take,List.length_map,List.length_append,List.length_nil,List.length_cons];omega))) ?_
  rintro _ _ ⟨sv3,rfl,rfl⟩
  refine Y O<|W<|zO O<|qB O ⟨by omega,by omega⟩<|Y O<|W ?_
  refine ⟨⟨k+1,sv3⟩,(by omega),(by show l.length-(k+1)<l.length-k;omega),Weak.mk [false,true] ⟨U,U,U,U,T⟩ (by exact yX (by rw [qM hx,List.map_append];rfl))⟩
 ·try simp only [sx] at c1
  refine qE<|G O<|Y O<|Y O<|W<|zL<|zP O ?_
  exact ⟨_,O,by rw [qT (by omega)];rfl⟩
theorem zCs (p:Pg) (hP:p.OkC):
    Pur cfg 37 [vPg p] (vPg p):=by
 refine zS Tryz.func37 O Tryz.ntmps37 Tryz.results37 O ?_
 intro z hz
 have hP1:=hP.wh
 have hP2:=hP.params
 have hP3:=hP.defs
 refine G O<|zT O O (qI O O) ?_
 rintro _ _ ⟨b1,rfl,rfl⟩
 refine zT O O (qD [some 1,some 3,some 7,some 22,some 1] O zr27 O) ?_
 rintro _ _ ⟨b2,rfl,rfl⟩
 refine W<|zG<|wI 8 1 [⟨0,.q []⟩,⟨1,.q [2]⟩,⟨2,.q []⟩,⟨3,.q []⟩,⟨4,.q [2]⟩,⟨5,.q []⟩,⟨6,.q []⟩,⟨7,.f 0⟩] mixed (by kernel_rfl) (by kernel_rfl) O O O<|qJ O<|qJ O<|qJ O<|qJ O<|qJ O<|qJ O<|qJ O<|zNr O O (zAx (yD O zr27)) ⟨_,_,0,O,O⟩<|zEe<|qR O (by decide) O O (zD O zBw O)<|qR O (by decide) O O (zI O zAu O (J 0 O) O)<|qR O (by decide) O O (qG O ok83 (OwnR.pur (zCx p.Sizes hP.sizes)) ⟨U,O,T⟩)<|qR O (by decide) O O (zD O zFb O)<|qR O (by decide) O O (zI O zAu O (J 0 O) O)<|qR O (by decide) O O (qG O ok83 (OwnR.pur (zCx p.Outs hP.outs)) ⟨U,O,T⟩)<|qR O (by decide) O O (wB O zr27 pl27 O)<|zNl O O ?_
 rintro _ _ ⟨b3,rfl,rfl⟩
 refine zDy O<|N 0 sz27 O<|W<|zG<|G O<|qV _ (yG 101 3)<|qV _ (yG 67 7)<|qV _ (yG 63 22)<|zE O zGo<|zH one23 (J 5 O) O<|zV O el23<|Y O<|W<|zN<|zU ⟨[(20,.c _),(1,.c _),(2,.c _),(3,.c _),(18,.c _),(19,.c _)],[_,_,_,_,_,_]⟩ (Weak.mk [true,true,true,true,true,true] ⟨U,U,U,U,U,U,T⟩ O)<|zY 1 4 O O (Nat×Value) (fun ⟨k,sv⟩=>[(20,vI k)]) (fun ⟨k,sv⟩=>[E.vec (.slice none 0 0) 63 22 ([]),E.vec (.slice none 0 0) 67 7 ([]),E.vec sv 101 3 ((p.Where.take k).map Cn.cells),E.row b3 27 [.sl 1 (p.Sizes.map fun s=>[cS s]),.lit sv,.lit (.slice none 0 0),.lit (.slice none 0 0),.sl 1 (p.Outs.map fun s=>[cS s])]]) (fun ⟨k,sv⟩=>k<=p.Where.length) (fun ⟨k,sv⟩=>p.Where.length-k) ⟨⟨0,(.slice none 0 0)⟩,(by omega),Weak.mk [true,true,true,true,true,true] ⟨U,U,U,U,U,U,T⟩ O⟩ ?_
 rintro ⟨k,sv⟩ hk
 show AWP _ _ _ _ _ ⟨[(20,vI k)]++_,[E.vec (.slice none 0 0) 63 22 ([]),E.vec (.slice none 0 0) 67 7 ([]),E.vec sv 101 3 ((p.Where.take k).map Cn.cells),E.row b3 27 [.sl 1 (p.Sizes.map fun s=>[cS s]),.lit sv,.lit (.slice none 0 0),.lit (.slice none 0 0),.sl 1 (p.Outs.map fun s=>[cS s])]]++_⟩
 refine G O<|qY O<|W<|zG<|zF O (fun c1=>?_) (fun c1=>?_)
 ·try simp only [sx] at c1
  obtain ⟨x,hx⟩:=qP p.Where k (by omega)
  refine zJ<|zG<|zN<|G O<|zZ O el23 (by omega) (getm (by assumption))<|zK agg101 zX O<|zT O O (qD [none,some 2,none] O zr101 O) ?_
  rintro _ _ ⟨b4,rfl,rfl⟩
  refine N 0 sz101 O<|W<|qW 9 mixed (by kernel_rfl) O O<|zM O O (zD O zGo O)<|zM O O (zI O one23 O (J 4 O) O)<|zM O O (zD O zLt O)<|zM O O (zR O kG O (J 0 O) O)<|zM O O (qG O ok84 (zBn x.Lin (hP.whs x (zW hx))) ⟨U,O,T⟩)<|zM O O (zD O fd101_1 O)<|zM O O (zI O one4 O (J 0 O) O)<|zM O O (wB O zr101 pl101 O)<|zM O O (wH O el23 zr101 O O O O)<|yN<|zT O O (qO 3 O el23 O O O (by simp only [List.length_take,List.length_map,List.length_append,List.length_cons,List.length_nil];omega) (by simp only [List.length_take,List.length_map,List.length_append,List.length_cons,List.length_nil];omega)) ?_
  rintro _ _ ⟨sv5,rfl,rfl⟩
  refine zE O zGo<|N 4 sz23 O<|W<|zO O<|qB O ⟨by omega,by omega⟩<|Y O<|W ?_
  refine ⟨⟨k+1,sv5⟩,(by omega),(by show p.Where.length-(k+1)<p.Where.length-k;omega),Weak.mk [false,true,true,true,true,true,true] ⟨U,U,U,U,U,U,T⟩ (by exact mem4_eq (by rw [qM hx,List.map_append];rfl))⟩
 ·try simp only [sx] at c1
  rw [qT (l:=p.Where) (k:=k) (by omega)]
  refine zU _ (yB 2 O (regs':=[]) (μ':=[_,_,_,_,_]) T ⟨EFle.refl _,EFle.refl _,EFle.row (ds:=[_,_,_,_,_]) ⟨.inl O,.inr ⟨O,O⟩,.inl O,.inl O,.inl O,T⟩,EFle.refl _,EFle.refl _,T⟩)<|qE<|zG<|G O<|zE O wS<|zH zCa (J 4 O) O<|zV O el24<|Y O<|W<|zN<|zU ⟨[(39,.c _),(1,.c _),(2,.c _),(3,.c _),(37,.c _),(38,.c _)],[_,_,_,_,_]⟩ (Weak.mk [true,true,true,true,true] ⟨U,U,U,U,U,U,T⟩ O)<|zY 1 3 O O (Nat×Value) (fun ⟨k,sw⟩=>[(39,vI k)]) (fun ⟨k,sw⟩=>[E.vec (.slice none 0 0) 63 22 ([]),E.vec sw 67 7 ((p.Params.take k).map Pm.cells),E.row b3 27 [.sl 1 (p.Sizes.map fun s=>[cS s]),.sl 3 (p.Where.map Cn.cells),.lit sw,.lit (.slice none 0 0),.sl 1 (p.Outs.map fun s=>[cS s])]]) (fun ⟨k,sw⟩=>k<=p.Params.length) (fun ⟨k,sw⟩=>p.Params.length-k) ⟨⟨0,(.slice none 0 0)⟩,(by omega),Weak.mk [true,true,true,true,true] ⟨U,U,U,U,U,U,T⟩ O⟩ ?_
  rintro ⟨k,sw⟩ hk
  show AWP _ _ _ _ _ ⟨[(39,vI k)]++_,[E.vec (.slice none 0 0) 63 22 ([]),E.vec sw 67 7 ((p.Params.take k).map Pm.cells),E.row b3 27 [.sl 1 (p.Sizes.map fun s=>[cS s]),.sl 3 (p.Where.map Cn.cells),.lit sw,.lit (.slice none 0 0),.sl 1 (p.Outs.map fun s=>[cS s])]]++_⟩
  refine G O<|qY O<|W<|zG<|zF O (fun c2=>?_) (fun c2=>?_)
  ·try simp only [sx] at c2
   obtain ⟨y,hy⟩:=qP p.Params k (by omega)
   refine zJ<|zG<|zN<|G O<|zZ O el24 (by omega) (getm (by assumption))<|zK agg67 zX O<|zT O O (qD [none,none,none,none,none,none,some 2] O zr67 O) ?_
   rintro _ _ ⟨b6,rfl,rfl⟩
   refine N 0 sz67 O<|W<|G O<|zE O zFu<|zH zAr (J 0 O) O<|qK O ok85 (OwnR.pur (zEq y.Dims (hP.ps y (zW hy)).1 (hP.ps y (zW hy)).2)) ⟨U,O,T⟩<|zE O zFu<|N 0 sz65 O<|W<|zO O<|zE O wS<|zH zCa (J 3 O) O<|zK agg67 (J 0 O) O<|qZ O el24 zr67<|zT O O (qO 2 O el24 O O O (by simp only [List.length_take,List.length_map,List.length_append,List.length_cons,List.length_nil];omega) (by simp only [List.length_take,List.length_map,List.length_append,List.length_cons,List.length_nil];omega)) ?_
   rintro _ _ ⟨sv7,rfl,rfl⟩
   refine zE O wS<|N 3 sz24 O<|W<|zO O<|qB O ⟨by omega,by omega⟩<|Y O<|W ?_
   refine ⟨⟨k+1,sv7⟩,(by omega),(by show p.Params.length-(k+1)<p.Params.length-k;omega),Weak.mk [false,true,true,true,true,true] ⟨U,U,U,U,U,U,T⟩ (by exact mem3_eq (by rw [qM hy,List.map_append];rfl))⟩
  ·try simp only [sx] at c2
   rw [qT (l:=p.Params) (k:=k) (by omega)]
   refine zU _ (yB 1 O (regs':=[]) (μ':=[_,_,_,_]) T ⟨EFle.refl _,EFle.row (ds:=[_,_,_,_,_]) ⟨.inl O,.inl O,.inr ⟨O,O⟩,.inl O,.inl O,T⟩,EFle.refl _,EFle.refl _,T⟩)<|qE<|zG<|G O<|zE O yK<|zH kO (J 3 O) O<|zV O el25<|Y O<|W<|zN<|zU ⟨[(57,.c _),(2,.c _),(3,.c _),(55,.c _),(56,.c _)],[_,_,_]⟩ (Weak.mk [true,true,true,false] ⟨U,U,U,U,U,T⟩ O)<|zY 1 2 O O (Nat×Value) (fun ⟨k,su⟩=>[(57,vI k)]) (fun ⟨k,su⟩=>[E.vec su 63 22 ((p.Defs.take k).map Df.cells),E.row b3 27 [.sl 1 (p.Sizes.map fun s=>[cS s]),.sl 3 (p.Where.map Cn.cells),.sl 7 (p.Params.map Pm.cells),.lit su,.sl 1 (p.Outs.map fun s=>[cS s])]]) (fun ⟨k,su⟩=>k<=p.Defs.length) (fun ⟨k,su⟩=>p.Defs.length-k) ⟨⟨0,(.slice none 0 0)⟩,(by omega),Weak.mk [true,true,true] ⟨U,U,U,U,U,T⟩ O⟩ ?_
   rintro ⟨k,su⟩ hk
   show AWP _ _ _ _ _ ⟨[(57,vI k)]++_,[E.vec su 63 22 ((p.Defs.take k).map Df.cells),E.row b3 27 [.sl 1 (p.Sizes.map fun s=>[cS s]),.sl 3 (p.Where.map Cn.cells),.sl 7 (p.Params.map Pm.cells),.lit su,.sl 1 (p.Outs.map fun s=>[cS s])]]++_⟩
   refine G O<|qY O<|W<|zG<|zF O (fun c3=>?_) (fun c3=>?_)
   ·try simp only [sx] at c3
    obtain ⟨d,hd⟩:=qP p.Defs k (by omega)
    refine zJ<|zG<|zN<|G O<|zZ O el25 (by omega) (getm (by assumption))<|zK kX zX O<|zT O O (qD [none,none,none,none,none,none,some 3,some 3,none,none,none,none,none,none,none,none,none,none,none,some 2,some 4,some 13] O zr63 O) ?_
    rintro _ _ ⟨b8,rfl,rfl⟩
    refine N 0 sz63 O<|W<|zG<|qW 10 mixed (by kernel_rfl) O O<|zM O O (zD O zAh O)<|zM O O (zI O kM O (J 0 O) O)<|zM O O (qG O ok86 (OwnR.pur (zFt d.Dims (by have:=(hP.ds d (zW hd)).1;omega) (hP.ds d (zW hd)).2.2.1)) ⟨U,O,T⟩)<|zM O O (zD O wY O)<|zM O O (zI O kM O (J 0 O) O)<|zM O O (qG O ok86 (OwnR.pur (zFt d.Red (by have:=(hP.ds d (zW hd)).2.1;omega) (hP.ds d (zW hd)).2.2.2.1)) ⟨U,O,T⟩)<|zM O O (zD O zAq O)<|zM O O (zR O qX O (J 0 O) O)<|zM O O (qG O ok32 (expr_CopyW d.Body (hP.ds d (zW hd)).2.2.2.2.1 (hP.ds d (zW hd)).2.2.2.2.2) ⟨U,O,T⟩)<|zM O O (zD O zAh O)<|yN<|N 0 sz61 O<|zE O wY<|N 0 sz61 O<|zE O zAq<|N 0 sz44 O<|W<|zO O<|zE O yK<|zH kO (J 2 O) O<|zK kX (J 0 O) O<|qZ O el25 zr63<|zT O O (qO 1 O el25 O O O (by simp only [List.length_take,List.length_map,List.length_append,List.length_cons,List.length_nil];omega) (by simp only [List.length_take,List.length_map,List.length_append,List.length_cons,List.length_nil];omega)) ?_
    rintro _ _ ⟨sv9,rfl,rfl⟩
    refine zE O yK<|N 2 sz25 O<|W<|zO O<|qB O ⟨by omega,by omega⟩<|Y O<|W ?_
    refine ⟨⟨k+1,sv9⟩,(by omega),(by show p.Defs.length-(k+1)<p.Defs.length-k;omega),Weak.mk [false,true,true,true] ⟨U,U,U,U,U,T⟩ (by exact zCn (by rw [qM hd,List.map_append];rfl))⟩
   ·try simp only [sx] at c3
    rw [qT (l:=p.Defs) (k:=k) (by omega)]
    refine zU _ (yB 0 O (regs':=[]) (μ':=[_,_]) T ⟨EFle.row (ds:=[_,_,_,_,_]) ⟨.inl O,.inl O,.inl O,.inr ⟨O,O⟩,.inl O,T⟩,EFle.refl _,T⟩)<|qE<|G O<|zK kN (J 0 O) O<|N 1 sz27 O<|W<|zL<|fin1 (qF kN O (J 1 O) O) ?_
    exact O
end Go.W
end
section
set_option maxRecDepth 10000
namespace Go.W
open Go Go.Eng Go.Proofs Go.L41 Go.Br
attribute [local irreducible] AWP RWP TD finQ
theorem pl63:placesT Tryz.prog 63=some [(0,1),(1,5),(6,1),(7,1),(8,1),(9,13)]:=by kernel_rfl
end Go.W
end
section
set_option maxRecDepth 10000
namespace Go.W
open Go Go.Eng Go.Proofs Go.L41 Go.Br
attribute [local irreducible] AWP RWP TD finQ
end Go.W
end
section
set_option maxRecDepth 10000
namespace Go.W
open Go Go.Eng Go.Proofs Go.L41 Go.Br
attribute [local irreducible] AWP RWP TD finQ
theorem ok250:callOk Tryz.prog 250=true:=by kernel_rfl
theorem ok286:callOk Tryz.prog 286=true:=by kernel_rfl
theorem ref14_With (l:List ByteArray) (s:ByteArray) (hl:l.length<=4294967296):
    Pur cfg 286 [vSs l,vS s] (vSs (insW l s)):=by
 refine zS Tryz.func286 O Tryz.ntmps286 Tryz.results286 O ?_
 intro z hz
 refine G O<|qA O (yE 1 O O)<|W<|G O<|Y O<|W<|zG<|zN<|zU ⟨[(5,.c _),(0,.c _),(1,.c _)],[]⟩ (Weak.mk [] ⟨U,U,U,T⟩ O)<|zY 1 0 O O (Nat) (fun k=>[(5,vI k)]) (fun k=>[]) (fun k=>k<=l.length/\(l.take k).all (below s)=true) (fun k=>l.length-k) ⟨0,⟨by omega,O⟩,Weak.mk [] ⟨U,U,U,T⟩ O⟩ ?_
 rintro k ⟨hk,hp⟩
 refine zG<|G O<|Y O<|Y O<|zV O r<|qY O<|Y O<|rL0 O (fun g2_4=>zQ O O) O<|rL0 O (fun g2_4=>zQ O O) O<|rLz [(12,_),(13,_)] O gv1 ⟨O,O,O,O,T⟩ (fun g2_4=>qH O r O O (by simp only [Lz,cond_true,cond_false,Bool.and_eq_true,Bool.or_eq_true,Bool.not_eq_true',Bool.not_eq_false',Bool.or_eq_false_iff,Bool.and_eq_false_iff,decide_eq_true_eq,decide_eq_false_iff_not,Bool.not_eq_true,Bool.not_eq_false] at g2_4;omega) (getm (zRg (by simp only [Lz,cond_true,cond_false,Bool.and_eq_true,Bool.or_eq_true,Bool.not_eq_true',Bool.not_eq_false',Bool.or_eq_false_iff,Bool.and_eq_false_iff,decide_eq_true_eq,decide_eq_false_iff_not,Bool.not_eq_true,Bool.not_eq_false] at g2_4;omega)))) O<|rL1 14 O (fun g2_4=>zI O one9 O zX O) O<|rL0 O (fun g2_4=>zQ O O) O<|rLz [(15,_),(16,_)] O gv1 ⟨O,O,O,O,T⟩ (fun g2_4=>det_slss O O O) O<|yY O (fun h=>h)<|W<|zF O (fun c1=>?_) (fun c1=>?_)
 ·obtain ⟨hlt,hlt2⟩:=with_1t c1
  refine zJ<|zN<|zO O<|Y O<|qB O ⟨by omega,by omega⟩<|Y O<|W ?_
  refine ⟨k+1,⟨by omega,below_next (zRg hlt) hp hlt2⟩,(by omega),Weak.mk [] ⟨U,U,U,T⟩ O⟩
 ·have h1f:=with_1f c1
  refine qE<|zG<|G O<|Y O<|Y O<|zV O r<|qY O<|Y O<|rL0 O (fun g4_4=>zQ O O) O<|rL0 O (fun g4_4=>zQ O O) O<|rLz [(26,_),(27,_)] O gv1 ⟨O,O,O,O,T⟩ (fun g4_4=>qH O r O O (by simp only [Lz,cond_true,cond_false,Bool.and_eq_true,Bool.or_eq_true,Bool.not_eq_true',Bool.not_eq_false',Bool.or_eq_false_iff,Bool.and_eq_false_iff,decide_eq_true_eq,decide_eq_false_iff_not,Bool.not_eq_true,Bool.not_eq_false] at g4_4;omega) (getm (zRg (by simp only [Lz,cond_true,cond_false,Bool.and_eq_true,Bool.or_eq_true,Bool.not_eq_true',Bool.not_eq_false',Bool.or_eq_false_iff,Bool.and_eq_false_iff,decide_eq_true_eq,decide_eq_false_iff_not,Bool.not_eq_true,Bool.not_eq_false] at g4_4;omega)))) O<|rL1 28 O (fun g4_4=>zI O one9 O zX O) O<|rL0 O (fun g4_4=>zQ O O) O<|rLz [(29,_),(30,_)] O gv1 ⟨O,O,O,O,T⟩ (fun g4_4=>zJw O O O) O<|yY O (fun h=>h)<|W<|zF O (fun c2=>?_) (fun c2=>?_)
  ·have h2t:=with_2t c2
   refine G O<|Y O<|Y O<|W<|zL<|zP O ?_
   rw [with_is hp h1f h2t]
  ·have h2f:=with_2f c2
   have hnew:=with_new hk hp h1f h2f
   refine zJ<|G O<|Y O<|qV _ (yG 9 1)<|W<|G O<|Y O<|Y O<|Y O<|qA O (zAi O r O O (by omega))<|zT O O (qO 0 O r O O O (by simp only [List.length_map,List.length_append,List.length_cons,List.length_nil,List.length_take,List.length_drop];omega) (by simp only [List.length_map,List.length_append,List.length_cons,List.length_nil,List.length_take,List.length_drop];omega)) ?_
   rintro _ _ ⟨sv2,rfl,rfl⟩
   refine Y O<|W<|G O<|Y O<|Y O<|qZ O r zr9<|zT O O (qO 0 O r O O O (by simp only [List.length_map,List.length_append,List.length_cons,List.length_nil,List.length_take,List.length_drop];omega) (by simp only [List.length_map,List.length_append,List.length_cons,List.length_nil,List.length_take,List.length_drop];omega)) ?_
   rintro _ _ ⟨sv3,rfl,rfl⟩
   refine Y O<|W<|G O<|Y O<|Y O<|Y O<|qA O (zMr O r O O (by omega))<|zT O O (qO 0 O r O O O (by simp only [List.length_map,List.length_append,List.length_cons,List.length_nil,List.length_take,List.length_drop];omega) (by simp only [List.length_map,List.length_append,List.length_cons,List.length_nil,List.length_take,List.length_drop];omega)) ?_
   rintro _ _ ⟨sv4,rfl,rfl⟩
   refine Y O<|W<|zU _ (Weak.vecEq 0 O (rows':=(insW l s).map fun s=>[cS s]) (by rw [hnew];simp))<|zU _ (yB 0 O (regs':=[(47,_),(4,_)]) (μ':=[]) ⟨FLe.sl,FLe.sl,T⟩ T)<|zL<|zP O ?_
   rfl
theorem zIj (w:List ByteArray) (l:Lf) (hw:w.length+l.L.length<=4294967295):
    Pur cfg 250 [vSs w,vLin l] (vSs (insWs w (namesF l))):=by
 refine zS Tryz.func250 O Tryz.ntmps250 Tryz.results250 O ?_
 intro z hz
 refine G O<|zT O O (qI O O) ?_
 rintro _ _ ⟨b1,rfl,rfl⟩
 refine qA O (yE 1 O O)<|W<|zG<|G O<|Y O<|W<|zN<|zU ⟨[(5,.c _),(0,.c _),(3,.c _)],[_]⟩ (Weak.mk [true] ⟨U,U,U,T⟩ O)<|zY 2 0 O O (Nat) (fun k=>[(5,vI k),(0,vSs (insWs w ((l.L.take k).map Mono.Name)))]) (fun k=>[]) (fun k=>k<=l.L.length) (fun k=>l.L.length-k) ⟨0,(by omega),Weak.mk [true] ⟨U,VLe.of_eq (O),U,T⟩ O⟩ ?_
 rintro k hk
 refine zG<|G O<|Y O<|zE O kY<|zH zAs (J 0 O) O<|zV O el38<|qY O<|W<|zF O (fun c1=>?_) (fun c1=>?_)
 ·try simp only [sx] at c1
  obtain ⟨m,hm⟩:=qP l.L k (by omega)
  refine zJ<|zG<|zN<|zO O<|Y O<|zE O kY<|zH zAs (J 0 O) O<|Y O<|zZ O el38 (by omega) (getm (by assumption))<|qQ O zAp<|zH one9 zX O<|qK O ok286 (ref14_With (insWs w ((l.L.take k).map Mono.Name)) m.Name (by have h1:=zPy ((l.L.take k).map Mono.Name) w;rw [List.length_map] at h1;have h2:=List.length_take_le k l.L;omega)) ⟨U,O,U,O,T⟩<|Y O<|W<|zO O<|Y O<|qB O ⟨by omega,by omega⟩<|Y O<|W ?_
  refine ⟨k+1,(by omega),(by omega),Weak.mk [true] ⟨U,VLe.of_eq (congrArg vSs (by rw [zPq hm,zEd];rfl)),U,T⟩ O⟩
 ·try simp only [sx] at c1
  refine qE<|G O<|Y O<|Y O<|W<|zL<|zP O ?_
  rw [qT (l:=l.L) (k:=k) (by omega)];rfl
theorem zMz (e:Ex) (he:e.wt<=2000000):
    Pur cfg 204 [vE e] (vSs (indexW e)):=by
 refine zS Tryz.func204 O Tryz.ntmps204 Tryz.results204 O ?_
 intro z hz
 have hnl:=nodes_wt e
 refine G O<|zT O O (qI O O) ?_
 rintro _ _ ⟨b1,rfl,rfl⟩
 refine qA O (yE 1 O O)<|W<|G O<|qA O (yE 1 O O)<|W<|G O<|zK qX (J 0 O) O<|qK O ok249 (OwnR.pur (ref14_All e (by omega))) ⟨U,O,T⟩<|Y O<|W<|zG<|G O<|Y O<|W<|zN<|zU ⟨[(5,.c _),(3,.c _),(4,.c _)],[]⟩ (Weak.mk [false] ⟨U,U,U,T⟩ O)<|zY 2 0 O O (Nat) (fun k=>[(5,vI k),(3,vSs (insWs [] (namesA ((nodes e).take k))))]) (fun k=>[]) (fun k=>k<=(nodes e).length) (fun k=>(nodes e).length-k) ⟨0,(by omega),Weak.mk [] ⟨U,VLe.of_eq (O),U,T⟩ O⟩ ?_
 rintro k hk
 refine zG<|G O<|Y O<|Y O<|zV O el42<|qY O<|W<|zF O (fun c1=>?_) (fun c1=>?_)
 ·try simp only [sx] at c1
  obtain ⟨x,hx⟩:=qP (nodes e) k (by omega)
  have hxw:=zAv e x (zW hx)
  have hxe:=Ex.wt_eq x
  refine zJ<|zG<|zN<|G O<|Y O<|Y O<|Y O<|zZ O el42 (by omega) (zBj hx)<|qQ O zCv<|zK kG zX O<|qK O ok250 (zIj (insWs [] (namesA ((nodes e).take k))) x.Lin (by have q1:=zHg (namesA ((nodes e).take k));(try simp only [List.length_append,zLn] at q1⊢);have q2:=zLm (e:=e) (k:=k);  omega)) ⟨U,O,U,O,T⟩<|Y O<|W<|G O<|Y O<|W<|zN<|zU ⟨[(6,.c _),(3,.c _),(4,.c _),(5,.c _)],[]⟩ (Weak.mk [] ⟨U,U,U,U,T⟩ O) ?_
  refine zY 2 0 O O (Nat) (fun j=>[(6,vI j),(3,vSs (insWs [] (namesA ((nodes e).take k)++namesF x.Lin++((x.Idx.take j).flatMap ixF).flatMap namesF)))]) (fun j=>[]) (fun j=>j<=x.Idx.length) (fun j=>x.Idx.length-j) ⟨0,(by omega),Weak.mk [] ⟨U,VLe.of_eq (congrArg vSs (iw_1 _ _)),U,U,T⟩ O⟩ ?_
  rintro j hj
  refine zG<|G O<|Y O<|Y O<|Y O<|zZ O el42 (by omega) (zBj hx)<|qQ O kC<|zH wN zX O<|zV O el41<|qY O<|W<|zF O (fun c2=>?_) (fun c2=>?_)
  ·try simp only [sx] at c2
   obtain ⟨y,hy⟩:=qP x.Idx j (by omega)
   have hyw:=zDs (zW hy)
   rw [Ix.wt] at hyw
   refine zJ<|zG<|zN<|G O<|Y O<|Y O<|Y O<|zZ O el42 (by omega) (zBj hx)<|qQ O kC<|zH wN zX O<|Y O<|zZ O el41 (by omega) (getm (by assumption))<|qQ O zBh<|zK kG zX O<|qK O ok250 (zIj (insWs [] (namesA ((nodes e).take k)++namesF x.Lin++((x.Idx.take j).flatMap ixF).flatMap namesF)) y.Lin (by have q1:=zHg ((namesA ((nodes e).take k)++namesF x.Lin++((x.Idx.take j).flatMap ixF).flatMap namesF));(try simp only [List.length_append,zLn] at q1⊢);have q2:=zLm (e:=e) (k:=k);have q3:=idxP_len x.Idx j;omega)) ⟨U,O,U,O,T⟩<|Y O<|W<|G O<|Y O<|W<|zN<|zU ⟨[(7,.c _),(3,.c _),(4,.c _),(5,.c _),(6,.c _)],[]⟩ (Weak.mk [] ⟨U,U,U,U,U,T⟩ O) ?_
   refine zY 2 0 O O (Nat) (fun i=>[(7,vI i),(3,vSs (insWs [] ((namesA ((nodes e).take k)++namesF x.Lin++((x.Idx.take j).flatMap ixF).flatMap namesF)++namesF y.Lin++(y.At.take i).flatMap namesF)))]) (fun i=>[]) (fun i=>i<=y.At.length) (fun i=>y.At.length-i) ⟨0,(by omega),Weak.mk [] ⟨U,VLe.of_eq (congrArg vSs (iw_2 _ _)),U,U,U,T⟩ O⟩ ?_
   rintro i hi
   refine zG<|G O<|Y O<|Y O<|Y O<|zZ O el42 (by omega) (zBj hx)<|qQ O kC<|zH wN zX O<|Y O<|zZ O el41 (by omega) (getm (by assumption))<|qQ O wD<|zH zAr zX O<|zV O el65<|qY O<|W<|zF O (fun c3=>?_) (fun c3=>?_)
   ·try simp only [sx] at c3
    obtain ⟨l,hl⟩:=qP y.At i (by omega)
    have hlw:=zBa (zW hl)
    refine zJ<|zG<|zN<|zO O<|Y O<|Y O<|Y O<|zZ O el42 (by omega) (zBj hx)<|qQ O kC<|zH wN zX O<|Y O<|zZ O el41 (by omega) (getm (by assumption))<|qQ O wD<|zH zAr zX O<|Y O<|zZ O el65 (by omega) (getm (by assumption))<|zK kG zX O<|qK O ok250 (zIj (insWs [] ((namesA ((nodes e).take k)++namesF x.Lin++((x.Idx.take j).flatMap ixF).flatMap namesF)++namesF y.Lin++(y.At.take i).flatMap namesF)) l (by have q1:=zHg (((namesA ((nodes e).take k)++namesF x.Lin++((x.Idx.take j).flatMap ixF).flatMap namesF)++namesF y.Lin++(y.At.take i).flatMap namesF));(try simp only [List.length_append,zLn] at q1⊢);have q2:=zLm (e:=e) (k:=k);have q3:=idxP_len x.Idx j;have q4:=zPw y.At i;omega)) ⟨U,O,U,O,T⟩<|Y O<|W<|zO O<|Y O<|qB O ⟨by omega,by omega⟩<|Y O<|W ?_
    refine ⟨i+1,(by omega),(by omega),Weak.mk [] ⟨U,VLe.of_eq (congrArg vSs (iw_at hl)),U,U,U,T⟩ O⟩
   ·try simp only [sx] at c3
    rw [qT (l:=y.At) (k:=i) (by omega)]
    refine qE<|zO O<|Y O<|qB O ⟨by omega,by omega⟩<|Y O<|W ?_
    refine ⟨j+1,(by omega),(by omega),Weak.mk [] ⟨U,VLe.of_eq (congrArg vSs (iw_ix hy)),U,U,T⟩ O⟩
  ·try simp only [sx] at c2
   rw [qT (l:=x.Idx) (k:=j) (by omega)]
   refine qE<|zO O<|Y O<|qB O ⟨by omega,by omega⟩<|Y O<|W ?_
   refine ⟨k+1,(by omega),(by omega),Weak.mk [] ⟨U,VLe.of_eq (congrArg vSs (iw_nd hx)),U,T⟩ O⟩
 ·try simp only [sx] at c1
  refine qE<|G O<|Y O<|Y O<|W<|zL<|zP O ?_
  rw [qT (l:=nodes e) (k:=k) (by omega)];rfl
end Go.W
end
