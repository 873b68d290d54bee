/-
  Walks: what functions of the program compute. Printed by wip/gen/mk2.py.
  Walks: what functions of the program compute. Printed by wip/gen/mk2.py.
  Walks: what functions of the program compute. Printed by wip/gen/mk2.py.
  Walks: what functions of the program compute. Printed by wip/gen/mk2.py.
  Walks: what functions of the program compute. Printed by wip/gen/mk2.py.
  Walks: what functions of the program compute. Printed by wip/gen/mk2.py.
  Conditions: none.
-/
import Derived.Test.YtkidnhldibjiaaaGreatDoorGC
import Derived.Test.YtkidnhldibjiaaaGreatDoorPlain2
import Derived.Test.YtkidnhldibjiaaaGreatDoorGB
import Derived.Test.YtkidnhldibjiaaaGreatDoorEngZ
set_option linter.unusedSimpArgs false
set_option linter.unusedVariables false
section
set_option maxRecDepth 10000
namespace Go.W
open Go Go.Eng Go.Proofs Go.L41 Go.Br
attribute [local irreducible] AWP RWP TD finQ
end Go.W
end
section
set_option maxRecDepth 10000
namespace Go.W
open Go Go.Eng Go.Proofs Go.L41 Go.Br
attribute [local irreducible] AWP RWP TD finQ
end Go.W
end
section
set_option maxRecDepth 10000
namespace Go.W
open Go Go.Eng Go.Proofs Go.L41 Go.Br
attribute [local irreducible] AWP RWP TD finQ
theorem ok37:callOk Tryz.prog 37=true:=by kernel_rfl
theorem ok83:callOk Tryz.prog 83=true:=by kernel_rfl
theorem ok86:callOk Tryz.prog 86=true:=by kernel_rfl
theorem pl101:placesT Tryz.prog 101=some [(0,2),(2,1)]:=by kernel_rfl
theorem pl111:placesT Tryz.prog 111=some [(0,1),(1,2)]:=by kernel_rfl
theorem sz23:(Tryz.prog.info? 23).map (·.size)=some 1:=by kernel_rfl
theorem sz24:(Tryz.prog.info? 24).map (·.size)=some 1:=by kernel_rfl
theorem sz61:(Tryz.prog.info? 61).map (·.size)=some 1:=by kernel_rfl
theorem zCk (l:List ByteArray) (hl:l.length<=4294967296):
    OwnR cfg 83 [.c (.sl 1 (l.map fun s=>[cS s]))] 9 1 (l.map (fun s=>[cS s])):=by
 refine zQ Tryz.func83 O Tryz.ntmps83 Tryz.results83 O ?_
 intro z hz
 refine G O<|zT O (yL 1 O O)<|W<|zG<|G O<|Y O<|zR O O (zFr O r O O) ?_
 rintro _ _ ⟨nb1,rfl,hnil1,rfl⟩
 refine W<|zF O (fun c1=>?_) (fun c1=>?_)
 ·try simp only [sx] at c1
  refine G O<|Y O<|qU _ (yJ 9 1)<|W<|zJ<|zP O ?_
  exact ⟨_,O,by rw [hnil1 c1]⟩
 ·try simp only [sx] at c1
  refine zI<|G O<|zR O O (zBe O r zr9 O O O O) ?_
  rintro _ _ ⟨sv3,rfl,rfl⟩
  refine Y O<|zR O O (qP 0 O r O O O (by simp only [List.length_map,List.length_nil,Nat.zero_add];omega) (by simp only [List.length_map,List.length_nil,Nat.zero_add];omega)) ?_
  rintro _ _ ⟨sv4,rfl,rfl⟩
  refine Y O<|W<|zJ<|zP O ?_
  exact ⟨_,O,O⟩
theorem zFc (l:List Ax) (hl:l.length<=4294967296) (hx0:∀x,x∈l->x.Size.L.length<=5864062014805):
    OwnR cfg 86 [.c (.sl 3 (l.map Ax.cells))] 111 3 (l.map Ax.cells):=by
 refine zQ Tryz.func86 O Tryz.ntmps86 Tryz.results86 O ?_
 intro z hz
 refine G O<|zT O (yL 3 O O)<|W<|G O<|Y O<|qU _ (yJ 111 3)<|W<|zG<|G O<|Y O<|zU O el61<|Y O<|W<|zN<|zV ⟨[(8,.c _),(3,.c _),(6,.c _),(7,.c _)],[_]⟩ (Weak.mk [true] ⟨U,U,U,U,T⟩ O)<|zZ 2 1 O O (Nat×Value) (fun ⟨k,sv⟩=>[(8,vI k),(3,.c (.lit sv))]) (fun ⟨k,sv⟩=>[E.vec sv 111 3 ((l.take k).map Ax.cells)]) (fun ⟨k,sv⟩=>k<=l.length) (fun ⟨k,sv⟩=>l.length-k) ⟨⟨0,(.slice none 0 0)⟩,(by omega),Weak.mk [true] ⟨U,U,U,U,T⟩ O⟩ ?_
 rintro ⟨k,sv⟩ hk
 show AWP _ _ _ _ _ ⟨[(8,vI k),(3,.c (.lit sv))]++_,[E.vec sv 111 3 ((l.take k).map Ax.cells)]++_⟩
 refine G O<|qW O<|W<|zG<|zF O (fun c1=>?_) (fun c1=>?_)
 ·try simp only [sx] at c1
  obtain ⟨x,hx⟩:=qO l k (by omega)
  refine zI<|zG<|zN<|G O<|zY O el61 (by omega) (getm (by assumption))<|zL zGg qA O<|zR O O (qC [none,none,some 2] O zIc O) ?_
  rintro _ _ ⟨b2,rfl,rfl⟩
  refine N 0 sz111 O<|W<|qX 8 mixed (by kernel_rfl) O O<|zM O O (zS O O)<|zM O O (zD O zBq O)<|zM O O (zK O one9 O (J 0 O) O)<|zM O O (zD O zEr O)<|zM O O (zW O kE O (J 0 O) O)<|zM O O (qI O ok84 (zAw _ (hx0 _ (zX hx))) ⟨U,O,T⟩)<|zM O O (kO O zIc pl111 O)<|zM O O (wJ O el61 zIc O O O O)<|yW<|zR O O (qP 1 O el61 O O O (by first|omega|(simp only [List.length_take,List.length_map,List.length_append,List.length_nil,List.length_cons];omega)) (by first|omega|(simp only [List.length_take,List.length_map,List.length_append,List.length_nil,List.length_cons];omega))) ?_
  rintro _ _ ⟨sv3,rfl,rfl⟩
  refine Y O<|W<|zO O<|qB O ⟨by omega,by omega⟩<|Y O<|W ?_
  refine ⟨⟨k+1,sv3⟩,(by omega),(by show l.length-(k+1)<l.length-k;omega),Weak.mk [false,true] ⟨U,U,U,U,T⟩ (by exact kZ (by rw [qM hx,List.map_append];rfl))⟩
 ·try simp only [sx] at c1
  refine qF<|G O<|Y O<|Y O<|W<|zJ<|zP O ?_
  exact ⟨_,O,by rw [qS (by omega)];rfl⟩
theorem zCd (p:Pg) (hP:p.OkC):
    Pur cfg 37 [vPg p] (vPg p):=by
 refine zQ Tryz.func37 O Tryz.ntmps37 Tryz.results37 O ?_
 intro z hz
 have hP1:=hP.wh
 have hP2:=hP.params
 have hP3:=hP.defs
 refine G O<|zR O O (qG O O) ?_
 rintro _ _ ⟨b1,rfl,rfl⟩
 refine zR O O (qC [some 1,some 3,some 7,some 22,some 1] O zr27 O) ?_
 rintro _ _ ⟨b2,rfl,rfl⟩
 refine W<|zG<|wK 8 1 [⟨0,.q []⟩,⟨1,.q [2]⟩,⟨2,.q []⟩,⟨3,.q []⟩,⟨4,.q [2]⟩,⟨5,.q []⟩,⟨6,.q []⟩,⟨7,.f 0⟩] mixed (by kernel_rfl) (by kernel_rfl) O O O<|qK O<|qK O<|qK O<|qK O<|qK O<|qK O<|qK O<|fx_fresh O O (zBk (yA O zr27)) ⟨_,_,0,O,O⟩<|zFd<|qQ O (by decide) O O (zD O zCh O)<|qQ O (by decide) O O (zK O zAy O (J 0 O) O)<|qQ O (by decide) O O (qI O ok83 (OwnR.pur (zCk p.Sizes hP.sizes)) ⟨U,O,T⟩)<|qQ O (by decide) O O (zD O zFh O)<|qQ O (by decide) O O (zK O zAy O (J 0 O) O)<|qQ O (by decide) O O (qI O ok83 (OwnR.pur (zCk p.Outs hP.outs)) ⟨U,O,T⟩)<|qQ O (by decide) O O (kO O zr27 pl27 O)<|sq_fresh O O ?_
 rintro _ _ ⟨b3,rfl,rfl⟩
 refine zEz O<|N 0 sz27 O<|W<|zG<|G O<|qU _ (yJ 101 3)<|qU _ (yJ 67 7)<|qU _ (yJ 63 22)<|zE O zJa<|zH one23 (J 5 O) O<|zU O el23<|Y O<|W<|zN<|zV ⟨[(20,.c _),(1,.c _),(2,.c _),(3,.c _),(18,.c _),(19,.c _)],[_,_,_,_,_,_]⟩ (Weak.mk [true,true,true,true,true,true] ⟨U,U,U,U,U,U,T⟩ O)<|zZ 1 4 O O (Nat×Value) (fun ⟨k,sv⟩=>[(20,vI k)]) (fun ⟨k,sv⟩=>[E.vec (.slice none 0 0) 63 22 ([]),E.vec (.slice none 0 0) 67 7 ([]),E.vec sv 101 3 ((p.Where.take k).map Cn.cells),E.row b3 27 [.sl 1 (p.Sizes.map fun s=>[cS s]),.lit sv,.lit (.slice none 0 0),.lit (.slice none 0 0),.sl 1 (p.Outs.map fun s=>[cS s])]]) (fun ⟨k,sv⟩=>k<=p.Where.length) (fun ⟨k,sv⟩=>p.Where.length-k) ⟨⟨0,(.slice none 0 0)⟩,(by omega),Weak.mk [true,true,true,true,true,true] ⟨U,U,U,U,U,U,T⟩ O⟩ ?_
 rintro ⟨k,sv⟩ hk
 show AWP _ _ _ _ _ ⟨[(20,vI k)]++_,[E.vec (.slice none 0 0) 63 22 ([]),E.vec (.slice none 0 0) 67 7 ([]),E.vec sv 101 3 ((p.Where.take k).map Cn.cells),E.row b3 27 [.sl 1 (p.Sizes.map fun s=>[cS s]),.lit sv,.lit (.slice none 0 0),.lit (.slice none 0 0),.sl 1 (p.Outs.map fun s=>[cS s])]]++_⟩
 refine G O<|qW O<|W<|zG<|zF O (fun c1=>?_) (fun c1=>?_)
 ·try simp only [sx] at c1
  obtain ⟨x,hx⟩:=qO p.Where k (by omega)
  refine zI<|zG<|zN<|G O<|zY O el23 (by omega) (getm (by assumption))<|zL agg101 qA O<|zR O O (qC [none,some 2,none] O zr101 O) ?_
  rintro _ _ ⟨b4,rfl,rfl⟩
  refine N 0 sz101 O<|W<|qX 9 mixed (by kernel_rfl) O O<|zM O O (zD O zJa O)<|zM O O (zK O one23 O (J 4 O) O)<|zM O O (zD O fd101_0 O)<|zM O O (zW O kE O (J 0 O) O)<|zM O O (qI O ok84 (zAw x.Lin (hP.whs x (zX hx))) ⟨U,O,T⟩)<|zM O O (zD O fd101_1 O)<|zM O O (zK O one4 O (J 0 O) O)<|zM O O (kO O zr101 pl101 O)<|zM O O (wJ O el23 zr101 O O O O)<|yW<|zR O O (qP 3 O el23 O O O (by simp only [List.length_take,List.length_map,List.length_append,List.length_cons,List.length_nil];omega) (by simp only [List.length_take,List.length_map,List.length_append,List.length_cons,List.length_nil];omega)) ?_
  rintro _ _ ⟨sv5,rfl,rfl⟩
  refine zE O zJa<|N 4 sz23 O<|W<|zO O<|qB O ⟨by omega,by omega⟩<|Y O<|W ?_
  refine ⟨⟨k+1,sv5⟩,(by omega),(by show p.Where.length-(k+1)<p.Where.length-k;omega),Weak.mk [false,true,true,true,true,true,true] ⟨U,U,U,U,U,U,T⟩ (by exact mem4_eq (by rw [qM hx,List.map_append];rfl))⟩
 ·try simp only [sx] at c1
  rw [qS (l:=p.Where) (k:=k) (by omega)]
  refine zV _ (yG 2 O (regs':=[]) (μ':=[_,_,_,_,_]) T ⟨EFle.refl _,EFle.refl _,EFle.row (ds:=[_,_,_,_,_]) ⟨.inl O,.inr ⟨O,O⟩,.inl O,.inl O,.inl O,T⟩,EFle.refl _,EFle.refl _,T⟩)<|qF<|zG<|G O<|zE O zBp<|zH zFi (J 4 O) O<|zU O el24<|Y O<|W<|zN<|zV ⟨[(39,.c _),(1,.c _),(2,.c _),(3,.c _),(37,.c _),(38,.c _)],[_,_,_,_,_]⟩ (Weak.mk [true,true,true,true,true] ⟨U,U,U,U,U,U,T⟩ O)<|zZ 1 3 O O (Nat×Value) (fun ⟨k,sw⟩=>[(39,vI k)]) (fun ⟨k,sw⟩=>[E.vec (.slice none 0 0) 63 22 ([]),E.vec sw 67 7 ((p.Params.take k).map Pm.cells),E.row b3 27 [.sl 1 (p.Sizes.map fun s=>[cS s]),.sl 3 (p.Where.map Cn.cells),.lit sw,.lit (.slice none 0 0),.sl 1 (p.Outs.map fun s=>[cS s])]]) (fun ⟨k,sw⟩=>k<=p.Params.length) (fun ⟨k,sw⟩=>p.Params.length-k) ⟨⟨0,(.slice none 0 0)⟩,(by omega),Weak.mk [true,true,true,true,true] ⟨U,U,U,U,U,U,T⟩ O⟩ ?_
  rintro ⟨k,sw⟩ hk
  show AWP _ _ _ _ _ ⟨[(39,vI k)]++_,[E.vec (.slice none 0 0) 63 22 ([]),E.vec sw 67 7 ((p.Params.take k).map Pm.cells),E.row b3 27 [.sl 1 (p.Sizes.map fun s=>[cS s]),.sl 3 (p.Where.map Cn.cells),.lit sw,.lit (.slice none 0 0),.sl 1 (p.Outs.map fun s=>[cS s])]]++_⟩
  refine G O<|qW O<|W<|zG<|zF O (fun c2=>?_) (fun c2=>?_)
  ·try simp only [sx] at c2
   obtain ⟨y,hy⟩:=qO p.Params k (by omega)
   refine zI<|zG<|zN<|G O<|zY O el24 (by omega) (getm (by assumption))<|zL agg67 qA O<|zR O O (qC [none,none,none,none,none,none,some 2] O zr67 O) ?_
   rintro _ _ ⟨b6,rfl,rfl⟩
   refine N 0 sz67 O<|W<|G O<|zE O zHf<|zH zAr (J 0 O) O<|qL O ok85 (OwnR.pur (zDz y.Dims (hP.ps y (zX hy)).1 (hP.ps y (zX hy)).2)) ⟨U,O,T⟩<|zE O zHf<|N 0 sz65 O<|W<|zO O<|zE O zBp<|zH zFi (J 3 O) O<|zL agg67 (J 0 O) O<|qV O el24 zr67<|zR O O (qP 2 O el24 O O O (by simp only [List.length_take,List.length_map,List.length_append,List.length_cons,List.length_nil];omega) (by simp only [List.length_take,List.length_map,List.length_append,List.length_cons,List.length_nil];omega)) ?_
   rintro _ _ ⟨sv7,rfl,rfl⟩
   refine zE O zBp<|N 3 sz24 O<|W<|zO O<|qB O ⟨by omega,by omega⟩<|Y O<|W ?_
   refine ⟨⟨k+1,sv7⟩,(by omega),(by show p.Params.length-(k+1)<p.Params.length-k;omega),Weak.mk [false,true,true,true,true,true] ⟨U,U,U,U,U,U,T⟩ (by exact mem3_eq (by rw [qM hy,List.map_append];rfl))⟩
  ·try simp only [sx] at c2
   rw [qS (l:=p.Params) (k:=k) (by omega)]
   refine zV _ (yG 1 O (regs':=[]) (μ':=[_,_,_,_]) T ⟨EFle.refl _,EFle.row (ds:=[_,_,_,_,_]) ⟨.inl O,.inl O,.inr ⟨O,O⟩,.inl O,.inl O,T⟩,EFle.refl _,EFle.refl _,T⟩)<|qF<|zG<|G O<|zE O yU<|zH kY (J 3 O) O<|zU O el25<|Y O<|W<|zN<|zV ⟨[(57,.c _),(2,.c _),(3,.c _),(55,.c _),(56,.c _)],[_,_,_]⟩ (Weak.mk [true,true,true,false] ⟨U,U,U,U,U,T⟩ O)<|zZ 1 2 O O (Nat×Value) (fun ⟨k,su⟩=>[(57,vI k)]) (fun ⟨k,su⟩=>[E.vec su 63 22 ((p.Defs.take k).map Df.cells),E.row b3 27 [.sl 1 (p.Sizes.map fun s=>[cS s]),.sl 3 (p.Where.map Cn.cells),.sl 7 (p.Params.map Pm.cells),.lit su,.sl 1 (p.Outs.map fun s=>[cS s])]]) (fun ⟨k,su⟩=>k<=p.Defs.length) (fun ⟨k,su⟩=>p.Defs.length-k) ⟨⟨0,(.slice none 0 0)⟩,(by omega),Weak.mk [true,true,true] ⟨U,U,U,U,U,T⟩ O⟩ ?_
   rintro ⟨k,su⟩ hk
   show AWP _ _ _ _ _ ⟨[(57,vI k)]++_,[E.vec su 63 22 ((p.Defs.take k).map Df.cells),E.row b3 27 [.sl 1 (p.Sizes.map fun s=>[cS s]),.sl 3 (p.Where.map Cn.cells),.sl 7 (p.Params.map Pm.cells),.lit su,.sl 1 (p.Outs.map fun s=>[cS s])]]++_⟩
   refine G O<|qW O<|W<|zG<|zF O (fun c3=>?_) (fun c3=>?_)
   ·try simp only [sx] at c3
    obtain ⟨d,hd⟩:=qO p.Defs k (by omega)
    refine zI<|zG<|zN<|G O<|zY O el25 (by omega) (getm (by assumption))<|zL wZ qA O<|zR O O (qC [none,none,none,none,none,none,some 3,some 3,none,none,none,none,none,none,none,none,none,none,none,some 2,some 4,some 13] O zr63 O) ?_
    rintro _ _ ⟨b8,rfl,rfl⟩
    refine N 0 sz63 O<|W<|zG<|qX 10 mixed (by kernel_rfl) O O<|zM O O (zD O zAs O)<|zM O O (zK O kU O (J 0 O) O)<|zM O O (qI O ok86 (OwnR.pur (zFc d.Dims (by have:=(hP.ds d (zX hd)).1;omega) (hP.ds d (zX hd)).2.2.1)) ⟨U,O,T⟩)<|zM O O (zD O zAh O)<|zM O O (zK O kU O (J 0 O) O)<|zM O O (qI O ok86 (OwnR.pur (zFc d.Red (by have:=(hP.ds d (zX hd)).2.1;omega) (hP.ds d (zX hd)).2.2.2.1)) ⟨U,O,T⟩)<|zM O O (zD O zCg O)<|zM O O (zW O qY O (J 0 O) O)<|zM O O (qI O ok32 (expr_CopyW d.Body (hP.ds d (zX hd)).2.2.2.2.1 (hP.ds d (zX hd)).2.2.2.2.2) ⟨U,O,T⟩)<|zM O O (zD O zAs O)<|yW<|N 0 sz61 O<|zE O zAh<|N 0 sz61 O<|zE O zCg<|N 0 sz44 O<|W<|zO O<|zE O yU<|zH kY (J 2 O) O<|zL wZ (J 0 O) O<|qV O el25 zr63<|zR O O (qP 1 O el25 O O O (by simp only [List.length_take,List.length_map,List.length_append,List.length_cons,List.length_nil];omega) (by simp only [List.length_take,List.length_map,List.length_append,List.length_cons,List.length_nil];omega)) ?_
    rintro _ _ ⟨sv9,rfl,rfl⟩
    refine zE O yU<|N 2 sz25 O<|W<|zO O<|qB O ⟨by omega,by omega⟩<|Y O<|W ?_
    refine ⟨⟨k+1,sv9⟩,(by omega),(by show p.Defs.length-(k+1)<p.Defs.length-k;omega),Weak.mk [false,true,true,true] ⟨U,U,U,U,U,T⟩ (by exact zEp (by rw [qM hd,List.map_append];rfl))⟩
   ·try simp only [sx] at c3
    rw [qS (l:=p.Defs) (k:=k) (by omega)]
    refine zV _ (yG 0 O (regs':=[]) (μ':=[_,_]) T ⟨EFle.row (ds:=[_,_,_,_,_]) ⟨.inl O,.inl O,.inl O,.inr ⟨O,O⟩,.inl O,T⟩,EFle.refl _,T⟩)<|qF<|G O<|zL kT (J 0 O) O<|N 1 sz27 O<|W<|zJ<|fin1 (qD kT O (J 1 O) O) ?_
    exact O
end Go.W
end
section
set_option maxRecDepth 10000
namespace Go.W
open Go Go.Eng Go.Proofs Go.L41 Go.Br
attribute [local irreducible] AWP RWP TD finQ
theorem pl63:placesT Tryz.prog 63=some [(0,1),(1,5),(6,1),(7,1),(8,1),(9,13)]:=by kernel_rfl
end Go.W
end
section
set_option maxRecDepth 10000
namespace Go.W
open Go Go.Eng Go.Proofs Go.L41 Go.Br
attribute [local irreducible] AWP RWP TD finQ
end Go.W
end
section
set_option maxRecDepth 10000
namespace Go.W
open Go Go.Eng Go.Proofs Go.L41 Go.Br
attribute [local irreducible] AWP RWP TD finQ
end Go.W
end
