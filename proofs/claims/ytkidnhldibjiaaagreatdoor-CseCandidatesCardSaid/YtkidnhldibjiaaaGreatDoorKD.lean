/-
  Walks: what functions of the program compute. Printed by wip/gen/mk2.py.
  Conditions: none.
-/
import Derived.Test.YtkidnhldibjiaaaGreatDoorKC
import Derived.Test.YtkidnhldibjiaaaGreatDoorPlain3
import Derived.Test.YtkidnhldibjiaaaGreatDoorSortM
set_option linter.unusedSimpArgs false
set_option linter.unusedVariables false
set_option maxRecDepth 10000
namespace Go.W
open Go Go.Eng Go.Proofs Go.L41 Go.Br
attribute [local irreducible] AWP RWP TD finQ
theorem agg55:aggT Tryz.prog 55=some 2:=by kernel_rfl
theorem ar55:arrT Tryz.prog 55=some (2,9,1):=by kernel_rfl
theorem el53:elemT Tryz.prog 53=some (55,2,32):=by kernel_rfl
theorem ok16:callOk Tryz.prog 16=true:=by kernel_rfl
theorem ok46:callOk Tryz.prog 46=true:=by kernel_rfl
theorem ok48:callOk Tryz.prog 48=true:=by kernel_rfl
theorem ok50:callOk Tryz.prog 50=true:=by kernel_rfl
theorem ok53:callOk Tryz.prog 53=true:=by kernel_rfl
theorem ok101:callOk Tryz.prog 101=true:=by kernel_rfl
theorem ok102:callOk Tryz.prog 102=true:=by kernel_rfl
theorem ok164:callOk Tryz.prog 164=true:=by kernel_rfl
theorem ok217:callOk Tryz.prog 217=true:=by kernel_rfl
theorem pla55:placesA Tryz.prog 55=some (2,1):=by kernel_rfl
theorem sm151:smapT Tryz.prog 151=some (Value.string (ByteArray.mk #[])):=by kernel_rfl
theorem sz9:(Tryz.prog.info? 9).map (·.size)=some 1:=by kernel_rfl
theorem sz55:(Tryz.prog.info? 55).map (·.size)=some 2:=by kernel_rfl
theorem zr55:zeroT Tryz.prog 55=some [(Value.string (ByteArray.mk #[])),(Value.string (ByteArray.mk #[]))]:=by kernel_rfl
theorem zIj (A Bn:List ByteArray) (mb:Nat) (m:SmM) (hm:∀s,(mget m s).getD s=renB A Bn s) (hA:A.Nodup) (hB:Bn.Nodup) (hAB:A.length=Bn.length) (l:Lf) (hl:l.L.length<=4294967296) (hs:swpOk A Bn l):
    Con cfg 164 [vLin l,.c (.lit (.map (some mb)))] [E.blk mb (MapR vS m)] fun r μ'=>r=vLin (renF A Bn l)/\μ'=[E.blk mb (MapR vS m)]:=by
 refine Con.drop<|zR Tryz.func164 O Tryz.ntmps164 Tryz.results164 O ?_
 intro z hz
 refine G O<|zS O O (qG O O) ?_
 rintro _ _ ⟨b1,rfl,rfl⟩
 refine zS O O (qD [none,some 2] O zr40 O) ?_
 rintro _ _ ⟨b2,rfl,rfl⟩
 refine W<|G O<|zD O zFn<|zH one2 (J 1 O) O<|yW O zr40 pl40<|zS O O (yB O zr40) ?_
 rintro _ _ ⟨b3,rfl,rfl⟩
 refine N 0 sz40 O<|W<|zG<|G O<|qV _ (yH 107 2)<|zD O kR<|zH zAm (J 3 O) O<|zX O (wG O el38 O)<|Y O<|W<|zN<|zU ⟨[(16,.c _),(1,.c _),(4,.c _),(5,.c _),(14,.c _),(15,.c _)],[_,_,_,_]⟩ (Weak.mk [true,true,true,false,true] ⟨U,U,U,U,U,U,T⟩ O)<|qA 1 2 O O (Nat×Value) (fun ⟨k,sv⟩=>[(16,vI k)]) (fun ⟨k,sv⟩=>[E.vec sv 107 2 (((l.L.take k).map (fun x:Mono=>(⟨renB A Bn x.Name,x.By⟩:Mono))).map Mono.cells),E.row b3 40 [cI l.K,.lit sv]]) (fun ⟨k,sv⟩=>k<=l.L.length) (fun ⟨k,sv⟩=>l.L.length-k) ⟨⟨0,(.slice none 0 0)⟩,(by omega),Weak.mk [true,true,true,true] ⟨U,U,U,U,U,U,T⟩ O⟩ ?_
 rintro ⟨k,sv⟩ hk
 show AWP _ _ _ _ _ ⟨[(16,vI k)]++_,[E.vec sv 107 2 (((l.L.take k).map (fun x:Mono=>(⟨renB A Bn x.Name,x.By⟩:Mono))).map Mono.cells),E.row b3 40 [cI l.K,.lit sv]]++_⟩
 refine G O<|qW O<|W<|zG<|zE O (fun c1=>?_) (fun c1=>?_)
 ·try simp only [sx] at c1
  obtain ⟨x,hx⟩:=qP l.L k (by omega)
  refine zI<|zG<|zN<|G O<|zZ O el38 (by omega) (getm hx)<|zL zDo zY O<|zS O O (yB O zIo) ?_
  rintro _ _ ⟨b4,rfl,rfl⟩
  refine N 0 sz107 O<|W<|zG<|G O<|Y O<|zD O zAk<|zH one9 (J 0 O) O<|zX O (det_lookup_ok 4 (bs []) O sm151 O O O (fun _ _=>CRep.lit _ O))<|zX O (yE O O)<|zX O (yP O O O)<|zX O (yP O O O)<|Y O<|Y O<|W<|G O<|Y O<|W<|zE O (fun c2=>?_) (fun c2=>?_)
  ·try simp only [sx] at c2
   have hr:(mget m x.Name).getD (bs [])=renB A Bn x.Name:=by rw [←hm];cases h9:mget m x.Name with|none=>rw [h9] at c2;cases c2|some v=>rfl
   refine zO O<|Y O<|zD O zAk<|N 0 sz9 O<|W<|zO O<|zD O kR<|zH zAm (J 2 O) O<|zL zDo (J 0 O) O<|qX O el38 zIo<|zS O O (qO 1 O el38 O O O (by simp only [List.length_map,List.length_append,List.length_cons,List.length_nil,List.length_take,List.length_drop];omega) (by simp only [List.length_map,List.length_append,List.length_cons,List.length_nil,List.length_take,List.length_drop];omega)) ?_
   rintro _ _ ⟨sv5,rfl,rfl⟩
   refine zD O kR<|N 2 sz38 O<|W<|zO O<|qB O ⟨by omega,by omega⟩<|Y O<|W ?_
   refine ⟨⟨k+1,sv5⟩,(by omega),(by show l.L.length-(k+1)<l.L.length-k;omega),Weak.mk [false,true,true,true,true] ⟨U,U,U,U,U,U,T⟩ (by exact zEy (by rw [qM hx,List.map_append,List.map_append];show _=_++[[cS (renB A Bn x.Name),cI x.By]];rw [←hr];rfl))⟩
  ·try simp only [sx] at c2
   have hr:x.Name=renB A Bn x.Name:=by rw [←hm];cases h9:mget m x.Name with|none=>rfl|some v=>rw [h9] at c2;cases c2
   refine zI<|zO O<|zD O kR<|zH zAm (J 2 O) O<|zL zDo (J 0 O) O<|qX O el38 zIo<|zS O O (qO 1 O el38 O O O (by simp only [List.length_map,List.length_append,List.length_cons,List.length_nil,List.length_take,List.length_drop];omega) (by simp only [List.length_map,List.length_append,List.length_cons,List.length_nil,List.length_take,List.length_drop];omega)) ?_
   rintro _ _ ⟨sv6,rfl,rfl⟩
   refine zD O kR<|N 2 sz38 O<|W<|zO O<|qB O ⟨by omega,by omega⟩<|Y O<|W ?_
   refine ⟨⟨k+1,sv6⟩,(by omega),(by show l.L.length-(k+1)<l.L.length-k;omega),Weak.mk [false,true,true,true,true] ⟨U,U,U,U,U,U,T⟩ (by exact zEy (by rw [qM hx,List.map_append,List.map_append];show _=_++[[cS (renB A Bn x.Name),cI x.By]];rw [←hr];rfl))⟩
 ·try simp only [sx] at c1
  rw [qS (l:=l.L) (k:=k) (by omega)]
  refine qE<|G O<|zD O kR<|zH zAm (J 1 O) O<|zX O (yQ [0] O ok217 (sortM_con sv (l.L.map (fun x:Mono=>(⟨renB A Bn x.Name,x.By⟩:Mono))) (by rw [List.length_map];exact hl) (ren_nodup hA hB hAB hs)) ⟨U,O,U,O,T⟩ O)<|qV _ (yJ 0 O (regs':=[(38,_)]) (μ':=[_,_,_]) ⟨FLe.sl,T⟩ ⟨EFle.row (ds:=[_,_]) ⟨.inl O,.inr ⟨O,O⟩,T⟩,EFle.refl _,EFle.refl _,T⟩)<|W<|G O<|zL kF (J 0 O) O<|N 1 sz40 O<|W<|zU _ (Weak.mem [false,true,true] O)<|zJ<|fin1 (qF kF O (J 0 O) O) ?_
  first|exact ⟨rfl,[],rfl⟩|exact ⟨rfl,[_],rfl⟩|exact ⟨rfl,[_,_],rfl⟩|exact ⟨rfl,[_,_,_],rfl⟩|exact ⟨rfl,[_,_,_,_],rfl⟩|exact ⟨rfl,[_,_,_,_,_],rfl⟩
theorem zPx (A Bn:List ByteArray) (mb:Nat) (m:SmM) (hm:∀s,(mget m s).getD s=renB A Bn s) (hA:A.Nodup) (hB:Bn.Nodup) (hAB:A.length=Bn.length) (e:Ex) (ih:∀a,a∈e.Args->a.wt<=2000000->a.allF (swpOk A Bn)->Con cfg 102 [vE a,.c (.lit (.map (some mb)))] [E.blk mb (MapR vS m)] fun r μ'=>r=vE (gEx (renF A Bn) a)/\μ'=[E.blk mb (MapR vS m)]) (he:e.wt<=2000000) (hs:e.allF (swpOk A Bn)):
    Con cfg 102 [vE e,.c (.lit (.map (some mb)))] [E.blk mb (MapR vS m)] fun r μ'=>r=vE (gEx (renF A Bn) e)/\μ'=[E.blk mb (MapR vS m)]:=by
 refine Con.drop<|zR Tryz.func102 O Tryz.ntmps102 Tryz.results102 O ?_
 intro z hz
 have hew:=Ex.wt_eq e
 obtain ⟨hel,hei,hea⟩:=e.parts he
 have hsI:∀x,x∈e.Idx->swpOk A Bn x.Lin/\∀l,l∈x.At->swpOk A Bn l:=fun x hx=>⟨Ex.allF_ix hs hx,fun l hl=>Ex.allF_at hs hx hl⟩
 refine G O<|zS O O (qG O O) ?_
 rintro _ _ ⟨b1,rfl,rfl⟩
 refine zS O O (qD [none,none,none,none,none,none,none,none,none,none,some 2,some 4,some 13] O zr44 O) ?_
 rintro _ _ ⟨b2,rfl,rfl⟩
 refine W<|G O<|zD O zCo<|zL kF (J 1 O) O<|Y O<|zX O (zAu [2] O ok164 (zIj A Bn mb m hm hA hB hAB e.Lin (by omega) (Ex.allF_lin hs)) ⟨U,O,U,O,T⟩ O)<|zD O zCo<|N 1 sz40 O<|W<|G O<|Y O<|qV _ (yH 115 4)<|W<|zG<|G O<|zD O kC<|zH wK (J 2 O) O<|zX O (wG O el41 O)<|Y O<|W<|zN<|zU ⟨[(22,.c _),(5,.c _),(1,.c _),(2,.c _),(4,.c _),(20,.c _),(21,.c _)],[_,_,_,_]⟩ (Weak.mk [true,true,true,true] ⟨U,U,U,U,U,U,U,T⟩ O)<|qA 2 1 O O (Nat×Value) (fun ⟨k,sv⟩=>[(22,vI k),(5,.c (.lit sv))]) (fun ⟨k,sv⟩=>[E.vec sv 115 4 (((e.Idx.take k).map (gIx (renF A Bn))).map Ix.cells)]) (fun ⟨k,sv⟩=>k<=e.Idx.length) (fun ⟨k,sv⟩=>e.Idx.length-k) ⟨⟨0,(.slice none 0 0)⟩,(by omega),Weak.mk [true,true,true,true] ⟨U,U,U,U,U,U,U,T⟩ O⟩ ?_
 rintro ⟨k,sv⟩ hk
 show AWP _ _ _ _ _ ⟨[(22,vI k),(5,.c (.lit sv))]++_,[E.vec sv 115 4 (((e.Idx.take k).map (gIx (renF A Bn))).map Ix.cells)]++_⟩
 refine G O<|qW O<|W<|zG<|zE O (fun c1=>?_) (fun c1=>?_)
 ·try simp only [sx] at c1
  obtain ⟨x,hx⟩:=qP e.Idx k (by omega)
  have hxw:=zDl (zW hx)
  rw [Ix.wt] at hxw
  refine zI<|zG<|zN<|G O<|zZ O el41 (by omega) (getm hx)<|zL zAx zY O<|zS O O (qD [none,some 2,none,some 2] O zDp O) ?_
  rintro _ _ ⟨b4,rfl,rfl⟩
  refine N 0 zNp O<|W<|zG<|wO 8 1 [⟨0,.q []⟩,⟨1,.q [1]⟩,⟨2,.q []⟩,⟨3,.q [5]⟩,⟨4,.q []⟩,⟨5,.q [1]⟩,⟨6,.q []⟩,⟨7,.f 0⟩] mixed (by kernel_rfl) (by kernel_rfl) O O O<|qL O<|qL O<|qL O<|qL O<|qL O<|qL O<|qL O<|fx_fresh O O (zBo (yB O zDp)) ⟨_,_,0,O,O⟩<|zFl<|qT O (by decide) O O (zF O zAz O)<|qT O (by decide) O O (zT O kF O (J 0 O) O)<|qT O (by decide) O O (zQ O O)<|qT O (by decide) O O (zAu [0] O ok164 (zIj A Bn mb m hm hA hB hAB x.Lin (by omega) (hsI x (zW hx)).1) ⟨U,O,U,O,T⟩ O)<|qT O (by decide) O O (zF O wX O)<|qT O (by decide) O O (zK O one9 O (J 0 O) O)<|qT O (by decide) O O (kV O zDp pl115 O)<|sq_fresh O O ?_
  rintro _ _ ⟨b5,rfl,rfl⟩
  refine zFh O<|N 0 zNp O<|W<|zG<|G O<|qV _ (yH 40 2)<|zD O kW<|zH zAr (J 2 O) O<|zV O el65<|Y O<|W<|zN<|zU ⟨[(36,.c _),(1,.c _),(2,.c _),(4,.c _),(5,.c _),(8,.c _),(20,.c _),(21,.c _),(22,.c _),(34,.c _),(35,.c _)],[_,_,_,_,_,_]⟩ (Weak.mk [true,true,false,true,true,true,true] ⟨U,U,U,U,U,U,U,U,U,U,U,T⟩ O)<|qA 1 2 O O (Nat×Value) (fun ⟨j,sw⟩=>[(36,vI j)]) (fun ⟨j,sw⟩=>[E.vec sw 40 2 (((x.At.take j).map (renF A Bn)).map Lf.cells),E.row b5 115 [cI (renF A Bn x.Lin).K,.sl 2 ((renF A Bn x.Lin).L.map Mono.cells),cS x.From,.lit sw]]) (fun ⟨j,sw⟩=>j<=x.At.length) (fun ⟨j,sw⟩=>x.At.length-j) ⟨⟨0,(.slice none 0 0)⟩,(by omega),Weak.mk [true,true,true,true,true,true] ⟨U,U,U,U,U,U,U,U,U,U,U,T⟩ O⟩ ?_
  rintro ⟨j,sw⟩ hj
  show AWP _ _ _ _ _ ⟨[(36,vI j)]++_,[E.vec sw 40 2 (((x.At.take j).map (renF A Bn)).map Lf.cells),E.row b5 115 [cI (renF A Bn x.Lin).K,.sl 2 ((renF A Bn x.Lin).L.map Mono.cells),cS x.From,.lit sw]]++_⟩
  refine G O<|qW O<|W<|zG<|zE O (fun c2=>?_) (fun c2=>?_)
  ·try simp only [sx] at c2
   obtain ⟨y,hy⟩:=qP x.At j (by omega)
   have hyw:=zAt (zW hy)
   refine zI<|zG<|zN<|G O<|zZ O el65 (by omega) (getm hy)<|zL kF zY O<|zS O O (qD [none,some 2] O zr40 O) ?_
   rintro _ _ ⟨b6,rfl,rfl⟩
   refine N 0 sz40 O<|W<|wO 6 0 [⟨0,.q []⟩,⟨1,.q [2]⟩,⟨2,.q [0]⟩,⟨3,.q []⟩,⟨4,.q [6]⟩,⟨5,.q []⟩] mixed (by kernel_rfl) (by kernel_rfl) O O O<|qL O<|qL O<|qL O<|qL O<|qL O<|qL O<|zFl<|qT O (by decide) O O (zF O kW O)<|qT O (by decide) O O (zK O zAr O (J 0 O) O)<|qT O (by decide) O O (zT O kF O (J 0 O) O)<|qT O (by decide) O O (zQ O O)<|qT O (by decide) O O (zAu [0] O ok164 (zIj A Bn mb m hm hA hB hAB y (by omega) ((hsI x (zW hx)).2 y (zW hy))) ⟨U,O,U,O,T⟩ O)<|qT O (by decide) O O (wN O el65 zr40 O O O O)<|zFh O<|zS O O (qO 1 O el65 O O O (by simp only [List.length_map,List.length_append,List.length_cons,List.length_nil,List.length_take,List.length_drop];omega) (by simp only [List.length_map,List.length_append,List.length_cons,List.length_nil,List.length_take,List.length_drop];omega)) ?_
   rintro _ _ ⟨sv7,rfl,rfl⟩
   refine zD O kW<|N 2 sz65 O<|W<|zO O<|qB O ⟨by omega,by omega⟩<|Y O<|W ?_
   refine ⟨⟨j+1,sv7⟩,(by omega),(by show x.At.length-(j+1)<x.At.length-j;omega),Weak.mk [false,true,true,true,true,true,true] ⟨U,U,U,U,U,U,U,U,U,U,U,T⟩ (by exact zEy (by rw [qM hy,List.map_append,List.map_append];rfl))⟩
  ·try simp only [sx] at c2
   rw [qS (l:=x.At) (k:=j) (by omega)]
   refine zU _ (yJ 0 O (regs':=[]) (μ':=[_,_,_,_,_]) T ⟨EFle.row (ds:=[_,_,_,_]) ⟨.inl O,.inl O,.inl O,.inr ⟨O,O⟩,T⟩,EFle.refl _,EFle.refl _,EFle.refl _,EFle.refl _,T⟩)<|qE<|zO O<|Y O<|zL zAx (J 0 O) O<|qX O el41 zDp<|zS O O (qO 1 O el41 O O O (by simp only [List.length_map,List.length_append,List.length_cons,List.length_nil,List.length_take,List.length_drop];omega) (by simp only [List.length_map,List.length_append,List.length_cons,List.length_nil,List.length_take,List.length_drop];omega)) ?_
   rintro _ _ ⟨sv8,rfl,rfl⟩
   refine Y O<|W<|zO O<|qB O ⟨by omega,by omega⟩<|Y O<|W ?_
   refine ⟨⟨k+1,sv8⟩,(by omega),(by show e.Idx.length-(k+1)<e.Idx.length-k;omega),Weak.mk [false,true,true,true,true] ⟨U,U,U,U,U,U,U,T⟩ (by exact yX (by rw [qM hx,List.map_append,List.map_append];rfl))⟩
 ·try simp only [sx] at c1
  rw [qS (l:=e.Idx) (k:=k) (by omega)]
  refine zU _ (yJ 0 O (regs':=[(5,_)]) (μ':=[_,_,_]) ⟨FLe.sl,T⟩ ⟨EFle.refl _,EFle.refl _,EFle.refl _,T⟩)<|qE<|G O<|Y O<|zD O kC<|N 1 sz41 O<|W<|G O<|Y O<|qV _ (yH 44 13)<|W<|zG<|G O<|zD O kG<|zH wS (J 2 O) O<|zX O (wG O el42 O)<|Y O<|W<|zN<|zU ⟨[(59,.c _),(11,.c _),(1,.c _),(2,.c _),(4,.c _),(57,.c _),(58,.c _)],[_,_,_,_]⟩ (Weak.mk [true,true,true,true] ⟨U,U,U,U,U,U,U,T⟩ O)<|qA 2 1 O O (Nat×Value) (fun ⟨i,su⟩=>[(59,vI i),(11,.c (.lit su))]) (fun ⟨i,su⟩=>[E.vec su 44 13 (((e.Args.take i).map (gEx (renF A Bn))).map Ex.cells)]) (fun ⟨i,su⟩=>i<=e.Args.length) (fun ⟨i,su⟩=>e.Args.length-i) ⟨⟨0,(.slice none 0 0)⟩,(by omega),Weak.mk [true,true,true,true] ⟨U,U,U,U,U,U,U,T⟩ O⟩ ?_
  rintro ⟨i,su⟩ hi
  show AWP _ _ _ _ _ ⟨[(59,vI i),(11,.c (.lit su))]++_,[E.vec su 44 13 (((e.Args.take i).map (gEx (renF A Bn))).map Ex.cells)]++_⟩
  refine G O<|qW O<|W<|zG<|zE O (fun c3=>?_) (fun c3=>?_)
  ·try simp only [sx] at c3
   obtain ⟨z_,hz_⟩:=qP e.Args i (by omega)
   refine zI<|zG<|zN<|G O<|zZ O el42 (by omega) (zBr hz_)<|zL qZ zY O<|zS O O (qD [none,none,none,none,none,none,none,none,none,none,some 2,some 4,some 13] O zr44 O) ?_
   rintro _ _ ⟨b10,rfl,rfl⟩
   refine N 0 sz44 O<|W<|zO O<|Y O<|zL qZ (J 0 O) O<|Y O<|zX O (zAu [4] O ok102 (ih z_ (zW hz_) (by have:=Ex.arg_wt (zW hz_);omega) (Ex.allF_arg hs (zW hz_))) ⟨U,O,U,O,T⟩ O)<|qX O el42 zr44<|zS O O (qO 1 O el42 O O O (by simp only [List.length_map,List.length_append,List.length_cons,List.length_nil,List.length_take,List.length_drop];omega) (by simp only [List.length_map,List.length_append,List.length_cons,List.length_nil,List.length_take,List.length_drop];omega)) ?_
   rintro _ _ ⟨sv11,rfl,rfl⟩
   refine Y O<|W<|zO O<|qB O ⟨by omega,by omega⟩<|Y O<|W ?_
   refine ⟨⟨i+1,sv11⟩,(by omega),(by show e.Args.length-(i+1)<e.Args.length-i;omega),Weak.mk [false,true,true,true,true] ⟨U,U,U,U,U,U,U,T⟩ (by exact yX (by rw [qM hz_,List.map_append,List.map_append];simp only [List.map_cons,List.map_nil,Ex.cells_eq (gEx (renF A Bn) z_)];(try rfl)))⟩
  ·try simp only [sx] at c3
   rw [qS (l:=e.Args) (k:=i) (by omega)]
   refine zU _ (yJ 0 O (regs':=[(11,_)]) (μ':=[_,_,_]) ⟨FLe.sl,T⟩ ⟨EFle.refl _,EFle.refl _,EFle.refl _,T⟩)<|qE<|G O<|Y O<|zD O kG<|N 1 sz42 O<|W<|G O<|zL qZ (J 1 O) O<|N 0 sz44 O<|W<|zU _ (Weak.mem [true,false,true] O)<|zJ<|fin1 (qF qZ O (J 0 O) O) ?_
   have hG:=gEx_eq (renF A Bn) e
   first|exact ⟨congrArg vE hG.symm,[],rfl⟩|exact ⟨congrArg vE hG.symm,[_],rfl⟩|exact ⟨congrArg vE hG.symm,[_,_],rfl⟩|exact ⟨congrArg vE hG.symm,[_,_,_],rfl⟩|exact ⟨congrArg vE hG.symm,[_,_,_,_],rfl⟩|exact ⟨congrArg vE hG.symm,[_,_,_,_,_],rfl⟩
theorem cse_rename (A Bn:List ByteArray) (mb:Nat) (m:SmM) (hm:∀s,(mget m s).getD s=renB A Bn s) (hA:A.Nodup) (hB:Bn.Nodup) (hAB:A.length=Bn.length) (e:Ex):e.wt<=2000000->e.allF (swpOk A Bn)->Con cfg 102 [vE e,.c (.lit (.map (some mb)))] [E.blk mb (MapR vS m)] fun r μ'=>r=vE (gEx (renF A Bn) e)/\μ'=[E.blk mb (MapR vS m)]:=by
  induction e using Ex.ind with
  |_ e ih=>exact fun he hs=>zPx A Bn mb m hm hA hB hAB e ih he hs
theorem cse_twins (a b:Df) (ha:a.Body.wt<=2000000) (hb:b.Body.wt<=2000000) (ha1:a.Dims.length<=1000000) (ha2:a.Red.length<=1000000) (hb1:b.Dims.length<=1000000) (hb2:b.Red.length<=1000000) (hs1:∀x,x∈a.Dims->x.Size.L.length<=5864062014805) (hs2:∀x,x∈a.Red->x.Size.L.length<=5864062014805) (ht:twnOk a b):
    Pur cfg 48 [vDf a,vDf b] (vB (twnT a b)):=by
 refine zR Tryz.func48 O Tryz.ntmps48 Tryz.results48 O ?_
 intro z hz
 have hna:=zAs a
 have hnb:=zAs b
 refine G O<|zS O O (qG O O) ?_
 rintro _ _ ⟨b1,rfl,rfl⟩
 refine zS O O (qG O O) ?_
 rintro _ _ ⟨b2,rfl,rfl⟩
 refine Y O<|W<|zG<|G O<|zD O zLx<|zL yD (J 1 O) O<|zD O zLx<|zL yD (J 0 O) O<|zX O (zBf O fl37 O O O)<|Y O<|rL0 O (fun g1_5=>zF O zLw O) O<|rL1 15 O (fun g1_5=>zK O one3 O (J 1 O) O) O<|rL0 O (fun g1_5=>zF O zLw O) O<|rL1 17 O (fun g1_5=>zK O one3 O (J 0 O) O) O<|rLz [(16,_),(18,_)] O gv1 ⟨O,O,O,O,T⟩ (fun g1_5=>wZ O O O) O<|r_or O (fun h=>(lzf h))<|Y O<|rL0 O (fun g1_12=>zF O zAl O) O<|rL1 22 O (fun g1_12=>zK O kQ O (J 1 O) O) O<|rL0 O (fun g1_12=>zF O zAl O) O<|rL1 24 O (fun g1_12=>zK O kQ O (J 0 O) O) O<|rLz [(23,_),(25,_)] O gv1 ⟨O,O,O,O,T⟩ (fun g1_12=>qH O ok101 (zJm a.Dims b.Dims (by omega) (by omega) hs1) ⟨U,O,U,O,T⟩) O<|rL1 26 O (fun g1_12=>wB O O) O<|r_or O (fun h=>(lzf h))<|Y O<|rL0 O (fun g1_20=>zF O zAc O) O<|rL1 30 O (fun g1_20=>zK O kQ O (J 1 O) O) O<|rL0 O (fun g1_20=>zF O zAc O) O<|rL1 32 O (fun g1_20=>zK O kQ O (J 0 O) O) O<|rLz [(31,_),(33,_)] O gv1 ⟨O,O,O,O,T⟩ (fun g1_20=>qH O ok101 (zJm a.Red b.Red (by omega) (by omega) hs2) ⟨U,O,U,O,T⟩) O<|rL1 34 O (fun g1_20=>wB O O) O<|r_or O (fun h=>(lzf h))<|W<|zE O (fun c1=>?_) (fun c1=>?_)
 ·rw [show (!litsEq (List.take 5 (List.drop (0+1) a.cells)) (List.take 5 (List.drop (0+1) b.cells)))= !decide (a.T=b.T) from ty_ne a.T b.T] at c1
  have c1:=twn_no c1
  refine G O<|Y O<|W<|zJ<|zP O ?_
  exact congrArg vB c1.symm
 ·rw [show (!litsEq (List.take 5 (List.drop (0+1) a.cells)) (List.take 5 (List.drop (0+1) b.cells)))= !decide (a.T=b.T) from ty_ne a.T b.T] at c1
  obtain ⟨hz1,hz2,htw⟩:=twn_on c1
  have hlab:(namesD a).length=(namesD b).length:=by rw [zAs,zAs,zMs hz1,zMs hz2]
  refine zI<|G O<|zS O O (zJd vS O O) ?_
  rintro _ _ ⟨b3,rfl,rfl⟩
  refine Y O<|W<|G O<|zL wM (J 2 O) O<|qK O ok89 (OwnR.pur (wP a (by omega) (by omega))) ⟨U,O,T⟩<|Y O<|W<|zG<|G O<|zL wM (J 1 O) O<|qK O ok89 (OwnR.pur (wP b (by omega) (by omega))) ⟨U,O,T⟩<|zV O r<|Y O<|W<|zN<|zU ⟨[(43,.c _),(2,.c _),(3,.c _),(5,.c _),(6,.c _),(41,.c _),(42,.c _)],[_,_,_]⟩ (Weak.mk [true,true,true] ⟨U,U,U,U,U,U,U,T⟩ O)<|qA 1 1 O O (Nat) (fun k=>[(43,vI k)]) (fun k=>[E.blk b3 (MapR vS (mapAB (namesD a) (namesD b) k))]) (fun k=>k<=(namesD b).length) (fun k=>(namesD b).length-k) ⟨0,(by omega),Weak.mk [true,true,true] ⟨U,U,U,U,U,U,U,T⟩ O⟩ ?_
  rintro k hk
  refine G O<|qW O<|W<|zG<|zE O (fun c2=>?_) (fun c2=>?_)
  ·try simp only [sx] at c2
   obtain ⟨s,hs⟩:=qP (namesD b) k (by omega)
   obtain ⟨t,ht_⟩:=qP (namesD a) k (by omega)
   refine zI<|zG<|zN<|G O<|Y O<|zZ O r (by omega) (getm hs)<|zH one9 zY O<|Y O<|Y O<|W<|zO O<|Y O<|Y O<|Y O<|Y O<|zZ O r (by omega) (getm ht_)<|zH one9 zY O<|zCd O O (zEp 0 t O sm151 O O O (U) O)<|W<|zO O<|qB O ⟨by omega,by omega⟩<|Y O<|W ?_
   refine ⟨k+1,(by omega),(by omega),Weak.mk [true,true,true] ⟨U,U,U,U,U,U,U,T⟩ (by rw [mapAB_next hs ht_];rfl)⟩
  ·try simp only [sx] at c2
   refine qE<|zG<|wO 6 0 [⟨0,.q []⟩,⟨1,.q [2]⟩,⟨2,.q []⟩,⟨3,.q [1]⟩,⟨4,.q []⟩,⟨5,.q [0]⟩] mixed (by kernel_rfl) (by kernel_rfl) O O O<|qL O<|qL O<|qL O<|qL O<|qL O<|qL O<|zFl<|qT O (by decide) O O (zF O zBx O)<|qT O (by decide) O O (zT O qZ O (J 0 O) O)<|qT O (by decide) O O (zF O zBx O)<|qT O (by decide) O O (zT O qZ O (J 0 O) O)<|qT O (by decide) O O (zQ O O)<|qT O (by decide) O O (zAu [0] O ok102 (cse_rename (namesD a) (namesD b) _ _ (fun s=>mapAB_end ht.nb hlab (by omega) s) ht.na ht.nb hlab b.Body hb ht.fb) ⟨U,O,U,O,T⟩ O)<|zFh O<|qK O ok76 (zPr a.Body (gEx (renF (namesD a) (namesD b)) b.Body) (by omega) (by rw [gEx_wt (renF_len _ _)];omega)) ⟨U,O,U,O,T⟩<|Y O<|W<|zJ<|zP O ?_
   exact congrArg vB htw.symm
theorem cse_index_df (l:List Df) (c:C) (p:Df->Bool) (hl:l.length<=4294967296) (hc:∀x,x∈l->FnPur cfg c [vDf x] (vB (p x))):
    Pur cfg 46 [.c (.sl 22 (l.map Df.cells)),.c c] (vI (idxOf p l)):=by
 refine zR Tryz.func46 O Tryz.ntmps46 Tryz.results46 O ?_
 intro z hz
 refine G O<|Y O<|W<|zG<|G O<|Y O<|zV O el25<|Y O<|W<|zN<|zU ⟨[(9,.c _),(1,.c _),(7,.c _),(8,.c _)],[]⟩ (Weak.mk [] ⟨U,U,U,U,T⟩ O)<|qA 1 0 O O (Nat) (fun k=>[(9,vI k)]) (fun k=>[]) (fun k=>k<=l.length/\((l.take k).any p=false)) (fun k=>l.length-k) ⟨0,⟨by omega,O⟩,Weak.mk [] ⟨U,U,U,U,T⟩ O⟩ ?_
 rintro k ⟨hk,hp⟩
 refine G O<|qW O<|W<|zG<|zE O (fun c1=>?_) (fun c1=>?_)
 ·try simp only [sx] at c1
  obtain ⟨x,hx⟩:=qP l k (by omega)
  refine zI<|zG<|zN<|G O<|Y O<|zZ O el25 (by omega) (getm hx)<|zL wM zY O<|zS O O (qD [none,none,none,none,none,none,some 3,some 3,none,none,none,none,none,none,none,none,none,none,none,some 2,some 4,some 13] O zr63 O) ?_
  rintro _ _ ⟨b1,rfl,rfl⟩
  refine Y O<|N 0 sz63 O<|W<|G O<|Y O<|zL wM (J 0 O) O<|zX O (kS O O (hc _ (zW hx)) ⟨U,O,T⟩)<|W<|zE O (fun c2=>?_) (fun c2=>?_)
  ·try simp only [sx] at c2
   refine G O<|Y O<|Y O<|W<|zJ<|zP O ?_
   rw [zCx hx c2 hp]
  ·try simp only [sx] at c2
   refine zI<|zO O<|qB O ⟨by omega,by omega⟩<|Y O<|W ?_
   refine ⟨k+1,⟨by omega,zHd hx hp c2⟩,(by omega),Weak.mk [false] ⟨U,U,U,U,T⟩ O⟩
 ·try simp only [sx] at c1
  refine qE<|G O<|Y O<|W<|zJ<|zP O ?_
  rw [zBm (by rw [qS (by omega)] at hp;exact hp)]
theorem zMk (a b:Df) (ha:a.Body.wt<=2000000) (hb:b.Body.wt<=2000000) (ha1:a.Dims.length<=1000000) (ha2:a.Red.length<=1000000) (hb1:b.Dims.length<=1000000) (hb2:b.Red.length<=1000000) (hs1:∀x,x∈a.Dims->x.Size.L.length<=5864062014805) (hs2:∀x,x∈a.Red->x.Size.L.length<=5864062014805) (ht:twnOk a b):
    Pur cfg 47 [vDf a,.c (.iptr b.cells)] (vB (twnT a b)):=by
 refine zR Tryz.func47 O Tryz.ntmps47 Tryz.results47 O ?_
 intro z hz
 refine G O<|zS O O (qG O O) ?_
 rintro _ _ ⟨b1,rfl,rfl⟩
 refine Y O<|W<|G O<|zL wM (J 0 O) O<|zL wM zY O<|qK O ok48 (cse_twins a b ha hb ha1 ha2 hb1 hb2 hs1 hs2 ht) ⟨U,O,U,O,T⟩<|Y O<|W<|zJ<|zP O ?_
 exact O
theorem cse_Duplicates (p:Pg) (j:Nat) (hX:p.Xt j) (hj:j<=64):
    OwnR cfg 16 [vPg p] 55 2 ((prsV p).map pairC):=by
 refine zR Tryz.func16 O Tryz.ntmps16 Tryz.results16 O ?_
 intro z hz
 have hP:=hX.ok hj
 have hdl:=hX.defs
 refine G O<|zS O O (qG O O) ?_
 rintro _ _ ⟨b1,rfl,rfl⟩
 refine zX O (yA 2 O O)<|W<|zG<|G O<|zL wC (J 0 O) O<|qK O ok30 (zCs p hP) ⟨U,O,T⟩<|zX O (yE O O)<|zX O (yP O O O)<|zX O (yP O O O)<|Y O<|Y O<|W<|G O<|Y O<|yR O<|W<|zE O (fun c1=>?_) (fun c1=>?_)
 ·try simp only [sx] at c1
  refine G O<|Y O<|qV _ (yH 55 2)<|W<|zU _ (Weak.mem [true,false] O)<|zJ<|zP O ?_
  exact ⟨_,O,by rw [prs_no c1];rfl⟩
 ·try simp only [sx] at c1
  refine zI<|G O<|Y O<|qV _ (yH 55 2)<|W<|zG<|G O<|zD O yZ<|zH wL (J 1 O) O<|zV O el25<|Y O<|W<|zN<|zU ⟨[(19,.c _),(5,.c _),(1,.c _),(17,.c _),(18,.c _)],[_,_]⟩ (Weak.mk [true,true] ⟨U,U,U,U,U,T⟩ O)<|qA 2 1 O O (Nat×Value×List (ByteArray×ByteArray)) (fun ⟨k,sv,pre⟩=>[(19,vI k),(5,.c (.lit sv))]) (fun ⟨k,sv,pre⟩=>[E.vec sv 55 2 ((pre).map pairC)]) (fun ⟨k,sv,pre⟩=>k<=p.Defs.length/\(dupG [] p.Defs=pre++dupG (p.Defs.take k) (p.Defs.drop k))/\(pre.length<=k)) (fun ⟨k,sv,pre⟩=>p.Defs.length-k) ⟨⟨0,(.slice none 0 0),[]⟩,⟨by omega,O,Nat.le_refl 0⟩,Weak.mk [true,true] ⟨U,U,U,U,U,T⟩ O⟩ ?_
  rintro ⟨k,sv,pre⟩ ⟨hk,hq,hpl⟩
  show AWP _ _ _ _ _ ⟨[(19,vI k),(5,.c (.lit sv))]++_,[E.vec sv 55 2 ((pre).map pairC)]++_⟩
  refine G O<|qW O<|W<|zG<|zE O (fun c2=>?_) (fun c2=>?_)
  ·try simp only [sx] at c2
   obtain ⟨d,hd⟩:=qP p.Defs k (by omega)
   have hxd:=hX.ds d (zW hd)
   refine zI<|zG<|zN<|G O<|Y O<|zZ O el25 (by omega) (getm hd)<|zL wM zY O<|zS O O (qD [none,none,none,none,none,none,some 3,some 3,none,none,none,none,none,none,none,none,none,none,none,some 2,some 4,some 13] O zr63 O) ?_
   rintro _ _ ⟨b4,rfl,rfl⟩
   refine Y O<|N 0 sz63 O<|W<|G O<|zD O yZ<|zH wL (J 2 O) O<|Y O<|zX O (zAd O el25 O O (by omega))<|qV _ (yC 0 O 7 _ PLe.ptr)<|zX O (zFd O O O O O)<|qK O ok46 (cse_index_df (p.Defs.take k) _ (fun x=>twnT x d) (by rw [List.length_take];omega) (fun x hx=>by have hxm:=List.mem_of_mem_take hx;exact FnPur.of_pur (first:=[]) (cap:=[.iptr d.cells]) ok47 (zMk x d (by have:=(hX.ds x hxm).wt;omega) (by have:=hxd.wt;omega) (by have:=(hX.ds x hxm).dims;omega) (by have:=(hX.ds x hxm).red;omega) (by have:=hxd.dims;omega) (by have:=hxd.red;omega) (hX.ds x hxm).fd (hX.ds x hxm).fr (valid_twn c1 hxm (zW hd))))) ⟨U,O,U,O,T⟩<|Y O<|W<|G O<|Y O<|zX O (kX O O O)<|W<|zE O (fun c3=>?_) (fun c3=>?_)
   ·try simp only [sx] at c3
    obtain ⟨i,x,hi,hci,hhit,hbef⟩:=idx_le (show 0<=idxOf (fun x=>twnT x d) (p.Defs.take k) by omega)
    rw [hi]
    have hil:=zEz hci
    rw [List.length_take] at hil
    have hci2:p.Defs[i]? =some x:=by rw [List.getElem?_take_of_lt (by omega)] at hci;exact hci
    have hdu:=dup1_at (D:=p.Defs.take k) hci hhit hbef
    refine qY 11 mixed (by kernel_rfl) O O<|zM O O (zQ O O)<|zM O O (zF O yZ O)<|zM O O (zK O wL O (J 1 O) O)<|zM O O (zQ O O)<|zM O O (qJ O el25 O O (by omega) (getm hci2))<|zM O O (qQ O zGf O)<|zM O O (zK O one9 O zY O)<|zM O O (qQ O zGf O)<|zM O O (zK O one9 O zY O)<|zM O O (det_build_arr O zr55 pla55 O)<|zM O O (wN O el53 zr55 O O O O)<|yT<|zS O O (qO 0 O el53 O O O (by simp only [List.length_map,List.length_append,List.length_cons,List.length_nil,List.length_take,List.length_drop];omega) (by simp only [List.length_map,List.length_append,List.length_cons,List.length_nil,List.length_take,List.length_drop];omega)) ?_
    rintro _ _ ⟨sv5,rfl,rfl⟩
    refine Y O<|W<|zO O<|qB O ⟨by omega,by omega⟩<|Y O<|W ?_
    refine ⟨⟨k+1,sv5,pre++dup1 (p.Defs.take k) d⟩,⟨by omega,dupG_next hd hq,by have:=dup1_len (p.Defs.take k) d;rw [List.length_append];omega⟩,(by show p.Defs.length-(k+1)<p.Defs.length-k;omega),Weak.mk [true,true] ⟨U,U,U,U,U,T⟩ (by exact yX (by rw [hdu,List.map_append];rfl))⟩
   ·try simp only [sx] at c3
    have hdu:=dup1_none (D:=p.Defs.take k) (d:=d) (idx_lt (by omega))
    refine zI<|zO O<|qB O ⟨by omega,by omega⟩<|Y O<|W ?_
    refine ⟨⟨k+1,sv,pre++dup1 (p.Defs.take k) d⟩,⟨by omega,dupG_next hd hq,by have:=dup1_len (p.Defs.take k) d;rw [List.length_append];omega⟩,(by show p.Defs.length-(k+1)<p.Defs.length-k;omega),Weak.mk [true,true] ⟨U,U,U,U,U,T⟩ (by exact yX (by rw [hdu,List.append_nil]))⟩
  ·try simp only [sx] at c2
   have hE:=dupG_end hq (by omega)
   rw [←prs_ok c1] at hE
   refine qE<|G O<|Y O<|Y O<|W<|zU _ (Weak.mem [true,false] O)<|zJ<|zP O ?_
   exact ⟨_,O,by rw [hE];rfl⟩
theorem zLg (s t:ByteArray) (e:Ex) (ih:∀a,a∈e.Args->a.wt<=2000000->Pur cfg 53 [vE a,vS s,vS t] (vE (redE s t a))) (he:e.wt<=2000000):
    Pur cfg 53 [vE e,vS s,vS t] (vE (redE s t e)):=by
 refine zR Tryz.func53 O Tryz.ntmps53 Tryz.results53 O ?_
 intro z hz
 obtain ⟨hel,hei,hea⟩:=e.parts he
 refine G O<|zS O O (qG O O) ?_
 rintro _ _ ⟨b1,rfl,rfl⟩
 refine zS O O (qD [none,none,none,none,none,none,none,none,none,none,some 2,some 4,some 13] O zr44 O) ?_
 rintro _ _ ⟨b2,rfl,rfl⟩
 refine W<|zG<|G O<|zD O yY<|zH one3 (J 1 O) O<|yG O<|Y O<|rL0 O (fun g1_3=>zF O zFm O) O<|rL1 17 O (fun g1_3=>zK O one9 O (J 1 O) O) O<|rL0 O (fun g1_3=>zQ O O) O<|rLz [(18,_),(19,_)] O gv1 ⟨O,O,O,O,T⟩ (fun g1_3=>yM O O O) O<|kD O (fun h=>h)<|W<|zE O (fun c1=>?_) (fun c1=>?_)
 ·have hnm:(if e.Op=3/\e.Name=s then t else e.Name)=t:=if_pos (by simpa using c1)
  refine zO O<|Y O<|zD O zFm<|N 1 sz9 O<|W<|G O<|Y O<|qV _ (yH 115 4)<|W<|zG<|G O<|zD O kC<|zH wK (J 2 O) O<|zV O el41<|Y O<|W<|zN<|zU ⟨[(27,.c _),(7,.c _),(1,.c _),(2,.c _),(3,.c _),(6,.c _),(25,.c _),(26,.c _)],[_,_,_]⟩ (Weak.mk [true,true,true] ⟨U,U,U,U,U,U,U,U,T⟩ O)<|qA 2 1 O O (Nat×Value) (fun ⟨k,sv⟩=>[(27,vI k),(7,.c (.lit sv))]) (fun ⟨k,sv⟩=>[E.vec sv 115 4 (((e.Idx.take k).map (redX s t)).map Ix.cells)]) (fun ⟨k,sv⟩=>k<=e.Idx.length) (fun ⟨k,sv⟩=>e.Idx.length-k) ⟨⟨0,(.slice none 0 0)⟩,(by omega),Weak.mk [true,true,true] ⟨U,U,U,U,U,U,U,U,T⟩ O⟩ ?_
  rintro ⟨k,sv⟩ hk
  show AWP _ _ _ _ _ ⟨[(27,vI k),(7,.c (.lit sv))]++_,[E.vec sv 115 4 (((e.Idx.take k).map (redX s t)).map Ix.cells)]++_⟩
  refine G O<|qW O<|W<|zG<|zE O (fun c2=>?_) (fun c2=>?_)
  ·try simp only [sx] at c2
   obtain ⟨x,hx⟩:=qP e.Idx k (by omega)
   refine zI<|zG<|zN<|G O<|zZ O el41 (by omega) (getm hx)<|zL zAx zY O<|zS O O (qD [none,some 2,none,some 2] O zDp O) ?_
   rintro _ _ ⟨b4,rfl,rfl⟩
   refine N 0 zNp O<|W<|zG<|G O<|zD O wX<|zH one9 (J 0 O) O<|Y O<|zX O (yM O O O)<|W<|zE O (fun c3=>?_) (fun c3=>?_)
   ·try simp only [sx] at c3
    have hrx:redX s t x=⟨x.Lin,t,x.At⟩:=by unfold redX;rw [if_pos c3]
    refine zO O<|Y O<|zD O wX<|N 0 sz9 O<|W<|zO O<|Y O<|zL zAx (J 0 O) O<|qX O el41 zDp<|zS O O (qO 1 O el41 O O O (by simp only [List.length_map,List.length_append,List.length_cons,List.length_nil,List.length_take,List.length_drop];omega) (by simp only [List.length_map,List.length_append,List.length_cons,List.length_nil,List.length_take,List.length_drop];omega)) ?_
    rintro _ _ ⟨sv5,rfl,rfl⟩
    refine Y O<|W<|zO O<|qB O ⟨by omega,by omega⟩<|Y O<|W ?_
    refine ⟨⟨k+1,sv5⟩,(by omega),(by show e.Idx.length-(k+1)<e.Idx.length-k;omega),Weak.mk [false,true,true,true] ⟨U,U,U,U,U,U,U,U,T⟩ (by exact yX (by rw [qM hx,List.map_append,List.map_append,List.map_singleton,hrx];rfl))⟩
   ·try simp only [sx] at c3
    have hrx:redX s t x=⟨x.Lin,x.From,x.At⟩:=by unfold redX;rw [if_neg c3]
    refine zI<|zO O<|Y O<|zL zAx (J 0 O) O<|qX O el41 zDp<|zS O O (qO 1 O el41 O O O (by simp only [List.length_map,List.length_append,List.length_cons,List.length_nil,List.length_take,List.length_drop];omega) (by simp only [List.length_map,List.length_append,List.length_cons,List.length_nil,List.length_take,List.length_drop];omega)) ?_
    rintro _ _ ⟨sv6,rfl,rfl⟩
    refine Y O<|W<|zO O<|qB O ⟨by omega,by omega⟩<|Y O<|W ?_
    refine ⟨⟨k+1,sv6⟩,(by omega),(by show e.Idx.length-(k+1)<e.Idx.length-k;omega),Weak.mk [false,true,true,true] ⟨U,U,U,U,U,U,U,U,T⟩ (by exact yX (by rw [qM hx,List.map_append,List.map_append,List.map_singleton,hrx];rfl))⟩
  ·try simp only [sx] at c2
   rw [qS (l:=e.Idx) (k:=k) (by omega)]
   refine zU _ (yJ 0 O (regs':=[(7,_)]) (μ':=[_,_]) ⟨FLe.sl,T⟩ ⟨EFle.refl _,EFle.refl _,T⟩)<|qE<|G O<|Y O<|zD O kC<|N 1 sz41 O<|W<|G O<|Y O<|qV _ (yH 44 13)<|W<|zG<|G O<|zD O kG<|zH wS (J 2 O) O<|zV O el42<|Y O<|W<|zN<|zU ⟨[(47,.c _),(10,.c _),(1,.c _),(2,.c _),(3,.c _),(6,.c _),(45,.c _),(46,.c _)],[_,_,_]⟩ (Weak.mk [true,true,true] ⟨U,U,U,U,U,U,U,U,T⟩ O)<|qA 2 1 O O (Nat×Value) (fun ⟨i,su⟩=>[(47,vI i),(10,.c (.lit su))]) (fun ⟨i,su⟩=>[E.vec su 44 13 (((e.Args.take i).map (redE s t)).map Ex.cells)]) (fun ⟨i,su⟩=>i<=e.Args.length) (fun ⟨i,su⟩=>e.Args.length-i) ⟨⟨0,(.slice none 0 0)⟩,(by omega),Weak.mk [true,true,true] ⟨U,U,U,U,U,U,U,U,T⟩ O⟩ ?_
   rintro ⟨i,su⟩ hi
   show AWP _ _ _ _ _ ⟨[(47,vI i),(10,.c (.lit su))]++_,[E.vec su 44 13 (((e.Args.take i).map (redE s t)).map Ex.cells)]++_⟩
   refine G O<|qW O<|W<|zG<|zE O (fun c4=>?_) (fun c4=>?_)
   ·try simp only [sx] at c4
    obtain ⟨z_,hz_⟩:=qP e.Args i (by omega)
    refine zI<|zG<|zN<|G O<|zZ O el42 (by omega) (zBr hz_)<|zL qZ zY O<|zS O O (qD [none,none,none,none,none,none,none,none,none,none,some 2,some 4,some 13] O zr44 O) ?_
    rintro _ _ ⟨b8,rfl,rfl⟩
    refine N 0 sz44 O<|W<|zO O<|Y O<|zL qZ (J 0 O) O<|Y O<|Y O<|qK O ok53 (ih z_ (zW hz_) (by have:=Ex.arg_wt (zW hz_);omega)) ⟨U,O,U,O,U,O,T⟩<|qX O el42 zr44<|zS O O (qO 1 O el42 O O O (by simp only [List.length_map,List.length_append,List.length_cons,List.length_nil,List.length_take,List.length_drop];omega) (by simp only [List.length_map,List.length_append,List.length_cons,List.length_nil,List.length_take,List.length_drop];omega)) ?_
    rintro _ _ ⟨sv9,rfl,rfl⟩
    refine Y O<|W<|zO O<|qB O ⟨by omega,by omega⟩<|Y O<|W ?_
    refine ⟨⟨i+1,sv9⟩,(by omega),(by show e.Args.length-(i+1)<e.Args.length-i;omega),Weak.mk [false,true,true,true] ⟨U,U,U,U,U,U,U,U,T⟩ (by exact yX (by rw [qM hz_,List.map_append,List.map_append];simp only [List.map_cons,List.map_nil,Ex.cells_eq (redE s t z_)];(try rfl)))⟩
   ·try simp only [sx] at c4
    rw [qS (l:=e.Args) (k:=i) (by omega)]
    refine zU _ (yJ 0 O (regs':=[(10,_)]) (μ':=[_,_]) ⟨FLe.sl,T⟩ ⟨EFle.refl _,EFle.refl _,T⟩)<|qE<|G O<|Y O<|zD O kG<|N 1 sz42 O<|W<|G O<|zL qZ (J 1 O) O<|N 0 sz44 O<|W<|zJ<|fin1 (qF qZ O (J 0 O) O) ?_
    exact congrArg vE (show _=redE s t e from by rw [redE_eq,hnm])
 ·have hnm:(if e.Op=3/\e.Name=s then t else e.Name)=e.Name:=if_neg (by simpa using c1)
  refine zI<|G O<|Y O<|qV _ (yH 115 4)<|W<|zG<|G O<|zD O kC<|zH wK (J 2 O) O<|zV O el41<|Y O<|W<|zN<|zU ⟨[(27,.c _),(7,.c _),(1,.c _),(2,.c _),(3,.c _),(6,.c _),(25,.c _),(26,.c _)],[_,_,_]⟩ (Weak.mk [true,true,true] ⟨U,U,U,U,U,U,U,U,T⟩ O)<|qA 2 1 O O (Nat×Value) (fun ⟨k,sv⟩=>[(27,vI k),(7,.c (.lit sv))]) (fun ⟨k,sv⟩=>[E.vec sv 115 4 (((e.Idx.take k).map (redX s t)).map Ix.cells)]) (fun ⟨k,sv⟩=>k<=e.Idx.length) (fun ⟨k,sv⟩=>e.Idx.length-k) ⟨⟨0,(.slice none 0 0)⟩,(by omega),Weak.mk [true,true,true] ⟨U,U,U,U,U,U,U,U,T⟩ O⟩ ?_
  rintro ⟨k,sv⟩ hk
  show AWP _ _ _ _ _ ⟨[(27,vI k),(7,.c (.lit sv))]++_,[E.vec sv 115 4 (((e.Idx.take k).map (redX s t)).map Ix.cells)]++_⟩
  refine G O<|qW O<|W<|zG<|zE O (fun c2=>?_) (fun c2=>?_)
  ·try simp only [sx] at c2
   obtain ⟨x,hx⟩:=qP e.Idx k (by omega)
   refine zI<|zG<|zN<|G O<|zZ O el41 (by omega) (getm hx)<|zL zAx zY O<|zS O O (qD [none,some 2,none,some 2] O zDp O) ?_
   rintro _ _ ⟨b11,rfl,rfl⟩
   refine N 0 zNp O<|W<|zG<|G O<|zD O wX<|zH one9 (J 0 O) O<|Y O<|zX O (yM O O O)<|W<|zE O (fun c3=>?_) (fun c3=>?_)
   ·try simp only [sx] at c3
    have hrx:redX s t x=⟨x.Lin,t,x.At⟩:=by unfold redX;rw [if_pos c3]
    refine zO O<|Y O<|zD O wX<|N 0 sz9 O<|W<|zO O<|Y O<|zL zAx (J 0 O) O<|qX O el41 zDp<|zS O O (qO 1 O el41 O O O (by simp only [List.length_map,List.length_append,List.length_cons,List.length_nil,List.length_take,List.length_drop];omega) (by simp only [List.length_map,List.length_append,List.length_cons,List.length_nil,List.length_take,List.length_drop];omega)) ?_
    rintro _ _ ⟨sv12,rfl,rfl⟩
    refine Y O<|W<|zO O<|qB O ⟨by omega,by omega⟩<|Y O<|W ?_
    refine ⟨⟨k+1,sv12⟩,(by omega),(by show e.Idx.length-(k+1)<e.Idx.length-k;omega),Weak.mk [false,true,true,true] ⟨U,U,U,U,U,U,U,U,T⟩ (by exact yX (by rw [qM hx,List.map_append,List.map_append,List.map_singleton,hrx];rfl))⟩
   ·try simp only [sx] at c3
    have hrx:redX s t x=⟨x.Lin,x.From,x.At⟩:=by unfold redX;rw [if_neg c3]
    refine zI<|zO O<|Y O<|zL zAx (J 0 O) O<|qX O el41 zDp<|zS O O (qO 1 O el41 O O O (by simp only [List.length_map,List.length_append,List.length_cons,List.length_nil,List.length_take,List.length_drop];omega) (by simp only [List.length_map,List.length_append,List.length_cons,List.length_nil,List.length_take,List.length_drop];omega)) ?_
    rintro _ _ ⟨sv13,rfl,rfl⟩
    refine Y O<|W<|zO O<|qB O ⟨by omega,by omega⟩<|Y O<|W ?_
    refine ⟨⟨k+1,sv13⟩,(by omega),(by show e.Idx.length-(k+1)<e.Idx.length-k;omega),Weak.mk [false,true,true,true] ⟨U,U,U,U,U,U,U,U,T⟩ (by exact yX (by rw [qM hx,List.map_append,List.map_append,List.map_singleton,hrx];rfl))⟩
  ·try simp only [sx] at c2
   rw [qS (l:=e.Idx) (k:=k) (by omega)]
   refine zU _ (yJ 0 O (regs':=[(7,_)]) (μ':=[_,_]) ⟨FLe.sl,T⟩ ⟨EFle.refl _,EFle.refl _,T⟩)<|qE<|G O<|Y O<|zD O kC<|N 1 sz41 O<|W<|G O<|Y O<|qV _ (yH 44 13)<|W<|zG<|G O<|zD O kG<|zH wS (J 2 O) O<|zV O el42<|Y O<|W<|zN<|zU ⟨[(47,.c _),(10,.c _),(1,.c _),(2,.c _),(3,.c _),(6,.c _),(45,.c _),(46,.c _)],[_,_,_]⟩ (Weak.mk [true,true,true] ⟨U,U,U,U,U,U,U,U,T⟩ O)<|qA 2 1 O O (Nat×Value) (fun ⟨i,su⟩=>[(47,vI i),(10,.c (.lit su))]) (fun ⟨i,su⟩=>[E.vec su 44 13 (((e.Args.take i).map (redE s t)).map Ex.cells)]) (fun ⟨i,su⟩=>i<=e.Args.length) (fun ⟨i,su⟩=>e.Args.length-i) ⟨⟨0,(.slice none 0 0)⟩,(by omega),Weak.mk [true,true,true] ⟨U,U,U,U,U,U,U,U,T⟩ O⟩ ?_
   rintro ⟨i,su⟩ hi
   show AWP _ _ _ _ _ ⟨[(47,vI i),(10,.c (.lit su))]++_,[E.vec su 44 13 (((e.Args.take i).map (redE s t)).map Ex.cells)]++_⟩
   refine G O<|qW O<|W<|zG<|zE O (fun c4=>?_) (fun c4=>?_)
   ·try simp only [sx] at c4
    obtain ⟨z_,hz_⟩:=qP e.Args i (by omega)
    refine zI<|zG<|zN<|G O<|zZ O el42 (by omega) (zBr hz_)<|zL qZ zY O<|zS O O (qD [none,none,none,none,none,none,none,none,none,none,some 2,some 4,some 13] O zr44 O) ?_
    rintro _ _ ⟨b15,rfl,rfl⟩
    refine N 0 sz44 O<|W<|zO O<|Y O<|zL qZ (J 0 O) O<|Y O<|Y O<|qK O ok53 (ih z_ (zW hz_) (by have:=Ex.arg_wt (zW hz_);omega)) ⟨U,O,U,O,U,O,T⟩<|qX O el42 zr44<|zS O O (qO 1 O el42 O O O (by simp only [List.length_map,List.length_append,List.length_cons,List.length_nil,List.length_take,List.length_drop];omega) (by simp only [List.length_map,List.length_append,List.length_cons,List.length_nil,List.length_take,List.length_drop];omega)) ?_
    rintro _ _ ⟨sv16,rfl,rfl⟩
    refine Y O<|W<|zO O<|qB O ⟨by omega,by omega⟩<|Y O<|W ?_
    refine ⟨⟨i+1,sv16⟩,(by omega),(by show e.Args.length-(i+1)<e.Args.length-i;omega),Weak.mk [false,true,true,true] ⟨U,U,U,U,U,U,U,U,T⟩ (by exact yX (by rw [qM hz_,List.map_append,List.map_append];simp only [List.map_cons,List.map_nil,Ex.cells_eq (redE s t z_)];(try rfl)))⟩
   ·try simp only [sx] at c4
    rw [qS (l:=e.Args) (k:=i) (by omega)]
    refine zU _ (yJ 0 O (regs':=[(10,_)]) (μ':=[_,_]) ⟨FLe.sl,T⟩ ⟨EFle.refl _,EFle.refl _,T⟩)<|qE<|G O<|Y O<|zD O kG<|N 1 sz42 O<|W<|G O<|zL qZ (J 1 O) O<|N 0 sz44 O<|W<|zJ<|fin1 (qF qZ O (J 0 O) O) ?_
    exact congrArg vE (show _=redE s t e from by rw [redE_eq,hnm])
theorem cse_redirect (s t:ByteArray) (e:Ex) (he:e.wt<=2000000):Pur cfg 53 [vE e,vS s,vS t] (vE (redE s t e)):=by
  induction e using Ex.ind with
  |_ e ih=>exact zLg s t e ih he
theorem cse_index_pr (l:List (ByteArray×ByteArray)) (p:ByteArray×ByteArray->Bool) (hl:l.length<=4294967296):
    ∀(y:C) (μ0:List E),(∀x,x∈l->FnCon cfg y [.agg (pairC x)] μ0 fun r m=>r=vB (p x)/\m=μ0)->Con cfg 50 [.c (.sl 2 (l.map pairC)),.c y] μ0 fun r μ'=>r=vI (idxOf p l)/\μ'=μ0:=by
 intro y μ0 hy
 refine zR Tryz.func50 O Tryz.ntmps50 Tryz.results50 O ?_
 intro z hz
 refine G O<|Y O<|W<|zG<|G O<|Y O<|zV O el53<|Y O<|W<|zN<|zU ⟨[(9,.c _),(1,.c _),(7,.c _),(8,.c _)],_⟩ (Weak.regs ⟨U,U,U,U,T⟩)<|zDe 1 O (Nat) (fun k=>[(9,vI k)]) (fun k=>μ0) (fun k=>k<=l.length/\((l.take k).any p=false)) (fun k=>l.length-k) ⟨0,⟨by omega,O⟩,Weak.regs ⟨U,U,U,U,T⟩⟩ ?_
 rintro k ⟨hk,hp⟩
 refine G O<|qW O<|W<|zG<|zE O (fun c1=>?_) (fun c1=>?_)
 ·try simp only [sx] at c1
  obtain ⟨x,hx⟩:=qP l k (by omega)
  refine zI<|zG<|zN<|G O<|Y O<|zZ O el53 (by omega) (getm hx)<|zL agg55 zY O<|zS O O (yB O zr55) ?_
  rintro _ _ ⟨b1,rfl,rfl⟩
  refine Y O<|N 0 sz55 O<|W<|zG<|zU _ (yC 0 O 6 _ PLe.ptr)<|zO O<|Y O<|zL agg55 zY O<|zS O O (zBj O O (hy x (zW hx)) ⟨U,O,T⟩) ?_
  rintro _ _ ⟨rfl,rfl⟩
  refine W<|zE O (fun c2=>?_) (fun c2=>?_)
  ·try simp only [sx] at c2
   refine G O<|Y O<|Y O<|W<|zJ<|zP O ?_
   exact ⟨by rw [zCx hx c2 hp],O⟩
  ·try simp only [sx] at c2
   refine zI<|zO O<|qB O ⟨by omega,by omega⟩<|Y O<|W ?_
   refine ⟨k+1,⟨by omega,zHd hx hp c2⟩,(by omega),Weak.regs ⟨U,U,U,U,T⟩⟩
 ·try simp only [sx] at c1
  refine qE<|G O<|Y O<|W<|zJ<|zP O ?_
  rw [qS (by omega)] at hp
  exact ⟨by rw [zBm hp],O⟩
theorem cse_Merge_1 (b:Nat) (q:Pg) (x:ByteArray×ByteArray) (ho:q.Outs.length<=1000000):
    Con cfg 51 [.agg (pairC x),.c (.lit (.pointer (some ⟨b,0,none⟩)))] [E.row b 27 q.cells] fun r μ'=>r=vB (!hasB q.Outs x.2)/\μ'=[E.row b 27 q.cells]:=by
 refine Con.drop<|zR Tryz.func51 O Tryz.ntmps51 Tryz.results51 O ?_
 intro z hz
 refine G O<|zS O O (qG O O) ?_
 rintro _ _ ⟨b1,rfl,rfl⟩
 refine Y O<|W<|G O<|zD O zGg<|zH zBq (J 1 O) O<|zX O (det_arr_lit O ar55 O O (by decide) (by decide))<|zH one9 (J 0 O) O<|qK O ok52 (wH q.Outs x.2 (by omega)) ⟨U,O,U,O,T⟩<|wD O<|Y O<|W<|zU _ (Weak.mem [false,true] O)<|zJ<|zP O ?_
 first|exact ⟨rfl,[],rfl⟩|exact ⟨rfl,[_],rfl⟩|exact ⟨rfl,[_,_],rfl⟩|exact ⟨rfl,[_,_,_],rfl⟩|exact ⟨rfl,[_,_,_,_],rfl⟩|exact ⟨rfl,[_,_,_,_,_],rfl⟩
theorem cse_Merge (p:Pg) (j:Nat) (hX:p.Xt j) (hj:j<=64):
    Pur cfg 18 [vPg p] (.tup [vPg (mrgP p).1,vI ((mrgP p).2:Nat)]):=by
 refine zR Tryz.func18 O Tryz.ntmps18 Tryz.results18 O ?_
 intro z hz
 have hP:=hX.ok hj
 have hdl:=hX.defs
 refine G O<|zS O O (qG O O) ?_
 rintro _ _ ⟨b1,rfl,rfl⟩
 refine zS O O (qD [some 1,some 3,some 7,some 22,some 1] O zr27 O) ?_
 rintro _ _ ⟨b2,rfl,rfl⟩
 refine Y O<|W<|G O<|zL wC (J 1 O) O<|qK O ok37 (zCk p (pgOkC hP)) ⟨U,O,T⟩<|zS O O (qD [some 1,some 3,some 7,some 22,some 1] O zr27 O) ?_
 rintro _ _ ⟨b3,rfl,rfl⟩
 refine N 0 sz27 O<|W<|G O<|Y O<|W<|zN<|zU ⟨[(5,.c _),(2,.c _),(4,.c _)],[_,_]⟩ (Weak.mk [true,true,false] ⟨U,U,U,T⟩ O)<|qA 1 1 O O (Nat×Pg) (fun ⟨n,q⟩=>[(5,vI n)]) (fun ⟨n,q⟩=>[E.row b3 27 q.cells]) (fun ⟨n,q⟩=>q.Xt j/\mrgP p=((mrgP q).1,(mrgP q).2+n)/\q.Defs.length+n=p.Defs.length) (fun ⟨n,q⟩=>q.Defs.length) ⟨⟨0,p⟩,⟨hX,O,O⟩,Weak.mk [true,true] ⟨U,U,U,T⟩ O⟩ ?_
 rintro ⟨n,q⟩ ⟨hXq,hq,hql⟩
 refine zN<|G O<|zL wC (J 0 O) O<|qK O ok16 (OwnR.pur (cse_Duplicates q j hXq hj)) ⟨U,O,T⟩<|Y O<|W<|G O<|Y O<|zX O (zFd O O O O O)<|zX O (zAu [0] O ok50 (cse_index_pr (prsV q) (fun x=> !hasB q.Outs x.2) (by have:=prs_len q;omega) _ _ (fun x hx=>FnCon.of_con (first:=[]) (cap:=[.lit (.pointer (some ⟨b3,0,none⟩))]) ok51 (cse_Merge_1 b3 q x (by have:=hXq.outs;omega)))) ⟨U,O,U,O,T⟩ O)<|Y O<|W<|zG<|G O<|Y O<|qW O<|W<|zE O (fun c1=>?_) (fun c1=>?_)
 ·try simp only [sx] at c1
  have hE:=mrg_stop (p:=p) hq (find_no8 (idx_lt c1))
  refine G O<|zL wC (J 0 O) O<|qK O ok37 (zCk q (pgOkC (hXq.ok hj))) ⟨U,O,T⟩<|Y O<|N 1 sz27 O<|Y O<|W<|zJ<|fin2 (qF wC O (J 1 O) O) (v O) ?_
  rw [hE];rfl
 ·try simp only [sx] at c1
  obtain ⟨i,z_,hi,hci,hhit,hbef⟩:=idx_le (show 0<=idxOf (fun x:ByteArray×ByteArray=> !hasB q.Outs x.2) (prsV q) by omega)
  rw [hi]
  have hil:=zEz hci
  have hpk:pckV q=some z_:=find_at8 hci hhit hbef
  have hpl:=prs_len q
  refine zI<|G O<|Y O<|qV _ (yH 63 22)<|W<|zG<|G O<|zD O yZ<|zH wL (J 1 O) O<|zV O el25<|Y O<|W<|zN<|zU ⟨[(26,.c _),(8,.c _),(2,.c _),(4,.c _),(5,.c _),(6,.c _),(7,.c _),(24,.c _),(25,.c _)],[_,_,_]⟩ (Weak.mk [true,true,true] ⟨U,U,U,U,U,U,U,U,U,T⟩ O)<|qA 2 1 O O (Nat×Value) (fun ⟨k,sw⟩=>[(26,vI k),(8,.c (.lit sw))]) (fun ⟨k,sw⟩=>[E.vec sw 63 22 ((mrgK q z_ k).map Df.cells)]) (fun ⟨k,sw⟩=>k<=q.Defs.length) (fun ⟨k,sw⟩=>q.Defs.length-k) ⟨⟨0,(.slice none 0 0)⟩,(by omega),Weak.mk [true,true,true] ⟨U,U,U,U,U,U,U,U,U,T⟩ O⟩ ?_
  rintro ⟨k,sw⟩ hk
  show AWP _ _ _ _ _ ⟨[(26,vI k),(8,.c (.lit sw))]++_,[E.vec sw 63 22 ((mrgK q z_ k).map Df.cells)]++_⟩
  refine G O<|qW O<|W<|zG<|zE O (fun c2=>?_) (fun c2=>?_)
  ·try simp only [sx] at c2
   obtain ⟨d,hd⟩:=qP q.Defs k (by omega)
   have hmk:=mrgK_len q z_ k
   refine zI<|zG<|zN<|G O<|zZ O el25 (by omega) (getm hd)<|zL wM zY O<|zS O O (qD [none,none,none,none,none,none,some 3,some 3,none,none,none,none,none,none,none,none,none,none,none,some 2,some 4,some 13] O zr63 O) ?_
   rintro _ _ ⟨b5,rfl,rfl⟩
   refine N 0 sz63 O<|W<|zG<|qY 8 mixed (by kernel_rfl) O O<|zM O O (zF O zGf O)<|zM O O (zK O one9 O (J 0 O) O)<|zM O O (zQ O O)<|zM O O (zQ O O)<|zM O O (qJ O el53 O O (by omega) (getm hci))<|zM O O (zIi O ar55 O O (by decide) (by decide))<|zM O O (zK O one9 O zY O)<|zM O O (zCz O O O)<|yT<|W<|zE O (fun c3=>?_) (fun c3=>?_)
   ·try simp only [sx] at c3
    have hmg:=mrgK_yes (q:=z_) hd c3
    refine zG<|qY 14 mixed (by kernel_rfl) O O<|zM O O (zF O zBx O)<|zM O O (zT O qZ O (J 0 O) O)<|zM O O (zQ O O)<|zM O O (zQ O O)<|zM O O (qJ O el53 O O (by omega) (getm hci))<|zM O O (zIi O ar55 O O (by decide) (by decide))<|zM O O (zK O one9 O zY O)<|zM O O (zQ O O)<|zM O O (zQ O O)<|zM O O (qJ O el53 O O (by omega) (getm hci))<|zM O O (zIi O ar55 O O (by decide) (by decide))<|zM O O (zK O one9 O zY O)<|zM O O (qH O ok53 (cse_redirect z_.2 z_.1 d.Body (by have:=(hXq.ds d (zW hd)).wt;omega)) ⟨U,O,U,O,U,O,T⟩)<|zM O O (zF O zBx O)<|yT<|N 0 sz44 O<|W<|zO O<|Y O<|zL wM (J 0 O) O<|qX O el25 zr63<|zS O O (qO 1 O el25 O O O (by simp only [List.length_map,List.length_append,List.length_cons,List.length_nil,List.length_take,List.length_drop];omega) (by simp only [List.length_map,List.length_append,List.length_cons,List.length_nil,List.length_take,List.length_drop];omega)) ?_
    rintro _ _ ⟨sv6,rfl,rfl⟩
    refine Y O<|W<|zO O<|qB O ⟨by omega,by omega⟩<|Y O<|W ?_
    refine ⟨⟨k+1,sv6⟩,(by omega),(by show q.Defs.length-(k+1)<q.Defs.length-k;omega),Weak.mk [false,true,true,true] ⟨U,U,U,U,U,U,U,U,U,T⟩ (by exact yX (by rw [hmg,List.map_append];rfl))⟩
   ·try simp only [sx] at c3
    have hmg:=mrgK_no (q:=z_) hd (by simpa using c3)
    refine zI<|zO O<|qB O ⟨by omega,by omega⟩<|Y O<|W ?_
    refine ⟨⟨k+1,sw⟩,(by omega),(by show q.Defs.length-(k+1)<q.Defs.length-k;omega),Weak.mk [false,true,true,true] ⟨U,U,U,U,U,U,U,U,U,T⟩ (by exact yX (by rw [hmg]))⟩
  ·try simp only [sx] at c2
   rw [mrgK_end (p:=q) (q:=z_) (k:=k) (by omega)]
   refine zU _ (yJ 0 O (regs':=[(8,_)]) (μ':=[_,_]) ⟨FLe.sl,T⟩ ⟨EFle.refl _,EFle.refl _,T⟩)<|qE<|G O<|Y O<|zD O yZ<|N 0 sz25 O<|W<|zO O<|Y O<|qB O ⟨by omega,by omega⟩<|Y O<|W ?_
   refine ⟨⟨n+1,mrgS q z_⟩,⟨hXq.mrg z_,mrg_step (p:=p) hq hpk,by have:=mrgS_len hpk;omega⟩,(by have:=mrgS_len hpk;show (mrgS q z_).Defs.length<q.Defs.length;omega),Weak.mk [true,true] ⟨U,U,U,T⟩ O⟩
end Go.W
