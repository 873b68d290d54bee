/-
  What functions compute.
  Conditions: none.
-/
import Derived.Test.YtgfomfnjionbeaaGreatDoorGL
import Derived.Test.YtgfomfnjionbeaaGreatDoorSortL
set_option linter.unusedSimpArgs false
set_option linter.unusedVariables false
set_option maxRecDepth 10000
namespace Go.W
open Go Go.Eng Go.Proofs Go.L41 Go.Br
attribute [local irreducible] AWP RWP TD fQ
theorem ok30:bA Tryz.prog 30=true:=by kernel_rfl
theorem ok72:bA Tryz.prog 72=true:=by kernel_rfl
theorem ok133:bA Tryz.prog 133=true:=by kernel_rfl
theorem zHl (A Bn:List ByteArray) (mb:Nat) (m:SmM) (hm:∀s,(fD m s).getD s=lW A Bn s) (hA:A.Nodup) (hB:Bn.Nodup) (hAB:A.length=Bn.length) (l:Lf) (hl:l.L.length<=4294967296) (hs:pV A Bn l):
    Con cfg 72 [dP l,.c (.lit (.map (some mb)))] [E.blk mb (MapR vS m)] fun r μ'=>r=dP (jF A Bn l)/\μ'=[E.blk mb (MapR vS m)]:=by
 refine Con.drop<|zV Tryz.func72 O Tryz.ntmps72 Tryz.results72 O ?_
 intro z hz
 refine Y O<|zY O O (qL O O) ?_
 rintro _ _ ⟨b1,rfl,rfl⟩
 refine zY O O (qG [none,some 2] O zr59 O) ?_
 rintro _ _ ⟨b2,rfl,rfl⟩
 refine zA<|Y O<|zD O zEd<|zG W (J 1 O) O<|yI O zr59 pl59<|zY O O (yC O zr59) ?_
 rintro _ _ ⟨b3,rfl,rfl⟩
 refine D 0 sz59 O<|zA<|zH<|Y O<|yT _ (kO 139 2)<|zD O wC<|zG zBe (J 3 O) O<|zW O (zKl O U O)<|G O<|zA<|zR<|zU ⟨[(16,.c _),(1,.c _),(4,.c _),(5,.c _),(14,.c _),(15,.c _)],[_,_,_,_]⟩ (Weak.mk [true,true,true,false,true] ⟨zB,zB,zB,zB,zB,zB,T⟩ O)<|qF 1 2 O O (Nat×Value) (fun ⟨k,sv⟩=>[(16,vI k)]) (fun ⟨k,sv⟩=>[E.vec sv 139 2 (((l.L.take k).map (fun x:Mono=>(⟨lW A Bn x.Name,x.By⟩:Mono))).map Mono.cells),E.row b3 59 [cI l.K,.lit sv]]) (fun ⟨k,sv⟩=>k<=l.L.length) (fun ⟨k,sv⟩=>l.L.length-k) ⟨⟨0,(.slice none 0 0)⟩,zC,Weak.mk [true,true,true,true] ⟨zB,zB,zB,zB,zB,zB,T⟩ O⟩ ?_
 rintro ⟨k,sv⟩ hk
 show AWP _ _ _ _ _ ⟨[(16,vI k)]++_,[E.vec sv 139 2 (((l.L.take k).map (fun x:Mono=>(⟨lW A Bn x.Name,x.By⟩:Mono))).map Mono.cells),E.row b3 59 [cI l.K,.lit sv]]++_⟩
 refine Y O<|yA O<|zA<|zH<|zE O (fun c1=>?_) (fun c1=>?_)
 ·try simp only [sx] at c1
  obtain ⟨x,hx⟩:=qV l.L k zC
  refine zI<|zH<|zR<|Y O<|qE O U zC (getm hx)<|zM zEf qD O<|zY O O (yC O zGb) ?_
  rintro _ _ ⟨b4,rfl,rfl⟩
  refine D 0 sz139 O<|zA<|zH<|Y O<|G O<|zD O wV<|zG one9 (J 0 O) O<|zW O (det_lookup_ok 4 (bs []) O sm83 O O O (fun _ _=>CRep.lit _ O))<|qU O<|yK O<|yK O<|G O<|G O<|zA<|Y O<|G O<|zA<|zE O (fun c2=>?_) (fun c2=>?_)
  ·try simp only [sx] at c2
   have hr:(fD m x.Name).getD (bs [])=lW A Bn x.Name:=by rw [←hm];cases h9:fD m x.Name with|none=>rw [h9] at c2;cases c2|some v=>rfl
   refine zO O<|G O<|zD O wV<|D 0 sz9 O<|zA<|zO O<|zD O wC<|zG zBe (J 2 O) O<|zM zEf (J 0 O) O<|kA O U zGb<|zY O O (yH 1 O U O O O uE uE) ?_
   rintro _ _ ⟨sv5,rfl,rfl⟩
   refine zD O wC<|D 2 sz57 O<|zA<|zO O<|qH O ⟨zC,zC⟩<|G O<|zA ?_
   refine ⟨⟨k+1,sv5⟩,zC,(by show l.L.length-(k+1)<l.L.length-k;omega),Weak.mk [false,true,true,true,true] ⟨zB,zB,zB,zB,zB,zB,T⟩ (by exact zMo (by rw [yB hx,List.map_append,List.map_append];show _=_++[[cS (lW A Bn x.Name),cI x.By]];rw [←hr];rfl))⟩
  ·try simp only [sx] at c2
   have hr:x.Name=lW A Bn x.Name:=by rw [←hm];cases h9:fD m x.Name with|none=>rfl|some v=>rw [h9] at c2;cases c2
   refine zI<|zO O<|zD O wC<|zG zBe (J 2 O) O<|zM zEf (J 0 O) O<|kA O U zGb<|zY O O (yH 1 O U O O O uE uE) ?_
   rintro _ _ ⟨sv6,rfl,rfl⟩
   refine zD O wC<|D 2 sz57 O<|zA<|zO O<|qH O ⟨zC,zC⟩<|G O<|zA ?_
   refine ⟨⟨k+1,sv6⟩,zC,(by show l.L.length-(k+1)<l.L.length-k;omega),Weak.mk [false,true,true,true,true] ⟨zB,zB,zB,zB,zB,zB,T⟩ (by exact zMo (by rw [yB hx,List.map_append,List.map_append];show _=_++[[cS (lW A Bn x.Name),cI x.By]];rw [←hr];rfl))⟩
 ·try simp only [sx] at c1
  rw [yD (l:=l.L) (k:=k) zC]
  refine qM<|Y O<|zD O wC<|zG zBe (J 1 O) O<|zW O (yY [0] O ok133 (sortM_con sv (l.L.map (fun x:Mono=>(⟨lW A Bn x.Name,x.By⟩:Mono))) (by rw [List.length_map];exact hl) (ren_nodup hA hB hAB hs)) ⟨zB,O,zB,O,T⟩ O)<|yT _ (yO 0 O (regs':=[(38,_)]) (μ':=[_,_,_]) ⟨FLe.sl,T⟩ ⟨EFle.row (ds:=[_,_]) ⟨.inl O,.inr ⟨O,O⟩,T⟩,EFle.refl _,EFle.refl _,T⟩)<|zA<|Y O<|zM kD (J 0 O) O<|D 1 sz59 O<|zA<|zU _ (Weak.mem [false,true,true] O)<|zJ<|fin1 (zZ kD O (J 0 O) O) ?_
  exact s8
theorem zOp (A Bn:List ByteArray) (mb:Nat) (m:SmM) (hm:∀s,(fD m s).getD s=lW A Bn s) (hA:A.Nodup) (hB:Bn.Nodup) (hAB:A.length=Bn.length) (e:Ex) (ih:∀a,a∈e.Args->a.wt<=2000000->a.allF (pV A Bn)->Con cfg 30 [vE a,.c (.lit (.map (some mb)))] [E.blk mb (MapR vS m)] fun r μ'=>r=vE (gEx (jF A Bn) a)/\μ'=[E.blk mb (MapR vS m)]) (he:e.wt<=2000000) (hs:e.allF (pV A Bn)):
    Con cfg 30 [vE e,.c (.lit (.map (some mb)))] [E.blk mb (MapR vS m)] fun r μ'=>r=vE (gEx (jF A Bn) e)/\μ'=[E.blk mb (MapR vS m)]:=by
 refine Con.drop<|zV Tryz.func30 O Tryz.ntmps30 Tryz.results30 O ?_
 intro z hz
 have hew:=Ex.wt_eq e
 obtain ⟨hel,hei,hea⟩:=e.parts he
 have hsI:∀x,x∈e.Idx->pV A Bn x.Lin/\∀l,l∈x.At->pV A Bn l:=fun x hx=>⟨Ex.allF_ix hs hx,fun l hl=>Ex.allF_at hs hx hl⟩
 refine Y O<|zY O O (qL O O) ?_
 rintro _ _ ⟨b1,rfl,rfl⟩
 refine zY O O (qG [none,none,none,none,none,none,none,none,none,none,some 2,some 4,some 13] O zr62 O) ?_
 rintro _ _ ⟨b2,rfl,rfl⟩
 refine zA<|Y O<|zD O zDi<|zM kD (J 1 O) O<|G O<|zW O (yG [2] O ok72 (zHl A Bn mb m hm hA hB hAB e.Lin zC (Ex.allF_lin hs)) ⟨zB,O,zB,O,T⟩ O)<|zD O zDi<|D 1 sz59 O<|zA<|Y O<|G O<|yT _ (kO 93 4)<|zA<|zH<|Y O<|zD O kQ<|zG wG (J 2 O) O<|zW O (zKl O N O)<|G O<|zA<|zR<|zU ⟨[(22,.c _),(5,.c _),(1,.c _),(2,.c _),(4,.c _),(20,.c _),(21,.c _)],[_,_,_,_]⟩ (Weak.mk [true,true,true,true] ⟨zB,zB,zB,zB,zB,zB,zB,T⟩ O)<|qF 2 1 O O (Nat×Value) (fun ⟨k,sv⟩=>[(22,vI k),(5,.c (.lit sv))]) (fun ⟨k,sv⟩=>[E.vec sv 93 4 (((e.Idx.take k).map (gIx (jF A Bn))).map Ix.cells)]) (fun ⟨k,sv⟩=>k<=e.Idx.length) (fun ⟨k,sv⟩=>e.Idx.length-k) ⟨⟨0,(.slice none 0 0)⟩,zC,Weak.mk [true,true,true,true] ⟨zB,zB,zB,zB,zB,zB,zB,T⟩ O⟩ ?_
 rintro ⟨k,sv⟩ hk
 show AWP _ _ _ _ _ ⟨[(22,vI k),(5,.c (.lit sv))]++_,[E.vec sv 93 4 (((e.Idx.take k).map (gIx (jF A Bn))).map Ix.cells)]++_⟩
 refine Y O<|yA O<|zA<|zH<|zE O (fun c1=>?_) (fun c1=>?_)
 ·try simp only [sx] at c1
  obtain ⟨x,hx⟩:=qV e.Idx k zC
  have hxw:=zCh (qC hx)
  rw [Ix.wt] at hxw
  refine zI<|zH<|zR<|Y O<|qE O N zC (getm hx)<|zM zJx qD O<|zY O O (qG [none,some 2,none,some 2] O zr93 O) ?_
  rintro _ _ ⟨b4,rfl,rfl⟩
  refine D 0 sz93 O<|zA<|zH<|yS 8 1 [⟨0,.q []⟩,⟨1,.q [1]⟩,⟨2,.q []⟩,⟨3,.q [5]⟩,⟨4,.q []⟩,⟨5,.q [1]⟩,⟨6,.q []⟩,⟨7,.f 0⟩] mixed uC uC O O O<|zQ O<|zQ O<|zQ O<|zQ O<|zQ O<|zQ O<|zQ O<|zHn O O (zAf (yC O zr93)) ⟨_,_,0,O,O⟩<|wS<|zX O uA O O (zF O zCi O)<|zX O uA O O (qA O kD O (J 0 O) O)<|zX O uA O O (zP O O)<|zX O uA O O (yG [0] O ok72 (zHl A Bn mb m hm hA hB hAB x.Lin zC (hsI x (qC hx)).1) ⟨zB,O,zB,O,T⟩ O)<|zX O uA O O (zF O zDm O)<|zX O uA O O (zK O one9 O (J 0 O) O)<|zX O uA O O (zAz O zr93 pl93 O)<|zHc O O ?_
  rintro _ _ ⟨b5,rfl,rfl⟩
  refine wR O<|D 0 sz93 O<|zA<|zH<|Y O<|yT _ (kO 59 2)<|zD O zAg<|zG zCg (J 2 O) O<|qB O el72<|G O<|zA<|zR<|zU ⟨[(36,.c _),(1,.c _),(2,.c _),(4,.c _),(5,.c _),(8,.c _),(20,.c _),(21,.c _),(22,.c _),(34,.c _),(35,.c _)],[_,_,_,_,_,_]⟩ (Weak.mk [true,true,false,true,true,true,true] ⟨zB,zB,zB,zB,zB,zB,zB,zB,zB,zB,zB,T⟩ O)<|qF 1 2 O O (Nat×Value) (fun ⟨j,sw⟩=>[(36,vI j)]) (fun ⟨j,sw⟩=>[E.vec sw 59 2 (((x.At.take j).map (jF A Bn)).map Lf.cells),E.row b5 93 [cI (jF A Bn x.Lin).K,.sl 2 ((jF A Bn x.Lin).L.map Mono.cells),cS x.From,.lit sw]]) (fun ⟨j,sw⟩=>j<=x.At.length) (fun ⟨j,sw⟩=>x.At.length-j) ⟨⟨0,(.slice none 0 0)⟩,zC,Weak.mk [true,true,true,true,true,true] ⟨zB,zB,zB,zB,zB,zB,zB,zB,zB,zB,zB,T⟩ O⟩ ?_
  rintro ⟨j,sw⟩ hj
  show AWP _ _ _ _ _ ⟨[(36,vI j)]++_,[E.vec sw 59 2 (((x.At.take j).map (jF A Bn)).map Lf.cells),E.row b5 93 [cI (jF A Bn x.Lin).K,.sl 2 ((jF A Bn x.Lin).L.map Mono.cells),cS x.From,.lit sw]]++_⟩
  refine Y O<|yA O<|zA<|zH<|zE O (fun c2=>?_) (fun c2=>?_)
  ·try simp only [sx] at c2
   obtain ⟨y,hy⟩:=qV x.At j zC
   have hyw:=zBz (qC hy)
   refine zI<|zH<|zR<|Y O<|qE O el72 zC (getm hy)<|zM kD qD O<|zY O O (qG [none,some 2] O zr59 O) ?_
   rintro _ _ ⟨b6,rfl,rfl⟩
   refine D 0 sz59 O<|zA<|yS 6 0 [⟨0,.q []⟩,⟨1,.q [2]⟩,⟨2,.q [0]⟩,⟨3,.q []⟩,⟨4,.q [6]⟩,⟨5,.q []⟩] mixed uC uC O O O<|zQ O<|zQ O<|zQ O<|zQ O<|zQ O<|zQ O<|wS<|zX O uA O O (zF O zAg O)<|zX O uA O O (zK O zCg O (J 0 O) O)<|zX O uA O O (qA O kD O (J 0 O) O)<|zX O uA O O (zP O O)<|zX O uA O O (yG [0] O ok72 (zHl A Bn mb m hm hA hB hAB y zC ((hsI x (qC hx)).2 y (qC hy))) ⟨zB,O,zB,O,T⟩ O)<|zX O uA O O (wL O el72 zr59 O O O O)<|wR O<|zY O O (yH 1 O el72 O O O uE uE) ?_
   rintro _ _ ⟨sv7,rfl,rfl⟩
   refine zD O zAg<|D 2 sz72 O<|zA<|zO O<|qH O ⟨zC,zC⟩<|G O<|zA ?_
   refine ⟨⟨j+1,sv7⟩,zC,(by show x.At.length-(j+1)<x.At.length-j;omega),Weak.mk [false,true,true,true,true,true,true] ⟨zB,zB,zB,zB,zB,zB,zB,zB,zB,zB,zB,T⟩ (by exact zMo (by rw [yB hy,List.map_append,List.map_append];rfl))⟩
  ·try simp only [sx] at c2
   rw [yD (l:=x.At) (k:=j) zC]
   refine zU _ (yO 0 O (regs':=[]) (μ':=[_,_,_,_,_]) T ⟨EFle.row (ds:=[_,_,_,_]) ⟨.inl O,.inl O,.inl O,.inr ⟨O,O⟩,T⟩,EFle.refl _,EFle.refl _,EFle.refl _,EFle.refl _,T⟩)<|qM<|zO O<|G O<|zM zJx (J 0 O) O<|kA O N zr93<|zY O O (yH 1 O N O O O uE uE) ?_
   rintro _ _ ⟨sv8,rfl,rfl⟩
   refine G O<|zA<|zO O<|qH O ⟨zC,zC⟩<|G O<|zA ?_
   refine ⟨⟨k+1,sv8⟩,zC,(by show e.Idx.length-(k+1)<e.Idx.length-k;omega),Weak.mk [false,true,true,true,true] ⟨zB,zB,zB,zB,zB,zB,zB,T⟩ (by exact zHk (by rw [yB hx,List.map_append,List.map_append];rfl))⟩
 ·try simp only [sx] at c1
  rw [yD (l:=e.Idx) (k:=k) zC]
  refine zU _ (yO 0 O (regs':=[(5,_)]) (μ':=[_,_,_]) ⟨FLe.sl,T⟩ ⟨EFle.refl _,EFle.refl _,EFle.refl _,T⟩)<|qM<|Y O<|G O<|zD O kQ<|D 1 sz52 O<|zA<|Y O<|G O<|yT _ (kO 62 13)<|zA<|zH<|Y O<|zD O wP<|zG zBy (J 2 O) O<|zW O (zKl O el60 O)<|G O<|zA<|zR<|zU ⟨[(59,.c _),(11,.c _),(1,.c _),(2,.c _),(4,.c _),(57,.c _),(58,.c _)],[_,_,_,_]⟩ (Weak.mk [true,true,true,true] ⟨zB,zB,zB,zB,zB,zB,zB,T⟩ O)<|qF 2 1 O O (Nat×Value) (fun ⟨i,su⟩=>[(59,vI i),(11,.c (.lit su))]) (fun ⟨i,su⟩=>[E.vec su 62 13 (((e.Args.take i).map (gEx (jF A Bn))).map Ex.cells)]) (fun ⟨i,su⟩=>i<=e.Args.length) (fun ⟨i,su⟩=>e.Args.length-i) ⟨⟨0,(.slice none 0 0)⟩,zC,Weak.mk [true,true,true,true] ⟨zB,zB,zB,zB,zB,zB,zB,T⟩ O⟩ ?_
  rintro ⟨i,su⟩ hi
  show AWP _ _ _ _ _ ⟨[(59,vI i),(11,.c (.lit su))]++_,[E.vec su 62 13 (((e.Args.take i).map (gEx (jF A Bn))).map Ex.cells)]++_⟩
  refine Y O<|yA O<|zA<|zH<|zE O (fun c3=>?_) (fun c3=>?_)
  ·try simp only [sx] at c3
   obtain ⟨z_,hz_⟩:=qV e.Args i zC
   refine zI<|zH<|zR<|Y O<|qE O el60 zC (zGh hz_)<|zM yU qD O<|zY O O (qG [none,none,none,none,none,none,none,none,none,none,some 2,some 4,some 13] O zr62 O) ?_
   rintro _ _ ⟨b10,rfl,rfl⟩
   refine D 0 sz62 O<|zA<|zO O<|G O<|zM yU (J 0 O) O<|G O<|zW O (yG [4] O ok30 (ih z_ (qC hz_) (by have:=Ex.arg_wt (qC hz_);omega) (Ex.allF_arg hs (qC hz_))) ⟨zB,O,zB,O,T⟩ O)<|kA O el60 zr62<|zY O O (yH 1 O el60 O O O uE uE) ?_
   rintro _ _ ⟨sv11,rfl,rfl⟩
   refine G O<|zA<|zO O<|qH O ⟨zC,zC⟩<|G O<|zA ?_
   refine ⟨⟨i+1,sv11⟩,zC,(by show e.Args.length-(i+1)<e.Args.length-i;omega),Weak.mk [false,true,true,true,true] ⟨zB,zB,zB,zB,zB,zB,zB,T⟩ (by exact zHk (by rw [yB hz_,List.map_append,List.map_append];simp only [List.map_cons,List.map_nil,Ex.cells_eq (gEx (jF A Bn) z_)];(try rfl)))⟩
  ·try simp only [sx] at c3
   rw [yD (l:=e.Args) (k:=i) zC]
   refine zU _ (yO 0 O (regs':=[(11,_)]) (μ':=[_,_,_]) ⟨FLe.sl,T⟩ ⟨EFle.refl _,EFle.refl _,EFle.refl _,T⟩)<|qM<|Y O<|G O<|zD O wP<|D 1 sz60 O<|zA<|Y O<|zM yU (J 1 O) O<|D 0 sz62 O<|zA<|zU _ (Weak.mem [true,false,true] O)<|zJ<|fin1 (zZ yU O (J 0 O) O) ?_
   have hG:=gEx_eq (jF A Bn) e
   first|exact ⟨congrArg vE hG.symm,[],rfl⟩|exact ⟨congrArg vE hG.symm,[_],rfl⟩|exact ⟨congrArg vE hG.symm,[_,_],rfl⟩|exact ⟨congrArg vE hG.symm,[_,_,_],rfl⟩|exact ⟨congrArg vE hG.symm,[_,_,_,_],rfl⟩|exact ⟨congrArg vE hG.symm,[_,_,_,_,_],rfl⟩
theorem lower_rename (A Bn:List ByteArray) (mb:Nat) (m:SmM) (hm:∀s,(fD m s).getD s=lW A Bn s) (hA:A.Nodup) (hB:Bn.Nodup) (hAB:A.length=Bn.length) (e:Ex):e.wt<=2000000->e.allF (pV A Bn)->Con cfg 30 [vE e,.c (.lit (.map (some mb)))] [E.blk mb (MapR vS m)] fun r μ'=>r=vE (gEx (jF A Bn) e)/\μ'=[E.blk mb (MapR vS m)]:=by
  induction e using Ex.ind with
  |_ e ih=>exact fun he hs=>zOp A Bn mb m hm hA hB hAB e ih he hs
end Go.W
