/-
  Walks: what functions of the program compute. Printed by wip/gen/mk2.py.
  Conditions: none.
-/
import Derived.Test.YtgfomfnjionbeaaGreatDoorGL
import Derived.Test.YtgfomfnjionbeaaGreatDoorSortL
set_option linter.unusedSimpArgs false
set_option linter.unusedVariables false
set_option maxRecDepth 10000
namespace Go.W
open Go Go.Eng Go.Proofs Go.L41 Go.Br
attribute [local irreducible] AWP RWP TD finQ
theorem ok30:callOk Tryz.prog 30=true:=by kernel_rfl
theorem ok72:callOk Tryz.prog 72=true:=by kernel_rfl
theorem ok133:callOk Tryz.prog 133=true:=by kernel_rfl
theorem zFx (A Bn:List ByteArray) (mb:Nat) (m:SmM) (hm:∀s,(mget m s).getD s=swpB A Bn s) (hA:A.Nodup) (hB:Bn.Nodup) (hAB:A.length=Bn.length) (l:Lf) (hl:l.L.length<=4294967296) (hs:swpOk A Bn l):
    Con cfg 72 [vLin l,.c (.lit (.map (some mb)))] [E.blk mb (MapR vS m)] fun r μ'=>r=vLin (renF A Bn l)/\μ'=[E.blk mb (MapR vS m)]:=by
 refine Con.drop<|zW Tryz.func72 O Tryz.ntmps72 Tryz.results72 O ?_
 intro z hz
 refine Y O<|zZ O O (qO O O) ?_
 rintro _ _ ⟨b1,rfl,rfl⟩
 refine zZ O O (qF [none,some 2] O W O) ?_
 rintro _ _ ⟨b2,rfl,rfl⟩
 refine zA<|Y O<|zD O zFk<|zI one2 (J 1 O) O<|yF O W pl59<|zZ O O (qX O W) ?_
 rintro _ _ ⟨b3,rfl,rfl⟩
 refine D 0 sz59 O<|zA<|zH<|Y O<|yK _ (kI 139 2)<|zD O zAe<|zI zEg (J 3 O) O<|zR O (zIp O U O)<|G O<|zA<|zT<|zU ⟨[(16,.c _),(1,.c _),(4,.c _),(5,.c _),(14,.c _),(15,.c _)],[_,_,_,_]⟩ (Weak.mk [true,true,true,false,true] ⟨zB,zB,zB,zB,zB,zB,T⟩ O)<|qJ 1 2 O O (Nat×Value) (fun ⟨k,sv⟩=>[(16,vI k)]) (fun ⟨k,sv⟩=>[E.vec sv 139 2 (((l.L.take k).map (fun x:Mono=>(⟨swpB A Bn x.Name,x.By⟩:Mono))).map Mono.cells),E.row b3 59 [cI l.K,.lit sv]]) (fun ⟨k,sv⟩=>k<=l.L.length) (fun ⟨k,sv⟩=>l.L.length-k) ⟨⟨0,(.slice none 0 0)⟩,(by omega),Weak.mk [true,true,true,true] ⟨zB,zB,zB,zB,zB,zB,T⟩ O⟩ ?_
 rintro ⟨k,sv⟩ hk
 show AWP _ _ _ _ _ ⟨[(16,vI k)]++_,[E.vec sv 139 2 (((l.L.take k).map (fun x:Mono=>(⟨swpB A Bn x.Name,x.By⟩:Mono))).map Mono.cells),E.row b3 59 [cI l.K,.lit sv]]++_⟩
 refine Y O<|yB O<|zA<|zH<|zE O (fun c1=>?_) (fun c1=>?_)
 ·try simp only [sx] at c1
  obtain ⟨x,hx⟩:=yD l.L k (by omega)
  refine zF<|zH<|zT<|Y O<|qD O U (by omega) (getm hx)<|zM zEf qH O<|zZ O O (qX O zEr) ?_
  rintro _ _ ⟨b4,rfl,rfl⟩
  refine D 0 sz139 O<|zA<|zH<|Y O<|G O<|zD O wS<|zI one9 (J 0 O) O<|zR O (det_lookup_ok 4 (bs []) O sm83 O O O (fun _ _=>CRep.lit _ O))<|qV O<|yI O<|yI O<|G O<|G O<|zA<|Y O<|G O<|zA<|zE O (fun c2=>?_) (fun c2=>?_)
  ·try simp only [sx] at c2
   have hr:(mget m x.Name).getD (bs [])=swpB A Bn x.Name:=by rw [←hm];cases h9:mget m x.Name with|none=>rw [h9] at c2;cases c2|some v=>rfl
   refine zP O<|G O<|zD O wS<|D 0 sz9 O<|zA<|zP O<|zD O zAe<|zI zEg (J 2 O) O<|zM zEf (J 0 O) O<|zR O (qS O U zEr O O O O)<|zZ O O (yH 1 O U O O O (by simp only [List.length_map,List.length_append,List.length_cons,List.length_nil,List.length_take,List.length_drop];omega) (by simp only [List.length_map,List.length_append,List.length_cons,List.length_nil,List.length_take,List.length_drop];omega)) ?_
   rintro _ _ ⟨sv5,rfl,rfl⟩
   refine zD O zAe<|D 2 sz57 O<|zA<|zP O<|qM O ⟨by omega,by omega⟩<|G O<|zA ?_
   refine ⟨⟨k+1,sv5⟩,(by omega),(by show l.L.length-(k+1)<l.L.length-k;omega),Weak.mk [false,true,true,true,true] ⟨zB,zB,zB,zB,zB,zB,T⟩ (by exact zKn (by rw [qW hx,List.map_append,List.map_append];show _=_++[[cS (swpB A Bn x.Name),cI x.By]];rw [←hr];rfl))⟩
  ·try simp only [sx] at c2
   have hr:x.Name=swpB A Bn x.Name:=by rw [←hm];cases h9:mget m x.Name with|none=>rfl|some v=>rw [h9] at c2;cases c2
   refine zF<|zP O<|zD O zAe<|zI zEg (J 2 O) O<|zM zEf (J 0 O) O<|zR O (qS O U zEr O O O O)<|zZ O O (yH 1 O U O O O (by simp only [List.length_map,List.length_append,List.length_cons,List.length_nil,List.length_take,List.length_drop];omega) (by simp only [List.length_map,List.length_append,List.length_cons,List.length_nil,List.length_take,List.length_drop];omega)) ?_
   rintro _ _ ⟨sv6,rfl,rfl⟩
   refine zD O zAe<|D 2 sz57 O<|zA<|zP O<|qM O ⟨by omega,by omega⟩<|G O<|zA ?_
   refine ⟨⟨k+1,sv6⟩,(by omega),(by show l.L.length-(k+1)<l.L.length-k;omega),Weak.mk [false,true,true,true,true] ⟨zB,zB,zB,zB,zB,zB,T⟩ (by exact zKn (by rw [qW hx,List.map_append,List.map_append];show _=_++[[cS (swpB A Bn x.Name),cI x.By]];rw [←hr];rfl))⟩
 ·try simp only [sx] at c1
  rw [yC (l:=l.L) (k:=k) (by omega)]
  refine qP<|Y O<|zD O zAe<|zI zEg (J 1 O) O<|zR O (yQ [0] O ok133 (sortM_con sv (l.L.map (fun x:Mono=>(⟨swpB A Bn x.Name,x.By⟩:Mono))) (by rw [List.length_map];exact hl) (ren_nodup hA hB hAB hs)) ⟨zB,O,zB,O,T⟩ O)<|yK _ (yJ 0 O (regs':=[(38,_)]) (μ':=[_,_,_]) ⟨FLe.sl,T⟩ ⟨EFle.row (ds:=[_,_]) ⟨.inl O,.inr ⟨O,O⟩,T⟩,EFle.refl _,EFle.refl _,T⟩)<|zA<|Y O<|zM kE (J 0 O) O<|D 1 sz59 O<|zA<|zU _ (Weak.mem [false,true,true] O)<|zG<|fin1 (zY kE O (J 0 O) O) ?_
  exact s5
theorem zMk (A Bn:List ByteArray) (mb:Nat) (m:SmM) (hm:∀s,(mget m s).getD s=swpB A Bn s) (hA:A.Nodup) (hB:Bn.Nodup) (hAB:A.length=Bn.length) (e:Ex) (ih:∀a,a∈e.Args->a.wt<=2000000->a.allF (swpOk A Bn)->Con cfg 30 [vE a,.c (.lit (.map (some mb)))] [E.blk mb (MapR vS m)] fun r μ'=>r=vE (gEx (renF A Bn) a)/\μ'=[E.blk mb (MapR vS m)]) (he:e.wt<=2000000) (hs:e.allF (swpOk A Bn)):
    Con cfg 30 [vE e,.c (.lit (.map (some mb)))] [E.blk mb (MapR vS m)] fun r μ'=>r=vE (gEx (renF A Bn) e)/\μ'=[E.blk mb (MapR vS m)]:=by
 refine Con.drop<|zW Tryz.func30 O Tryz.ntmps30 Tryz.results30 O ?_
 intro z hz
 have hew:=Ex.wt_eq e
 obtain ⟨hel,hei,hea⟩:=e.parts he
 have hsI:∀x,x∈e.Idx->swpOk A Bn x.Lin/\∀l,l∈x.At->swpOk A Bn l:=fun x hx=>⟨Ex.allF_ix hs hx,fun l hl=>Ex.allF_at hs hx hl⟩
 refine Y O<|zZ O O (qO O O) ?_
 rintro _ _ ⟨b1,rfl,rfl⟩
 refine zZ O O (qF [none,none,none,none,none,none,none,none,none,none,some 2,some 4,some 13] O zr62 O) ?_
 rintro _ _ ⟨b2,rfl,rfl⟩
 refine zA<|Y O<|zD O zGp<|zM kE (J 1 O) O<|G O<|zR O (qY [2] O ok72 (zFx A Bn mb m hm hA hB hAB e.Lin (by omega) (Ex.allF_lin hs)) ⟨zB,O,zB,O,T⟩ O)<|zD O zGp<|D 1 sz59 O<|zA<|Y O<|G O<|yK _ (kI 93 4)<|zA<|zH<|Y O<|zD O zAt<|zI zBr (J 2 O) O<|zR O (zIp O el52 O)<|G O<|zA<|zT<|zU ⟨[(22,.c _),(5,.c _),(1,.c _),(2,.c _),(4,.c _),(20,.c _),(21,.c _)],[_,_,_,_]⟩ (Weak.mk [true,true,true,true] ⟨zB,zB,zB,zB,zB,zB,zB,T⟩ O)<|qJ 2 1 O O (Nat×Value) (fun ⟨k,sv⟩=>[(22,vI k),(5,.c (.lit sv))]) (fun ⟨k,sv⟩=>[E.vec sv 93 4 (((e.Idx.take k).map (gIx (renF A Bn))).map Ix.cells)]) (fun ⟨k,sv⟩=>k<=e.Idx.length) (fun ⟨k,sv⟩=>e.Idx.length-k) ⟨⟨0,(.slice none 0 0)⟩,(by omega),Weak.mk [true,true,true,true] ⟨zB,zB,zB,zB,zB,zB,zB,T⟩ O⟩ ?_
 rintro ⟨k,sv⟩ hk
 show AWP _ _ _ _ _ ⟨[(22,vI k),(5,.c (.lit sv))]++_,[E.vec sv 93 4 (((e.Idx.take k).map (gIx (renF A Bn))).map Ix.cells)]++_⟩
 refine Y O<|yB O<|zA<|zH<|zE O (fun c1=>?_) (fun c1=>?_)
 ·try simp only [sx] at c1
  obtain ⟨x,hx⟩:=yD e.Idx k (by omega)
  have hxw:=zDb (qC hx)
  rw [Ix.wt] at hxw
  refine zF<|zH<|zT<|Y O<|qD O el52 (by omega) (getm hx)<|zM zLp qH O<|zZ O O (qF [none,some 2,none,some 2] O zr93 O) ?_
  rintro _ _ ⟨b4,rfl,rfl⟩
  refine D 0 sz93 O<|zA<|zH<|yP 8 1 [⟨0,.q []⟩,⟨1,.q [1]⟩,⟨2,.q []⟩,⟨3,.q [5]⟩,⟨4,.q []⟩,⟨5,.q [1]⟩,⟨6,.q []⟩,⟨7,.f 0⟩] mixed (by kernel_rfl) (by kernel_rfl) O O O<|zO O<|zO O<|zO O<|zO O<|zO O<|zO O<|zO O<|zKt O O (zAh (qX O zr93)) ⟨_,_,0,O,O⟩<|wR<|zX O (by decide) O O (zJ O zEl O)<|zX O (by decide) O O (qA O kE O (J 0 O) O)<|zX O (by decide) O O (zS O O)<|zX O (by decide) O O (qY [0] O ok72 (zFx A Bn mb m hm hA hB hAB x.Lin (by omega) (hsI x (qC hx)).1) ⟨zB,O,zB,O,T⟩ O)<|zX O (by decide) O O (zJ O zJd O)<|zX O (by decide) O O (zK O one9 O (J 0 O) O)<|zX O (by decide) O O (zBl O zr93 pl93 O)<|zKa O O ?_
  rintro _ _ ⟨b5,rfl,rfl⟩
  refine wQ O<|D 0 sz93 O<|zA<|zH<|Y O<|yK _ (kI 59 2)<|zD O zBj<|zI zEt (J 2 O) O<|qB O el72<|G O<|zA<|zT<|zU ⟨[(36,.c _),(1,.c _),(2,.c _),(4,.c _),(5,.c _),(8,.c _),(20,.c _),(21,.c _),(22,.c _),(34,.c _),(35,.c _)],[_,_,_,_,_,_]⟩ (Weak.mk [true,true,false,true,true,true,true] ⟨zB,zB,zB,zB,zB,zB,zB,zB,zB,zB,zB,T⟩ O)<|qJ 1 2 O O (Nat×Value) (fun ⟨j,sw⟩=>[(36,vI j)]) (fun ⟨j,sw⟩=>[E.vec sw 59 2 (((x.At.take j).map (renF A Bn)).map Lf.cells),E.row b5 93 [cI (renF A Bn x.Lin).K,.sl 2 ((renF A Bn x.Lin).L.map Mono.cells),cS x.From,.lit sw]]) (fun ⟨j,sw⟩=>j<=x.At.length) (fun ⟨j,sw⟩=>x.At.length-j) ⟨⟨0,(.slice none 0 0)⟩,(by omega),Weak.mk [true,true,true,true,true,true] ⟨zB,zB,zB,zB,zB,zB,zB,zB,zB,zB,zB,T⟩ O⟩ ?_
  rintro ⟨j,sw⟩ hj
  show AWP _ _ _ _ _ ⟨[(36,vI j)]++_,[E.vec sw 59 2 (((x.At.take j).map (renF A Bn)).map Lf.cells),E.row b5 93 [cI (renF A Bn x.Lin).K,.sl 2 ((renF A Bn x.Lin).L.map Mono.cells),cS x.From,.lit sw]]++_⟩
  refine Y O<|yB O<|zA<|zH<|zE O (fun c2=>?_) (fun c2=>?_)
  ·try simp only [sx] at c2
   obtain ⟨y,hy⟩:=yD x.At j (by omega)
   have hyw:=zCo (qC hy)
   refine zF<|zH<|zT<|Y O<|qD O el72 (by omega) (getm hy)<|zM kE qH O<|zZ O O (qF [none,some 2] O W O) ?_
   rintro _ _ ⟨b6,rfl,rfl⟩
   refine D 0 sz59 O<|zA<|yP 6 0 [⟨0,.q []⟩,⟨1,.q [2]⟩,⟨2,.q [0]⟩,⟨3,.q []⟩,⟨4,.q [6]⟩,⟨5,.q []⟩] mixed (by kernel_rfl) (by kernel_rfl) O O O<|zO O<|zO O<|zO O<|zO O<|zO O<|zO O<|wR<|zX O (by decide) O O (zJ O zBj O)<|zX O (by decide) O O (zK O zEt O (J 0 O) O)<|zX O (by decide) O O (qA O kE O (J 0 O) O)<|zX O (by decide) O O (zS O O)<|zX O (by decide) O O (qY [0] O ok72 (zFx A Bn mb m hm hA hB hAB y (by omega) ((hsI x (qC hx)).2 y (qC hy))) ⟨zB,O,zB,O,T⟩ O)<|zX O (by decide) O O (qS O el72 W O O O O)<|wQ O<|zZ O O (yH 1 O el72 O O O (by simp only [List.length_map,List.length_append,List.length_cons,List.length_nil,List.length_take,List.length_drop];omega) (by simp only [List.length_map,List.length_append,List.length_cons,List.length_nil,List.length_take,List.length_drop];omega)) ?_
   rintro _ _ ⟨sv7,rfl,rfl⟩
   refine zD O zBj<|D 2 sz72 O<|zA<|zP O<|qM O ⟨by omega,by omega⟩<|G O<|zA ?_
   refine ⟨⟨j+1,sv7⟩,(by omega),(by show x.At.length-(j+1)<x.At.length-j;omega),Weak.mk [false,true,true,true,true,true,true] ⟨zB,zB,zB,zB,zB,zB,zB,zB,zB,zB,zB,T⟩ (by exact zKn (by rw [qW hy,List.map_append,List.map_append];rfl))⟩
  ·try simp only [sx] at c2
   rw [yC (l:=x.At) (k:=j) (by omega)]
   refine zU _ (yJ 0 O (regs':=[]) (μ':=[_,_,_,_,_]) T ⟨EFle.row (ds:=[_,_,_,_]) ⟨.inl O,.inl O,.inl O,.inr ⟨O,O⟩,T⟩,EFle.refl _,EFle.refl _,EFle.refl _,EFle.refl _,T⟩)<|qP<|zP O<|G O<|zM zLp (J 0 O) O<|zR O (qS O el52 zr93 O O O O)<|zZ O O (yH 1 O el52 O O O (by simp only [List.length_map,List.length_append,List.length_cons,List.length_nil,List.length_take,List.length_drop];omega) (by simp only [List.length_map,List.length_append,List.length_cons,List.length_nil,List.length_take,List.length_drop];omega)) ?_
   rintro _ _ ⟨sv8,rfl,rfl⟩
   refine G O<|zA<|zP O<|qM O ⟨by omega,by omega⟩<|G O<|zA ?_
   refine ⟨⟨k+1,sv8⟩,(by omega),(by show e.Idx.length-(k+1)<e.Idx.length-k;omega),Weak.mk [false,true,true,true,true] ⟨zB,zB,zB,zB,zB,zB,zB,T⟩ (by exact mem1_eq (by rw [qW hx,List.map_append,List.map_append];rfl))⟩
 ·try simp only [sx] at c1
  rw [yC (l:=e.Idx) (k:=k) (by omega)]
  refine zU _ (yJ 0 O (regs':=[(5,_)]) (μ':=[_,_,_]) ⟨FLe.sl,T⟩ ⟨EFle.refl _,EFle.refl _,EFle.refl _,T⟩)<|qP<|Y O<|G O<|zD O zAt<|D 1 sz52 O<|zA<|Y O<|G O<|yK _ (kI 62 13)<|zA<|zH<|Y O<|zD O zCf<|zI zIw (J 2 O) O<|zR O (zIp O el60 O)<|G O<|zA<|zT<|zU ⟨[(59,.c _),(11,.c _),(1,.c _),(2,.c _),(4,.c _),(57,.c _),(58,.c _)],[_,_,_,_]⟩ (Weak.mk [true,true,true,true] ⟨zB,zB,zB,zB,zB,zB,zB,T⟩ O)<|qJ 2 1 O O (Nat×Value) (fun ⟨i,su⟩=>[(59,vI i),(11,.c (.lit su))]) (fun ⟨i,su⟩=>[E.vec su 62 13 (((e.Args.take i).map (gEx (renF A Bn))).map Ex.cells)]) (fun ⟨i,su⟩=>i<=e.Args.length) (fun ⟨i,su⟩=>e.Args.length-i) ⟨⟨0,(.slice none 0 0)⟩,(by omega),Weak.mk [true,true,true,true] ⟨zB,zB,zB,zB,zB,zB,zB,T⟩ O⟩ ?_
  rintro ⟨i,su⟩ hi
  show AWP _ _ _ _ _ ⟨[(59,vI i),(11,.c (.lit su))]++_,[E.vec su 62 13 (((e.Args.take i).map (gEx (renF A Bn))).map Ex.cells)]++_⟩
  refine Y O<|yB O<|zA<|zH<|zE O (fun c3=>?_) (fun c3=>?_)
  ·try simp only [sx] at c3
   obtain ⟨z_,hz_⟩:=yD e.Args i (by omega)
   refine zF<|zH<|zT<|Y O<|qD O el60 (by omega) (getmE hz_)<|zM kD qH O<|zZ O O (qF [none,none,none,none,none,none,none,none,none,none,some 2,some 4,some 13] O zr62 O) ?_
   rintro _ _ ⟨b10,rfl,rfl⟩
   refine D 0 sz62 O<|zA<|zP O<|G O<|zM kD (J 0 O) O<|G O<|zR O (qY [4] O ok30 (ih z_ (qC hz_) (by have:=Ex.arg_wt (qC hz_);omega) (Ex.allF_arg hs (qC hz_))) ⟨zB,O,zB,O,T⟩ O)<|zR O (qS O el60 zr62 O O O O)<|zZ O O (yH 1 O el60 O O O (by simp only [List.length_map,List.length_append,List.length_cons,List.length_nil,List.length_take,List.length_drop];omega) (by simp only [List.length_map,List.length_append,List.length_cons,List.length_nil,List.length_take,List.length_drop];omega)) ?_
   rintro _ _ ⟨sv11,rfl,rfl⟩
   refine G O<|zA<|zP O<|qM O ⟨by omega,by omega⟩<|G O<|zA ?_
   refine ⟨⟨i+1,sv11⟩,(by omega),(by show e.Args.length-(i+1)<e.Args.length-i;omega),Weak.mk [false,true,true,true,true] ⟨zB,zB,zB,zB,zB,zB,zB,T⟩ (by exact mem1_eq (by rw [qW hz_,List.map_append,List.map_append];simp only [List.map_cons,List.map_nil,Ex.cells_eq (gEx (renF A Bn) z_)];(try rfl)))⟩
  ·try simp only [sx] at c3
   rw [yC (l:=e.Args) (k:=i) (by omega)]
   refine zU _ (yJ 0 O (regs':=[(11,_)]) (μ':=[_,_,_]) ⟨FLe.sl,T⟩ ⟨EFle.refl _,EFle.refl _,EFle.refl _,T⟩)<|qP<|Y O<|G O<|zD O zCf<|D 1 sz60 O<|zA<|Y O<|zM kD (J 1 O) O<|D 0 sz62 O<|zA<|zU _ (Weak.mem [true,false,true] O)<|zG<|fin1 (zY kD O (J 0 O) O) ?_
   have hG:=gEx_eq (renF A Bn) e
   first|exact ⟨congrArg vE hG.symm,[],rfl⟩|exact ⟨congrArg vE hG.symm,[_],rfl⟩|exact ⟨congrArg vE hG.symm,[_,_],rfl⟩|exact ⟨congrArg vE hG.symm,[_,_,_],rfl⟩|exact ⟨congrArg vE hG.symm,[_,_,_,_],rfl⟩|exact ⟨congrArg vE hG.symm,[_,_,_,_,_],rfl⟩
theorem lower_rename (A Bn:List ByteArray) (mb:Nat) (m:SmM) (hm:∀s,(mget m s).getD s=swpB A Bn s) (hA:A.Nodup) (hB:Bn.Nodup) (hAB:A.length=Bn.length) (e:Ex):e.wt<=2000000->e.allF (swpOk A Bn)->Con cfg 30 [vE e,.c (.lit (.map (some mb)))] [E.blk mb (MapR vS m)] fun r μ'=>r=vE (gEx (renF A Bn) e)/\μ'=[E.blk mb (MapR vS m)]:=by
  induction e using Ex.ind with
  |_ e ih=>exact fun he hs=>zMk A Bn mb m hm hA hB hAB e ih he hs
end Go.W
