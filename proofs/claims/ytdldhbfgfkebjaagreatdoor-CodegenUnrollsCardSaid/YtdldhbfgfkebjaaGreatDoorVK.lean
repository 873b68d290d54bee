/-
  What functions compute.
  Conditions: none.
-/
import Derived.Test.YtdldhbfgfkebjaaGreatDoorNF
import Derived.Test.YtdldhbfgfkebjaaGreatDoorEngZ
set_option linter.unusedSimpArgs false
set_option linter.unusedVariables false
set_option maxRecDepth 10000
namespace Go.W
open Go Go.Eng Go.Proofs Go.L41 Go.Br
attribute [local irreducible] AWP RWP TD fP
theorem ok88:bA Tryz.prog 88=true:=by kernel_rfl
theorem ok130:bA Tryz.prog 130=true:=by kernel_rfl
theorem pl54:dN Tryz.prog 54=some [(0,1),(1,1)]:=by kernel_rfl
theorem pl153:dN Tryz.prog 153=some [(0,2),(2,1),(3,1)]:=by kernel_rfl
theorem sz51:(Tryz.prog.info? 51).map (·.size)=some 1:=by kernel_rfl
theorem sz52:(Tryz.prog.info? 52).map (·.size)=some 1:=by kernel_rfl
theorem sz55:(Tryz.prog.info? 55).map (·.size)=some 1:=by kernel_rfl
theorem sz151:(Tryz.prog.info? 151).map (·.size)=some 1:=by kernel_rfl
theorem zOi (l:Lf) (hl:l.L.length<=4294967296):
    Pur cfg 130 [jU l] (jU l):=by
 refine zW Tryz.func130 O Tryz.ntmps130 Tryz.results130 O ?_
 intro z hz
 refine R O<|zS O O (qP O O) ?_
 rintro _ _ ⟨b1,rfl,rfl⟩
 refine zS O O (qQ [none,some 2] O zr54 O) ?_
 rintro _ _ ⟨b2,rfl,rfl⟩
 refine zA<|R O<|zJ O zFp<|zE one2 (A 1 O) O<|yS O zr54 pl54<|zS O O (yZ O zr54) ?_
 rintro _ _ ⟨b3,rfl,rfl⟩
 refine qT _ (kZ 205 2)<|Y 1 sz54 O<|zA<|R O<|zJ O zAg<|zE zCj (A 1 O) O<|zJ O zAg<|zE zCj (A 3 O) O<|zS O O (yI 0 O el52 O O O (by simp;omega) (by simp;omega)) ?_
 rintro _ _ ⟨sv5,rfl,rfl⟩
 refine zJ O zAg<|Y 1 sz52 O<|zA<|R O<|qT _ (yT 0 O (regs':=[(11,_)]) (μ':=[_,_,_]) ⟨FLe.sl,T⟩ ⟨EFle.row (ds:=[_,_]) ⟨.inl O,.inr ⟨O,O⟩,T⟩,EFle.refl _,EFle.refl _,T⟩)<|zQ zAj (A 0 O) O<|Y 1 sz54 O<|zA<|zN<|fin1 (qN zAj O (A 1 O) O) ?_
 rfl
theorem zSp (e:Ex) (ih:∀a,a∈e.Args->a.wt<=4294967296->Pur cfg 88 [vE a] (vE a)) (he:e.wt<=4294967296):
    Pur cfg 88 [vE e] (vE e):=by
 refine zW Tryz.func88 O Tryz.ntmps88 Tryz.results88 O ?_
 intro z hz
 obtain ⟨hL,hI,hA⟩:=e.parts he
 refine R O<|zS O O (qP O O) ?_
 rintro _ _ ⟨b1,rfl,rfl⟩
 refine zS O O (qQ [none,none,none,none,none,none,none,none,none,none,some 2,some 4,some 13] O zr57 O) ?_
 rintro _ _ ⟨b2,rfl,rfl⟩
 refine zA<|zF<|yL 13 1 [⟨0,.q []⟩,⟨1,.q [2]⟩,⟨2,.q []⟩,⟨3,.q [2]⟩,⟨4,.q []⟩,⟨5,.q [2]⟩,⟨6,.q []⟩,⟨7,.q [2]⟩,⟨8,.q []⟩,⟨9,.q [2]⟩,⟨10,.q []⟩,⟨11,.q []⟩,⟨12,.f 0⟩] mixed (by kernel_rfl) (by kernel_rfl) O O O<|J O<|J O<|J O<|J O<|J O<|J O<|J O<|J O<|J O<|J O<|J O<|J O<|zKb O O (zDa (qQ [none,none,none,none,none,none,none,none,none,none,some 2,some 4,some 13] O zr57 O)) ⟨_,_,0,O,O⟩<|wQ<|zX O (by decide) O O (zH O kR O)<|zX O (by decide) O O (zC O one3 O (A 0 O) O)<|zX O (by decide) O O (zH O zCo O)<|zX O (by decide) O O (zC O one9 O (A 0 O) O)<|zX O (by decide) O O (zH O zGp O)<|zX O (by decide) O O (qC O zUo O (A 0 O) O)<|zX O (by decide) O O (zH O zBj O)<|zX O (by decide) O O (qC O yG O (A 0 O) O)<|zX O (by decide) O O (zH O zEd O)<|zX O (by decide) O O (qC O zAj O (A 0 O) O)<|zX O (by decide) O O (qR O ok130 (zOi e.Lin hL) ⟨zB,O,T⟩)<|zX O (by decide) O O (kU O zr57 pl57 O)<|zJt O O ?_
 rintro _ _ ⟨b3,rfl,rfl⟩
 refine wP O<|Y 0 sz57 O<|zA<|zF<|R O<|qT _ (kZ 153 4)<|qT _ (kZ 57 13)<|G O<|zA<|zP<|zU ⟨[(4,.c _),(1,.c _),(2,.c _),(3,.c _)],[_,_,_,_,_]⟩ (Weak.mk [true,true,true,true,true] ⟨zB,zB,zB,zB,T⟩ O)<|qF 1 3 O O (Nat×Value) (fun ⟨k,sv⟩=>[(4,vI k)]) (fun ⟨k,sv⟩=>[E.vec (.slice none 0 0) 57 13 [],E.vec sv 153 4 ((e.Idx.take k).map Ix.cells),E.row b3 57 [cI e.Op,cS e.Name,cI e.Val.N,cI e.Val.D,cI e.Ty.Kind,cI e.Ty.Bits,cI e.Ty.Frac,cI e.Ty.Round,cI e.Ty.Over,cI e.Lin.K,.sl 2 (e.Lin.L.map Mono.cells),.lit sv,.lit (.slice none 0 0)]]) (fun ⟨k,sv⟩=>k<=e.Idx.length) (fun ⟨k,sv⟩=>e.Idx.length-k) ⟨⟨0,(.slice none 0 0)⟩,(by omega),Weak.mk [true,true,true,true,true] ⟨zB,zB,zB,zB,T⟩ O⟩ ?_
 rintro ⟨k,sv⟩ hk
 show AWP _ _ _ _ _ ⟨[(4,vI k)]++_,[E.vec (.slice none 0 0) 57 13 [],E.vec sv 153 4 ((e.Idx.take k).map Ix.cells),E.row b3 57 [cI e.Op,cS e.Name,cI e.Val.N,cI e.Val.D,cI e.Ty.Kind,cI e.Ty.Bits,cI e.Ty.Frac,cI e.Ty.Round,cI e.Ty.Over,cI e.Lin.K,.sl 2 (e.Lin.L.map Mono.cells),.lit sv,.lit (.slice none 0 0)]]++_⟩
 refine zF<|R O<|G O<|zJ O kQ<|zE wI (A 4 O) O<|qD O el51<|yC O<|zA<|zD O (fun c1=>?_) (fun c1=>?_)
 ·try simp only [sx] at c1
  obtain ⟨x,hx⟩:=qU e.Idx k (by omega)
  have hxw:=Ex.idx_wt (qE hx)
  refine zI<|zF<|zP<|zF<|yL 15 1 [⟨0,.q []⟩,⟨1,.q [5]⟩,⟨2,.q []⟩,⟨3,.q []⟩,⟨4,.q []⟩,⟨5,.q []⟩,⟨6,.q []⟩,⟨7,.q []⟩,⟨8,.q [5]⟩,⟨9,.q []⟩,⟨10,.q []⟩,⟨11,.q []⟩,⟨12,.q []⟩,⟨13,.q []⟩,⟨14,.f 0⟩] mixed (by kernel_rfl) (by kernel_rfl) O O O<|J O<|J O<|J O<|J O<|J O<|J O<|J O<|J O<|J O<|J O<|J O<|J O<|J O<|J O<|zKb O O (zDa (qQ [none,some 2,none,some 2] O zKx O)) ⟨_,_,0,O,O⟩<|wQ<|zX O (by decide) O O (zH O kQ O)<|zX O (by decide) O O (zC O wI O (A 0 O) O)<|zX O (by decide) O O (zM O O)<|zX O (by decide) O O (qH O el51 O O (by omega) (v (by assumption)))<|zX O (by decide) O O (qB O zBx O)<|zX O (by decide) O O (qC O zAj O zO O)<|zX O (by decide) O O (qR O ok130 (zOi x.Lin (by have:=Ex.idx_wt (qE hx);omega)) ⟨zB,O,T⟩)<|zX O (by decide) O O (zH O kQ O)<|zX O (by decide) O O (zC O wI O (A 0 O) O)<|zX O (by decide) O O (zM O O)<|zX O (by decide) O O (qH O el51 O O (by omega) (v (by assumption)))<|zX O (by decide) O O (qB O wN O)<|zX O (by decide) O O (zC O one9 O zO O)<|zX O (by decide) O O (kU O zKx pl153 O)<|zJt O O ?_
  rintro _ _ ⟨b4,rfl,rfl⟩
  refine wP O<|Y 0 zOd O<|zA<|zF<|R O<|qT _ (kZ 54 2)<|G O<|zA<|zP<|zU ⟨[(6,.c _),(1,.c _),(2,.c _),(3,.c _),(4,.c _),(5,.c _)],[_,_,_,_,_,_,_]⟩ (Weak.mk [true,true,true,true,true,true,true] ⟨zB,zB,zB,zB,zB,zB,T⟩ O)<|qF 1 2 O O (Nat×Value) (fun ⟨j,sw⟩=>[(6,vI j)]) (fun ⟨j,sw⟩=>[E.vec sw 54 2 ((x.At.take j).map Lf.cells),E.row b4 153 [cI x.Lin.K,.sl 2 (x.Lin.L.map Mono.cells),cS x.From,.lit sw]]) (fun ⟨j,sw⟩=>j<=x.At.length) (fun ⟨j,sw⟩=>x.At.length-j) ⟨⟨0,(.slice none 0 0)⟩,(by omega),Weak.mk [true,true,true,true,true,true,true] ⟨zB,zB,zB,zB,zB,zB,T⟩ O⟩ ?_
  rintro ⟨j,sw⟩ hj
  show AWP _ _ _ _ _ ⟨[(6,vI j)]++_,[E.vec sw 54 2 ((x.At.take j).map Lf.cells),E.row b4 153 [cI x.Lin.K,.sl 2 (x.Lin.L.map Mono.cells),cS x.From,.lit sw]]++_⟩
  refine zF<|R O<|G O<|zJ O kQ<|zE wI (A 6 O) O<|G O<|zY O el51 (by omega) (v (by assumption))<|zT O wU<|zE zAx zO O<|qD O zAk<|yC O<|zA<|zD O (fun c2=>?_) (fun c2=>?_)
  ·try simp only [sx] at c2
   obtain ⟨l,hl⟩:=qU x.At j (by omega)
   refine zI<|zF<|zP<|qW 13 mixed (by kernel_rfl) O O<|zL O O (zH O wU O)<|zL O O (zC O zAx O (A 1 O) O)<|zL O O (zH O kQ O)<|zL O O (zC O wI O (A 6 O) O)<|zL O O (zM O O)<|zL O O (qH O el51 O O (by omega) (v (by assumption)))<|zL O O (qB O wU O)<|zL O O (zC O zAx O zO O)<|zL O O (zM O O)<|zL O O (qH O zAk O O (by omega) (v (by assumption)))<|zL O O (qC O zAj O zO O)<|zL O O (qR O ok130 (zOi l (by have:=Ex.idx_wt (qE hx);have:=zAy (qE hl);omega)) ⟨zB,O,T⟩)<|zL O O (yJ O zAk zr54 O O O O)<|yM<|zS O O (yI 0 O zAk O O O (by simp only [List.length_take,List.length_map,List.length_append,List.length_cons,List.length_nil];omega) (by simp only [List.length_take,List.length_map,List.length_append,List.length_cons,List.length_nil];omega)) ?_
   rintro _ _ ⟨sv5,rfl,rfl⟩
   refine zJ O wU<|Y 1 sz151 O<|zA<|zK O<|G O<|qA O ⟨by omega,by omega⟩<|G O<|zA ?_
   refine ⟨⟨j+1,sv5⟩,(by omega),(by show x.At.length-(j+1)<x.At.length-j;omega),Weak.mk [true,true,true,true,true,true,true] ⟨zB,zB,zB,zB,zB,zB,T⟩ (by exact mem2_eq' (by rw [yD hl,List.map_append];rfl))⟩
  ·try simp only [sx] at c2
   rw [qX (l:=x.At) (k:=j) (by omega)]
   refine zU _ (yT 0 O (regs':=[]) (μ':=[_,_,_,_,_,_]) T ⟨EFle.row (ds:=[_,_,_,_]) ⟨.inl O,.inl O,.inl O,.inr ⟨O,O⟩,T⟩,EFle.refl _,EFle.refl _,EFle.refl _,EFle.refl _,EFle.refl _,T⟩)<|qK<|zK O<|zJ O kQ<|zE wI (A 3 O) O<|zQ zCr (A 0 O) O<|zZ O (yJ O el51 zKx O O O O)<|zS O O (yI 2 O el51 O O O (by simp only [List.length_take,List.length_map,List.length_append,List.length_cons,List.length_nil];omega) (by simp only [List.length_take,List.length_map,List.length_append,List.length_cons,List.length_nil];omega)) ?_
   rintro _ _ ⟨sv6,rfl,rfl⟩
   refine zJ O kQ<|Y 3 sz51 O<|zA<|zK O<|G O<|qA O ⟨by omega,by omega⟩<|G O<|zA ?_
   refine ⟨⟨k+1,sv6⟩,(by omega),(by show e.Idx.length-(k+1)<e.Idx.length-k;omega),Weak.mk [false,true,true,true,true,true] ⟨zB,zB,zB,zB,T⟩ (by exact mem3_eq (by rw [yD hx,List.map_append];rfl))⟩
 ·try simp only [sx] at c1
  rw [qX (l:=e.Idx) (k:=k) (by omega)]
  refine zU _ (yT 1 O (regs':=[]) (μ':=[_,_,_,_]) T ⟨EFle.refl _,EFle.row (ds:=[_,_,_,_,_,_,_,_,_,_,_,_,_]) ⟨.inl O,.inl O,.inl O,.inl O,.inl O,.inl O,.inl O,.inl O,.inl O,.inl O,.inl O,.inr ⟨O,O⟩,.inl O,T⟩,EFle.refl _,EFle.refl _,T⟩)<|qK<|zF<|R O<|G O<|zA<|zP<|zU ⟨[(7,.c _),(1,.c _),(2,.c _),(3,.c _)],[_,_,_,_]⟩ (Weak.mk [true,true,true,true] ⟨zB,zB,zB,zB,T⟩ O)<|qF 1 2 O O (Nat×Value) (fun ⟨n,su⟩=>[(7,vI n)]) (fun ⟨n,su⟩=>[E.vec su 57 13 ((e.Args.take n).map Ex.cells),E.row b3 57 [cI e.Op,cS e.Name,cI e.Val.N,cI e.Val.D,cI e.Ty.Kind,cI e.Ty.Bits,cI e.Ty.Frac,cI e.Ty.Round,cI e.Ty.Over,cI e.Lin.K,.sl 2 (e.Lin.L.map Mono.cells),.sl 4 (e.Idx.map Ix.cells),.lit su]]) (fun ⟨n,su⟩=>n<=e.Args.length) (fun ⟨n,su⟩=>e.Args.length-n) ⟨⟨0,(.slice none 0 0)⟩,(by omega),Weak.mk [true,true,true,true] ⟨zB,zB,zB,zB,T⟩ O⟩ ?_
  rintro ⟨n,su⟩ hn
  show AWP _ _ _ _ _ ⟨[(7,vI n)]++_,[E.vec su 57 13 ((e.Args.take n).map Ex.cells),E.row b3 57 [cI e.Op,cS e.Name,cI e.Val.N,cI e.Val.D,cI e.Ty.Kind,cI e.Ty.Bits,cI e.Ty.Frac,cI e.Ty.Round,cI e.Ty.Over,cI e.Lin.K,.sl 2 (e.Lin.L.map Mono.cells),.sl 4 (e.Idx.map Ix.cells),.lit su]]++_⟩
  refine zF<|R O<|G O<|zJ O yU<|zE kW (A 3 O) O<|qD O el55<|yC O<|zA<|zD O (fun c3=>?_) (fun c3=>?_)
  ·try simp only [sx] at c3
   obtain ⟨a,ha⟩:=qU e.Args n (by omega)
   refine zI<|zF<|zP<|qW 9 mixed (by kernel_rfl) O O<|zL O O (zH O yU O)<|zL O O (zC O kW O (A 1 O) O)<|zL O O (zH O yU O)<|zL O O (zC O kW O (A 3 O) O)<|zL O O (zM O O)<|zL O O (qH O el55 O O (by omega) (wF (by assumption)))<|zL O O (qC O yN O zO O)<|zL O O (qR O ok88 (ih a (qE ha) (by have:=Ex.arg_wt (qE ha);omega)) ⟨zB,O,T⟩)<|zL O O (yJ O el55 zr57 O O O O)<|yM<|zS O O (yI 0 O el55 O O O (by simp only [List.length_take,List.length_map,List.length_append,List.length_cons,List.length_nil];omega) (by simp only [List.length_take,List.length_map,List.length_append,List.length_cons,List.length_nil];omega)) ?_
   rintro _ _ ⟨sv7,rfl,rfl⟩
   refine zJ O yU<|Y 1 sz55 O<|zA<|zK O<|G O<|qA O ⟨by omega,by omega⟩<|G O<|zA ?_
   refine ⟨⟨n+1,sv7⟩,(by omega),(by show e.Args.length-(n+1)<e.Args.length-n;omega),Weak.mk [true,true,true,true] ⟨zB,zB,zB,zB,T⟩ (by exact mem2_eq' (by rw [yD ha,List.map_append];simp only [List.map_cons,List.map_nil,Ex.cells_eq]))⟩
  ·try simp only [sx] at c3
   rw [qX (l:=e.Args) (k:=n) (by omega)]
   refine zU _ (yT 0 O (regs':=[]) (μ':=[_,_,_]) T ⟨EFle.row (ds:=[_,_,_,_,_,_,_,_,_,_,_,_,_]) ⟨.inl O,.inl O,.inl O,.inl O,.inl O,.inl O,.inl O,.inl O,.inl O,.inl O,.inl O,.inl O,.inr ⟨O,O⟩,T⟩,EFle.refl _,EFle.refl _,T⟩)<|qK<|R O<|zQ yN (A 0 O) O<|Y 1 sz57 O<|zA<|zN<|fin1 (qN yN O (A 1 O) O) ?_
   rfl
theorem ref14_Twin (e:Ex) (he:e.wt<=4294967296):Pur cfg 88 [vE e] (vE e):=by
  induction e using Ex.ind with
  |_ e ih=>exact zSp e (fun a ha h=>ih a ha h) he
end Go.W
