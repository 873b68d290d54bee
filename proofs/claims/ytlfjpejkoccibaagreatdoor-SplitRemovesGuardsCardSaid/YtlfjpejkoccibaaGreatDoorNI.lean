/-
  Walks: what functions of the program compute. Printed by wip/gen/mk2.py.
  Conditions: none.
-/
import Derived.Test.YtlfjpejkoccibaaGreatDoorNG
import Derived.Test.YtlfjpejkoccibaaGreatDoorPlain2
set_option linter.unusedSimpArgs false
set_option linter.unusedVariables false
set_option maxRecDepth 10000
namespace Go.W
open Go Go.Eng Go.Proofs Go.L41 Go.Br
attribute [local irreducible] AWP RWP TD finQ
theorem ok41:callOk Tryz.prog 41=true:=by kernel_rfl
theorem ok87:callOk Tryz.prog 87=true:=by kernel_rfl
theorem ok91:callOk Tryz.prog 91=true:=by kernel_rfl
theorem ok92:callOk Tryz.prog 92=true:=by kernel_rfl
theorem ok93:callOk Tryz.prog 93=true:=by kernel_rfl
theorem ok94:callOk Tryz.prog 94=true:=by kernel_rfl
theorem ok133:callOk Tryz.prog 133=true:=by kernel_rfl
theorem ok134:callOk Tryz.prog 134=true:=by kernel_rfl
theorem ok137:callOk Tryz.prog 137=true:=by kernel_rfl
theorem ok138:callOk Tryz.prog 138=true:=by kernel_rfl
theorem ok139:callOk Tryz.prog 139=true:=by kernel_rfl
theorem ok173:callOk Tryz.prog 173=true:=by kernel_rfl
theorem sz9:(Tryz.prog.info? 9).map (·.size)=some 1:=by kernel_rfl
theorem zHw (l:List St) (hl:l.length<=4294967296):
    OwnR cfg 137 [vSts l] 46 20 (l.map St.cells):=by
 refine zR Tryz.func137 O Tryz.ntmps137 Tryz.results137 O ?_
 intro z hz
 refine G O<|yA 20 O<|I<|zJ<|G O<|F O<|zU O O (zFl O K O O) ?_
 rintro _ _ ⟨nb1,rfl,hnil1,rfl⟩
 refine I<|zF O (fun c1=>?_) (fun c1=>?_)
 ·try simp only [R] at c1
  refine G O<|F O<|yN _ (kX 46 20)<|I<|o<|X O ?_
  exact ⟨_,O,by rw [hnil1 c1]⟩
 ·try simp only [R] at c1
  refine zI<|G O<|zU O O (zCy O K j O O O O) ?_
  rintro _ _ ⟨sv3,rfl,rfl⟩
  refine F O<|zU O O (yD 0 O K O O O (by simp only [List.length_map,List.length_nil,Nat.zero_add];omega) (by simp only [List.length_map,List.length_nil,Nat.zero_add];omega)) ?_
  rintro _ _ ⟨sv4,rfl,rfl⟩
  refine F O<|I<|o<|X O ?_
  exact ⟨_,O,O⟩
theorem zAq (f:Lf->Lf×Int) (c:C) (P:Lf->Prop) (hf:∀l,P l->FnPur cfg c [vLin l] (.tup [vLin (f l).1,vI (f l).2])) (i:List Ix) (hi:i.length<=4294967296) (hA:∀x,x∈i->x.At.length<=4294967296) (hP:ixsAll P i):
    Pur cfg 87 [vIndices i,.c c] (.tup [vIndices (outIs (mIxs f i)),vI (errE (mIxs f i))]):=by
 refine zR Tryz.func87 O Tryz.ntmps87 Tryz.results87 O ?_
 intro z hz
 refine G O<|yA 4 O<|F O<|I<|G O<|F O<|zU O O (zAn O ok133 (zRb i hi) ⟨H,O,T⟩) ?_
 rintro _ _ ⟨sv1,rfl,rfl⟩
 refine F O<|I<|G O<|F O<|I<|zJ<|G O<|F O<|qB O A<|F O<|I<|zQ<|zW ⟨[(14,.c _),(0,.c _),(1,.c _),(6,.c _),(13,.c _)],[_]⟩ (Weak.mk [true] ⟨H,H,H,H,H,T⟩ O)<|qK 1 1 O O (Nat×List Ix) (fun ⟨k,outs⟩=>[(14,vI k)]) (fun ⟨k,outs⟩=>[E.vec sv1 72 4 (outs.map Ix.cells++(i.drop k).map Ix.cells)]) (fun ⟨k,outs⟩=>k<=i.length/\(outs.length=k)/\(mIxs f i=mapRest outs (mIxs f (i.drop k)))) (fun ⟨k,outs⟩=>i.length-k) ⟨⟨0,[]⟩,⟨by omega,O,(zGn _).symm⟩,Weak.mk [true] ⟨H,H,H,H,H,T⟩ O⟩ ?_
 rintro ⟨k,outs⟩ ⟨hk,ho,hp⟩
 show AWP _ _ _ _ _ ⟨[(14,vI k)]++_,[E.vec sv1 72 4 (outs.map Ix.cells++(i.drop k).map Ix.cells)]++_⟩
 refine G O<|yH O<|I<|zJ<|zF O (fun c1=>?_) (fun c1=>?_)
 ·try simp only [R] at c1
  obtain ⟨x,hx⟩:=qW i k (by omega)
  have hAx:=hA x (zZ hx)
  refine zI<|zJ<|zQ<|G O<|F O<|F O<|I<|zJ<|G O<|F O<|F O<|F O<|F O<|F O<|qC O A (by omega) (N (by assumption))<|qQ O zEm<|zO yY qA O<|zX O (kR O O (hf x.Lin (hP x (zZ hx)).1) ⟨H,O,T⟩)<|qP O<|yO O<|qT O<|zX O (qO 0 O A O O O (by omega) (zRz (by simp;omega) (by omega)))<|zX O (yZ O zEm O)<|wL O O (yV O sz41 O O O (zBu 0 O (mid_get (by simp;omega) hx) O))<|F O<|I<|G O<|F O<|yR O<|I<|zF O (fun c2=>?_) (fun c2=>?_)
  ·try simp only [R] at c2
   refine G O<|F O<|yA 4 O<|F O<|I<|o<|w (p O) (p O) ?_
   rw [mIxs_no hx hp (mIx_e1 c2)];rfl
  ·try simp only [R] at c2
   refine zI<|G O<|F O<|F O<|F O<|F O<|qC O A (by omega) (N (by assumption))<|qQ O zBa<|zK zEe qA O<|zU O O (zAn O ok134 (zOs x.At (hA x (zZ hx))) ⟨H,O,T⟩) ?_
   rintro _ _ ⟨sv2,rfl,rfl⟩
   refine zX O (qO 1 O A O O O (by omega) (by simp;omega))<|zX O (yZ O zBa O)<|wL O O (yV O sz70 O O O (zBu 1 O (zBt (by simp;omega)) O))<|I<|G O<|F O<|F O<|qC O A (by omega) (N (by assumption))<|qQ O zBa<|zK zEe qA O<|qB O s<|F O<|I<|zQ<|zW ⟨[(50,.c _),(0,.c _),(1,.c _),(6,.c _),(8,.c _),(13,.c _),(14,.c _),(49,.c _)],[_,_]⟩ (Weak.mk [true,true] ⟨H,H,H,H,H,H,H,H,T⟩ O)<|qK 1 1 O O (Nat×List Lf) (fun ⟨j,lins⟩=>[(50,vI j)]) (fun ⟨j,lins⟩=>[E.vec sv2 41 2 (lins.map Lf.cells++(x.At.drop j).map Lf.cells)]) (fun ⟨j,lins⟩=>j<=x.At.length/\(lins.length=j)/\(mLins f x.At=mapRest lins (mLins f (x.At.drop j)))) (fun ⟨j,lins⟩=>x.At.length-j) ⟨⟨0,[]⟩,⟨by omega,O,(zGn _).symm⟩,Weak.mk [true,true] ⟨H,H,H,H,H,H,H,H,T⟩ O⟩ ?_
   rintro ⟨j,lins⟩ ⟨hj,hlo,hq⟩
   show AWP _ _ _ _ _ ⟨[(50,vI j)]++_,[E.vec sv2 41 2 (lins.map Lf.cells++(x.At.drop j).map Lf.cells)]++_⟩
   refine G O<|yH O<|I<|zJ<|zF O (fun c3=>?_) (fun c3=>?_)
   ·try simp only [R] at c3
    obtain ⟨l,hl⟩:=qW x.At j (by omega)
    refine zI<|zJ<|zQ<|G O<|F O<|F O<|I<|zJ<|kJ 21 0 [⟨0,.q []⟩,⟨1,.q []⟩,⟨2,.q [1]⟩,⟨3,.q []⟩,⟨4,.q [1]⟩,⟨5,.q []⟩,⟨6,.q []⟩,⟨7,.q []⟩,⟨8,.q []⟩,⟨9,.q []⟩,⟨10,.q []⟩,⟨11,.q []⟩,⟨12,.q []⟩,⟨13,.q []⟩,⟨14,.q []⟩,⟨15,.q []⟩,⟨16,.q []⟩,⟨17,.q []⟩,⟨18,.q []⟩,⟨19,.q [0]⟩,⟨20,.e 0 []⟩] mixed (by kernel_rfl) (by kernel_rfl) O O O<|t O<|t O<|t O<|t O<|t O<|t O<|t O<|t O<|t O<|t O<|t O<|t O<|t O<|t O<|t O<|t O<|t O<|t O<|t O<|t O<|t O<|zBj<|v O (by decide) O O (zN O O)<|v O (by decide) O O (zN O O)<|v O (by decide) O O (qO 0 O A O O O (by omega) (by simp;omega))<|v O (by decide) O O (yZ O zBa O)<|v O (by decide) O O (Q O zEe O (wC 0 O (zBt (by simp;omega))) O)<|v O (by decide) O O (zN O O)<|v O (by decide) O O (zN O O)<|v O (by decide) O O (zN O O)<|v O (by decide) O O (zN O O)<|v O (by decide) O O (qD O A O O (by omega) (N (by assumption)))<|v O (by decide) O O (qI O zBa O)<|v O (by decide) O O (Q O zEe O qA O)<|v O (by decide) O O (zN O O)<|v O (by decide) O O (qD O s O O (by omega) (N (by assumption)))<|v O (by decide) O O (zY O yY O qA O)<|v O (by decide) O O (kR O O (hf l ((hP x (zZ hx)).2 l (zZ hl))) ⟨H,O,T⟩)<|v O (by decide) O O (kK O O)<|v O (by decide) O O (wF O O O)<|v O (by decide) O O (wI O O O)<|v O (by decide) O O (qO 0 O s O O O (by omega) (zRz (by simp;omega) (by omega)))<|zFg O O (by decide) O O (yV O sz41 O O O (zBu 0 O (mid_get (by simp;omega) hl) O)) ?_
    rintro _ _ ⟨rfl,rfl⟩
    refine ⟨_,O,?_⟩
    refine zBd O<|F O<|I<|G O<|F O<|yR O<|I<|zF O (fun c4=>?_) (fun c4=>?_)
    ·try simp only [R] at c4
     refine G O<|F O<|yA 4 O<|F O<|I<|o<|w (p O) (p O) ?_
     rw [mIxs_no hx hp (mIx_e2 c2 (mLins_no hl hq c4))];rfl
    ·try simp only [R] at c4
     refine zI<|zS O<|qH O ⟨by omega,by omega⟩<|F O<|I ?_
     refine ⟨⟨j+1,lins++[(f l).1]⟩,⟨by omega,by simp;omega,mLins_next hl hq c4⟩,(by show x.At.length-(j+1)<x.At.length-j;omega),Weak.mk [true,true] ⟨H,H,H,H,H,H,H,H,T⟩ (by simp only [Int.toNat_natCast];rw [zNf (by simp;omega) hl];simp only [List.map_append,List.map_cons,List.map_nil];rfl)⟩
   ·try simp only [R] at c3
    have hml:=mLins_end hq (by omega)
    rw [kC (l:=x.At) (k:=j) (by omega)]
    simp only [List.map_nil,List.append_nil]
    refine zW _ (yS 0 O (regs':=[]) (μ':=[_]) T ⟨EFle.vec (r':=[_,_,_,_]) (zBt (by simp;omega)) ⟨.inl O,.inl O,.inl O,.inr ⟨O,O⟩,T⟩,T⟩)<|qN<|zS O<|qH O ⟨by omega,by omega⟩<|F O<|I ?_
    refine ⟨⟨k+1,outs++[⟨(f x.Lin).1,x.From,lins⟩]⟩,⟨by omega,by simp;omega,mIxs_next hx hp (mIx_ok c2 hml)⟩,(by show i.length-(k+1)<i.length-k;omega),Weak.mk [true] ⟨H,H,H,H,H,T⟩ (by simp only [Int.toNat_natCast,List.set_set];rw [zNf (by simp;omega) hx];simp only [List.map_append,List.map_cons,List.map_nil];rfl)⟩
 ·try simp only [R] at c1
  have hmi:=mIxs_end hp (by omega)
  rw [kC (l:=i) (k:=k) (by omega)]
  simp only [List.map_nil,List.append_nil]
  refine zW _ (yS 0 O (regs':=[(6,_)]) (μ':=[]) ⟨FLe.sl,T⟩ T)<|qN<|G O<|F O<|F O<|F O<|I<|o<|w (p O) (p O) ?_
  rw [hmi];rfl
theorem zIm (f:Lf->Lf×Int) (c:C) (P:Lf->Prop) (hf:∀l,P l->FnPur cfg c [vLin l] (.tup [vLin (f l).1,vI (f l).2])) (e:Ex) (hP:e.allF P) (ih:∀a,a∈e.Args->a.allF P->a.cnt<=4294967296->Pur cfg 138 [vE a,.c c] (.tup [vE (outE (mEx f a)),vI (errE (mEx f a))])) (he:e.cnt<=4294967296):
    Pur cfg 138 [vE e,.c c] (.tup [vE (outE (mEx f e)),vI (errE (mEx f e))]):=by
 refine zR Tryz.func138 O Tryz.ntmps138 Tryz.results138 O ?_
 intro z hz
 obtain ⟨hI,hA,hAt⟩:=e.cparts he
 have hPI:=ixsAll_of hP
 refine G O<|zU O O (qM O O) ?_
 rintro _ _ ⟨b1,rfl,rfl⟩
 refine zU O O (qE [none,none,none,none,none,none,none,none,none,none,some 2,some 4,some 13] O zr44 O) ?_
 rintro _ _ ⟨b2,rfl,rfl⟩
 refine F O<|I<|G O<|zO yX (Y 1 O) O<|zU O O (qE [none,none,none,none,none,none,none,none,none,none,some 2,some 4,some 13] O zr44 O) ?_
 rintro _ _ ⟨b3,rfl,rfl⟩
 refine D 0 sz44 O<|I<|G O<|F O<|I<|zJ<|G O<|F O<|zH O zCq<|zO yY (Y 2 O) O<|zX O (kR O O (hf e.Lin (Ex.allF_lin hP)) ⟨H,O,T⟩)<|qP O<|yO O<|qT O<|zH O zCq<|D 0 sz41 O<|F O<|I<|G O<|F O<|yR O<|I<|zF O (fun c1=>?_) (fun c1=>?_)
 ·try simp only [R] at c1
  refine G O<|qV [none,none,none,none,none,none,none,none,none,none,some 2,some 4,some 13] O zr44 pl44<|F O<|D 1 sz44 O<|F O<|I<|o<|w (zV yX O (Y 1 O) O) (p O) ?_
  rw [mEx_e1 c1];rfl
 ·try simp only [R] at c1
  refine zI<|zJ<|G O<|zH O wA<|zK wR (Y 2 O) O<|F O<|qJ O ok87 (zAq f c P hf e.Idx hI hAt hPI) ⟨H,O,H,O,T⟩<|qP O<|qT O<|qT O<|zH O wA<|D 0 sz34 O<|F O<|I<|G O<|F O<|yR O<|I<|zF O (fun c2=>?_) (fun c2=>?_)
  ·try simp only [R] at c2
   refine G O<|qV [none,none,none,none,none,none,none,none,none,none,some 2,some 4,some 13] O zr44 pl44<|F O<|D 1 sz44 O<|F O<|I<|o<|w (zV yX O (Y 1 O) O) (p O) ?_
   rw [mEx_e2 c1 (mIxs_err c2)];rfl
  ·try simp only [R] at c2
   obtain ⟨di,hmi⟩:=mIxs_0 c2
   rw [hmi]
   refine zI<|G O<|zH O kZ<|zK zAj (Y 2 O) O<|zU O O (zAn O ok173 (zRc e.Args hA) ⟨H,O,T⟩) ?_
   rintro _ _ ⟨sv4,rfl,rfl⟩
   refine zH O kZ<|D 1 sz42 O<|I<|zJ<|G O<|zH O kZ<|zK zAj (Y 3 O) O<|qB O g<|F O<|I<|zQ<|zW ⟨[(41,.c _),(1,.c _),(2,.c _),(4,.c _),(6,.c _),(40,.c _)],[_,_,_,_]⟩ (Weak.mk [true,true,true,true] ⟨H,H,H,H,H,H,T⟩ O)<|qK 1 1 O O (Nat×List Ex) (fun ⟨n,exs⟩=>[(41,vI n)]) (fun ⟨n,exs⟩=>[E.vec sv4 44 13 (exs.map Ex.cells++(e.Args.drop n).map Ex.cells)]) (fun ⟨n,exs⟩=>n<=e.Args.length/\(exs.length=n)/\(mExs f e.Args=mapRest exs (mExs f (e.Args.drop n)))) (fun ⟨n,exs⟩=>e.Args.length-n) ⟨⟨0,[]⟩,⟨by omega,O,(zGn _).symm⟩,Weak.mk [true,true,true,true] ⟨H,H,H,H,H,H,T⟩ O⟩ ?_
   rintro ⟨n,exs⟩ ⟨hn,hno,hr⟩
   show AWP _ _ _ _ _ ⟨[(41,vI n)]++_,[E.vec sv4 44 13 (exs.map Ex.cells++(e.Args.drop n).map Ex.cells)]++_⟩
   refine G O<|yH O<|I<|zJ<|zF O (fun c3=>?_) (fun c3=>?_)
   ·try simp only [R] at c3
    obtain ⟨a,ha⟩:=qW e.Args n (by omega)
    refine zI<|zJ<|zQ<|G O<|F O<|F O<|I<|zJ<|kJ 15 0 [⟨0,.q []⟩,⟨1,.q [1]⟩,⟨2,.q []⟩,⟨3,.q []⟩,⟨4,.q [3]⟩,⟨5,.q []⟩,⟨6,.q []⟩,⟨7,.q []⟩,⟨8,.q []⟩,⟨9,.q []⟩,⟨10,.q []⟩,⟨11,.q []⟩,⟨12,.q []⟩,⟨13,.q [0]⟩,⟨14,.e 0 []⟩] mixed (by kernel_rfl) (by kernel_rfl) O O O<|t O<|t O<|t O<|t O<|t O<|t O<|t O<|t O<|t O<|t O<|t O<|t O<|t O<|t O<|t O<|zBj<|v O (by decide) O O (zD O kZ O)<|v O (by decide) O O (Q O zAj O (Y 0 O) O)<|v O (by decide) O O (zN O O)<|v O (by decide) O O (zD O kZ O)<|v O (by decide) O O (Q O zAj O (Y 0 O) O)<|v O (by decide) O O (zN O O)<|v O (by decide) O O (qD O g O O (by omega) (zCk (by assumption)))<|v O (by decide) O O (zY O yX O qA O)<|v O (by decide) O O (zN O O)<|v O (by decide) O O (qL O ok138 (ih a (zZ ha) (Ex.allF_arg hP (zZ ha)) (by have:=Ex.arg_cnt (zZ ha);omega)) ⟨H,O,H,O,T⟩)<|v O (by decide) O O (kK O O)<|v O (by decide) O O (wF O O O)<|v O (by decide) O O (wI O O O)<|v O (by decide) O O (qO 0 O g O O O (by omega) (zRz (by simp;omega) (by omega)))<|zFg O O (by decide) O O (yV O sz44 O O O (zBu 0 O (mid_getE (by simp;omega) ha) O)) ?_
    rintro _ _ ⟨rfl,rfl⟩
    refine ⟨_,O,?_⟩
    refine zBd O<|F O<|I<|G O<|F O<|yR O<|I<|zF O (fun c4=>?_) (fun c4=>?_)
    ·try simp only [R] at c4
     refine G O<|qV [none,none,none,none,none,none,none,none,none,none,some 2,some 4,some 13] O zr44 pl44<|F O<|D 2 sz44 O<|F O<|I<|o<|w (zV yX O (Y 2 O) O) (p O) ?_
     rw [mEx_e3 c1 hmi (mExs_no ha hr c4)];rfl
    ·try simp only [R] at c4
     refine zI<|zS O<|qH O ⟨by omega,by omega⟩<|F O<|I ?_
     refine ⟨⟨n+1,exs++[outE (mEx f a)]⟩,⟨by omega,by simp;omega,mExs_next ha hr c4⟩,(by show e.Args.length-(n+1)<e.Args.length-n;omega),Weak.mk [true,true,true,true] ⟨H,H,H,H,H,H,T⟩ (by simp only [Int.toNat_natCast];rw [zNf (by simp;omega) ha];simp only [List.map_append,List.map_cons,List.map_nil,Ex.cells_eq (outE (mEx f a))];rfl)⟩
   ·try simp only [R] at c3
    have hme:=mExs_end hr (by omega)
    rw [kC (l:=e.Args) (k:=n) (by omega)]
    simp only [List.map_nil,List.append_nil]
    refine zW _ (yS 0 O (regs':=[]) (μ':=[_,_,_]) T ⟨EFle.row (ds:=[_,_,_,_,_,_,_,_,_,_,_,_,_]) ⟨.inl O,.inl O,.inl O,.inl O,.inl O,.inl O,.inl O,.inl O,.inl O,.inl O,.inl O,.inl O,.inr ⟨O,O⟩,T⟩,EFle.refl _,EFle.refl _,T⟩)<|qN<|G O<|zO yX (Y 0 O) O<|D 1 sz44 O<|F O<|I<|o<|w (zV yX O (Y 1 O) O) (p O) ?_
    rw [mEx_ok c1 hmi hme];rfl
theorem zDq (f:Lf->Lf×Int) (c:C) (P:Lf->Prop) (hf:∀l,P l->FnPur cfg c [vLin l] (.tup [vLin (f l).1,vI (f l).2])) (e:Ex) (hP:e.allF P) (he:e.cnt<=4294967296):Pur cfg 138 [vE e,.c c] (.tup [vE (outE (mEx f e)),vI (errE (mEx f e))]):=by
  induction e using Ex.ind with
  |_ e ih=>exact zIm f c P hf e hP ih he
theorem zCv (f:Lf->Lf×Int) (c:C) (P:Lf->Prop) (hf:∀l,P l->FnPur cfg c [vLin l] (.tup [vLin (f l).1,vI (f l).2])) (g:ByteArray->ByteArray) (c9:C) (hg:∀s,FnPur cfg c9 [vS s] (vS (g s))) (l:List St) (hP:allSs P l) (ih:∀s,s∈l->Pur cfg 91 [vSts s.Body,.c c,.c c9] (.tup [vSts (outS (mSts f g s.Body)),vI (errE (mSts f g s.Body))])) (hl:stsWt l<=1073741824):
    Pur cfg 91 [vSts l,.c c,.c c9] (.tup [vSts (outS (mSts f g l)),vI (errE (mSts f g l))]):=by
 refine zR Tryz.func91 O Tryz.ntmps91 Tryz.results91 O ?_
 intro z hz
 have hll:=kN l
 refine G O<|yA 20 O<|F O<|I<|G O<|F O<|zU O O (zAn O ok137 (zHw l (by omega)) ⟨H,O,T⟩) ?_
 rintro _ _ ⟨sv1,rfl,rfl⟩
 refine F O<|I<|G O<|F O<|I<|zJ<|G O<|F O<|qB O K<|F O<|I<|zQ<|zW ⟨[(15,.c _),(0,.c _),(1,.c _),(2,.c _),(8,.c _),(14,.c _)],[_]⟩ (Weak.mk [true] ⟨H,H,H,H,H,H,T⟩ O)<|qK 1 1 O O (Nat×List St) (fun ⟨k,outs⟩=>[(15,vI k)]) (fun ⟨k,outs⟩=>[E.vec sv1 46 20 (outs.map St.cells++(l.drop k).map St.cells)]) (fun ⟨k,outs⟩=>k<=l.length/\(outs.length=k)/\(mSts f g l=mapRest outs (mSts f g (l.drop k)))) (fun ⟨k,outs⟩=>l.length-k) ⟨⟨0,[]⟩,⟨by omega,O,(zGn _).symm⟩,Weak.mk [true] ⟨H,H,H,H,H,H,T⟩ O⟩ ?_
 rintro ⟨k,outs⟩ ⟨hk,ho,hp⟩
 show AWP _ _ _ _ _ ⟨[(15,vI k)]++_,[E.vec sv1 46 20 (outs.map St.cells++(l.drop k).map St.cells)]++_⟩
 refine G O<|yH O<|I<|zJ<|zF O (fun c1=>?_) (fun c1=>?_)
 ·try simp only [R] at c1
  obtain ⟨s,hs⟩:=qW l k (by omega)
  have hsw:=yI (zZ hs)
  have hse:=St.wt_eq s
  have hPs:=St.allF_eq (wE hP s (zZ hs))
  refine zI<|zJ<|zQ<|G O<|F O<|F O<|I<|zJ<|G O<|F O<|F O<|qC O K (by omega) (wJ hs)<|qQ O zAb<|zK J qA O<|yE O<|I<|zF O (fun c2=>?_) (fun c2=>?_)
  ·try simp only [R] at c2
   refine zS O<|F O<|F O<|F O<|F O<|F O<|qC O K (by omega) (wJ hs)<|qQ O zAf<|zK one9 qA O<|zX O (kR O O (hg s.Name) ⟨H,O,T⟩)<|zX O (qO 0 O K O O O (by omega) (zRz (by simp;omega) (by omega)))<|zX O (yZ O zAf O)<|wL O O (yV O sz9 O O O (zBu 0 O (mid_getS (by simp;omega) hs) O))<|I<|zJ<|G O<|F O<|F O<|F O<|F O<|qC O K (by omega) (wJ hs)<|qQ O zDt<|zK wR qA O<|F O<|qJ O ok87 (zAq f c P hf s.Idx (by omega) (fun x hx=>by have:=zAw hx;rw [Ix.wt] at this;omega) hPs.1) ⟨H,O,H,O,T⟩<|qP O<|qT O<|qT O<|zX O (qO 0 O K O O O (by omega) (by simp;omega))<|zX O (yZ O zDt O)<|wL O O (yV O sz34 O O O (zBu 0 O (zBt (by simp;omega)) O))<|F O<|I<|G O<|F O<|yR O<|I<|zF O (fun c3=>?_) (fun c3=>?_)
   ·try simp only [R] at c3
    refine G O<|F O<|yA 20 O<|F O<|I<|o<|w (p O) (p O) ?_
    rw [zNj hs hp (mSt_e1 (mIxs_err c3))];rfl
   ·try simp only [R] at c3
    obtain ⟨di,hmi⟩:=mIxs_0 c3
    rw [hmi]
    refine zI<|zJ<|G O<|F O<|F O<|F O<|F O<|qC O K (by omega) (wJ hs)<|qQ O zAp<|zO yX qA O<|F O<|qJ O ok138 (zDq f c P hf s.E hPs.2.1 (by have:=s.E.cnt_le;omega)) ⟨H,O,H,O,T⟩<|qP O<|yO O<|qT O<|zX O (qO 0 O K O O O (by omega) (by simp;omega))<|zX O (yZ O zAp O)<|wL O O (yV O sz44 O O O (zBu 0 O (zBt (by simp;omega)) O))<|F O<|I<|G O<|F O<|yR O<|I<|zF O (fun c4=>?_) (fun c4=>?_)
    ·try simp only [R] at c4
     refine G O<|F O<|yA 20 O<|F O<|I<|o<|w (p O) (p O) ?_
     rw [zNj hs hp (mSt_e2 hmi (mEx_err c4))];rfl
    ·try simp only [R] at c4
     obtain ⟨de,hmE⟩:=mEx_0 c4
     rw [hmE]
     refine zI<|G O<|F O<|F O<|F O<|F O<|qC O K (by omega) (wJ hs)<|qQ O kP<|zK kT qA O<|F O<|F O<|qJ O ok91 (ih s (zZ hs)) ⟨H,O,H,O,H,O,T⟩<|qP O<|qT O<|qT O<|zX O (qO 0 O K O O O (by omega) (by simp;omega))<|zX O (yZ O kP O)<|wL O O (yV O sz23 O O O (zBu 0 O (zBt (by simp;omega)) O))<|F O<|I<|G O<|F O<|yR O<|I<|zF O (fun c5=>?_) (fun c5=>?_)
     ·try simp only [R] at c5
      refine G O<|F O<|yA 20 O<|F O<|I<|o<|w (p O) (p O) ?_
      rw [zNj hs hp (mSt_e3 hmi hmE (mSts_err c5))];rfl
     ·try simp only [R] at c5
      obtain ⟨db,hmb⟩:=mSts_0 c5
      rw [hmb]
      have hms:=mSt_ok hmi hmE hmb
      have hset:∀r,(outs.map St.cells++(l.drop k).map St.cells).set k r=(outs.map St.cells++[r])++(l.drop (k+1)).map St.cells:=fun r=>zNf (by simp;omega) hs
      have hset2:∀r r',((outs.map St.cells++[r])++(l.drop (k+1)).map St.cells).set k r'=(outs.map St.cells++[r'])++(l.drop (k+1)).map St.cells:=fun r r'=>mid_set' (α:=St) (f:=St.cells) (l:=l) (by simp;omega)
      refine zI<|zS O<|qH O ⟨by omega,by omega⟩<|F O<|I ?_
      refine ⟨⟨k+1,outs++[.mk s.Op (if s.Op=1 then g s.Name else s.Name) s.Many s.Mark s.Fold di de db]⟩,⟨by omega,by simp;omega,mSts_next hs hp hms⟩,(by show l.length-(k+1)<l.length-k;omega),Weak.mk [true] ⟨H,H,H,H,H,H,T⟩ (by simp only [Int.toNat_natCast,List.set_set,hset,hset2];simp only [List.map_append,List.map_cons,List.map_nil,St.cells_eq (.mk _ _ _ _ _ _ _ _)];first|(rw [if_pos c2];rfl)|(rw [if_neg c2];rfl))⟩
  ·try simp only [R] at c2
   refine zI<|zJ<|G O<|F O<|F O<|F O<|F O<|qC O K (by omega) (wJ hs)<|qQ O zDt<|zK wR qA O<|F O<|qJ O ok87 (zAq f c P hf s.Idx (by omega) (fun x hx=>by have:=zAw hx;rw [Ix.wt] at this;omega) hPs.1) ⟨H,O,H,O,T⟩<|qP O<|qT O<|qT O<|zX O (qO 0 O K O O O (by omega) (zRz (by simp;omega) (by omega)))<|zX O (yZ O zDt O)<|wL O O (yV O sz34 O O O (zBu 0 O (mid_getS (by simp;omega) hs) O))<|F O<|I<|G O<|F O<|yR O<|I<|zF O (fun c3=>?_) (fun c3=>?_)
   ·try simp only [R] at c3
    refine G O<|F O<|yA 20 O<|F O<|I<|o<|w (p O) (p O) ?_
    rw [zNj hs hp (mSt_e1 (mIxs_err c3))];rfl
   ·try simp only [R] at c3
    obtain ⟨di,hmi⟩:=mIxs_0 c3
    rw [hmi]
    refine zI<|zJ<|G O<|F O<|F O<|F O<|F O<|qC O K (by omega) (wJ hs)<|qQ O zAp<|zO yX qA O<|F O<|qJ O ok138 (zDq f c P hf s.E hPs.2.1 (by have:=s.E.cnt_le;omega)) ⟨H,O,H,O,T⟩<|qP O<|yO O<|qT O<|zX O (qO 0 O K O O O (by omega) (by simp;omega))<|zX O (yZ O zAp O)<|wL O O (yV O sz44 O O O (zBu 0 O (zBt (by simp;omega)) O))<|F O<|I<|G O<|F O<|yR O<|I<|zF O (fun c4=>?_) (fun c4=>?_)
    ·try simp only [R] at c4
     refine G O<|F O<|yA 20 O<|F O<|I<|o<|w (p O) (p O) ?_
     rw [zNj hs hp (mSt_e2 hmi (mEx_err c4))];rfl
    ·try simp only [R] at c4
     obtain ⟨de,hmE⟩:=mEx_0 c4
     rw [hmE]
     refine zI<|G O<|F O<|F O<|F O<|F O<|qC O K (by omega) (wJ hs)<|qQ O kP<|zK kT qA O<|F O<|F O<|qJ O ok91 (ih s (zZ hs)) ⟨H,O,H,O,H,O,T⟩<|qP O<|qT O<|qT O<|zX O (qO 0 O K O O O (by omega) (by simp;omega))<|zX O (yZ O kP O)<|wL O O (yV O sz23 O O O (zBu 0 O (zBt (by simp;omega)) O))<|F O<|I<|G O<|F O<|yR O<|I<|zF O (fun c5=>?_) (fun c5=>?_)
     ·try simp only [R] at c5
      refine G O<|F O<|yA 20 O<|F O<|I<|o<|w (p O) (p O) ?_
      rw [zNj hs hp (mSt_e3 hmi hmE (mSts_err c5))];rfl
     ·try simp only [R] at c5
      obtain ⟨db,hmb⟩:=mSts_0 c5
      rw [hmb]
      have hms:=mSt_ok hmi hmE hmb
      have hset:∀r,(outs.map St.cells++(l.drop k).map St.cells).set k r=(outs.map St.cells++[r])++(l.drop (k+1)).map St.cells:=fun r=>zNf (by simp;omega) hs
      have hset2:∀r r',((outs.map St.cells++[r])++(l.drop (k+1)).map St.cells).set k r'=(outs.map St.cells++[r'])++(l.drop (k+1)).map St.cells:=fun r r'=>mid_set' (α:=St) (f:=St.cells) (l:=l) (by simp;omega)
      refine zI<|zS O<|qH O ⟨by omega,by omega⟩<|F O<|I ?_
      refine ⟨⟨k+1,outs++[.mk s.Op (if s.Op=1 then g s.Name else s.Name) s.Many s.Mark s.Fold di de db]⟩,⟨by omega,by simp;omega,mSts_next hs hp hms⟩,(by show l.length-(k+1)<l.length-k;omega),Weak.mk [true] ⟨H,H,H,H,H,H,T⟩ (by simp only [Int.toNat_natCast,List.set_set,hset,hset2];simp only [List.map_append,List.map_cons,List.map_nil,St.cells_eq (.mk _ _ _ _ _ _ _ _)];first|(rw [if_pos c2];rfl)|(rw [if_neg c2];rfl))⟩
 ·try simp only [R] at c1
  have hme:=mSts_end hp (by omega)
  rw [kC (l:=l) (k:=k) (by omega)]
  simp only [List.map_nil,List.append_nil]
  refine zW _ (yS 0 O (regs':=[(8,_)]) (μ':=[]) ⟨FLe.sl,T⟩ T)<|qN<|G O<|F O<|F O<|F O<|I<|o<|w (p O) (p O) ?_
  rw [hme];rfl
theorem zHj (f:Lf->Lf×Int) (c:C) (P:Lf->Prop) (hf:∀l,P l->FnPur cfg c [vLin l] (.tup [vLin (f l).1,vI (f l).2])) (g:ByteArray->ByteArray) (c9:C) (hg:∀s,FnPur cfg c9 [vS s] (vS (g s))) (s:St) (hP:allSs P s.Body) (hl:stsWt s.Body<=1073741824):Pur cfg 91 [vSts s.Body,.c c,.c c9] (.tup [vSts (outS (mSts f g s.Body)),vI (errE (mSts f g s.Body))]):=by
  induction s using St.ind with
  |_ s ih=>exact zCv f c P hf g c9 hg s.Body hP (fun a ha=>ih a ha (St.allF_eq (wE hP a ha)).2.2 (by have:=yI ha;have:=St.body_wt a;omega)) hl
theorem zDa (f:Lf->Lf×Int) (c:C) (P:Lf->Prop) (hf:∀l,P l->FnPur cfg c [vLin l] (.tup [vLin (f l).1,vI (f l).2])) (g:ByteArray->ByteArray) (c9:C) (hg:∀s,FnPur cfg c9 [vS s] (vS (g s))) (l:List St) (hP:allSs P l) (hl:stsWt l<=1073741824):Pur cfg 91 [vSts l,.c c,.c c9] (.tup [vSts (outS (mSts f g l)),vI (errE (mSts f g l))]):=
  zCv f c P hf g c9 hg l hP (fun s hs=>zHj f c P hf g c9 hg s (St.allF_eq (wE hP s hs)).2.2 (by have:=yI hs;have:=St.body_wt s;omega)) hl
theorem zOt (l:Lf) (hl:l.L.length<=1073741824):
    Pur cfg 93 [vLin l] (vLin l):=by
 refine zR Tryz.func93 O Tryz.ntmps93 Tryz.results93 O ?_
 intro z hz
 refine G O<|zU O O (qM O O) ?_
 rintro _ _ ⟨b1,rfl,rfl⟩
 refine zU O O (qE [none,some 2] O zr41 O) ?_
 rintro _ _ ⟨b2,rfl,rfl⟩
 refine I<|zJ<|qX 6 mixed (by kernel_rfl) O O<|M O O (zD O zCw O)<|M O O (Q O W O (Y 1 O) O)<|M O O (zD O kM O)<|M O O (Q O wX O (Y 1 O) O)<|M O O (qL O ok139 (OwnR.pur (zMy l.L (by omega))) ⟨H,O,T⟩)<|M O O (zBw O zr41 pl41 O)<|kB<|D 0 sz41 O<|I<|o<|fin1 (zV yY O (Y 0 O) O) ?_
 exact O
theorem zTd (l:Lf) (hl:l.L.length<=1073741824):
    Pur cfg 92 [vLin l] (.tup [vLin (idF l).1,vI (idF l).2]):=by
 refine zR Tryz.func92 O Tryz.ntmps92 Tryz.results92 O ?_
 intro z hz
 refine G O<|zU O O (qM O O) ?_
 rintro _ _ ⟨b1,rfl,rfl⟩
 refine zU O O (qE [none,some 2] O zr41 O) ?_
 rintro _ _ ⟨b2,rfl,rfl⟩
 refine F O<|I<|G O<|zO yY (Y 1 O) O<|qJ O ok93 (zOt l hl) ⟨H,O,T⟩<|D 0 sz41 O<|F O<|I<|o<|w (zV yY O (Y 0 O) O) (p O) ?_
 exact O
theorem zGo (s:ByteArray):
    Pur cfg 94 [vS s] (vS s):=by
 refine zR Tryz.func94 O Tryz.ntmps94 Tryz.results94 O ?_
 intro z hz
 refine G O<|F O<|I<|G O<|F O<|F O<|I<|o<|X O ?_
 exact O
theorem zCo (l:List St) (hl:stsWt l<=1073741824):
    Pur cfg 41 [vSts l] (vSts l):=by
 refine zR Tryz.func41 O Tryz.ntmps41 Tryz.results41 O ?_
 intro z hz
 refine G O<|yA 20 O<|I<|G O<|F O<|qJ O ok91 (zDa idF _ (fun l=>l.L.length<=1073741824) (fun l hl=>FnPur.of_pur (first:=[]) (cap:=[]) ok92 (zTd l hl)) (fun x=>x) _ (fun s=>FnPur.of_pur (first:=[]) (cap:=[]) ok94 (zGo s)) l (zLa hl) hl) ⟨H,O,H,O,H,O,T⟩<|qP O<|qT O<|qT O<|F O<|F O<|I<|G O<|F O<|F O<|I<|o<|X O ?_
 rw [mSts_id];rfl
theorem loopnest_At (n:Ns) (way:List Int) (hw:way.length<=1073741824) (hl:stsWt n.Body<=1000000000):
    Pur cfg 15 [vNs n,vIs way] (.tup [vSt (atT n.Body way).1,vB (atT n.Body way).2]):=by
 refine zR Tryz.func15 O Tryz.ntmps15 Tryz.results15 O ?_
 intro z hz
 have htl:=trl_len way n.Body []
 have htl2:(trailT n.Body way).length<=way.length:=by unfold trailT;simpa using htl
 refine G O<|zU O O (qM O O) ?_
 rintro _ _ ⟨b1,rfl,rfl⟩
 refine zU O O (qE [none,none,none,none,none,some 4,none,none,none,none,none,none,none,none,none,none,some 2,some 4,some 13,some 20] O j O) ?_
 rintro _ _ ⟨b2,rfl,rfl⟩
 refine F O<|I<|G O<|zH O zAc<|zK kT (Y 1 O) O<|F O<|qJ O ok38 (zJw n.Body way hw) ⟨H,O,H,O,T⟩<|F O<|I<|zJ<|G O<|F O<|qB O K<|yE O<|I<|zF O (fun c1=>?_) (fun c1=>?_)
 ·try simp only [R] at c1
  have he:trailT n.Body way=[]:=List.eq_nil_of_length_eq_zero (by omega)
  have ha:=at_none he
  refine G O<|qV [none,none,none,none,none,some 4,none,none,none,none,none,none,none,none,none,none,some 2,some 4,some 13,some 20] O j pl46<|D 0 sz46 O<|F O<|I<|o<|w (zV zBx O (Y 0 O) O) (p O) ?_
  rw [ha];rfl
 ·try simp only [R] at c1
  have hne:trailT n.Body way≠[]:=fun h=>c1 (by rw [h];rfl)
  have hlast:=at_last hne
  have hok:=at_some hne
  refine zI<|G O<|F O<|F O<|qB O K<|zX O (qZ O O O ⟨by omega,by omega⟩)<|zX O (zBk (k:=(trailT n.Body way).length-1) O K O (congrArg (fun n=>V.c (C.lit (.int .i64 n))) (by have:=List.length_pos_iff.2 hne;omega)) (by omega))<|qJ O ok41 (show Pur cfg 41 [vSts ((trailT n.Body way).drop ((trailT n.Body way).length-1))] (vSts [(atT n.Body way).1]) by rw [hlast];exact zCo [(atT n.Body way).1] (by have:=atT_wt (l:=n.Body) (way:=way);simp only [stsWt];omega)) ⟨H,O,T⟩<|qC O K (by omega) (show ([(atT n.Body way).1].map St.cells)[0]? =some (atT n.Body way).1.cs by rw [←St.cells_eq];rfl)<|zO zBx qA O<|D 0 sz46 O<|F O<|I<|o<|w (zV zBx O (Y 0 O) O) (p O) ?_
  rw [hok];rfl
end Go.W
