/-
  Walks: what functions of the program compute. Printed by wip/gen/mk2.py.
  Conditions: none.
-/
import Derived.Test.YtgfomfnjionbeaaGreatDoorNG
import Derived.Test.YtgfomfnjionbeaaGreatDoorPlain3
set_option linter.unusedSimpArgs false
set_option linter.unusedVariables false
set_option maxRecDepth 10000
namespace Go.W
open Go Go.Eng Go.Proofs Go.L41 Go.Br
attribute [local irreducible] AWP RWP TD finQ
theorem ok140:callOk Tryz.prog 140=true:=by kernel_rfl
theorem ok141:callOk Tryz.prog 141=true:=by kernel_rfl
theorem ok142:callOk Tryz.prog 142=true:=by kernel_rfl
theorem ok143:callOk Tryz.prog 143=true:=by kernel_rfl
theorem ok193:callOk Tryz.prog 193=true:=by kernel_rfl
theorem ok194:callOk Tryz.prog 194=true:=by kernel_rfl
theorem ok195:callOk Tryz.prog 195=true:=by kernel_rfl
theorem sz9:(Tryz.prog.info? 9).map (·.size)=some 1:=by kernel_rfl
theorem sz33:(Tryz.prog.info? 33).map (·.size)=some 1:=by kernel_rfl
theorem zOu (l:List St) (hl:l.length<=4294967296):
    OwnR cfg 193 [vSts l] 64 20 (l.map St.cells):=by
 refine zW Tryz.func193 O Tryz.ntmps193 Tryz.results193 O ?_
 intro z hz
 refine Y O<|qT 20 O<|zA<|zH<|Y O<|G O<|zZ O O (zFd O L O O) ?_
 rintro _ _ ⟨nb1,rfl,hnil1,rfl⟩
 refine zA<|zE O (fun c1=>?_) (fun c1=>?_)
 ·try simp only [sx] at c1
  refine Y O<|G O<|yK _ (kI 64 20)<|zA<|zG<|zV O ?_
  exact ⟨_,O,by rw [hnil1 c1]⟩
 ·try simp only [sx] at c1
  refine zF<|Y O<|zZ O O (zBv O L zr64 O O O O) ?_
  rintro _ _ ⟨sv3,rfl,rfl⟩
  refine G O<|zZ O O (yH 0 O L O O O (by simp only [List.length_map,List.length_nil,Nat.zero_add];omega) (by simp only [List.length_map,List.length_nil,Nat.zero_add];omega)) ?_
  exact l8
theorem zBt (f:Lf->Lf×Int) (c:C) (P:Lf->Prop) (hf:∀l,P l->FnPur cfg c [vLin l] (.tup [vLin (f l).1,vI (f l).2])) (i:List Ix) (hi:i.length<=4294967296) (hA:∀x,x∈i->x.At.length<=4294967296) (hP:ixsAll P i):
    Pur cfg 194 [vIndices i,.c c] (.tup [vIndices (outIs (mIxs f i)),vI (errE (mIxs f i))]):=by
 refine zW Tryz.func194 O Tryz.ntmps194 Tryz.results194 O ?_
 intro z hz
 refine Y O<|qT 4 O<|G O<|zA<|Y O<|G O<|zZ O O (zAg O ok128 (zHc i hi) ⟨zB,O,T⟩) ?_
 rintro _ _ ⟨sv1,rfl,rfl⟩
 refine G O<|zA<|Y O<|G O<|zA<|zH<|Y O<|G O<|qB O el52<|G O<|zA<|zT<|zU ⟨[(14,.c _),(0,.c _),(1,.c _),(6,.c _),(13,.c _)],[_]⟩ (Weak.mk [true] ⟨zB,zB,zB,zB,zB,T⟩ O)<|qJ 1 1 O O (Nat×List Ix) (fun ⟨k,outs⟩=>[(14,vI k)]) (fun ⟨k,outs⟩=>[E.vec sv1 93 4 (outs.map Ix.cells++(i.drop k).map Ix.cells)]) (fun ⟨k,outs⟩=>k<=i.length/\(outs.length=k)/\(mIxs f i=mapRest outs (mIxs f (i.drop k)))) (fun ⟨k,outs⟩=>i.length-k) ⟨⟨0,[]⟩,⟨by omega,O,(zBs _).symm⟩,Weak.mk [true] ⟨zB,zB,zB,zB,zB,T⟩ O⟩ ?_
 rintro ⟨k,outs⟩ ⟨hk,ho,hp⟩
 show AWP _ _ _ _ _ ⟨[(14,vI k)]++_,[E.vec sv1 93 4 (outs.map Ix.cells++(i.drop k).map Ix.cells)]++_⟩
 refine Y O<|yB O<|zA<|zH<|zE O (fun c1=>?_) (fun c1=>?_)
 ·try simp only [sx] at c1
  obtain ⟨x,hx⟩:=yD i k (by omega)
  have hAx:=hA x (qC hx)
  refine zF<|zH<|zT<|Y O<|G O<|G O<|zA<|zH<|Y O<|G O<|G O<|G O<|G O<|G O<|qD O el52 (by omega) (getm (by assumption))<|zR O (qI O zEl O)<|zM kE qH O<|zR O (kP O O (hf x.Lin (hP x (qC hx)).1) ⟨zB,O,T⟩)<|qV O<|zR O (yA O O O)<|yI O<|zR O (qL 0 O el52 O O O (by omega) (zHn (by simp;omega) (by omega)))<|zR O (kK O zEl O)<|zAj O O (yT O sz59 O O O (zDf 0 O (zMh (by simp;omega) hx) O))<|G O<|zA<|Y O<|G O<|yM O<|zA<|zE O (fun c2=>?_) (fun c2=>?_)
  ·try simp only [sx] at c2
   refine Y O<|G O<|qT 4 O<|G O<|zA<|zG<|fin2 (N O) (N O) ?_
   rw [mIxs_no hx hp (mIx_e1 c2)];rfl
  ·try simp only [sx] at c2
   refine zF<|Y O<|G O<|G O<|G O<|G O<|qD O el52 (by omega) (getm (by assumption))<|zR O (qI O zBj O)<|zI zEt qH O<|zZ O O (zAg O ok129 (zGl x.At (hA x (qC hx))) ⟨zB,O,T⟩) ?_
   rintro _ _ ⟨sv2,rfl,rfl⟩
   refine zR O (qL 1 O el52 O O O (by omega) (by simp;omega))<|zR O (kK O zBj O)<|zAj O O (yT O sz72 O O O (zDf 1 O (zDt (by simp;omega)) O))<|zA<|Y O<|G O<|G O<|qD O el52 (by omega) (getm (by assumption))<|zR O (qI O zBj O)<|zI zEt qH O<|qB O el72<|G O<|zA<|zT<|zU ⟨[(50,.c _),(0,.c _),(1,.c _),(6,.c _),(8,.c _),(13,.c _),(14,.c _),(49,.c _)],[_,_]⟩ (Weak.mk [true,true] ⟨zB,zB,zB,zB,zB,zB,zB,zB,T⟩ O)<|qJ 1 1 O O (Nat×List Lf) (fun ⟨j,lins⟩=>[(50,vI j)]) (fun ⟨j,lins⟩=>[E.vec sv2 59 2 (lins.map Lf.cells++(x.At.drop j).map Lf.cells)]) (fun ⟨j,lins⟩=>j<=x.At.length/\(lins.length=j)/\(mLins f x.At=mapRest lins (mLins f (x.At.drop j)))) (fun ⟨j,lins⟩=>x.At.length-j) ⟨⟨0,[]⟩,⟨by omega,O,(zBs _).symm⟩,Weak.mk [true,true] ⟨zB,zB,zB,zB,zB,zB,zB,zB,T⟩ O⟩ ?_
   rintro ⟨j,lins⟩ ⟨hj,hlo,hq⟩
   show AWP _ _ _ _ _ ⟨[(50,vI j)]++_,[E.vec sv2 59 2 (lins.map Lf.cells++(x.At.drop j).map Lf.cells)]++_⟩
   refine Y O<|yB O<|zA<|zH<|zE O (fun c3=>?_) (fun c3=>?_)
   ·try simp only [sx] at c3
    obtain ⟨l,hl⟩:=yD x.At j (by omega)
    refine zF<|zH<|zT<|Y O<|G O<|G O<|zA<|zH<|yP 21 0 [⟨0,.q []⟩,⟨1,.q []⟩,⟨2,.q [1]⟩,⟨3,.q []⟩,⟨4,.q [1]⟩,⟨5,.q []⟩,⟨6,.q []⟩,⟨7,.q []⟩,⟨8,.q []⟩,⟨9,.q []⟩,⟨10,.q []⟩,⟨11,.q []⟩,⟨12,.q []⟩,⟨13,.q []⟩,⟨14,.q []⟩,⟨15,.q []⟩,⟨16,.q []⟩,⟨17,.q []⟩,⟨18,.q []⟩,⟨19,.q [0]⟩,⟨20,.e 0 []⟩] mixed (by kernel_rfl) (by kernel_rfl) O O O<|zO O<|zO O<|zO O<|zO O<|zO O<|zO O<|zO O<|zO O<|zO O<|zO O<|zO O<|zO O<|zO O<|zO O<|zO O<|zO O<|zO O<|zO O<|zO O<|zO O<|zO O<|wR<|zX O (by decide) O O (zS O O)<|zX O (by decide) O O (zS O O)<|zX O (by decide) O O (qL 0 O el52 O O O (by omega) (by simp;omega))<|zX O (by decide) O O (kK O zBj O)<|zX O (by decide) O O (zK O zEt O (kN 0 O (zDt (by simp;omega))) O)<|zX O (by decide) O O (zS O O)<|zX O (by decide) O O (zS O O)<|zX O (by decide) O O (zS O O)<|zX O (by decide) O O (zS O O)<|zX O (by decide) O O (qU O el52 O O (by omega) (getm (by assumption)))<|zX O (by decide) O O (qI O zBj O)<|zX O (by decide) O O (zK O zEt O qH O)<|zX O (by decide) O O (zS O O)<|zX O (by decide) O O (qU O el72 O O (by omega) (getm (by assumption)))<|zX O (by decide) O O (qA O kE O qH O)<|zX O (by decide) O O (kP O O (hf l ((hP x (qC hx)).2 l (qC hl))) ⟨zB,O,T⟩)<|zX O (by decide) O O (yR O O)<|zX O (by decide) O O (yA O O O)<|zX O (by decide) O O (kR O O O)<|zX O (by decide) O O (qL 0 O el72 O O O (by omega) (zHn (by simp;omega) (by omega)))<|zDr O O (by decide) O O (yT O sz59 O O O (zDf 0 O (zMh (by simp;omega) hl) O)) ?_
    rintro _ _ ⟨rfl,rfl⟩
    refine ⟨_,O,?_⟩
    refine wQ O<|G O<|zA<|Y O<|G O<|yM O<|zA<|zE O (fun c4=>?_) (fun c4=>?_)
    ·try simp only [sx] at c4
     refine Y O<|G O<|qT 4 O<|G O<|zA<|zG<|fin2 (N O) (N O) ?_
     rw [mIxs_no hx hp (mIx_e2 c2 (mLins_no hl hq c4))];rfl
    ·try simp only [sx] at c4
     refine zF<|zP O<|qM O ⟨by omega,by omega⟩<|G O<|zA ?_
     refine ⟨⟨j+1,lins++[(f l).1]⟩,⟨by omega,by simp;omega,mLins_next hl hq c4⟩,(by show x.At.length-(j+1)<x.At.length-j;omega),Weak.mk [true,true] ⟨zB,zB,zB,zB,zB,zB,zB,zB,T⟩ (by simp only [Int.toNat_natCast];rw [zHm (by simp;omega) hl];simp only [List.map_append,List.map_cons,List.map_nil];rfl)⟩
   ·try simp only [sx] at c3
    have hml:=mLins_end hq (by omega)
    rw [kV (l:=x.At) (k:=j) (by omega)]
    simp only [List.map_nil,List.append_nil]
    refine zU _ (yJ 0 O (regs':=[]) (μ':=[_]) T ⟨EFle.vec (r':=[_,_,_,_]) (zDt (by simp;omega)) ⟨.inl O,.inl O,.inl O,.inr ⟨O,O⟩,T⟩,T⟩)<|qP<|zP O<|qM O ⟨by omega,by omega⟩<|G O<|zA ?_
    refine ⟨⟨k+1,outs++[⟨(f x.Lin).1,x.From,lins⟩]⟩,⟨by omega,by simp;omega,mIxs_next hx hp (mIx_ok c2 hml)⟩,(by show i.length-(k+1)<i.length-k;omega),Weak.mk [true] ⟨zB,zB,zB,zB,zB,T⟩ (by simp only [Int.toNat_natCast,List.set_set];rw [zHm (by simp;omega) hx];simp only [List.map_append,List.map_cons,List.map_nil];rfl)⟩
 ·try simp only [sx] at c1
  have hmi:=mIxs_end hp (by omega)
  rw [kV (l:=i) (k:=k) (by omega)]
  simp only [List.map_nil,List.append_nil]
  refine zU _ (yJ 0 O (regs':=[(6,_)]) (μ':=[]) ⟨FLe.sl,T⟩ T)<|qP<|Y O<|G O<|G O<|G O<|zA<|zG<|fin2 (N O) (N O) ?_
  rw [hmi];rfl
theorem zHo (f:Lf->Lf×Int) (c:C) (P:Lf->Prop) (hf:∀l,P l->FnPur cfg c [vLin l] (.tup [vLin (f l).1,vI (f l).2])) (e:Ex) (hP:e.allF P) (ih:∀a,a∈e.Args->a.allF P->a.cnt<=4294967296->Pur cfg 195 [vE a,.c c] (.tup [vE (outE (mEx f a)),vI (errE (mEx f a))])) (he:e.cnt<=4294967296):
    Pur cfg 195 [vE e,.c c] (.tup [vE (outE (mEx f e)),vI (errE (mEx f e))]):=by
 refine zW Tryz.func195 O Tryz.ntmps195 Tryz.results195 O ?_
 intro z hz
 obtain ⟨hI,hA,hAt⟩:=e.cparts he
 have hPI:=ixsAll_of hP
 refine Y O<|zZ O O (qO O O) ?_
 rintro _ _ ⟨b1,rfl,rfl⟩
 refine zZ O O (qF [none,none,none,none,none,none,none,none,none,none,some 2,some 4,some 13] O zr62 O) ?_
 rintro _ _ ⟨b2,rfl,rfl⟩
 refine G O<|zA<|Y O<|zM kD (J 1 O) O<|zZ O O (qF [none,none,none,none,none,none,none,none,none,none,some 2,some 4,some 13] O zr62 O) ?_
 rintro _ _ ⟨b3,rfl,rfl⟩
 refine D 0 sz62 O<|zA<|Y O<|G O<|zA<|zH<|Y O<|G O<|zD O zGp<|zM kE (J 2 O) O<|zR O (kP O O (hf e.Lin (Ex.allF_lin hP)) ⟨zB,O,T⟩)<|qV O<|zR O (yA O O O)<|yI O<|zD O zGp<|D 0 sz59 O<|G O<|zA<|Y O<|G O<|yM O<|zA<|zE O (fun c1=>?_) (fun c1=>?_)
 ·exact v26
 ·try simp only [sx] at c1
  refine zF<|zH<|Y O<|zD O zAt<|zI zBr (J 2 O) O<|G O<|qK O ok194 (zBt f c P hf e.Idx hI hAt hPI) ⟨zB,O,zB,O,T⟩<|qV O<|yI O<|yI O<|zD O zAt<|D 0 sz52 O<|G O<|zA<|Y O<|G O<|yM O<|zA<|zE O (fun c2=>?_) (fun c2=>?_)
  ·try simp only [sx] at c2
   refine Y O<|yY [none,none,none,none,none,none,none,none,none,none,some 2,some 4,some 13] O zr62 pl62<|G O<|D 1 sz62 O<|G O<|zA<|zG<|fin2 (zY kD O (J 1 O) O) (N O) ?_
   rw [mEx_e2 c1 (mIxs_err c2)];rfl
  ·try simp only [sx] at c2
   obtain ⟨di,hmi⟩:=mIxs_0 c2
   rw [hmi]
   refine zF<|Y O<|zD O zCf<|zI zIw (J 2 O) O<|zZ O O (zAg O ok130 (zHd e.Args hA) ⟨zB,O,T⟩) ?_
   rintro _ _ ⟨sv4,rfl,rfl⟩
   refine zD O zCf<|D 1 sz60 O<|zA<|zH<|Y O<|zD O zCf<|zI zIw (J 3 O) O<|qB O el60<|G O<|zA<|zT<|zU ⟨[(41,.c _),(1,.c _),(2,.c _),(4,.c _),(6,.c _),(40,.c _)],[_,_,_,_]⟩ (Weak.mk [true,true,true,true] ⟨zB,zB,zB,zB,zB,zB,T⟩ O)<|qJ 1 1 O O (Nat×List Ex) (fun ⟨n,exs⟩=>[(41,vI n)]) (fun ⟨n,exs⟩=>[E.vec sv4 62 13 (exs.map Ex.cells++(e.Args.drop n).map Ex.cells)]) (fun ⟨n,exs⟩=>n<=e.Args.length/\(exs.length=n)/\(mExs f e.Args=mapRest exs (mExs f (e.Args.drop n)))) (fun ⟨n,exs⟩=>e.Args.length-n) ⟨⟨0,[]⟩,⟨by omega,O,(zBs _).symm⟩,Weak.mk [true,true,true,true] ⟨zB,zB,zB,zB,zB,zB,T⟩ O⟩ ?_
   rintro ⟨n,exs⟩ ⟨hn,hno,hr⟩
   show AWP _ _ _ _ _ ⟨[(41,vI n)]++_,[E.vec sv4 62 13 (exs.map Ex.cells++(e.Args.drop n).map Ex.cells)]++_⟩
   refine Y O<|yB O<|zA<|zH<|zE O (fun c3=>?_) (fun c3=>?_)
   ·try simp only [sx] at c3
    obtain ⟨a,ha⟩:=yD e.Args n (by omega)
    refine zF<|zH<|zT<|Y O<|G O<|G O<|zA<|zH<|yP 15 0 [⟨0,.q []⟩,⟨1,.q [1]⟩,⟨2,.q []⟩,⟨3,.q []⟩,⟨4,.q [3]⟩,⟨5,.q []⟩,⟨6,.q []⟩,⟨7,.q []⟩,⟨8,.q []⟩,⟨9,.q []⟩,⟨10,.q []⟩,⟨11,.q []⟩,⟨12,.q []⟩,⟨13,.q [0]⟩,⟨14,.e 0 []⟩] mixed (by kernel_rfl) (by kernel_rfl) O O O<|zO O<|zO O<|zO O<|zO O<|zO O<|zO O<|zO O<|zO O<|zO O<|zO O<|zO O<|zO O<|zO O<|zO O<|zO O<|wR<|zX O (by decide) O O (zJ O zCf O)<|zX O (by decide) O O (zK O zIw O (J 0 O) O)<|zX O (by decide) O O (zS O O)<|zX O (by decide) O O (zJ O zCf O)<|zX O (by decide) O O (zK O zIw O (J 0 O) O)<|zX O (by decide) O O (zS O O)<|zX O (by decide) O O (qU O el60 O O (by omega) (getmE (by assumption)))<|zX O (by decide) O O (qA O kD O qH O)<|zX O (by decide) O O (zS O O)<|zX O (by decide) O O (qR O ok195 (ih a (qC ha) (Ex.allF_arg hP (qC ha)) (by have:=Ex.arg_cnt (qC ha);omega)) ⟨zB,O,zB,O,T⟩)<|zX O (by decide) O O (yR O O)<|zX O (by decide) O O (yA O O O)<|zX O (by decide) O O (kR O O O)<|zX O (by decide) O O (qL 0 O el60 O O O (by omega) (zHn (by simp;omega) (by omega)))<|zDr O O (by decide) O O (yT O sz62 O O O (zDf 0 O (mid_getE (by simp;omega) ha) O)) ?_
    rintro _ _ ⟨rfl,rfl⟩
    refine ⟨_,O,?_⟩
    refine wQ O<|G O<|zA<|Y O<|G O<|yM O<|zA<|zE O (fun c4=>?_) (fun c4=>?_)
    ·try simp only [sx] at c4
     refine Y O<|yY [none,none,none,none,none,none,none,none,none,none,some 2,some 4,some 13] O zr62 pl62<|G O<|D 2 sz62 O<|G O<|zA<|zG<|fin2 (zY kD O (J 2 O) O) (N O) ?_
     rw [mEx_e3 c1 hmi (mExs_no ha hr c4)];rfl
    ·try simp only [sx] at c4
     refine zF<|zP O<|qM O ⟨by omega,by omega⟩<|G O<|zA ?_
     refine ⟨⟨n+1,exs++[outE (mEx f a)]⟩,⟨by omega,by simp;omega,mExs_next ha hr c4⟩,(by show e.Args.length-(n+1)<e.Args.length-n;omega),Weak.mk [true,true,true,true] ⟨zB,zB,zB,zB,zB,zB,T⟩ (by simp only [Int.toNat_natCast];rw [zHm (by simp;omega) ha];simp only [List.map_append,List.map_cons,List.map_nil,Ex.cells_eq (outE (mEx f a))];rfl)⟩
   ·try simp only [sx] at c3
    have hme:=mExs_end hr (by omega)
    rw [kV (l:=e.Args) (k:=n) (by omega)]
    simp only [List.map_nil,List.append_nil]
    refine zU _ (yJ 0 O (regs':=[]) (μ':=[_,_,_]) T ⟨EFle.row (ds:=[_,_,_,_,_,_,_,_,_,_,_,_,_]) ⟨.inl O,.inl O,.inl O,.inl O,.inl O,.inl O,.inl O,.inl O,.inl O,.inl O,.inl O,.inl O,.inr ⟨O,O⟩,T⟩,EFle.refl _,EFle.refl _,T⟩)<|qP<|Y O<|zM kD (J 0 O) O<|D 1 sz62 O<|G O<|zA<|zG<|fin2 (zY kD O (J 1 O) O) (N O) ?_
    rw [mEx_ok c1 hmi hme];rfl
theorem zGo (f:Lf->Lf×Int) (c:C) (P:Lf->Prop) (hf:∀l,P l->FnPur cfg c [vLin l] (.tup [vLin (f l).1,vI (f l).2])) (e:Ex) (hP:e.allF P) (he:e.cnt<=4294967296):Pur cfg 195 [vE e,.c c] (.tup [vE (outE (mEx f e)),vI (errE (mEx f e))]):=by
  induction e using Ex.ind with
  |_ e ih=>exact zHo f c P hf e hP ih he
theorem zCk (f:Lf->Lf×Int) (c:C) (P:Lf->Prop) (hf:∀l,P l->FnPur cfg c [vLin l] (.tup [vLin (f l).1,vI (f l).2])) (g:ByteArray->ByteArray) (c9:C) (hg:∀s,FnPur cfg c9 [vS s] (vS (g s))) (l:List St) (hP:allSs P l) (ih:∀s,s∈l->Pur cfg 140 [vSts s.Body,.c c,.c c9] (.tup [vSts (outS (mSts f g s.Body)),vI (errE (mSts f g s.Body))])) (hl:stsWt l<=1073741824):
    Pur cfg 140 [vSts l,.c c,.c c9] (.tup [vSts (outS (mSts f g l)),vI (errE (mSts f g l))]):=by
 refine zW Tryz.func140 O Tryz.ntmps140 Tryz.results140 O ?_
 intro z hz
 have hll:=zBi l
 refine Y O<|qT 20 O<|G O<|zA<|Y O<|G O<|zZ O O (zAg O ok193 (zOu l (by omega)) ⟨zB,O,T⟩) ?_
 rintro _ _ ⟨sv1,rfl,rfl⟩
 refine G O<|zA<|Y O<|G O<|zA<|zH<|Y O<|G O<|qB O L<|G O<|zA<|zT<|zU ⟨[(15,.c _),(0,.c _),(1,.c _),(2,.c _),(8,.c _),(14,.c _)],[_]⟩ (Weak.mk [true] ⟨zB,zB,zB,zB,zB,zB,T⟩ O)<|qJ 1 1 O O (Nat×List St) (fun ⟨k,outs⟩=>[(15,vI k)]) (fun ⟨k,outs⟩=>[E.vec sv1 64 20 (outs.map St.cells++(l.drop k).map St.cells)]) (fun ⟨k,outs⟩=>k<=l.length/\(outs.length=k)/\(mSts f g l=mapRest outs (mSts f g (l.drop k)))) (fun ⟨k,outs⟩=>l.length-k) ⟨⟨0,[]⟩,⟨by omega,O,(zBs _).symm⟩,Weak.mk [true] ⟨zB,zB,zB,zB,zB,zB,T⟩ O⟩ ?_
 rintro ⟨k,outs⟩ ⟨hk,ho,hp⟩
 show AWP _ _ _ _ _ ⟨[(15,vI k)]++_,[E.vec sv1 64 20 (outs.map St.cells++(l.drop k).map St.cells)]++_⟩
 refine Y O<|yB O<|zA<|zH<|zE O (fun c1=>?_) (fun c1=>?_)
 ·try simp only [sx] at c1
  obtain ⟨s,hs⟩:=yD l k (by omega)
  have hsw:=zCb (qC hs)
  have hse:=St.wt_eq s
  have hPs:=St.allF_eq (zLo hP s (qC hs))
  refine zF<|zH<|zT<|Y O<|G O<|G O<|zA<|zH<|Y O<|G O<|G O<|qD O L (by omega) (zEh hs)<|zR O (qI O zHz O)<|zI one3 qH O<|yX O<|zA<|zE O (fun c2=>?_) (fun c2=>?_)
  ·try simp only [sx] at c2
   refine zP O<|G O<|G O<|G O<|G O<|G O<|qD O L (by omega) (zEh hs)<|zR O (qI O zHy O)<|zI one9 qH O<|zR O (kP O O (hg s.Name) ⟨zB,O,T⟩)<|zR O (qL 0 O L O O O (by omega) (zHn (by simp;omega) (by omega)))<|zR O (kK O zHy O)<|zAj O O (yT O sz9 O O O (zDf 0 O (mid_getS (by simp;omega) hs) O))<|zA<|zH<|Y O<|G O<|G O<|G O<|G O<|qD O L (by omega) (zEh hs)<|zR O (qI O fd64_5 O)<|zI zBr qH O<|G O<|qK O ok194 (zBt f c P hf s.Idx (by omega) (fun x hx=>by have:=zDb hx;rw [Ix.wt] at this;omega) hPs.1) ⟨zB,O,zB,O,T⟩<|qV O<|yI O<|yI O<|zR O (qL 0 O L O O O (by omega) (by simp;omega))<|zR O (kK O fd64_5 O)<|zAj O O (yT O sz52 O O O (zDf 0 O (zDt (by simp;omega)) O))<|G O<|zA<|Y O<|G O<|yM O<|zA<|zE O (fun c3=>?_) (fun c3=>?_)
   ·try simp only [sx] at c3
    refine Y O<|G O<|qT 20 O<|G O<|zA<|zG<|fin2 (N O) (N O) ?_
    rw [zMj hs hp (mSt_e1 (mIxs_err c3))];rfl
   ·exact w8
  ·try simp only [sx] at c2
   refine zF<|zH<|Y O<|G O<|G O<|G O<|G O<|qD O L (by omega) (zEh hs)<|zR O (qI O fd64_5 O)<|zI zBr qH O<|G O<|qK O ok194 (zBt f c P hf s.Idx (by omega) (fun x hx=>by have:=zDb hx;rw [Ix.wt] at this;omega) hPs.1) ⟨zB,O,zB,O,T⟩<|qV O<|yI O<|yI O<|zR O (qL 0 O L O O O (by omega) (zHn (by simp;omega) (by omega)))<|zR O (kK O fd64_5 O)<|zAj O O (yT O sz52 O O O (zDf 0 O (mid_getS (by simp;omega) hs) O))<|G O<|zA<|Y O<|G O<|yM O<|zA<|zE O (fun c3=>?_) (fun c3=>?_)
   ·try simp only [sx] at c3
    refine Y O<|G O<|qT 20 O<|G O<|zA<|zG<|fin2 (N O) (N O) ?_
    rw [zMj hs hp (mSt_e1 (mIxs_err c3))];rfl
   ·exact w8
 ·try simp only [sx] at c1
  have hme:=mSts_end hp (by omega)
  rw [kV (l:=l) (k:=k) (by omega)]
  simp only [List.map_nil,List.append_nil]
  refine zU _ (yJ 0 O (regs':=[(8,_)]) (μ':=[]) ⟨FLe.sl,T⟩ T)<|qP<|Y O<|G O<|G O<|G O<|zA<|zG<|fin2 (N O) (N O) ?_
  rw [hme];rfl
theorem zGu (f:Lf->Lf×Int) (c:C) (P:Lf->Prop) (hf:∀l,P l->FnPur cfg c [vLin l] (.tup [vLin (f l).1,vI (f l).2])) (g:ByteArray->ByteArray) (c9:C) (hg:∀s,FnPur cfg c9 [vS s] (vS (g s))) (s:St) (hP:allSs P s.Body) (hl:stsWt s.Body<=1073741824):Pur cfg 140 [vSts s.Body,.c c,.c c9] (.tup [vSts (outS (mSts f g s.Body)),vI (errE (mSts f g s.Body))]):=by
  induction s using St.ind with
  |_ s ih=>exact zCk f c P hf g c9 hg s.Body hP (fun a ha=>ih a ha (St.allF_eq (zLo hP a ha)).2.2 (by have:=zCb ha;have:=St.body_wt a;omega)) hl
theorem zMl (f:Lf->Lf×Int) (c:C) (P:Lf->Prop) (hf:∀l,P l->FnPur cfg c [vLin l] (.tup [vLin (f l).1,vI (f l).2])) (g:ByteArray->ByteArray) (c9:C) (hg:∀s,FnPur cfg c9 [vS s] (vS (g s))) (l:List St) (hP:allSs P l) (hl:stsWt l<=1073741824):Pur cfg 140 [vSts l,.c c,.c c9] (.tup [vSts (outS (mSts f g l)),vI (errE (mSts f g l))]):=
  zCk f c P hf g c9 hg l hP (fun s hs=>zGu f c P hf g c9 hg s (St.allF_eq (zLo hP s hs)).2.2 (by have:=zCb hs;have:=St.body_wt s;omega)) hl
theorem zNp (l:Lf) (hl:l.L.length<=1073741824):
    Pur cfg 142 [vLin l] (vLin l):=by
 refine zW Tryz.func142 O Tryz.ntmps142 Tryz.results142 O ?_
 intro z hz
 refine Y O<|zZ O O (qO O O) ?_
 rintro _ _ ⟨b1,rfl,rfl⟩
 refine zZ O O (qF [none,some 2] O W O) ?_
 rintro _ _ ⟨b2,rfl,rfl⟩
 refine zA<|zH<|yL 6 mixed (by kernel_rfl) O O<|zQ O O (zJ O zFk O)<|zQ O O (zK O one2 O (J 1 O) O)<|zQ O O (zJ O zAe O)<|zQ O O (zK O zEg O (J 1 O) O)<|zQ O O (qR O ok196 (OwnR.pur (zFb l.L (by omega))) ⟨zB,O,T⟩)<|zQ O O (zBl O W pl59 O)<|kL<|D 0 sz59 O<|zA<|zG<|fin1 (zY kE O (J 0 O) O) ?_
 exact O
theorem copyStmts_1 (l:Lf) (hl:l.L.length<=1073741824):
    Pur cfg 141 [vLin l] (.tup [vLin (idF l).1,vI (idF l).2]):=by
 refine zW Tryz.func141 O Tryz.ntmps141 Tryz.results141 O ?_
 intro z hz
 refine Y O<|zZ O O (qO O O) ?_
 rintro _ _ ⟨b1,rfl,rfl⟩
 refine zZ O O (qF [none,some 2] O W O) ?_
 rintro _ _ ⟨b2,rfl,rfl⟩
 refine G O<|zA<|Y O<|zM kE (J 1 O) O<|qK O ok142 (zNp l hl) ⟨zB,O,T⟩<|D 0 sz59 O<|G O<|zA<|zG<|fin2 (zY kE O (J 0 O) O) (N O) ?_
 exact O
theorem loopnest_same (s:ByteArray):
    Pur cfg 143 [vS s] (vS s):=by
 refine zW Tryz.func143 O Tryz.ntmps143 Tryz.results143 O ?_
 intro z hz
 refine Y O<|G O<|zA<|Y O<|G O<|G O<|zA<|zG<|zV O ?_
 exact O
theorem zKq (l:List St) (hl:stsWt l<=1073741824):
    Pur cfg 78 [vSts l] (vSts l):=by
 refine zW Tryz.func78 O Tryz.ntmps78 Tryz.results78 O ?_
 intro z hz
 refine Y O<|qT 20 O<|zA<|Y O<|G O<|qK O ok140 (zMl idF _ (fun l=>l.L.length<=1073741824) (fun l hl=>FnPur.of_pur (first:=[]) (cap:=[]) ok141 (copyStmts_1 l hl)) (fun x=>x) _ (fun s=>FnPur.of_pur (first:=[]) (cap:=[]) ok143 (loopnest_same s)) l (sts_short hl) hl) ⟨zB,O,zB,O,zB,O,T⟩<|qV O<|yI O<|yI O<|G O<|G O<|zA<|Y O<|G O<|G O<|zA<|zG<|zV O ?_
 rw [mSts_id];rfl
end Go.W
