/-
  Walks: what functions of the program compute. Printed by wip/gen/mk2.py.
  Conditions: none.
-/
import Derived.Test.YtlfjpejkoccibaaGreatDoorNG
import Derived.Test.YtlfjpejkoccibaaGreatDoorPlain2
set_option linter.unusedSimpArgs false
set_option linter.unusedVariables false
set_option maxRecDepth 10000
namespace Go.W
open Go Go.Eng Go.Proofs Go.L41 Go.Br
attribute [local irreducible] AWP RWP TD finQ
theorem ok41:callOk Tryz.prog 41=true:=by kernel_rfl
theorem ok87:callOk Tryz.prog 87=true:=by kernel_rfl
theorem ok91:callOk Tryz.prog 91=true:=by kernel_rfl
theorem ok92:callOk Tryz.prog 92=true:=by kernel_rfl
theorem ok93:callOk Tryz.prog 93=true:=by kernel_rfl
theorem ok94:callOk Tryz.prog 94=true:=by kernel_rfl
theorem ok133:callOk Tryz.prog 133=true:=by kernel_rfl
theorem ok134:callOk Tryz.prog 134=true:=by kernel_rfl
theorem ok137:callOk Tryz.prog 137=true:=by kernel_rfl
theorem ok138:callOk Tryz.prog 138=true:=by kernel_rfl
theorem ok139:callOk Tryz.prog 139=true:=by kernel_rfl
theorem ok173:callOk Tryz.prog 173=true:=by kernel_rfl
theorem sz9:(Tryz.prog.info? 9).map (·.size)=some 1:=by kernel_rfl
theorem zGr (l:List St) (hl:l.length<=4294967296):
    OwnR cfg 137 [vSts l] 46 20 (l.map St.cells):=by
 refine zQ Tryz.func137 O Tryz.ntmps137 Tryz.results137 O ?_
 intro z hz
 refine F O<|qX 20 O<|H<|zI<|F O<|A O<|zU O O (zEp O K O O) ?_
 rintro _ _ ⟨nb1,rfl,hnil1,rfl⟩
 refine H<|zD O (fun c1=>?_) (fun c1=>?_)
 ·try simp only [I] at c1
  refine F O<|A O<|yJ _ (wL 46 20)<|H<|o<|X O ?_
  exact ⟨_,O,by rw [hnil1 c1]⟩
 ·try simp only [I] at c1
  refine zH<|F O<|zU O O (zCm O K d O O O O) ?_
  rintro _ _ ⟨sv3,rfl,rfl⟩
  refine A O<|zU O O (yU 0 O K O O O (by simp only [List.length_map,List.length_nil,Nat.zero_add];omega) (by simp only [List.length_map,List.length_nil,Nat.zero_add];omega)) ?_
  rintro _ _ ⟨sv4,rfl,rfl⟩
  refine A O<|H<|o<|X O ?_
  exact ⟨_,O,O⟩
theorem zAd (f:Lf->Lf×Int) (c:C) (P:Lf->Prop) (hf:∀l,P l->FnPur cfg c [vLin l] (.tup [vLin (f l).1,vI (f l).2])) (i:List Ix) (hi:i.length<=4294967296) (hA:∀x,x∈i->x.At.length<=4294967296) (hP:ixsAll P i):
    Pur cfg 87 [vIndices i,.c c] (.tup [vIndices (outIs (mIxs f i)),vI (errE (mIxs f i))]):=by
 refine zQ Tryz.func87 O Tryz.ntmps87 Tryz.results87 O ?_
 intro z hz
 refine F O<|qX 4 O<|A O<|H<|F O<|A O<|zU O O (wZ O ok133 (zPb i hi) ⟨G,O,T⟩) ?_
 rintro _ _ ⟨sv1,rfl,rfl⟩
 refine A O<|H<|F O<|A O<|H<|zI<|F O<|A O<|qB O g<|A O<|H<|zS<|zV ⟨[(14,.c _),(0,.c _),(1,.c _),(6,.c _),(13,.c _)],[_]⟩ (Weak.mk [true] ⟨G,G,G,G,G,T⟩ O)<|qO 1 1 O O (Nat×List Ix) (fun ⟨k,outs⟩=>[(14,vI k)]) (fun ⟨k,outs⟩=>[E.vec sv1 72 4 (outs.map Ix.cells++(i.drop k).map Ix.cells)]) (fun ⟨k,outs⟩=>k<=i.length/\(outs.length=k)/\(mIxs f i=mapRest outs (mIxs f (i.drop k)))) (fun ⟨k,outs⟩=>i.length-k) ⟨⟨0,[]⟩,⟨by omega,O,(zFr _).symm⟩,Weak.mk [true] ⟨G,G,G,G,G,T⟩ O⟩ ?_
 rintro ⟨k,outs⟩ ⟨hk,ho,hp⟩
 show AWP _ _ _ _ _ ⟨[(14,vI k)]++_,[E.vec sv1 72 4 (outs.map Ix.cells++(i.drop k).map Ix.cells)]++_⟩
 refine F O<|yN O<|H<|zI<|zD O (fun c1=>?_) (fun c1=>?_)
 ·try simp only [I] at c1
  obtain ⟨x,hx⟩:=qZ i k (by omega)
  have hAx:=hA x (zZ hx)
  refine zH<|zI<|zS<|F O<|A O<|A O<|H<|zI<|F O<|A O<|A O<|A O<|A O<|A O<|qD O g (by omega) (v (by assumption))<|qS O zHh<|zO kE qA O<|zR O (kC O O (hf x.Lin (hP x (zZ hx)).1) ⟨G,O,T⟩)<|qN O<|zR O (qT O O O)<|qU O<|zR O (qM 0 O g O O O (by omega) (zPo (by simp;omega) (by omega)))<|zR O (yF O zHh O)<|wA O O (yO O sz41 O O O (zBy 0 O (mid_get (by simp;omega) hx) O))<|A O<|H<|F O<|A O<|yP O<|H<|zD O (fun c2=>?_) (fun c2=>?_)
  ·try simp only [I] at c2
   refine F O<|A O<|qX 4 O<|A O<|H<|o<|p (N O) (N O) ?_
   rw [mIxs_no hx hp (mIx_e1 c2)];rfl
  ·try simp only [I] at c2
   refine zH<|F O<|A O<|A O<|A O<|A O<|qD O g (by omega) (v (by assumption))<|qS O zCk<|zK zGy qA O<|zU O O (wZ O ok134 (zNg x.At (hA x (zZ hx))) ⟨G,O,T⟩) ?_
   rintro _ _ ⟨sv2,rfl,rfl⟩
   refine zR O (qM 1 O g O O O (by omega) (by simp;omega))<|zR O (yF O zCk O)<|wA O O (yO O sz70 O O O (zBy 1 O (zAy (by simp;omega)) O))<|H<|F O<|A O<|A O<|qD O g (by omega) (v (by assumption))<|qS O zCk<|zK zGy qA O<|qB O el70<|A O<|H<|zS<|zV ⟨[(50,.c _),(0,.c _),(1,.c _),(6,.c _),(8,.c _),(13,.c _),(14,.c _),(49,.c _)],[_,_]⟩ (Weak.mk [true,true] ⟨G,G,G,G,G,G,G,G,T⟩ O)<|qO 1 1 O O (Nat×List Lf) (fun ⟨j,lins⟩=>[(50,vI j)]) (fun ⟨j,lins⟩=>[E.vec sv2 41 2 (lins.map Lf.cells++(x.At.drop j).map Lf.cells)]) (fun ⟨j,lins⟩=>j<=x.At.length/\(lins.length=j)/\(mLins f x.At=mapRest lins (mLins f (x.At.drop j)))) (fun ⟨j,lins⟩=>x.At.length-j) ⟨⟨0,[]⟩,⟨by omega,O,(zFr _).symm⟩,Weak.mk [true,true] ⟨G,G,G,G,G,G,G,G,T⟩ O⟩ ?_
   rintro ⟨j,lins⟩ ⟨hj,hlo,hq⟩
   show AWP _ _ _ _ _ ⟨[(50,vI j)]++_,[E.vec sv2 41 2 (lins.map Lf.cells++(x.At.drop j).map Lf.cells)]++_⟩
   refine F O<|yN O<|H<|zI<|zD O (fun c3=>?_) (fun c3=>?_)
   ·try simp only [I] at c3
    obtain ⟨l,hl⟩:=qZ x.At j (by omega)
    refine zH<|zI<|zS<|F O<|A O<|A O<|H<|zI<|kS 21 0 [⟨0,.q []⟩,⟨1,.q []⟩,⟨2,.q [1]⟩,⟨3,.q []⟩,⟨4,.q [1]⟩,⟨5,.q []⟩,⟨6,.q []⟩,⟨7,.q []⟩,⟨8,.q []⟩,⟨9,.q []⟩,⟨10,.q []⟩,⟨11,.q []⟩,⟨12,.q []⟩,⟨13,.q []⟩,⟨14,.q []⟩,⟨15,.q []⟩,⟨16,.q []⟩,⟨17,.q []⟩,⟨18,.q []⟩,⟨19,.q [0]⟩,⟨20,.e 0 []⟩] mixed (by kernel_rfl) (by kernel_rfl) O O O<|t O<|t O<|t O<|t O<|t O<|t O<|t O<|t O<|t O<|t O<|t O<|t O<|t O<|t O<|t O<|t O<|t O<|t O<|t O<|t O<|t O<|zDg<|qF O (by decide) O O (w O O)<|qF O (by decide) O O (w O O)<|qF O (by decide) O O (qM 0 O g O O O (by omega) (by simp;omega))<|qF O (by decide) O O (yF O zCk O)<|qF O (by decide) O O (Q O zGy O (wN 0 O (zAy (by simp;omega))) O)<|qF O (by decide) O O (w O O)<|qF O (by decide) O O (w O O)<|qF O (by decide) O O (w O O)<|qF O (by decide) O O (w O O)<|qF O (by decide) O O (qE O g O O (by omega) (v (by assumption)))<|qF O (by decide) O O (qJ O zCk O)<|qF O (by decide) O O (Q O zGy O qA O)<|qF O (by decide) O O (w O O)<|qF O (by decide) O O (qE O el70 O O (by omega) (v (by assumption)))<|qF O (by decide) O O (zX O kE O qA O)<|qF O (by decide) O O (kC O O (hf l ((hP x (zZ hx)).2 l (zZ hl))) ⟨G,O,T⟩)<|qF O (by decide) O O (kQ O O)<|qF O (by decide) O O (qT O O O)<|qF O (by decide) O O (wP O O O)<|qF O (by decide) O O (qM 0 O el70 O O O (by omega) (zPo (by simp;omega) (by omega)))<|zIm O O (by decide) O O (yO O sz41 O O O (zBy 0 O (mid_get (by simp;omega) hl) O)) ?_
    rintro _ _ ⟨rfl,rfl⟩
    refine ⟨_,O,?_⟩
    refine zDf O<|A O<|H<|F O<|A O<|yP O<|H<|zD O (fun c4=>?_) (fun c4=>?_)
    ·try simp only [I] at c4
     refine F O<|A O<|qX 4 O<|A O<|H<|o<|p (N O) (N O) ?_
     rw [mIxs_no hx hp (mIx_e2 c2 (mLins_no hl hq c4))];rfl
    ·try simp only [I] at c4
     refine zH<|zT O<|qK O ⟨by omega,by omega⟩<|A O<|H ?_
     refine ⟨⟨j+1,lins++[(f l).1]⟩,⟨by omega,by simp;omega,mLins_next hl hq c4⟩,(by show x.At.length-(j+1)<x.At.length-j;omega),Weak.mk [true,true] ⟨G,G,G,G,G,G,G,G,T⟩ (by simp only [Int.toNat_natCast];rw [zMa (by simp;omega) hl];simp only [List.map_append,List.map_cons,List.map_nil];rfl)⟩
   ·try simp only [I] at c3
    have hml:=mLins_end hq (by omega)
    rw [kB (l:=x.At) (k:=j) (by omega)]
    simp only [List.map_nil,List.append_nil]
    refine zV _ (yY 0 O (regs':=[]) (μ':=[_]) T ⟨EFle.vec (r':=[_,_,_,_]) (zAy (by simp;omega)) ⟨.inl O,.inl O,.inl O,.inr ⟨O,O⟩,T⟩,T⟩)<|qQ<|zT O<|qK O ⟨by omega,by omega⟩<|A O<|H ?_
    refine ⟨⟨k+1,outs++[⟨(f x.Lin).1,x.From,lins⟩]⟩,⟨by omega,by simp;omega,mIxs_next hx hp (mIx_ok c2 hml)⟩,(by show i.length-(k+1)<i.length-k;omega),Weak.mk [true] ⟨G,G,G,G,G,T⟩ (by simp only [Int.toNat_natCast,List.set_set];rw [zMa (by simp;omega) hx];simp only [List.map_append,List.map_cons,List.map_nil];rfl)⟩
 ·try simp only [I] at c1
  have hmi:=mIxs_end hp (by omega)
  rw [kB (l:=i) (k:=k) (by omega)]
  simp only [List.map_nil,List.append_nil]
  refine zV _ (yY 0 O (regs':=[(6,_)]) (μ':=[]) ⟨FLe.sl,T⟩ T)<|qQ<|F O<|A O<|A O<|A O<|H<|o<|p (N O) (N O) ?_
  rw [hmi];rfl
theorem zHb (f:Lf->Lf×Int) (c:C) (P:Lf->Prop) (hf:∀l,P l->FnPur cfg c [vLin l] (.tup [vLin (f l).1,vI (f l).2])) (e:Ex) (hP:e.allF P) (ih:∀a,a∈e.Args->a.allF P->a.cnt<=4294967296->Pur cfg 138 [vE a,.c c] (.tup [vE (outE (mEx f a)),vI (errE (mEx f a))])) (he:e.cnt<=4294967296):
    Pur cfg 138 [vE e,.c c] (.tup [vE (outE (mEx f e)),vI (errE (mEx f e))]):=by
 refine zQ Tryz.func138 O Tryz.ntmps138 Tryz.results138 O ?_
 intro z hz
 obtain ⟨hI,hA,hAt⟩:=e.cparts he
 have hPI:=ixsAll_of hP
 refine F O<|zU O O (qL O O) ?_
 rintro _ _ ⟨b1,rfl,rfl⟩
 refine zU O O (qC [none,none,none,none,none,none,none,none,none,none,some 2,some 4,some 13] O zr44 O) ?_
 rintro _ _ ⟨b2,rfl,rfl⟩
 refine A O<|H<|F O<|zO kL (R 1 O) O<|zU O O (qC [none,none,none,none,none,none,none,none,none,none,some 2,some 4,some 13] O zr44 O) ?_
 rintro _ _ ⟨b3,rfl,rfl⟩
 refine D 0 sz44 O<|H<|F O<|A O<|H<|zI<|F O<|A O<|zJ O zEv<|zO kE (R 2 O) O<|zR O (kC O O (hf e.Lin (Ex.allF_lin hP)) ⟨G,O,T⟩)<|qN O<|zR O (qT O O O)<|qU O<|zJ O zEv<|D 0 sz41 O<|A O<|H<|F O<|A O<|yP O<|H<|zD O (fun c1=>?_) (fun c1=>?_)
 ·try simp only [I] at c1
  refine F O<|qV [none,none,none,none,none,none,none,none,none,none,some 2,some 4,some 13] O zr44 pl44<|A O<|D 1 sz44 O<|A O<|H<|o<|p (y kL O (R 1 O) O) (N O) ?_
  rw [mEx_e1 c1];rfl
 ·try simp only [I] at c1
  refine zH<|zI<|F O<|zJ O zAw<|zK zBn (R 2 O) O<|A O<|qG O ok87 (zAd f c P hf e.Idx hI hAt hPI) ⟨G,O,G,O,T⟩<|qN O<|qU O<|qU O<|zJ O zAw<|D 0 sz34 O<|A O<|H<|F O<|A O<|yP O<|H<|zD O (fun c2=>?_) (fun c2=>?_)
  ·try simp only [I] at c2
   refine F O<|qV [none,none,none,none,none,none,none,none,none,none,some 2,some 4,some 13] O zr44 pl44<|A O<|D 1 sz44 O<|A O<|H<|o<|p (y kL O (R 1 O) O) (N O) ?_
   rw [mEx_e2 c1 (mIxs_err c2)];rfl
  ·try simp only [I] at c2
   obtain ⟨di,hmi⟩:=mIxs_0 c2
   rw [hmi]
   refine zH<|F O<|zJ O zAv<|zK zEh (R 2 O) O<|zU O O (wZ O ok173 (zPc e.Args hA) ⟨G,O,T⟩) ?_
   rintro _ _ ⟨sv4,rfl,rfl⟩
   refine zJ O zAv<|D 1 sz42 O<|H<|zI<|F O<|zJ O zAv<|zK zEh (R 3 O) O<|qB O el42<|A O<|H<|zS<|zV ⟨[(41,.c _),(1,.c _),(2,.c _),(4,.c _),(6,.c _),(40,.c _)],[_,_,_,_]⟩ (Weak.mk [true,true,true,true] ⟨G,G,G,G,G,G,T⟩ O)<|qO 1 1 O O (Nat×List Ex) (fun ⟨n,exs⟩=>[(41,vI n)]) (fun ⟨n,exs⟩=>[E.vec sv4 44 13 (exs.map Ex.cells++(e.Args.drop n).map Ex.cells)]) (fun ⟨n,exs⟩=>n<=e.Args.length/\(exs.length=n)/\(mExs f e.Args=mapRest exs (mExs f (e.Args.drop n)))) (fun ⟨n,exs⟩=>e.Args.length-n) ⟨⟨0,[]⟩,⟨by omega,O,(zFr _).symm⟩,Weak.mk [true,true,true,true] ⟨G,G,G,G,G,G,T⟩ O⟩ ?_
   rintro ⟨n,exs⟩ ⟨hn,hno,hr⟩
   show AWP _ _ _ _ _ ⟨[(41,vI n)]++_,[E.vec sv4 44 13 (exs.map Ex.cells++(e.Args.drop n).map Ex.cells)]++_⟩
   refine F O<|yN O<|H<|zI<|zD O (fun c3=>?_) (fun c3=>?_)
   ·try simp only [I] at c3
    obtain ⟨a,ha⟩:=qZ e.Args n (by omega)
    refine zH<|zI<|zS<|F O<|A O<|A O<|H<|zI<|kS 15 0 [⟨0,.q []⟩,⟨1,.q [1]⟩,⟨2,.q []⟩,⟨3,.q []⟩,⟨4,.q [3]⟩,⟨5,.q []⟩,⟨6,.q []⟩,⟨7,.q []⟩,⟨8,.q []⟩,⟨9,.q []⟩,⟨10,.q []⟩,⟨11,.q []⟩,⟨12,.q []⟩,⟨13,.q [0]⟩,⟨14,.e 0 []⟩] mixed (by kernel_rfl) (by kernel_rfl) O O O<|t O<|t O<|t O<|t O<|t O<|t O<|t O<|t O<|t O<|t O<|t O<|t O<|t O<|t O<|t O<|zDg<|qF O (by decide) O O (zE O zAv O)<|qF O (by decide) O O (Q O zEh O (R 0 O) O)<|qF O (by decide) O O (w O O)<|qF O (by decide) O O (zE O zAv O)<|qF O (by decide) O O (Q O zEh O (R 0 O) O)<|qF O (by decide) O O (w O O)<|qF O (by decide) O O (qE O el42 O O (by omega) (zIh (by assumption)))<|qF O (by decide) O O (zX O kL O qA O)<|qF O (by decide) O O (w O O)<|qF O (by decide) O O (qI O ok138 (ih a (zZ ha) (Ex.allF_arg hP (zZ ha)) (by have:=Ex.arg_cnt (zZ ha);omega)) ⟨G,O,G,O,T⟩)<|qF O (by decide) O O (kQ O O)<|qF O (by decide) O O (qT O O O)<|qF O (by decide) O O (wP O O O)<|qF O (by decide) O O (qM 0 O el42 O O O (by omega) (zPo (by simp;omega) (by omega)))<|zIm O O (by decide) O O (yO O sz44 O O O (zBy 0 O (mid_getE (by simp;omega) ha) O)) ?_
    rintro _ _ ⟨rfl,rfl⟩
    refine ⟨_,O,?_⟩
    refine zDf O<|A O<|H<|F O<|A O<|yP O<|H<|zD O (fun c4=>?_) (fun c4=>?_)
    ·try simp only [I] at c4
     refine F O<|qV [none,none,none,none,none,none,none,none,none,none,some 2,some 4,some 13] O zr44 pl44<|A O<|D 2 sz44 O<|A O<|H<|o<|p (y kL O (R 2 O) O) (N O) ?_
     rw [mEx_e3 c1 hmi (mExs_no ha hr c4)];rfl
    ·try simp only [I] at c4
     refine zH<|zT O<|qK O ⟨by omega,by omega⟩<|A O<|H ?_
     refine ⟨⟨n+1,exs++[outE (mEx f a)]⟩,⟨by omega,by simp;omega,mExs_next ha hr c4⟩,(by show e.Args.length-(n+1)<e.Args.length-n;omega),Weak.mk [true,true,true,true] ⟨G,G,G,G,G,G,T⟩ (by simp only [Int.toNat_natCast];rw [zMa (by simp;omega) ha];simp only [List.map_append,List.map_cons,List.map_nil,Ex.cells_eq (outE (mEx f a))];rfl)⟩
   ·try simp only [I] at c3
    have hme:=mExs_end hr (by omega)
    rw [kB (l:=e.Args) (k:=n) (by omega)]
    simp only [List.map_nil,List.append_nil]
    refine zV _ (yY 0 O (regs':=[]) (μ':=[_,_,_]) T ⟨EFle.row (ds:=[_,_,_,_,_,_,_,_,_,_,_,_,_]) ⟨.inl O,.inl O,.inl O,.inl O,.inl O,.inl O,.inl O,.inl O,.inl O,.inl O,.inl O,.inl O,.inr ⟨O,O⟩,T⟩,EFle.refl _,EFle.refl _,T⟩)<|qQ<|F O<|zO kL (R 0 O) O<|D 1 sz44 O<|A O<|H<|o<|p (y kL O (R 1 O) O) (N O) ?_
    rw [mEx_ok c1 hmi hme];rfl
theorem zDe (f:Lf->Lf×Int) (c:C) (P:Lf->Prop) (hf:∀l,P l->FnPur cfg c [vLin l] (.tup [vLin (f l).1,vI (f l).2])) (e:Ex) (hP:e.allF P) (he:e.cnt<=4294967296):Pur cfg 138 [vE e,.c c] (.tup [vE (outE (mEx f e)),vI (errE (mEx f e))]):=by
  induction e using Ex.ind with
  |_ e ih=>exact zHb f c P hf e hP ih he
theorem zCj (f:Lf->Lf×Int) (c:C) (P:Lf->Prop) (hf:∀l,P l->FnPur cfg c [vLin l] (.tup [vLin (f l).1,vI (f l).2])) (g:ByteArray->ByteArray) (c9:C) (hg:∀s,FnPur cfg c9 [vS s] (vS (g s))) (l:List St) (hP:allSs P l) (ih:∀s,s∈l->Pur cfg 91 [vSts s.Body,.c c,.c c9] (.tup [vSts (outS (mSts f g s.Body)),vI (errE (mSts f g s.Body))])) (hl:stsWt l<=1073741824):
    Pur cfg 91 [vSts l,.c c,.c c9] (.tup [vSts (outS (mSts f g l)),vI (errE (mSts f g l))]):=by
 refine zQ Tryz.func91 O Tryz.ntmps91 Tryz.results91 O ?_
 intro z hz
 have hll:=kP l
 refine F O<|qX 20 O<|A O<|H<|F O<|A O<|zU O O (wZ O ok137 (zGr l (by omega)) ⟨G,O,T⟩) ?_
 rintro _ _ ⟨sv1,rfl,rfl⟩
 refine A O<|H<|F O<|A O<|H<|zI<|F O<|A O<|qB O K<|A O<|H<|zS<|zV ⟨[(15,.c _),(0,.c _),(1,.c _),(2,.c _),(8,.c _),(14,.c _)],[_]⟩ (Weak.mk [true] ⟨G,G,G,G,G,G,T⟩ O)<|qO 1 1 O O (Nat×List St) (fun ⟨k,outs⟩=>[(15,vI k)]) (fun ⟨k,outs⟩=>[E.vec sv1 46 20 (outs.map St.cells++(l.drop k).map St.cells)]) (fun ⟨k,outs⟩=>k<=l.length/\(outs.length=k)/\(mSts f g l=mapRest outs (mSts f g (l.drop k)))) (fun ⟨k,outs⟩=>l.length-k) ⟨⟨0,[]⟩,⟨by omega,O,(zFr _).symm⟩,Weak.mk [true] ⟨G,G,G,G,G,G,T⟩ O⟩ ?_
 rintro ⟨k,outs⟩ ⟨hk,ho,hp⟩
 show AWP _ _ _ _ _ ⟨[(15,vI k)]++_,[E.vec sv1 46 20 (outs.map St.cells++(l.drop k).map St.cells)]++_⟩
 refine F O<|yN O<|H<|zI<|zD O (fun c1=>?_) (fun c1=>?_)
 ·try simp only [I] at c1
  obtain ⟨s,hs⟩:=qZ l k (by omega)
  have hsw:=yG (zZ hs)
  have hse:=St.wt_eq s
  have hPs:=St.allF_eq (kJ hP s (zZ hs))
  refine zH<|zI<|zS<|F O<|A O<|A O<|H<|zI<|F O<|A O<|A O<|qD O K (by omega) (kZ hs)<|qS O zBu<|zK J qA O<|yZ O<|H<|zD O (fun c2=>?_) (fun c2=>?_)
  ·try simp only [I] at c2
   refine zT O<|A O<|A O<|A O<|A O<|A O<|qD O K (by omega) (kZ hs)<|qS O zBt<|zK one9 qA O<|zR O (kC O O (hg s.Name) ⟨G,O,T⟩)<|zR O (qM 0 O K O O O (by omega) (zPo (by simp;omega) (by omega)))<|zR O (yF O zBt O)<|wA O O (yO O sz9 O O O (zBy 0 O (mid_getS (by simp;omega) hs) O))<|H<|zI<|F O<|A O<|A O<|A O<|A O<|qD O K (by omega) (kZ hs)<|qS O zEc<|zK zBn qA O<|A O<|qG O ok87 (zAd f c P hf s.Idx (by omega) (fun x hx=>by have:=zAp hx;rw [Ix.wt] at this;omega) hPs.1) ⟨G,O,G,O,T⟩<|qN O<|qU O<|qU O<|zR O (qM 0 O K O O O (by omega) (by simp;omega))<|zR O (yF O zEc O)<|wA O O (yO O sz34 O O O (zBy 0 O (zAy (by simp;omega)) O))<|A O<|H<|F O<|A O<|yP O<|H<|zD O (fun c3=>?_) (fun c3=>?_)
   ·try simp only [I] at c3
    refine F O<|A O<|qX 20 O<|A O<|H<|o<|p (N O) (N O) ?_
    rw [zMc hs hp (mSt_e1 (mIxs_err c3))];rfl
   ·try simp only [I] at c3
    obtain ⟨di,hmi⟩:=mIxs_0 c3
    rw [hmi]
    refine zH<|zI<|F O<|A O<|A O<|A O<|A O<|qD O K (by omega) (kZ hs)<|qS O zCf<|zO kL qA O<|A O<|qG O ok138 (zDe f c P hf s.E hPs.2.1 (by have:=s.E.cnt_le;omega)) ⟨G,O,G,O,T⟩<|qN O<|zR O (qT O O O)<|qU O<|zR O (qM 0 O K O O O (by omega) (by simp;omega))<|zR O (yF O zCf O)<|wA O O (yO O sz44 O O O (zBy 0 O (zAy (by simp;omega)) O))<|A O<|H<|F O<|A O<|yP O<|H<|zD O (fun c4=>?_) (fun c4=>?_)
    ·try simp only [I] at c4
     refine F O<|A O<|qX 20 O<|A O<|H<|o<|p (N O) (N O) ?_
     rw [zMc hs hp (mSt_e2 hmi (mEx_err c4))];rfl
    ·try simp only [I] at c4
     obtain ⟨de,hmE⟩:=mEx_0 c4
     rw [hmE]
     refine zH<|F O<|A O<|A O<|A O<|A O<|qD O K (by omega) (kZ hs)<|qS O kN<|zK kM qA O<|A O<|A O<|qG O ok91 (ih s (zZ hs)) ⟨G,O,G,O,G,O,T⟩<|qN O<|qU O<|qU O<|zR O (qM 0 O K O O O (by omega) (by simp;omega))<|zR O (yF O kN O)<|wA O O (yO O sz23 O O O (zBy 0 O (zAy (by simp;omega)) O))<|A O<|H<|F O<|A O<|yP O<|H<|zD O (fun c5=>?_) (fun c5=>?_)
     ·try simp only [I] at c5
      refine F O<|A O<|qX 20 O<|A O<|H<|o<|p (N O) (N O) ?_
      rw [zMc hs hp (mSt_e3 hmi hmE (mSts_err c5))];rfl
     ·try simp only [I] at c5
      obtain ⟨db,hmb⟩:=mSts_0 c5
      rw [hmb]
      have hms:=mSt_ok hmi hmE hmb
      have hset:∀r,(outs.map St.cells++(l.drop k).map St.cells).set k r=(outs.map St.cells++[r])++(l.drop (k+1)).map St.cells:=fun r=>zMa (by simp;omega) hs
      have hset2:∀r r',((outs.map St.cells++[r])++(l.drop (k+1)).map St.cells).set k r'=(outs.map St.cells++[r'])++(l.drop (k+1)).map St.cells:=fun r r'=>mid_set' (α:=St) (f:=St.cells) (l:=l) (by simp;omega)
      refine zH<|zT O<|qK O ⟨by omega,by omega⟩<|A O<|H ?_
      refine ⟨⟨k+1,outs++[.mk s.Op (if s.Op=1 then g s.Name else s.Name) s.Many s.Mark s.Fold di de db]⟩,⟨by omega,by simp;omega,mSts_next hs hp hms⟩,(by show l.length-(k+1)<l.length-k;omega),Weak.mk [true] ⟨G,G,G,G,G,G,T⟩ (by simp only [Int.toNat_natCast,List.set_set,hset,hset2];simp only [List.map_append,List.map_cons,List.map_nil,St.cells_eq (.mk _ _ _ _ _ _ _ _)];first|(rw [if_pos c2];rfl)|(rw [if_neg c2];rfl))⟩
  ·try simp only [I] at c2
   refine zH<|zI<|F O<|A O<|A O<|A O<|A O<|qD O K (by omega) (kZ hs)<|qS O zEc<|zK zBn qA O<|A O<|qG O ok87 (zAd f c P hf s.Idx (by omega) (fun x hx=>by have:=zAp hx;rw [Ix.wt] at this;omega) hPs.1) ⟨G,O,G,O,T⟩<|qN O<|qU O<|qU O<|zR O (qM 0 O K O O O (by omega) (zPo (by simp;omega) (by omega)))<|zR O (yF O zEc O)<|wA O O (yO O sz34 O O O (zBy 0 O (mid_getS (by simp;omega) hs) O))<|A O<|H<|F O<|A O<|yP O<|H<|zD O (fun c3=>?_) (fun c3=>?_)
   ·try simp only [I] at c3
    refine F O<|A O<|qX 20 O<|A O<|H<|o<|p (N O) (N O) ?_
    rw [zMc hs hp (mSt_e1 (mIxs_err c3))];rfl
   ·try simp only [I] at c3
    obtain ⟨di,hmi⟩:=mIxs_0 c3
    rw [hmi]
    refine zH<|zI<|F O<|A O<|A O<|A O<|A O<|qD O K (by omega) (kZ hs)<|qS O zCf<|zO kL qA O<|A O<|qG O ok138 (zDe f c P hf s.E hPs.2.1 (by have:=s.E.cnt_le;omega)) ⟨G,O,G,O,T⟩<|qN O<|zR O (qT O O O)<|qU O<|zR O (qM 0 O K O O O (by omega) (by simp;omega))<|zR O (yF O zCf O)<|wA O O (yO O sz44 O O O (zBy 0 O (zAy (by simp;omega)) O))<|A O<|H<|F O<|A O<|yP O<|H<|zD O (fun c4=>?_) (fun c4=>?_)
    ·try simp only [I] at c4
     refine F O<|A O<|qX 20 O<|A O<|H<|o<|p (N O) (N O) ?_
     rw [zMc hs hp (mSt_e2 hmi (mEx_err c4))];rfl
    ·try simp only [I] at c4
     obtain ⟨de,hmE⟩:=mEx_0 c4
     rw [hmE]
     refine zH<|F O<|A O<|A O<|A O<|A O<|qD O K (by omega) (kZ hs)<|qS O kN<|zK kM qA O<|A O<|A O<|qG O ok91 (ih s (zZ hs)) ⟨G,O,G,O,G,O,T⟩<|qN O<|qU O<|qU O<|zR O (qM 0 O K O O O (by omega) (by simp;omega))<|zR O (yF O kN O)<|wA O O (yO O sz23 O O O (zBy 0 O (zAy (by simp;omega)) O))<|A O<|H<|F O<|A O<|yP O<|H<|zD O (fun c5=>?_) (fun c5=>?_)
     ·try simp only [I] at c5
      refine F O<|A O<|qX 20 O<|A O<|H<|o<|p (N O) (N O) ?_
      rw [zMc hs hp (mSt_e3 hmi hmE (mSts_err c5))];rfl
     ·try simp only [I] at c5
      obtain ⟨db,hmb⟩:=mSts_0 c5
      rw [hmb]
      have hms:=mSt_ok hmi hmE hmb
      have hset:∀r,(outs.map St.cells++(l.drop k).map St.cells).set k r=(outs.map St.cells++[r])++(l.drop (k+1)).map St.cells:=fun r=>zMa (by simp;omega) hs
      have hset2:∀r r',((outs.map St.cells++[r])++(l.drop (k+1)).map St.cells).set k r'=(outs.map St.cells++[r'])++(l.drop (k+1)).map St.cells:=fun r r'=>mid_set' (α:=St) (f:=St.cells) (l:=l) (by simp;omega)
      refine zH<|zT O<|qK O ⟨by omega,by omega⟩<|A O<|H ?_
      refine ⟨⟨k+1,outs++[.mk s.Op (if s.Op=1 then g s.Name else s.Name) s.Many s.Mark s.Fold di de db]⟩,⟨by omega,by simp;omega,mSts_next hs hp hms⟩,(by show l.length-(k+1)<l.length-k;omega),Weak.mk [true] ⟨G,G,G,G,G,G,T⟩ (by simp only [Int.toNat_natCast,List.set_set,hset,hset2];simp only [List.map_append,List.map_cons,List.map_nil,St.cells_eq (.mk _ _ _ _ _ _ _ _)];first|(rw [if_pos c2];rfl)|(rw [if_neg c2];rfl))⟩
 ·try simp only [I] at c1
  have hme:=mSts_end hp (by omega)
  rw [kB (l:=l) (k:=k) (by omega)]
  simp only [List.map_nil,List.append_nil]
  refine zV _ (yY 0 O (regs':=[(8,_)]) (μ':=[]) ⟨FLe.sl,T⟩ T)<|qQ<|F O<|A O<|A O<|A O<|H<|o<|p (N O) (N O) ?_
  rw [hme];rfl
theorem zGh (f:Lf->Lf×Int) (c:C) (P:Lf->Prop) (hf:∀l,P l->FnPur cfg c [vLin l] (.tup [vLin (f l).1,vI (f l).2])) (g:ByteArray->ByteArray) (c9:C) (hg:∀s,FnPur cfg c9 [vS s] (vS (g s))) (s:St) (hP:allSs P s.Body) (hl:stsWt s.Body<=1073741824):Pur cfg 91 [vSts s.Body,.c c,.c c9] (.tup [vSts (outS (mSts f g s.Body)),vI (errE (mSts f g s.Body))]):=by
  induction s using St.ind with
  |_ s ih=>exact zCj f c P hf g c9 hg s.Body hP (fun a ha=>ih a ha (St.allF_eq (kJ hP a ha)).2.2 (by have:=yG ha;have:=St.body_wt a;omega)) hl
theorem zCo (f:Lf->Lf×Int) (c:C) (P:Lf->Prop) (hf:∀l,P l->FnPur cfg c [vLin l] (.tup [vLin (f l).1,vI (f l).2])) (g:ByteArray->ByteArray) (c9:C) (hg:∀s,FnPur cfg c9 [vS s] (vS (g s))) (l:List St) (hP:allSs P l) (hl:stsWt l<=1073741824):Pur cfg 91 [vSts l,.c c,.c c9] (.tup [vSts (outS (mSts f g l)),vI (errE (mSts f g l))]):=
  zCj f c P hf g c9 hg l hP (fun s hs=>zGh f c P hf g c9 hg s (St.allF_eq (kJ hP s hs)).2.2 (by have:=yG hs;have:=St.body_wt s;omega)) hl
theorem zNh (l:Lf) (hl:l.L.length<=1073741824):
    Pur cfg 93 [vLin l] (vLin l):=by
 refine zQ Tryz.func93 O Tryz.ntmps93 Tryz.results93 O ?_
 intro z hz
 refine F O<|zU O O (qL O O) ?_
 rintro _ _ ⟨b1,rfl,rfl⟩
 refine zU O O (qC [none,some 2] O zr41 O) ?_
 rintro _ _ ⟨b2,rfl,rfl⟩
 refine H<|zI<|qY 6 mixed (by kernel_rfl) O O<|Y O O (zE O zGd O)<|Y O O (Q O n O (R 1 O) O)<|Y O O (zE O wU O)<|Y O O (Q O zDl O (R 1 O) O)<|Y O O (qI O ok139 (OwnR.pur (zLu l.L (by omega))) ⟨G,O,T⟩)<|Y O O (zHm O zr41 pl41 O)<|kH<|D 0 sz41 O<|H<|o<|fin1 (y kE O (R 0 O) O) ?_
 exact O
theorem zQy (l:Lf) (hl:l.L.length<=1073741824):
    Pur cfg 92 [vLin l] (.tup [vLin (idF l).1,vI (idF l).2]):=by
 refine zQ Tryz.func92 O Tryz.ntmps92 Tryz.results92 O ?_
 intro z hz
 refine F O<|zU O O (qL O O) ?_
 rintro _ _ ⟨b1,rfl,rfl⟩
 refine zU O O (qC [none,some 2] O zr41 O) ?_
 rintro _ _ ⟨b2,rfl,rfl⟩
 refine A O<|H<|F O<|zO kE (R 1 O) O<|qG O ok93 (zNh l hl) ⟨G,O,T⟩<|D 0 sz41 O<|A O<|H<|o<|p (y kE O (R 0 O) O) (N O) ?_
 exact O
theorem zFs (s:ByteArray):
    Pur cfg 94 [vS s] (vS s):=by
 refine zQ Tryz.func94 O Tryz.ntmps94 Tryz.results94 O ?_
 intro z hz
 refine F O<|A O<|H<|F O<|A O<|A O<|H<|o<|X O ?_
 exact O
theorem zCc (l:List St) (hl:stsWt l<=1073741824):
    Pur cfg 41 [vSts l] (vSts l):=by
 refine zQ Tryz.func41 O Tryz.ntmps41 Tryz.results41 O ?_
 intro z hz
 refine F O<|qX 20 O<|H<|F O<|A O<|qG O ok91 (zCo idF _ (fun l=>l.L.length<=1073741824) (fun l hl=>FnPur.of_pur (first:=[]) (cap:=[]) ok92 (zQy l hl)) (fun x=>x) _ (fun s=>FnPur.of_pur (first:=[]) (cap:=[]) ok94 (zFs s)) l (zJr hl) hl) ⟨G,O,G,O,G,O,T⟩<|qN O<|qU O<|qU O<|A O<|A O<|H<|F O<|A O<|A O<|H<|o<|X O ?_
 rw [mSts_id];rfl
theorem loopnest_At (n:Ns) (way:List Int) (hw:way.length<=1073741824) (hl:stsWt n.Body<=1000000000):
    Pur cfg 15 [vNs n,vIs way] (.tup [vSt (atT n.Body way).1,vB (atT n.Body way).2]):=by
 refine zQ Tryz.func15 O Tryz.ntmps15 Tryz.results15 O ?_
 intro z hz
 have htl:=trl_len way n.Body []
 have htl2:(trailT n.Body way).length<=way.length:=by unfold trailT;simpa using htl
 refine F O<|zU O O (qL O O) ?_
 rintro _ _ ⟨b1,rfl,rfl⟩
 refine zU O O (qC [none,none,none,none,none,some 4,none,none,none,none,none,none,none,none,none,none,some 2,some 4,some 13,some 20] O d O) ?_
 rintro _ _ ⟨b2,rfl,rfl⟩
 refine A O<|H<|F O<|zJ O wO<|zK kM (R 1 O) O<|A O<|qG O ok38 (zIq n.Body way hw) ⟨G,O,G,O,T⟩<|A O<|H<|zI<|F O<|A O<|qB O K<|yZ O<|H<|zD O (fun c1=>?_) (fun c1=>?_)
 ·try simp only [I] at c1
  have he:trailT n.Body way=[]:=List.eq_nil_of_length_eq_zero (by omega)
  have ha:=at_none he
  refine F O<|qV [none,none,none,none,none,some 4,none,none,none,none,none,none,none,none,none,none,some 2,some 4,some 13,some 20] O d pl46<|D 0 sz46 O<|A O<|H<|o<|p (y zBw O (R 0 O) O) (N O) ?_
  rw [ha];rfl
 ·try simp only [I] at c1
  have hne:trailT n.Body way≠[]:=fun h=>c1 (by rw [h];rfl)
  have hlast:=at_last hne
  have hok:=at_some hne
  refine zH<|F O<|A O<|A O<|qB O K<|zR O (yB O O O ⟨by omega,by omega⟩)<|zR O (zAr (k:=(trailT n.Body way).length-1) O K O (congrArg (fun n=>V.c (C.lit (.int .i64 n))) (by have:=List.length_pos_iff.2 hne;omega)) (by omega))<|qG O ok41 (show Pur cfg 41 [vSts ((trailT n.Body way).drop ((trailT n.Body way).length-1))] (vSts [(atT n.Body way).1]) by rw [hlast];exact zCc [(atT n.Body way).1] (by have:=atT_wt (l:=n.Body) (way:=way);simp only [stsWt];omega)) ⟨G,O,T⟩<|qD O K (by omega) (show ([(atT n.Body way).1].map St.cells)[0]? =some (atT n.Body way).1.cs by rw [←St.cells_eq];rfl)<|zO zBw qA O<|D 0 sz46 O<|A O<|H<|o<|p (y zBw O (R 0 O) O) (N O) ?_
  rw [hok];rfl
end Go.W
