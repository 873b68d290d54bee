/-
  What functions compute.
  Conditions: none.
-/
import Derived.Test.YtlfjpejkoccibaaGreatDoorNG
import Derived.Test.YtlfjpejkoccibaaGreatDoorPlain2
set_option linter.unusedSimpArgs false
set_option linter.unusedVariables false
set_option maxRecDepth 10000
namespace Go.W
open Go Go.Eng Go.Proofs Go.L41 Go.Br
attribute [local irreducible] AWP RWP TD fH
theorem ok41:bA Tryz.prog 41=true:=by kernel_rfl
theorem ok87:bA Tryz.prog 87=true:=by kernel_rfl
theorem ok91:bA Tryz.prog 91=true:=by kernel_rfl
theorem ok92:bA Tryz.prog 92=true:=by kernel_rfl
theorem ok93:bA Tryz.prog 93=true:=by kernel_rfl
theorem ok94:bA Tryz.prog 94=true:=by kernel_rfl
theorem ok133:bA Tryz.prog 133=true:=by kernel_rfl
theorem ok134:bA Tryz.prog 134=true:=by kernel_rfl
theorem ok137:bA Tryz.prog 137=true:=by kernel_rfl
theorem ok138:bA Tryz.prog 138=true:=by kernel_rfl
theorem ok139:bA Tryz.prog 139=true:=by kernel_rfl
theorem ok173:bA Tryz.prog 173=true:=by kernel_rfl
theorem sz9:(Tryz.prog.info? 9).map (·.size)=some 1:=by kernel_rfl
theorem zJq (l:List St) (hl:l.length<=4294967296):
    OwnR cfg 137 [bM l] 46 20 (l.map St.cells):=by
 refine zT Tryz.func137 O Tryz.ntmps137 Tryz.results137 O ?_
 intro z hz
 refine F O<|qX 20 O<|H<|zK<|F O<|A O<|zV O O (zGx O D O O) ?_
 rintro _ _ ⟨nb1,rfl,hnil1,rfl⟩
 refine H<|zD O (fun c1=>?_) (fun c1=>?_)
 ·try simp only [I] at c1
  refine F O<|A O<|yI _ (kR 46 20)<|H<|o<|X O ?_
  exact ⟨_,O,by rw [hnil1 c1]⟩
 ·try simp only [I] at c1
  refine zM<|F O<|zV O O (zCe O D j O O O O) ?_
  rintro _ _ ⟨sv3,rfl,rfl⟩
  refine A O<|zV O O (qV 0 O D O O O (by simp only [List.length_map,List.length_nil,Nat.zero_add];omega) (by simp only [List.length_map,List.length_nil,Nat.zero_add];omega)) ?_
  rintro _ _ ⟨sv4,rfl,rfl⟩
  refine A O<|H<|o<|X O ?_
  exact ⟨_,O,O⟩
theorem zBg (f:Lf->Lf×Int) (c:C) (P:Lf->Prop) (hf:∀l,P l->FnPur cfg c [bZ l] (.tup [bZ (f l).1,vI (f l).2])) (i:List Ix) (hi:i.length<=4294967296) (hA:∀x,x∈i->x.At.length<=4294967296) (hP:gN P i):
    Pur cfg 87 [gM i,.c c] (.tup [gM (xP (dL f i)),vI (dZ (dL f i))]):=by
 refine zT Tryz.func87 O Tryz.ntmps87 Tryz.results87 O ?_
 intro z hz
 refine F O<|qX 4 O<|A O<|H<|F O<|A O<|zV O O (zBb O ok133 (zUf i hi) ⟨G,O,T⟩) ?_
 rintro _ _ ⟨sv1,rfl,rfl⟩
 refine A O<|H<|F O<|A O<|H<|zK<|F O<|A O<|qC O d<|A O<|H<|zR<|zY ⟨[(14,.c _),(0,.c _),(1,.c _),(6,.c _),(13,.c _)],[_]⟩ (Weak.mk [true] ⟨G,G,G,G,G,T⟩ O)<|qK 1 1 O O (Nat×List Ix) (fun ⟨k,outs⟩=>[(14,vI k)]) (fun ⟨k,outs⟩=>[E.vec sv1 72 4 (outs.map Ix.cells++(i.drop k).map Ix.cells)]) (fun ⟨k,outs⟩=>k<=i.length/\(outs.length=k)/\(dL f i=dE outs (dL f (i.drop k)))) (fun ⟨k,outs⟩=>i.length-k) ⟨⟨0,[]⟩,⟨by omega,O,(zBz _).symm⟩,Weak.mk [true] ⟨G,G,G,G,G,T⟩ O⟩ ?_
 rintro ⟨k,outs⟩ ⟨hk,ho,hp⟩
 show AWP _ _ _ _ _ ⟨[(14,vI k)]++_,[E.vec sv1 72 4 (outs.map Ix.cells++(i.drop k).map Ix.cells)]++_⟩
 refine F O<|yD O<|H<|zK<|zD O (fun c1=>?_) (fun c1=>?_)
 ·try simp only [I] at c1
  obtain ⟨x,hx⟩:=qY i k (by omega)
  have hAx:=hA x (zZ hx)
  refine zM<|zK<|zR<|F O<|A O<|A O<|H<|zK<|F O<|A O<|A O<|A O<|A O<|A O<|qD O d (by omega) (Q (by assumption))<|qO O zEp<|zP yX qA O<|zU O (kV O O (hf x.Lin (hP x (zZ hx)).1) ⟨G,O,T⟩)<|qP O<|yJ O<|qU O<|zU O (qS 0 O d O O O (by omega) (zVf (by simp;omega) (by omega)))<|zU O (kF O zEp O)<|zAe O O (kB O sz41 O O O (zDh 0 O (mid_get (by simp;omega) hx) O))<|A O<|H<|F O<|A O<|yM O<|H<|zD O (fun c2=>?_) (fun c2=>?_)
  ·try simp only [I] at c2
   refine F O<|A O<|qX 4 O<|A O<|H<|o<|w (J O) (J O) ?_
   rw [mIxs_no hx hp (mIx_e1 c2)];rfl
  ·try simp only [I] at c2
   refine zM<|F O<|A O<|A O<|A O<|A O<|qD O d (by omega) (Q (by assumption))<|qO O zAr<|zJ zDw qA O<|zV O O (zBb O ok134 (zRm x.At (hA x (zZ hx))) ⟨G,O,T⟩) ?_
   rintro _ _ ⟨sv2,rfl,rfl⟩
   refine zU O (qS 1 O d O O O (by omega) (by simp;omega))<|zU O (kF O zAr O)<|zAe O O (kB O sz70 O O O (zDh 1 O (zCl (by simp;omega)) O))<|H<|F O<|A O<|A O<|qD O d (by omega) (Q (by assumption))<|qO O zAr<|zJ zDw qA O<|qC O el70<|A O<|H<|zR<|zY ⟨[(50,.c _),(0,.c _),(1,.c _),(6,.c _),(8,.c _),(13,.c _),(14,.c _),(49,.c _)],[_,_]⟩ (Weak.mk [true,true] ⟨G,G,G,G,G,G,G,G,T⟩ O)<|qK 1 1 O O (Nat×List Lf) (fun ⟨j,lins⟩=>[(50,vI j)]) (fun ⟨j,lins⟩=>[E.vec sv2 41 2 (lins.map Lf.cells++(x.At.drop j).map Lf.cells)]) (fun ⟨j,lins⟩=>j<=x.At.length/\(lins.length=j)/\(dU f x.At=dE lins (dU f (x.At.drop j)))) (fun ⟨j,lins⟩=>x.At.length-j) ⟨⟨0,[]⟩,⟨by omega,O,(zBz _).symm⟩,Weak.mk [true,true] ⟨G,G,G,G,G,G,G,G,T⟩ O⟩ ?_
   rintro ⟨j,lins⟩ ⟨hj,hlo,hq⟩
   show AWP _ _ _ _ _ ⟨[(50,vI j)]++_,[E.vec sv2 41 2 (lins.map Lf.cells++(x.At.drop j).map Lf.cells)]++_⟩
   refine F O<|yD O<|H<|zK<|zD O (fun c3=>?_) (fun c3=>?_)
   ·try simp only [I] at c3
    obtain ⟨l,hl⟩:=qY x.At j (by omega)
    refine zM<|zK<|zR<|F O<|A O<|A O<|H<|zK<|kL 21 0 [⟨0,.q []⟩,⟨1,.q []⟩,⟨2,.q [1]⟩,⟨3,.q []⟩,⟨4,.q [1]⟩,⟨5,.q []⟩,⟨6,.q []⟩,⟨7,.q []⟩,⟨8,.q []⟩,⟨9,.q []⟩,⟨10,.q []⟩,⟨11,.q []⟩,⟨12,.q []⟩,⟨13,.q []⟩,⟨14,.q []⟩,⟨15,.q []⟩,⟨16,.q []⟩,⟨17,.q []⟩,⟨18,.q []⟩,⟨19,.q [0]⟩,⟨20,.e 0 []⟩] mixed (by kernel_rfl) (by kernel_rfl) O O O<|p O<|p O<|p O<|p O<|p O<|p O<|p O<|p O<|p O<|p O<|p O<|p O<|p O<|p O<|p O<|p O<|p O<|p O<|p O<|p O<|p O<|zBo<|t O (by decide) O O (zN O O)<|t O (by decide) O O (zN O O)<|t O (by decide) O O (qS 0 O d O O O (by omega) (by simp;omega))<|t O (by decide) O O (kF O zAr O)<|t O (by decide) O O (zF O zDw O (wV 0 O (zCl (by simp;omega))) O)<|t O (by decide) O O (zN O O)<|t O (by decide) O O (zN O O)<|t O (by decide) O O (zN O O)<|t O (by decide) O O (zN O O)<|t O (by decide) O O (qF O d O O (by omega) (Q (by assumption)))<|t O (by decide) O O (qL O zAr O)<|t O (by decide) O O (zF O zDw O qA O)<|t O (by decide) O O (zN O O)<|t O (by decide) O O (qF O el70 O O (by omega) (Q (by assumption)))<|t O (by decide) O O (qB O yX O qA O)<|t O (by decide) O O (kV O O (hf l ((hP x (zZ hx)).2 l (zZ hl))) ⟨G,O,T⟩)<|t O (by decide) O O (kI O O)<|t O (by decide) O O (wH O O O)<|t O (by decide) O O (wG O O O)<|t O (by decide) O O (qS 0 O el70 O O O (by omega) (zVf (by simp;omega) (by omega)))<|zFm O O (by decide) O O (kB O sz41 O O O (zDh 0 O (mid_get (by simp;omega) hl) O)) ?_
    rintro _ _ ⟨rfl,rfl⟩
    refine ⟨_,O,?_⟩
    refine zBl O<|A O<|H<|F O<|A O<|yM O<|H<|zD O (fun c4=>?_) (fun c4=>?_)
    ·try simp only [I] at c4
     refine F O<|A O<|qX 4 O<|A O<|H<|o<|w (J O) (J O) ?_
     rw [mIxs_no hx hp (mIx_e2 c2 (mLins_no hl hq c4))];rfl
    ·try simp only [I] at c4
     refine zM<|zQ O<|qJ O ⟨by omega,by omega⟩<|A O<|H ?_
     refine ⟨⟨j+1,lins++[(f l).1]⟩,⟨by omega,by simp;omega,mLins_next hl hq c4⟩,(by show x.At.length-(j+1)<x.At.length-j;omega),Weak.mk [true,true] ⟨G,G,G,G,G,G,G,G,T⟩ (by simp only [Int.toNat_natCast];rw [zQb (by simp;omega) hl];simp only [List.map_append,List.map_cons,List.map_nil];rfl)⟩
   ·try simp only [I] at c3
    have hml:=mLins_end hq (by omega)
    rw [yW (l:=x.At) (k:=j) (by omega)]
    simp only [List.map_nil,List.append_nil]
    refine zY _ (yK 0 O (regs':=[]) (μ':=[_]) T ⟨EFle.vec (r':=[_,_,_,_]) (zCl (by simp;omega)) ⟨.inl O,.inl O,.inl O,.inr ⟨O,O⟩,T⟩,T⟩)<|qQ<|zQ O<|qJ O ⟨by omega,by omega⟩<|A O<|H ?_
    refine ⟨⟨k+1,outs++[⟨(f x.Lin).1,x.From,lins⟩]⟩,⟨by omega,by simp;omega,mIxs_next hx hp (mIx_ok c2 hml)⟩,(by show i.length-(k+1)<i.length-k;omega),Weak.mk [true] ⟨G,G,G,G,G,T⟩ (by simp only [Int.toNat_natCast,List.set_set];rw [zQb (by simp;omega) hx];simp only [List.map_append,List.map_cons,List.map_nil];rfl)⟩
 ·try simp only [I] at c1
  have hmi:=mIxs_end hp (by omega)
  rw [yW (l:=i) (k:=k) (by omega)]
  simp only [List.map_nil,List.append_nil]
  refine zY _ (yK 0 O (regs':=[(6,_)]) (μ':=[]) ⟨FLe.sl,T⟩ T)<|qQ<|F O<|A O<|A O<|A O<|H<|o<|w (J O) (J O) ?_
  rw [hmi];rfl
theorem zKg (f:Lf->Lf×Int) (c:C) (P:Lf->Prop) (hf:∀l,P l->FnPur cfg c [bZ l] (.tup [bZ (f l).1,vI (f l).2])) (e:Ex) (hP:e.allF P) (ih:∀a,a∈e.Args->a.allF P->a.cnt<=4294967296->Pur cfg 138 [vE a,.c c] (.tup [vE (nD (mEx f a)),vI (dZ (mEx f a))])) (he:e.cnt<=4294967296):
    Pur cfg 138 [vE e,.c c] (.tup [vE (nD (mEx f e)),vI (dZ (mEx f e))]):=by
 refine zT Tryz.func138 O Tryz.ntmps138 Tryz.results138 O ?_
 intro z hz
 obtain ⟨hI,hA,hAt⟩:=e.cparts he
 have hPI:=ixsAll_of hP
 refine F O<|zV O O (qN O O) ?_
 rintro _ _ ⟨b1,rfl,rfl⟩
 refine zV O O (qE [none,none,none,none,none,none,none,none,none,none,some 2,some 4,some 13] O zr44 O) ?_
 rintro _ _ ⟨b2,rfl,rfl⟩
 refine A O<|H<|F O<|zP kA (R 1 O) O<|zV O O (qE [none,none,none,none,none,none,none,none,none,none,some 2,some 4,some 13] O zr44 O) ?_
 rintro _ _ ⟨b3,rfl,rfl⟩
 refine Y 0 sz44 O<|H<|F O<|A O<|H<|zK<|F O<|A O<|zG O zDe<|zP yX (R 2 O) O<|zU O (kV O O (hf e.Lin (Ex.allF_lin hP)) ⟨G,O,T⟩)<|qP O<|yJ O<|qU O<|zG O zDe<|Y 0 sz41 O<|A O<|H<|F O<|A O<|yM O<|H<|zD O (fun c1=>?_) (fun c1=>?_)
 ·try simp only [I] at c1
  refine F O<|qT [none,none,none,none,none,none,none,none,none,none,some 2,some 4,some 13] O zr44 pl44<|A O<|Y 1 sz44 O<|A O<|H<|o<|w (y kA O (R 1 O) O) (J O) ?_
  rw [mEx_e1 c1];rfl
 ·try simp only [I] at c1
  refine zM<|zK<|F O<|zG O kX<|zJ wO (R 2 O) O<|A O<|qI O ok87 (zBg f c P hf e.Idx hI hAt hPI) ⟨G,O,G,O,T⟩<|qP O<|qU O<|qU O<|zG O kX<|Y 0 sz34 O<|A O<|H<|F O<|A O<|yM O<|H<|zD O (fun c2=>?_) (fun c2=>?_)
  ·try simp only [I] at c2
   refine F O<|qT [none,none,none,none,none,none,none,none,none,none,some 2,some 4,some 13] O zr44 pl44<|A O<|Y 1 sz44 O<|A O<|H<|o<|w (y kA O (R 1 O) O) (J O) ?_
   rw [mEx_e2 c1 (mIxs_err c2)];rfl
  ·try simp only [I] at c2
   obtain ⟨di,hmi⟩:=mIxs_0 c2
   rw [hmi]
   refine zM<|F O<|zG O wL<|zJ zBa (R 2 O) O<|zV O O (zBb O ok173 (zUg e.Args hA) ⟨G,O,T⟩) ?_
   rintro _ _ ⟨sv4,rfl,rfl⟩
   refine zG O wL<|Y 1 sz42 O<|H<|zK<|F O<|zG O wL<|zJ zBa (R 3 O) O<|qC O g<|A O<|H<|zR<|zY ⟨[(41,.c _),(1,.c _),(2,.c _),(4,.c _),(6,.c _),(40,.c _)],[_,_,_,_]⟩ (Weak.mk [true,true,true,true] ⟨G,G,G,G,G,G,T⟩ O)<|qK 1 1 O O (Nat×List Ex) (fun ⟨n,exs⟩=>[(41,vI n)]) (fun ⟨n,exs⟩=>[E.vec sv4 44 13 (exs.map Ex.cells++(e.Args.drop n).map Ex.cells)]) (fun ⟨n,exs⟩=>n<=e.Args.length/\(exs.length=n)/\(gA f e.Args=dE exs (gA f (e.Args.drop n)))) (fun ⟨n,exs⟩=>e.Args.length-n) ⟨⟨0,[]⟩,⟨by omega,O,(zBz _).symm⟩,Weak.mk [true,true,true,true] ⟨G,G,G,G,G,G,T⟩ O⟩ ?_
   rintro ⟨n,exs⟩ ⟨hn,hno,hr⟩
   show AWP _ _ _ _ _ ⟨[(41,vI n)]++_,[E.vec sv4 44 13 (exs.map Ex.cells++(e.Args.drop n).map Ex.cells)]++_⟩
   refine F O<|yD O<|H<|zK<|zD O (fun c3=>?_) (fun c3=>?_)
   ·try simp only [I] at c3
    obtain ⟨a,ha⟩:=qY e.Args n (by omega)
    refine zM<|zK<|zR<|F O<|A O<|A O<|H<|zK<|kL 15 0 [⟨0,.q []⟩,⟨1,.q [1]⟩,⟨2,.q []⟩,⟨3,.q []⟩,⟨4,.q [3]⟩,⟨5,.q []⟩,⟨6,.q []⟩,⟨7,.q []⟩,⟨8,.q []⟩,⟨9,.q []⟩,⟨10,.q []⟩,⟨11,.q []⟩,⟨12,.q []⟩,⟨13,.q [0]⟩,⟨14,.e 0 []⟩] mixed (by kernel_rfl) (by kernel_rfl) O O O<|p O<|p O<|p O<|p O<|p O<|p O<|p O<|p O<|p O<|p O<|p O<|p O<|p O<|p O<|p O<|zBo<|t O (by decide) O O (zE O wL O)<|t O (by decide) O O (zF O zBa O (R 0 O) O)<|t O (by decide) O O (zN O O)<|t O (by decide) O O (zE O wL O)<|t O (by decide) O O (zF O zBa O (R 0 O) O)<|t O (by decide) O O (zN O O)<|t O (by decide) O O (qF O g O O (by omega) (zEn (by assumption)))<|t O (by decide) O O (qB O kA O qA O)<|t O (by decide) O O (zN O O)<|t O (by decide) O O (qM O ok138 (ih a (zZ ha) (Ex.allF_arg hP (zZ ha)) (by have:=Ex.arg_cnt (zZ ha);omega)) ⟨G,O,G,O,T⟩)<|t O (by decide) O O (kI O O)<|t O (by decide) O O (wH O O O)<|t O (by decide) O O (wG O O O)<|t O (by decide) O O (qS 0 O g O O O (by omega) (zVf (by simp;omega) (by omega)))<|zFm O O (by decide) O O (kB O sz44 O O O (zDh 0 O (mid_getE (by simp;omega) ha) O)) ?_
    rintro _ _ ⟨rfl,rfl⟩
    refine ⟨_,O,?_⟩
    refine zBl O<|A O<|H<|F O<|A O<|yM O<|H<|zD O (fun c4=>?_) (fun c4=>?_)
    ·try simp only [I] at c4
     refine F O<|qT [none,none,none,none,none,none,none,none,none,none,some 2,some 4,some 13] O zr44 pl44<|A O<|Y 2 sz44 O<|A O<|H<|o<|w (y kA O (R 2 O) O) (J O) ?_
     rw [mEx_e3 c1 hmi (mExs_no ha hr c4)];rfl
    ·try simp only [I] at c4
     refine zM<|zQ O<|qJ O ⟨by omega,by omega⟩<|A O<|H ?_
     refine ⟨⟨n+1,exs++[nD (mEx f a)]⟩,⟨by omega,by simp;omega,mExs_next ha hr c4⟩,(by show e.Args.length-(n+1)<e.Args.length-n;omega),Weak.mk [true,true,true,true] ⟨G,G,G,G,G,G,T⟩ (by simp only [Int.toNat_natCast];rw [zQb (by simp;omega) ha];simp only [List.map_append,List.map_cons,List.map_nil,Ex.cells_eq (nD (mEx f a))];rfl)⟩
   ·try simp only [I] at c3
    have hme:=mExs_end hr (by omega)
    rw [yW (l:=e.Args) (k:=n) (by omega)]
    simp only [List.map_nil,List.append_nil]
    refine zY _ (yK 0 O (regs':=[]) (μ':=[_,_,_]) T ⟨EFle.row (ds:=[_,_,_,_,_,_,_,_,_,_,_,_,_]) ⟨.inl O,.inl O,.inl O,.inl O,.inl O,.inl O,.inl O,.inl O,.inl O,.inl O,.inl O,.inl O,.inr ⟨O,O⟩,T⟩,EFle.refl _,EFle.refl _,T⟩)<|qQ<|F O<|zP kA (R 0 O) O<|Y 1 sz44 O<|A O<|H<|o<|w (y kA O (R 1 O) O) (J O) ?_
    rw [mEx_ok c1 hmi hme];rfl
theorem zEs (f:Lf->Lf×Int) (c:C) (P:Lf->Prop) (hf:∀l,P l->FnPur cfg c [bZ l] (.tup [bZ (f l).1,vI (f l).2])) (e:Ex) (hP:e.allF P) (he:e.cnt<=4294967296):Pur cfg 138 [vE e,.c c] (.tup [vE (nD (mEx f e)),vI (dZ (mEx f e))]):=by
  induction e using Ex.ind with
  |_ e ih=>exact zKg f c P hf e hP ih he
theorem zDs (f:Lf->Lf×Int) (c:C) (P:Lf->Prop) (hf:∀l,P l->FnPur cfg c [bZ l] (.tup [bZ (f l).1,vI (f l).2])) (g:ByteArray->ByteArray) (c9:C) (hg:∀s,FnPur cfg c9 [vS s] (vS (g s))) (l:List St) (hP:bH P l) (ih:∀s,s∈l->Pur cfg 91 [bM s.Body,.c c,.c c9] (.tup [bM (gQ (fW f g s.Body)),vI (dZ (fW f g s.Body))])) (hl:bC l<=1073741824):
    Pur cfg 91 [bM l,.c c,.c c9] (.tup [bM (gQ (fW f g l)),vI (dZ (fW f g l))]):=by
 refine zT Tryz.func91 O Tryz.ntmps91 Tryz.results91 O ?_
 intro z hz
 have hll:=kO l
 refine F O<|qX 20 O<|A O<|H<|F O<|A O<|zV O O (zBb O ok137 (zJq l (by omega)) ⟨G,O,T⟩) ?_
 rintro _ _ ⟨sv1,rfl,rfl⟩
 refine A O<|H<|F O<|A O<|H<|zK<|F O<|A O<|qC O D<|A O<|H<|zR<|zY ⟨[(15,.c _),(0,.c _),(1,.c _),(2,.c _),(8,.c _),(14,.c _)],[_]⟩ (Weak.mk [true] ⟨G,G,G,G,G,G,T⟩ O)<|qK 1 1 O O (Nat×List St) (fun ⟨k,outs⟩=>[(15,vI k)]) (fun ⟨k,outs⟩=>[E.vec sv1 46 20 (outs.map St.cells++(l.drop k).map St.cells)]) (fun ⟨k,outs⟩=>k<=l.length/\(outs.length=k)/\(fW f g l=dE outs (fW f g (l.drop k)))) (fun ⟨k,outs⟩=>l.length-k) ⟨⟨0,[]⟩,⟨by omega,O,(zBz _).symm⟩,Weak.mk [true] ⟨G,G,G,G,G,G,T⟩ O⟩ ?_
 rintro ⟨k,outs⟩ ⟨hk,ho,hp⟩
 show AWP _ _ _ _ _ ⟨[(15,vI k)]++_,[E.vec sv1 46 20 (outs.map St.cells++(l.drop k).map St.cells)]++_⟩
 refine F O<|yD O<|H<|zK<|zD O (fun c1=>?_) (fun c1=>?_)
 ·try simp only [I] at c1
  obtain ⟨s,hs⟩:=qY l k (by omega)
  have hsw:=yC (zZ hs)
  have hse:=St.wt_eq s
  have hPs:=St.allF_eq (kY hP s (zZ hs))
  refine zM<|zK<|zR<|F O<|A O<|A O<|H<|zK<|F O<|A O<|A O<|qD O D (by omega) (wD hs)<|qO O zAp<|zJ one3 qA O<|yF O<|H<|zD O (fun c2=>?_) (fun c2=>?_)
  ·try simp only [I] at c2
   refine zQ O<|A O<|A O<|A O<|A O<|A O<|qD O D (by omega) (wD hs)<|qO O zAj<|zJ one9 qA O<|zU O (kV O O (hg s.Name) ⟨G,O,T⟩)<|zU O (qS 0 O D O O O (by omega) (zVf (by simp;omega) (by omega)))<|zU O (kF O zAj O)<|zAe O O (kB O sz9 O O O (zDh 0 O (mid_getS (by simp;omega) hs) O))<|H<|zK<|F O<|A O<|A O<|A O<|A O<|qD O D (by omega) (wD hs)<|qO O zDo<|zJ wO qA O<|A O<|qI O ok87 (zBg f c P hf s.Idx (by omega) (fun x hx=>by have:=zAq hx;rw [Ix.wt] at this;omega) hPs.1) ⟨G,O,G,O,T⟩<|qP O<|qU O<|qU O<|zU O (qS 0 O D O O O (by omega) (by simp;omega))<|zU O (kF O zDo O)<|zAe O O (kB O sz34 O O O (zDh 0 O (zCl (by simp;omega)) O))<|A O<|H<|F O<|A O<|yM O<|H<|zD O (fun c3=>?_) (fun c3=>?_)
   ·try simp only [I] at c3
    refine F O<|A O<|qX 20 O<|A O<|H<|o<|w (J O) (J O) ?_
    rw [zIe hs hp (mSt_e1 (mIxs_err c3))];rfl
   ·try simp only [I] at c3
    obtain ⟨di,hmi⟩:=mIxs_0 c3
    rw [hmi]
    refine zM<|zK<|F O<|A O<|A O<|A O<|A O<|qD O D (by omega) (wD hs)<|qO O zAz<|zP kA qA O<|A O<|qI O ok138 (zEs f c P hf s.E hPs.2.1 (by have:=s.E.cnt_le;omega)) ⟨G,O,G,O,T⟩<|qP O<|yJ O<|qU O<|zU O (qS 0 O D O O O (by omega) (by simp;omega))<|zU O (kF O zAz O)<|zAe O O (kB O sz44 O O O (zDh 0 O (zCl (by simp;omega)) O))<|A O<|H<|F O<|A O<|yM O<|H<|zD O (fun c4=>?_) (fun c4=>?_)
    ·try simp only [I] at c4
     refine F O<|A O<|qX 20 O<|A O<|H<|o<|w (J O) (J O) ?_
     rw [zIe hs hp (mSt_e2 hmi (mEx_err c4))];rfl
    ·try simp only [I] at c4
     obtain ⟨de,hmE⟩:=mEx_0 c4
     rw [hmE]
     refine zM<|F O<|A O<|A O<|A O<|A O<|qD O D (by omega) (wD hs)<|qO O kK<|zJ kP qA O<|A O<|A O<|qI O ok91 (ih s (zZ hs)) ⟨G,O,G,O,G,O,T⟩<|qP O<|qU O<|qU O<|zU O (qS 0 O D O O O (by omega) (by simp;omega))<|zU O (kF O kK O)<|zAe O O (kB O sz23 O O O (zDh 0 O (zCl (by simp;omega)) O))<|A O<|H<|F O<|A O<|yM O<|H<|zD O (fun c5=>?_) (fun c5=>?_)
     ·try simp only [I] at c5
      refine F O<|A O<|qX 20 O<|A O<|H<|o<|w (J O) (J O) ?_
      rw [zIe hs hp (mSt_e3 hmi hmE (mSts_err c5))];rfl
     ·try simp only [I] at c5
      obtain ⟨db,hmb⟩:=mSts_0 c5
      rw [hmb]
      have hms:=mSt_ok hmi hmE hmb
      have hset:∀r,(outs.map St.cells++(l.drop k).map St.cells).set k r=(outs.map St.cells++[r])++(l.drop (k+1)).map St.cells:=fun r=>zQb (by simp;omega) hs
      have hset2:∀r r',((outs.map St.cells++[r])++(l.drop (k+1)).map St.cells).set k r'=(outs.map St.cells++[r'])++(l.drop (k+1)).map St.cells:=fun r r'=>mid_set' (α:=St) (f:=St.cells) (l:=l) (by simp;omega)
      refine zM<|zQ O<|qJ O ⟨by omega,by omega⟩<|A O<|H ?_
      refine ⟨⟨k+1,outs++[.mk s.Op (if s.Op=1 then g s.Name else s.Name) s.Many s.Mark s.Fold di de db]⟩,⟨by omega,by simp;omega,zVg hs hp hms⟩,(by show l.length-(k+1)<l.length-k;omega),Weak.mk [true] ⟨G,G,G,G,G,G,T⟩ (by simp only [Int.toNat_natCast,List.set_set,hset,hset2];simp only [List.map_append,List.map_cons,List.map_nil,St.cells_eq (.mk _ _ _ _ _ _ _ _)];first|(rw [if_pos c2];rfl)|(rw [if_neg c2];rfl))⟩
  ·try simp only [I] at c2
   refine zM<|zK<|F O<|A O<|A O<|A O<|A O<|qD O D (by omega) (wD hs)<|qO O zDo<|zJ wO qA O<|A O<|qI O ok87 (zBg f c P hf s.Idx (by omega) (fun x hx=>by have:=zAq hx;rw [Ix.wt] at this;omega) hPs.1) ⟨G,O,G,O,T⟩<|qP O<|qU O<|qU O<|zU O (qS 0 O D O O O (by omega) (zVf (by simp;omega) (by omega)))<|zU O (kF O zDo O)<|zAe O O (kB O sz34 O O O (zDh 0 O (mid_getS (by simp;omega) hs) O))<|A O<|H<|F O<|A O<|yM O<|H<|zD O (fun c3=>?_) (fun c3=>?_)
   ·try simp only [I] at c3
    refine F O<|A O<|qX 20 O<|A O<|H<|o<|w (J O) (J O) ?_
    rw [zIe hs hp (mSt_e1 (mIxs_err c3))];rfl
   ·try simp only [I] at c3
    obtain ⟨di,hmi⟩:=mIxs_0 c3
    rw [hmi]
    refine zM<|zK<|F O<|A O<|A O<|A O<|A O<|qD O D (by omega) (wD hs)<|qO O zAz<|zP kA qA O<|A O<|qI O ok138 (zEs f c P hf s.E hPs.2.1 (by have:=s.E.cnt_le;omega)) ⟨G,O,G,O,T⟩<|qP O<|yJ O<|qU O<|zU O (qS 0 O D O O O (by omega) (by simp;omega))<|zU O (kF O zAz O)<|zAe O O (kB O sz44 O O O (zDh 0 O (zCl (by simp;omega)) O))<|A O<|H<|F O<|A O<|yM O<|H<|zD O (fun c4=>?_) (fun c4=>?_)
    ·try simp only [I] at c4
     refine F O<|A O<|qX 20 O<|A O<|H<|o<|w (J O) (J O) ?_
     rw [zIe hs hp (mSt_e2 hmi (mEx_err c4))];rfl
    ·try simp only [I] at c4
     obtain ⟨de,hmE⟩:=mEx_0 c4
     rw [hmE]
     refine zM<|F O<|A O<|A O<|A O<|A O<|qD O D (by omega) (wD hs)<|qO O kK<|zJ kP qA O<|A O<|A O<|qI O ok91 (ih s (zZ hs)) ⟨G,O,G,O,G,O,T⟩<|qP O<|qU O<|qU O<|zU O (qS 0 O D O O O (by omega) (by simp;omega))<|zU O (kF O kK O)<|zAe O O (kB O sz23 O O O (zDh 0 O (zCl (by simp;omega)) O))<|A O<|H<|F O<|A O<|yM O<|H<|zD O (fun c5=>?_) (fun c5=>?_)
     ·try simp only [I] at c5
      refine F O<|A O<|qX 20 O<|A O<|H<|o<|w (J O) (J O) ?_
      rw [zIe hs hp (mSt_e3 hmi hmE (mSts_err c5))];rfl
     ·try simp only [I] at c5
      obtain ⟨db,hmb⟩:=mSts_0 c5
      rw [hmb]
      have hms:=mSt_ok hmi hmE hmb
      have hset:∀r,(outs.map St.cells++(l.drop k).map St.cells).set k r=(outs.map St.cells++[r])++(l.drop (k+1)).map St.cells:=fun r=>zQb (by simp;omega) hs
      have hset2:∀r r',((outs.map St.cells++[r])++(l.drop (k+1)).map St.cells).set k r'=(outs.map St.cells++[r'])++(l.drop (k+1)).map St.cells:=fun r r'=>mid_set' (α:=St) (f:=St.cells) (l:=l) (by simp;omega)
      refine zM<|zQ O<|qJ O ⟨by omega,by omega⟩<|A O<|H ?_
      refine ⟨⟨k+1,outs++[.mk s.Op (if s.Op=1 then g s.Name else s.Name) s.Many s.Mark s.Fold di de db]⟩,⟨by omega,by simp;omega,zVg hs hp hms⟩,(by show l.length-(k+1)<l.length-k;omega),Weak.mk [true] ⟨G,G,G,G,G,G,T⟩ (by simp only [Int.toNat_natCast,List.set_set,hset,hset2];simp only [List.map_append,List.map_cons,List.map_nil,St.cells_eq (.mk _ _ _ _ _ _ _ _)];first|(rw [if_pos c2];rfl)|(rw [if_neg c2];rfl))⟩
 ·try simp only [I] at c1
  have hme:=mSts_end hp (by omega)
  rw [yW (l:=l) (k:=k) (by omega)]
  simp only [List.map_nil,List.append_nil]
  refine zY _ (yK 0 O (regs':=[(8,_)]) (μ':=[]) ⟨FLe.sl,T⟩ T)<|qQ<|F O<|A O<|A O<|A O<|H<|o<|w (J O) (J O) ?_
  rw [hme];rfl
theorem zIz (f:Lf->Lf×Int) (c:C) (P:Lf->Prop) (hf:∀l,P l->FnPur cfg c [bZ l] (.tup [bZ (f l).1,vI (f l).2])) (g:ByteArray->ByteArray) (c9:C) (hg:∀s,FnPur cfg c9 [vS s] (vS (g s))) (s:St) (hP:bH P s.Body) (hl:bC s.Body<=1073741824):Pur cfg 91 [bM s.Body,.c c,.c c9] (.tup [bM (gQ (fW f g s.Body)),vI (dZ (fW f g s.Body))]):=by
  induction s using St.ind with
  |_ s ih=>exact zDs f c P hf g c9 hg s.Body hP (fun a ha=>ih a ha (St.allF_eq (kY hP a ha)).2.2 (by have:=yC ha;have:=St.body_wt a;omega)) hl
theorem zDx (f:Lf->Lf×Int) (c:C) (P:Lf->Prop) (hf:∀l,P l->FnPur cfg c [bZ l] (.tup [bZ (f l).1,vI (f l).2])) (g:ByteArray->ByteArray) (c9:C) (hg:∀s,FnPur cfg c9 [vS s] (vS (g s))) (l:List St) (hP:bH P l) (hl:bC l<=1073741824):Pur cfg 91 [bM l,.c c,.c c9] (.tup [bM (gQ (fW f g l)),vI (dZ (fW f g l))]):=
  zDs f c P hf g c9 hg l hP (fun s hs=>zIz f c P hf g c9 hg s (St.allF_eq (kY hP s hs)).2.2 (by have:=yC hs;have:=St.body_wt s;omega)) hl
theorem zRo (l:Lf) (hl:l.L.length<=1073741824):
    Pur cfg 93 [bZ l] (bZ l):=by
 refine zT Tryz.func93 O Tryz.ntmps93 Tryz.results93 O ?_
 intro z hz
 refine F O<|zV O O (qN O O) ?_
 rintro _ _ ⟨b1,rfl,rfl⟩
 refine zV O O (qE [none,some 2] O v O) ?_
 rintro _ _ ⟨b2,rfl,rfl⟩
 refine H<|zK<|qZ 6 mixed (by kernel_rfl) O O<|M O O (zE O zDt O)<|M O O (zF O U O (R 1 O) O)<|M O O (zE O kC O)<|M O O (zF O wN O (R 1 O) O)<|M O O (qM O ok139 (OwnR.pur (zPt l.L (by omega))) ⟨G,O,T⟩)<|M O O (zDq O v pl41 O)<|kE<|Y 0 sz41 O<|H<|o<|fin1 (y yX O (R 0 O) O) ?_
 exact O
theorem zWo (l:Lf) (hl:l.L.length<=1073741824):
    Pur cfg 92 [bZ l] (.tup [bZ (idF l).1,vI (idF l).2]):=by
 refine zT Tryz.func92 O Tryz.ntmps92 Tryz.results92 O ?_
 intro z hz
 refine F O<|zV O O (qN O O) ?_
 rintro _ _ ⟨b1,rfl,rfl⟩
 refine zV O O (qE [none,some 2] O v O) ?_
 rintro _ _ ⟨b2,rfl,rfl⟩
 refine A O<|H<|F O<|zP yX (R 1 O) O<|qI O ok93 (zRo l hl) ⟨G,O,T⟩<|Y 0 sz41 O<|A O<|H<|o<|w (y yX O (R 0 O) O) (J O) ?_
 exact O
theorem zIf (s:ByteArray):
    Pur cfg 94 [vS s] (vS s):=by
 refine zT Tryz.func94 O Tryz.ntmps94 Tryz.results94 O ?_
 intro z hz
 refine F O<|A O<|H<|F O<|A O<|A O<|H<|o<|X O ?_
 exact O
theorem zDl (l:List St) (hl:bC l<=1073741824):
    Pur cfg 41 [bM l] (bM l):=by
 refine zT Tryz.func41 O Tryz.ntmps41 Tryz.results41 O ?_
 intro z hz
 refine F O<|qX 20 O<|H<|F O<|A O<|qI O ok91 (zDx idF _ (fun l=>l.L.length<=1073741824) (fun l hl=>FnPur.of_pur (first:=[]) (cap:=[]) ok92 (zWo l hl)) (fun x=>x) _ (fun s=>FnPur.of_pur (first:=[]) (cap:=[]) ok94 (zIf s)) l (zJi hl) hl) ⟨G,O,G,O,G,O,T⟩<|qP O<|qU O<|qU O<|A O<|A O<|H<|F O<|A O<|A O<|H<|o<|X O ?_
 rw [mSts_id];rfl
theorem loopnest_At (n:Ns) (way:List Int) (hw:way.length<=1073741824) (hl:bC n.Body<=1000000000):
    Pur cfg 15 [vNs n,vIs way] (.tup [vSt (atT n.Body way).1,vB (atT n.Body way).2]):=by
 refine zT Tryz.func15 O Tryz.ntmps15 Tryz.results15 O ?_
 intro z hz
 have htl:=trl_len way n.Body []
 have htl2:(fI n.Body way).length<=way.length:=by unfold fI;simpa using htl
 refine F O<|zV O O (qN O O) ?_
 rintro _ _ ⟨b1,rfl,rfl⟩
 refine zV O O (qE [none,none,none,none,none,some 4,none,none,none,none,none,none,none,none,none,none,some 2,some 4,some 13,some 20] O j O) ?_
 rintro _ _ ⟨b2,rfl,rfl⟩
 refine A O<|H<|F O<|zG O zAd<|zJ kP (R 1 O) O<|A O<|qI O ok38 (zMe n.Body way hw) ⟨G,O,G,O,T⟩<|A O<|H<|zK<|F O<|A O<|qC O D<|yF O<|H<|zD O (fun c1=>?_) (fun c1=>?_)
 ·try simp only [I] at c1
  have he:fI n.Body way=[]:=List.eq_nil_of_length_eq_zero (by omega)
  have ha:=at_none he
  refine F O<|qT [none,none,none,none,none,some 4,none,none,none,none,none,none,none,none,none,none,some 2,some 4,some 13,some 20] O j pl46<|Y 0 sz46 O<|A O<|H<|o<|w (y zAv O (R 0 O) O) (J O) ?_
  rw [ha];rfl
 ·try simp only [I] at c1
  have hne:fI n.Body way≠[]:=fun h=>c1 (by rw [h];rfl)
  have hlast:=at_last hne
  have hok:=at_some hne
  refine zM<|F O<|A O<|A O<|qC O D<|zU O (yE O O O ⟨by omega,by omega⟩)<|zU O (zAk (k:=(fI n.Body way).length-1) O D O (congrArg (fun n=>V.c (C.lit (.int .i64 n))) (by have:=List.length_pos_iff.2 hne;omega)) (by omega))<|qI O ok41 (show Pur cfg 41 [bM ((fI n.Body way).drop ((fI n.Body way).length-1))] (bM [(atT n.Body way).1]) by rw [hlast];exact zDl [(atT n.Body way).1] (by have:=atT_wt (l:=n.Body) (way:=way);simp only [bC];omega)) ⟨G,O,T⟩<|qD O D (by omega) (show ([(atT n.Body way).1].map St.cells)[0]? =some (atT n.Body way).1.cs by rw [←St.cells_eq];rfl)<|zP zAv qA O<|Y 0 sz46 O<|A O<|H<|o<|w (y zAv O (R 0 O) O) (J O) ?_
  rw [hok];rfl
end Go.W
