/-
  What functions compute.
  What functions compute.
  What functions compute.
  What functions compute.
  What functions compute.
  What functions compute.
  What functions compute.
  What functions compute.
  What functions compute.
  What functions compute.
  What functions compute.
  What functions compute.
  What functions compute.
  What functions compute.
  Conditions: none.
-/
import Derived.Test.YthgichbbgocmoaaGreatDoorGL
import Derived.Test.YthgichbbgocmoaaGreatDoorPlain3
import Derived.Test.YthgichbbgocmoaaGreatDoorEngZ
import Derived.Test.YthgichbbgocmoaaGreatDoorGB
set_option linter.unusedSimpArgs false
set_option linter.unusedVariables false
section
set_option maxRecDepth 10000
namespace Go.W
open Go Go.Eng Go.Proofs Go.L41 Go.Br
attribute [local irreducible] AWP RWP TD fH
theorem ok57:bA Tryz.prog 57=true:=by kernel_rfl
theorem ok60:bA Tryz.prog 60=true:=by kernel_rfl
theorem ok74:bA Tryz.prog 74=true:=by kernel_rfl
theorem ok83:bA Tryz.prog 83=true:=by kernel_rfl
theorem ok90:bA Tryz.prog 90=true:=by kernel_rfl
theorem ok91:bA Tryz.prog 91=true:=by kernel_rfl
theorem ok92:bA Tryz.prog 92=true:=by kernel_rfl
theorem ok106:bA Tryz.prog 106=true:=by kernel_rfl
theorem ok107:bA Tryz.prog 107=true:=by kernel_rfl
theorem ok120:bA Tryz.prog 120=true:=by kernel_rfl
theorem ok121:bA Tryz.prog 121=true:=by kernel_rfl
theorem ok122:bA Tryz.prog 122=true:=by kernel_rfl
theorem ok138:bA Tryz.prog 138=true:=by kernel_rfl
theorem pl56:fP Tryz.prog 56=some [(0,1),(1,1),(2,1),(3,1),(4,1),(5,1),(6,13),(19,1)]:=by kernel_rfl
theorem sz9:(Tryz.prog.info? 9).map (·.size)=some 1:=by kernel_rfl
theorem sz23:(Tryz.prog.info? 23).map (·.size)=some 1:=by kernel_rfl
theorem sz44:(Tryz.prog.info? 44).map (·.size)=some 1:=by kernel_rfl
theorem sz52:(Tryz.prog.info? 52).map (·.size)=some 1:=by kernel_rfl
theorem sz90:(Tryz.prog.info? 90).map (·.size)=some 1:=by kernel_rfl
theorem zJu (l:List St) (hl:l.length<=4294967296):
    OwnR cfg 90 [bU l] 56 20 (l.map St.cells):=by
 refine zR Tryz.func90 O Tryz.ntmps90 Tryz.results90 O ?_
 intro z hz
 refine G O<|yI 20 O<|Y<|zJ<|G O<|A O<|zV O O (zHj O D O O) ?_
 rintro _ _ ⟨nb1,rfl,hnil1,rfl⟩
 refine Y<|zE O (fun c1=>?_) (fun c1=>?_)
 ·try simp only [sx] at c1
  refine G O<|A O<|yS _ (wC 56 20)<|Y<|zH<|zS O ?_
  exact ⟨_,O,by rw [hnil1 c1]⟩
 ·try simp only [sx] at c1
  refine zK<|G O<|zV O O (zDd O D zr56 O O O O) ?_
  rintro _ _ ⟨sv3,rfl,rfl⟩
  refine A O<|zV O O (yN 0 O D O O O uF uF) ?_
  exact m6
theorem zBg (f:Lf->Lf×Int) (c:C) (P:Lf->Prop) (hf:∀l,P l->FnPur cfg c [dF l] (.tup [dF (f l).1,vI (f l).2])) (i:List Ix) (hi:i.length<=4294967296) (hA:∀x,x∈i->x.At.length<=4294967296) (hP:lY P i):
    Pur cfg 91 [gR i,.c c] (.tup [gR (iC (fZ f i)),vI (jM (fZ f i))]):=by
 refine zR Tryz.func91 O Tryz.ntmps91 Tryz.results91 O ?_
 intro z hz
 refine G O<|yI 4 O<|A O<|Y<|G O<|A O<|zV O O (zAy O ok120 (zUp i hi) ⟨R,O,T⟩) ?_
 rintro _ _ ⟨sv1,rfl,rfl⟩
 refine A O<|Y<|G O<|A O<|Y<|zJ<|G O<|A O<|qB O v<|A O<|Y<|zQ<|zY ⟨[(14,.c _),(0,.c _),(1,.c _),(6,.c _),(13,.c _)],[_]⟩ (Weak.mk [true] ⟨R,R,R,R,R,T⟩ O)<|qK 1 1 O O (Nat×List Ix) (fun ⟨k,outs⟩=>[(14,vI k)]) (fun ⟨k,outs⟩=>[E.vec sv1 92 4 (outs.map Ix.cells++(i.drop k).map Ix.cells)]) (fun ⟨k,outs⟩=>k<=i.length/\(outs.length=k)/\(fZ f i=dN outs (fZ f (i.drop k)))) (fun ⟨k,outs⟩=>i.length-k) ⟨⟨0,[]⟩,⟨zA,O,(zIl _).symm⟩,Weak.mk [true] ⟨R,R,R,R,R,T⟩ O⟩ ?_
 rintro ⟨k,outs⟩ ⟨hk,ho,hp⟩
 show AWP _ _ _ _ _ ⟨[(14,vI k)]++_,[E.vec sv1 92 4 (outs.map Ix.cells++(i.drop k).map Ix.cells)]++_⟩
 refine G O<|yG O<|Y<|zJ<|zE O (fun c1=>?_) (fun c1=>?_)
 ·try simp only [sx] at c1
  obtain ⟨x,hx⟩:=qY i k zA
  have hAx:=hA x (qA hx)
  refine zK<|zJ<|zQ<|G O<|A O<|A O<|Y<|zJ<|G O<|A O<|A O<|A O<|A O<|A O<|qC O v zA (getm uB)<|qQ O zFh<|zM kP zZ O<|zW O (kS O O (hf x.Lin (hP x (qA hx)).1) ⟨R,O,T⟩)<|qO O<|yH O<|qR O<|zW O (qS 0 O v O O O zA (zVr uE zA))<|zW O (kD O zFh O)<|kQ O O (yL O sz51 O O O (zDb 0 O (mid_get uE hx) O))<|A O<|Y<|G O<|A O<|yK O<|Y<|zE O (fun c2=>?_) (fun c2=>?_)
  ·try simp only [sx] at c2
   refine G O<|A O<|yI 4 O<|A O<|Y<|zH<|fin2 (rs_c O) (rs_c O) ?_
   rw [mIxs_no hx hp (mIx_e1 c2)];rfl
  ·try simp only [sx] at c2
   refine zK<|G O<|A O<|A O<|A O<|A O<|qC O v zA (getm uB)<|qQ O zAu<|zI zEo zZ O<|zV O O (zAy O ok121 (zRv x.At (hA x (qA hx))) ⟨R,O,T⟩) ?_
   rintro _ _ ⟨sv2,rfl,rfl⟩
   refine zW O (qS 1 O v O O O zA uE)<|zW O (kD O zAu O)<|kQ O O (yL O sz90 O O O (zDb 1 O (zCm uE) O))<|Y<|G O<|A O<|A O<|qC O v zA (getm uB)<|qQ O zAu<|zI zEo zZ O<|qB O el90<|A O<|Y<|zQ<|zY ⟨[(50,.c _),(0,.c _),(1,.c _),(6,.c _),(8,.c _),(13,.c _),(14,.c _),(49,.c _)],[_,_]⟩ (Weak.mk [true,true] ⟨R,R,R,R,R,R,R,R,T⟩ O)<|qK 1 1 O O (Nat×List Lf) (fun ⟨j,lins⟩=>[(50,vI j)]) (fun ⟨j,lins⟩=>[E.vec sv2 51 2 (lins.map Lf.cells++(x.At.drop j).map Lf.cells)]) (fun ⟨j,lins⟩=>j<=x.At.length/\(lins.length=j)/\(gB f x.At=dN lins (gB f (x.At.drop j)))) (fun ⟨j,lins⟩=>x.At.length-j) ⟨⟨0,[]⟩,⟨zA,O,(zIl _).symm⟩,Weak.mk [true,true] ⟨R,R,R,R,R,R,R,R,T⟩ O⟩ ?_
   rintro ⟨j,lins⟩ ⟨hj,hlo,hq⟩
   show AWP _ _ _ _ _ ⟨[(50,vI j)]++_,[E.vec sv2 51 2 (lins.map Lf.cells++(x.At.drop j).map Lf.cells)]++_⟩
   refine G O<|yG O<|Y<|zJ<|zE O (fun c3=>?_) (fun c3=>?_)
   ·try simp only [sx] at c3
    obtain ⟨l,hl⟩:=qY x.At j zA
    refine zK<|zJ<|zQ<|G O<|A O<|A O<|Y<|zJ<|kI 21 0 [⟨0,.q []⟩,⟨1,.q []⟩,⟨2,.q [1]⟩,⟨3,.q []⟩,⟨4,.q [1]⟩,⟨5,.q []⟩,⟨6,.q []⟩,⟨7,.q []⟩,⟨8,.q []⟩,⟨9,.q []⟩,⟨10,.q []⟩,⟨11,.q []⟩,⟨12,.q []⟩,⟨13,.q []⟩,⟨14,.q []⟩,⟨15,.q []⟩,⟨16,.q []⟩,⟨17,.q []⟩,⟨18,.q []⟩,⟨19,.q [0]⟩,⟨20,.e 0 []⟩] mixed uC uC O O O<|zX O<|zX O<|zX O<|zX O<|zX O<|zX O<|zX O<|zX O<|zX O<|zX O<|zX O<|zX O<|zX O<|zX O<|zX O<|zX O<|zX O<|zX O<|zX O<|zX O<|zX O<|zBb<|qF O zB O O (zO O O)<|qF O zB O O (zO O O)<|qF O zB O O (qS 0 O v O O O zA uE)<|qF O zB O O (kD O zAu O)<|qF O zB O O (zF O zEo O (wU 0 O (zCm uE)) O)<|qF O zB O O (zO O O)<|qF O zB O O (zO O O)<|qF O zB O O (zO O O)<|qF O zB O O (zO O O)<|qF O zB O O (qE O v O O zA (getm uB))<|qF O zB O O (qM O zAu O)<|qF O zB O O (zF O zEo O zZ O)<|qF O zB O O (zO O O)<|qF O zB O O (qE O el90 O O zA (getm uB))<|qF O zB O O (zU O kP O zZ O)<|qF O zB O O (kS O O (hf l ((hP x (qA hx)).2 l (qA hl))) ⟨R,O,T⟩)<|qF O zB O O (kH O O)<|qF O zB O O (wE O O O)<|qF O zB O O (wD O O O)<|qF O zB O O (qS 0 O el90 O O O zA (zVr uE zA))<|zFr O O zB O O (yL O sz51 O O O (zDb 0 O (mid_get uE hl) O)) ?_
    rintro _ _ ⟨rfl,rfl⟩
    refine ⟨_,O,?_⟩
    refine zAx O<|A O<|Y<|G O<|A O<|yK O<|Y<|zE O (fun c4=>?_) (fun c4=>?_)
    ·try simp only [sx] at c4
     refine G O<|A O<|yI 4 O<|A O<|Y<|zH<|fin2 (rs_c O) (rs_c O) ?_
     rw [mIxs_no hx hp (mIx_e2 c2 (mLins_no hl hq c4))];rfl
    ·try simp only [sx] at c4
     refine zK<|zT O<|qI O ⟨zA,zA⟩<|A O<|Y ?_
     refine ⟨⟨j+1,lins++[(f l).1]⟩,⟨zA,uE,mLins_next hl hq c4⟩,(by show x.At.length-(j+1)<x.At.length-j;omega),Weak.mk [true,true] ⟨R,R,R,R,R,R,R,R,T⟩ (by simp only [Int.toNat_natCast];rw [zQi uE hl];simp only [List.map_append,List.map_cons,List.map_nil];rfl)⟩
   ·try simp only [sx] at c3
    have hml:=mLins_end hq zA
    rw [kK (l:=x.At) (k:=j) zA]
    simp only [List.map_nil,List.append_nil]
    refine zY _ (yT 0 O (regs':=[]) (μ':=[_]) T ⟨EFle.vec (r':=[_,_,_,_]) (zCm uE) ⟨.inl O,.inl O,.inl O,.inr ⟨O,O⟩,T⟩,T⟩)<|qN<|zT O<|qI O ⟨zA,zA⟩<|A O<|Y ?_
    refine ⟨⟨k+1,outs++[⟨(f x.Lin).1,x.From,lins⟩]⟩,⟨zA,uE,mIxs_next hx hp (mIx_ok c2 hml)⟩,(by show i.length-(k+1)<i.length-k;omega),Weak.mk [true] ⟨R,R,R,R,R,T⟩ (by simp only [Int.toNat_natCast,List.set_set];rw [zQi uE hx];simp only [List.map_append,List.map_cons,List.map_nil];rfl)⟩
 ·try simp only [sx] at c1
  have hmi:=mIxs_end hp zA
  rw [kK (l:=i) (k:=k) zA]
  simp only [List.map_nil,List.append_nil]
  refine zY _ (yT 0 O (regs':=[(6,_)]) (μ':=[]) ⟨FLe.sl,T⟩ T)<|qN<|G O<|A O<|A O<|A O<|Y<|zH<|fin2 (rs_c O) (rs_c O) ?_
  rw [hmi];rfl
theorem zKj (f:Lf->Lf×Int) (c:C) (P:Lf->Prop) (hf:∀l,P l->FnPur cfg c [dF l] (.tup [dF (f l).1,vI (f l).2])) (e:Ex) (hP:e.allF P) (ih:∀a,a∈e.Args->a.allF P->a.cnt<=4294967296->Pur cfg 92 [vE a,.c c] (.tup [vE (xL (mEx f a)),vI (jM (mEx f a))])) (he:e.cnt<=4294967296):
    Pur cfg 92 [vE e,.c c] (.tup [vE (xL (mEx f e)),vI (jM (mEx f e))]):=by
 refine zR Tryz.func92 O Tryz.ntmps92 Tryz.results92 O ?_
 intro z hz
 obtain ⟨hI,hA,hAt⟩:=e.cparts he
 have hPI:=ixsAll_of hP
 refine G O<|zV O O (qJ O O) ?_
 rintro _ _ ⟨b1,rfl,rfl⟩
 refine zV O O (qH [none,none,none,none,none,none,none,none,none,none,some 2,some 4,some 13] O zr54 O) ?_
 rintro _ _ ⟨b2,rfl,rfl⟩
 refine A O<|Y<|G O<|zM yX (J 1 O) O<|zV O O (qH [none,none,none,none,none,none,none,none,none,none,some 2,some 4,some 13] O zr54 O) ?_
 rintro _ _ ⟨b3,rfl,rfl⟩
 refine rStR 0 sz54 O<|Y<|G O<|A O<|Y<|zJ<|G O<|A O<|zD O zDv<|zM kP (J 2 O) O<|zW O (kS O O (hf e.Lin (Ex.allF_lin hP)) ⟨R,O,T⟩)<|qO O<|yH O<|qR O<|zD O zDv<|rStR 0 sz51 O<|A O<|Y<|G O<|A O<|yK O<|Y<|zE O (fun c1=>?_) (fun c1=>?_)
 ·try simp only [sx] at c1
  refine G O<|yF [none,none,none,none,none,none,none,none,none,none,some 2,some 4,some 13] O zr54 pl54<|A O<|rStR 1 sz54 O<|A O<|Y<|zH<|fin2 (zP yX O (J 1 O) O) (rs_c O) ?_
  rw [mEx_e1 c1];rfl
 ·try simp only [sx] at c1
  refine zK<|zJ<|G O<|zD O wI<|zI wQ (J 2 O) O<|A O<|qD O ok91 (zBg f c P hf e.Idx hI hAt hPI) ⟨R,O,R,O,T⟩<|qO O<|qR O<|qR O<|zD O wI<|rStR 0 sz44 O<|A O<|Y<|G O<|A O<|yK O<|Y<|zE O (fun c2=>?_) (fun c2=>?_)
  ·try simp only [sx] at c2
   refine G O<|yF [none,none,none,none,none,none,none,none,none,none,some 2,some 4,some 13] O zr54 pl54<|A O<|rStR 1 sz54 O<|A O<|Y<|zH<|fin2 (zP yX O (J 1 O) O) (rs_c O) ?_
   rw [mEx_e2 c1 (mIxs_err c2)];rfl
  ·try simp only [sx] at c2
   obtain ⟨di,hmi⟩:=mIxs_0 c2
   rw [hmi]
   refine zK<|G O<|zD O wA<|zI zAo (J 2 O) O<|zV O O (zAy O ok122 (zUq e.Args hA) ⟨R,O,T⟩) ?_
   rintro _ _ ⟨sv4,rfl,rfl⟩
   refine zD O wA<|rStR 1 sz52 O<|Y<|zJ<|G O<|zD O wA<|zI zAo (J 3 O) O<|qB O el52<|A O<|Y<|zQ<|zY ⟨[(41,.c _),(1,.c _),(2,.c _),(4,.c _),(6,.c _),(40,.c _)],[_,_,_,_]⟩ (Weak.mk [true,true,true,true] ⟨R,R,R,R,R,R,T⟩ O)<|qK 1 1 O O (Nat×List Ex) (fun ⟨n,exs⟩=>[(41,vI n)]) (fun ⟨n,exs⟩=>[E.vec sv4 54 13 (exs.map Ex.cells++(e.Args.drop n).map Ex.cells)]) (fun ⟨n,exs⟩=>n<=e.Args.length/\(exs.length=n)/\(jK f e.Args=dN exs (jK f (e.Args.drop n)))) (fun ⟨n,exs⟩=>e.Args.length-n) ⟨⟨0,[]⟩,⟨zA,O,(zIl _).symm⟩,Weak.mk [true,true,true,true] ⟨R,R,R,R,R,R,T⟩ O⟩ ?_
   rintro ⟨n,exs⟩ ⟨hn,hno,hr⟩
   show AWP _ _ _ _ _ ⟨[(41,vI n)]++_,[E.vec sv4 54 13 (exs.map Ex.cells++(e.Args.drop n).map Ex.cells)]++_⟩
   refine G O<|yG O<|Y<|zJ<|zE O (fun c3=>?_) (fun c3=>?_)
   ·try simp only [sx] at c3
    obtain ⟨a,ha⟩:=qY e.Args n zA
    refine zK<|zJ<|zQ<|G O<|A O<|A O<|Y<|zJ<|kI 15 0 [⟨0,.q []⟩,⟨1,.q [1]⟩,⟨2,.q []⟩,⟨3,.q []⟩,⟨4,.q [3]⟩,⟨5,.q []⟩,⟨6,.q []⟩,⟨7,.q []⟩,⟨8,.q []⟩,⟨9,.q []⟩,⟨10,.q []⟩,⟨11,.q []⟩,⟨12,.q []⟩,⟨13,.q [0]⟩,⟨14,.e 0 []⟩] mixed uC uC O O O<|zX O<|zX O<|zX O<|zX O<|zX O<|zX O<|zX O<|zX O<|zX O<|zX O<|zX O<|zX O<|zX O<|zX O<|zX O<|zBb<|qF O zB O O (zG O wA O)<|qF O zB O O (zF O zAo O (J 0 O) O)<|qF O zB O O (zO O O)<|qF O zB O O (zG O wA O)<|qF O zB O O (zF O zAo O (J 0 O) O)<|qF O zB O O (zO O O)<|qF O zB O O (qE O el52 O O zA (zCn uB))<|qF O zB O O (zU O yX O zZ O)<|qF O zB O O (zO O O)<|qF O zB O O (qG O ok92 (ih a (qA ha) (Ex.allF_arg hP (qA ha)) (by have:=Ex.arg_cnt (qA ha);omega)) ⟨R,O,R,O,T⟩)<|qF O zB O O (kH O O)<|qF O zB O O (wE O O O)<|qF O zB O O (wD O O O)<|qF O zB O O (qS 0 O el52 O O O zA (zVr uE zA))<|zFr O O zB O O (yL O sz54 O O O (zDb 0 O (mid_getE uE ha) O)) ?_
    rintro _ _ ⟨rfl,rfl⟩
    refine ⟨_,O,?_⟩
    refine zAx O<|A O<|Y<|G O<|A O<|yK O<|Y<|zE O (fun c4=>?_) (fun c4=>?_)
    ·try simp only [sx] at c4
     refine G O<|yF [none,none,none,none,none,none,none,none,none,none,some 2,some 4,some 13] O zr54 pl54<|A O<|rStR 2 sz54 O<|A O<|Y<|zH<|fin2 (zP yX O (J 2 O) O) (rs_c O) ?_
     rw [mEx_e3 c1 hmi (mExs_no ha hr c4)];rfl
    ·try simp only [sx] at c4
     refine zK<|zT O<|qI O ⟨zA,zA⟩<|A O<|Y ?_
     refine ⟨⟨n+1,exs++[xL (mEx f a)]⟩,⟨zA,uE,mExs_next ha hr c4⟩,(by show e.Args.length-(n+1)<e.Args.length-n;omega),Weak.mk [true,true,true,true] ⟨R,R,R,R,R,R,T⟩ (by simp only [Int.toNat_natCast];rw [zQi uE ha];simp only [List.map_append,List.map_cons,List.map_nil,Ex.cells_eq (xL (mEx f a))];rfl)⟩
   ·try simp only [sx] at c3
    have hme:=mExs_end hr zA
    rw [kK (l:=e.Args) (k:=n) zA]
    simp only [List.map_nil,List.append_nil]
    refine zY _ (yT 0 O (regs':=[]) (μ':=[_,_,_]) T ⟨EFle.row (ds:=[_,_,_,_,_,_,_,_,_,_,_,_,_]) ⟨.inl O,.inl O,.inl O,.inl O,.inl O,.inl O,.inl O,.inl O,.inl O,.inl O,.inl O,.inl O,.inr ⟨O,O⟩,T⟩,EFle.refl _,EFle.refl _,T⟩)<|qN<|G O<|zM yX (J 0 O) O<|rStR 1 sz54 O<|A O<|Y<|zH<|fin2 (zP yX O (J 1 O) O) (rs_c O) ?_
    rw [mEx_ok c1 hmi hme];rfl
theorem zFa (f:Lf->Lf×Int) (c:C) (P:Lf->Prop) (hf:∀l,P l->FnPur cfg c [dF l] (.tup [dF (f l).1,vI (f l).2])) (e:Ex) (hP:e.allF P) (he:e.cnt<=4294967296):Pur cfg 92 [vE e,.c c] (.tup [vE (xL (mEx f e)),vI (jM (mEx f e))]):=by
  induction e using Ex.ind with
  |_ e ih=>exact zKj f c P hf e hP ih he
theorem zDu (f:Lf->Lf×Int) (c:C) (P:Lf->Prop) (hf:∀l,P l->FnPur cfg c [dF l] (.tup [dF (f l).1,vI (f l).2])) (g:ByteArray->ByteArray) (c9:C) (hg:∀s,FnPur cfg c9 [vS s] (vS (g s))) (l:List St) (hP:bS P l) (ih:∀s,s∈l->Pur cfg 57 [bU s.Body,.c c,.c c9] (.tup [bU (lK (gC f g s.Body)),vI (jM (gC f g s.Body))])) (hl:bC l<=1073741824):
    Pur cfg 57 [bU l,.c c,.c c9] (.tup [bU (lK (gC f g l)),vI (jM (gC f g l))]):=by
 refine zR Tryz.func57 O Tryz.ntmps57 Tryz.results57 O ?_
 intro z hz
 have hll:=kX l
 refine G O<|yI 20 O<|A O<|Y<|G O<|A O<|zV O O (zAy O ok90 (zJu l zA) ⟨R,O,T⟩) ?_
 rintro _ _ ⟨sv1,rfl,rfl⟩
 refine A O<|Y<|G O<|A O<|Y<|zJ<|G O<|A O<|qB O D<|A O<|Y<|zQ<|zY ⟨[(15,.c _),(0,.c _),(1,.c _),(2,.c _),(8,.c _),(14,.c _)],[_]⟩ (Weak.mk [true] ⟨R,R,R,R,R,R,T⟩ O)<|qK 1 1 O O (Nat×List St) (fun ⟨k,outs⟩=>[(15,vI k)]) (fun ⟨k,outs⟩=>[E.vec sv1 56 20 (outs.map St.cells++(l.drop k).map St.cells)]) (fun ⟨k,outs⟩=>k<=l.length/\(outs.length=k)/\(gC f g l=dN outs (gC f g (l.drop k)))) (fun ⟨k,outs⟩=>l.length-k) ⟨⟨0,[]⟩,⟨zA,O,(zIl _).symm⟩,Weak.mk [true] ⟨R,R,R,R,R,R,T⟩ O⟩ ?_
 rintro ⟨k,outs⟩ ⟨hk,ho,hp⟩
 show AWP _ _ _ _ _ ⟨[(15,vI k)]++_,[E.vec sv1 56 20 (outs.map St.cells++(l.drop k).map St.cells)]++_⟩
 refine G O<|yG O<|Y<|zJ<|zE O (fun c1=>?_) (fun c1=>?_)
 ·try simp only [sx] at c1
  obtain ⟨s,hs⟩:=qY l k zA
  have hsw:=yU (qA hs)
  have hse:=St.wt_eq s
  have hPs:=St.allF_eq (wO hP s (qA hs))
  refine zK<|zJ<|zQ<|G O<|A O<|A O<|Y<|zJ<|G O<|A O<|A O<|qC O D zA (wJ hs)<|qQ O zAm<|zI one3 zZ O<|yE O<|Y<|zE O (fun c2=>?_) (fun c2=>?_)
  ·try simp only [sx] at c2
   refine zT O<|A O<|A O<|A O<|A O<|A O<|qC O D zA (wJ hs)<|qQ O zAh<|zI one9 zZ O<|zW O (kS O O (hg s.Name) ⟨R,O,T⟩)<|zW O (qS 0 O D O O O zA (zVr uE zA))<|zW O (kD O zAh O)<|kQ O O (yL O sz9 O O O (zDb 0 O (mid_getS uE hs) O))<|Y<|zJ<|G O<|A O<|A O<|A O<|A O<|qC O D zA (wJ hs)<|qQ O zEt<|zI wQ zZ O<|A O<|qD O ok91 (zBg f c P hf s.Idx zA (fun x hx=>by have:=zBn hx;rw [Ix.wt] at this;omega) hPs.1) ⟨R,O,R,O,T⟩<|qO O<|qR O<|qR O<|zW O (qS 0 O D O O O zA uE)<|zW O (kD O zEt O)<|kQ O O (yL O sz44 O O O (zDb 0 O (zCm uE) O))<|A O<|Y<|G O<|A O<|yK O<|Y<|zE O (fun c3=>?_) (fun c3=>?_)
   ·try simp only [sx] at c3
    refine G O<|A O<|yI 20 O<|A O<|Y<|zH<|fin2 (rs_c O) (rs_c O) ?_
    rw [zQk hs hp (mSt_e1 (mIxs_err c3))];rfl
   ·exact w5
  ·try simp only [sx] at c2
   refine zK<|zJ<|G O<|A O<|A O<|A O<|A O<|qC O D zA (wJ hs)<|qQ O zEt<|zI wQ zZ O<|A O<|qD O ok91 (zBg f c P hf s.Idx zA (fun x hx=>by have:=zBn hx;rw [Ix.wt] at this;omega) hPs.1) ⟨R,O,R,O,T⟩<|qO O<|qR O<|qR O<|zW O (qS 0 O D O O O zA (zVr uE zA))<|zW O (kD O zEt O)<|kQ O O (yL O sz44 O O O (zDb 0 O (mid_getS uE hs) O))<|A O<|Y<|G O<|A O<|yK O<|Y<|zE O (fun c3=>?_) (fun c3=>?_)
   ·try simp only [sx] at c3
    refine G O<|A O<|yI 20 O<|A O<|Y<|zH<|fin2 (rs_c O) (rs_c O) ?_
    rw [zQk hs hp (mSt_e1 (mIxs_err c3))];rfl
   ·exact w5
 ·try simp only [sx] at c1
  have hme:=mSts_end hp zA
  rw [kK (l:=l) (k:=k) zA]
  simp only [List.map_nil,List.append_nil]
  refine zY _ (yT 0 O (regs':=[(8,_)]) (μ':=[]) ⟨FLe.sl,T⟩ T)<|qN<|G O<|A O<|A O<|A O<|Y<|zH<|fin2 (rs_c O) (rs_c O) ?_
  rw [hme];rfl
theorem zJi (f:Lf->Lf×Int) (c:C) (P:Lf->Prop) (hf:∀l,P l->FnPur cfg c [dF l] (.tup [dF (f l).1,vI (f l).2])) (g:ByteArray->ByteArray) (c9:C) (hg:∀s,FnPur cfg c9 [vS s] (vS (g s))) (s:St) (hP:bS P s.Body) (hl:bC s.Body<=1073741824):Pur cfg 57 [bU s.Body,.c c,.c c9] (.tup [bU (lK (gC f g s.Body)),vI (jM (gC f g s.Body))]):=by
  induction s using St.ind with
  |_ s ih=>exact zDu f c P hf g c9 hg s.Body hP (fun a ha=>ih a ha (St.allF_eq (wO hP a ha)).2.2 (by have:=yU ha;have:=St.body_wt a;omega)) hl
theorem zDx (f:Lf->Lf×Int) (c:C) (P:Lf->Prop) (hf:∀l,P l->FnPur cfg c [dF l] (.tup [dF (f l).1,vI (f l).2])) (g:ByteArray->ByteArray) (c9:C) (hg:∀s,FnPur cfg c9 [vS s] (vS (g s))) (l:List St) (hP:bS P l) (hl:bC l<=1073741824):Pur cfg 57 [bU l,.c c,.c c9] (.tup [bU (lK (gC f g l)),vI (jM (gC f g l))]):=
  zDu f c P hf g c9 hg l hP (fun s hs=>zJi f c P hf g c9 hg s (St.allF_eq (wO hP s hs)).2.2 (by have:=yU hs;have:=St.body_wt s;omega)) hl
theorem zRz (l:Lf) (hl:l.L.length<=1073741824):
    Pur cfg 107 [dF l] (dF l):=by
 refine zR Tryz.func107 O Tryz.ntmps107 Tryz.results107 O ?_
 intro z hz
 refine G O<|zV O O (qJ O O) ?_
 rintro _ _ ⟨b1,rfl,rfl⟩
 refine zV O O (qH [none,some 2] O zr51 O) ?_
 rintro _ _ ⟨b2,rfl,rfl⟩
 refine Y<|zJ<|qU 6 mixed uC O O<|zN O O (zG O zEv O)<|zN O O (zF O U O (J 1 O) O)<|zN O O (zG O wK O)<|zN O O (zF O zBl O (J 1 O) O)<|zN O O (qG O ok138 (OwnR.pur (zPy l.L zA)) ⟨R,O,T⟩)<|zN O O (zCr O zr51 pl51 O)<|yP<|rStR 0 sz51 O<|Y<|zH<|fin1 (zP kP O (J 0 O) O) ?_
 exact O
theorem zXc (l:Lf) (hl:l.L.length<=1073741824):
    Pur cfg 106 [dF l] (.tup [dF (idF l).1,vI (idF l).2]):=by
 refine zR Tryz.func106 O Tryz.ntmps106 Tryz.results106 O ?_
 intro z hz
 refine G O<|zV O O (qJ O O) ?_
 rintro _ _ ⟨b1,rfl,rfl⟩
 refine zV O O (qH [none,some 2] O zr51 O) ?_
 rintro _ _ ⟨b2,rfl,rfl⟩
 refine A O<|Y<|G O<|zM kP (J 1 O) O<|qD O ok107 (zRz l hl) ⟨R,O,T⟩<|rStR 0 sz51 O<|A O<|Y<|zH<|fin2 (zP kP O (J 0 O) O) (rs_c O) ?_
 exact O
theorem zIm (s:ByteArray):
    Pur cfg 60 [vS s] (vS s):=by
 refine zR Tryz.func60 O Tryz.ntmps60 Tryz.results60 O ?_
 intro z hz
 refine G O<|A O<|Y<|G O<|A O<|A O<|Y<|zH<|zS O ?_
 exact O
theorem zDm (l:List St) (hl:bC l<=1073741824):
    Pur cfg 74 [bU l] (bU l):=by
 refine zR Tryz.func74 O Tryz.ntmps74 Tryz.results74 O ?_
 intro z hz
 refine G O<|yI 20 O<|Y<|G O<|A O<|qD O ok57 (zDx idF _ (fun l=>l.L.length<=1073741824) (fun l hl=>FnPur.of_pur (first:=[]) (cap:=[]) ok106 (zXc l hl)) (fun x=>x) _ (fun s=>FnPur.of_pur (first:=[]) (cap:=[]) ok60 (zIm s)) l (zJo hl) hl) ⟨R,O,R,O,R,O,T⟩<|qO O<|qR O<|qR O<|A O<|A O<|Y<|G O<|A O<|A O<|Y<|zH<|zS O ?_
 rw [mSts_id];rfl
theorem loopnest_At (n:Ns) (way:List Int) (hw:way.length<=1073741824) (hl:bC n.Body<=1000000000):
    Pur cfg 45 [vNs n,vIs way] (.tup [vSt (atT n.Body way).1,vB (atT n.Body way).2]):=by
 refine zR Tryz.func45 O Tryz.ntmps45 Tryz.results45 O ?_
 intro z hz
 have htl:=trl_len way n.Body []
 have htl2:(fM n.Body way).length<=way.length:=by unfold fM;simpa using htl
 refine G O<|zV O O (qJ O O) ?_
 rintro _ _ ⟨b1,rfl,rfl⟩
 refine zV O O (qH [none,none,none,none,none,some 4,none,none,none,none,none,none,none,none,none,none,some 2,some 4,some 13,some 20] O zr56 O) ?_
 rintro _ _ ⟨b2,rfl,rfl⟩
 refine A O<|Y<|G O<|zD O zAi<|zI kU (J 1 O) O<|A O<|qD O ok83 (zMh n.Body way hw) ⟨R,O,R,O,T⟩<|A O<|Y<|zJ<|G O<|A O<|qB O D<|yE O<|Y<|zE O (fun c1=>?_) (fun c1=>?_)
 ·try simp only [sx] at c1
  have he:fM n.Body way=[]:=List.eq_nil_of_length_eq_zero zA
  have ha:=at_none he
  refine G O<|yF [none,none,none,none,none,some 4,none,none,none,none,none,none,none,none,none,none,some 2,some 4,some 13,some 20] O zr56 pl56<|rStR 0 sz56 O<|A O<|Y<|zH<|fin2 (zP zDh O (J 0 O) O) (rs_c O) ?_
  rw [ha];rfl
 ·try simp only [sx] at c1
  have hne:fM n.Body way≠[]:=fun h=>c1 (by rw [h];rfl)
  have hlast:=at_last hne
  have hok:=at_some hne
  refine zK<|G O<|A O<|A O<|qB O D<|zW O (yA O O O ⟨zA,zA⟩)<|zW O (zCb (k:=(fM n.Body way).length-1) O D O (congrArg (fun n=>V.c (C.lit (.int .i64 n))) (by have:=List.length_pos_iff.2 hne;omega)) zA)<|qD O ok74 (show Pur cfg 74 [bU ((fM n.Body way).drop ((fM n.Body way).length-1))] (bU [(atT n.Body way).1]) by rw [hlast];exact zDm [(atT n.Body way).1] (by have:=atT_wt (l:=n.Body) (way:=way);simp only [bC];omega)) ⟨R,O,T⟩<|qC O D zA (show ([(atT n.Body way).1].map St.cells)[0]? =some (atT n.Body way).1.cs by rw [←St.cells_eq];rfl)<|zM zDh zZ O<|rStR 0 sz56 O<|A O<|Y<|zH<|fin2 (zP zDh O (J 0 O) O) (rs_c O) ?_
  rw [hok];rfl
end Go.W
end
section
set_option maxRecDepth 10000
namespace Go.W
open Go Go.Eng Go.Proofs Go.L41 Go.Br
attribute [local irreducible] AWP RWP TD fH
theorem ok42:bA Tryz.prog 42=true:=by kernel_rfl
theorem ok43:bA Tryz.prog 43=true:=by kernel_rfl
theorem ok80:bA Tryz.prog 80=true:=by kernel_rfl
theorem zPj (a b:List St) (hE:∀x,x∈a->∀y,Pur cfg 80 [vSt x,vSt y] (vB (decide (x=y)))) (ha:a.length<=4294967296):
    Pur cfg 43 [bU a,bU b] (vB (decide (a=b))):=by
 refine zR Tryz.func43 O Tryz.ntmps43 Tryz.results43 O ?_
 intro z hz
 refine G O<|A O<|Y<|zJ<|G O<|A O<|qB O D<|A O<|qB O D<|yK O<|Y<|zE O (fun c1=>?_) (fun c1=>?_)
 ·exact o7
 ·try simp only [sx] at c1
  refine zK<|zJ<|G O<|A O<|Y<|zQ<|zY ⟨[(5,.c _),(0,.c _),(1,.c _)],[]⟩ (Weak.mk [] ⟨R,R,R,T⟩ O)<|qK 1 0 O O (Nat) (fun k=>[(5,vI k)]) (fun k=>[]) (fun k=>k<=a.length/\(a.take k=b.take k)) (fun k=>a.length-k) ⟨0,⟨zA,O⟩,Weak.mk [] ⟨R,R,R,T⟩ O⟩ ?_
  rintro k ⟨hk,hp⟩
  refine zJ<|G O<|A O<|A O<|qB O D<|yG O<|Y<|zE O (fun c2=>?_) (fun c2=>?_)
  ·try simp only [sx] at c2
   obtain ⟨x,hx⟩:=qY a k zA
   obtain ⟨y,hy⟩:=qY b k zA
   refine zK<|zJ<|zQ<|zJ<|qU 10 mixed uC O O<|zN O O (zO O O)<|zN O O (zO O O)<|zN O O (qE O D O O zA (wJ hx))<|zN O O (zU O zDh O zZ O)<|zN O O (zO O O)<|zN O O (zO O O)<|zN O O (qE O D O O zA (wJ hy))<|zN O O (zU O zDh O zZ O)<|zN O O (qG O ok80 (hE x (qA hx) y) ⟨R,O,R,O,T⟩)<|zN O O (kJ O O)<|yP<|Y<|zE O (fun c3=>?_) (fun c3=>?_)
   ·exact l6
   ·exact r6
  ·exact n7
theorem base_Stmt_step (a:St) (ih:∀x,x∈a.Body->x.wt<=4294967296->∀y,Pur cfg 80 [vSt x,vSt y] (vB (decide (x=y)))) (ha:a.wt<=4294967296) (b:St):
    Pur cfg 80 [vSt a,vSt b] (vB (decide (a=b))):=by
 refine zR Tryz.func80 O Tryz.ntmps80 Tryz.results80 O ?_
 intro z hz
 have hw:=St.wt_eq a
 have hbl:=kX a.Body
 refine G O<|zV O O (qJ O O) ?_
 rintro _ _ ⟨b1,rfl,rfl⟩
 refine zV O O (qJ O O) ?_
 rintro _ _ ⟨b2,rfl,rfl⟩
 refine A O<|Y<|G O<|zD O zAm<|zI one3 (J 1 O) O<|zD O zAm<|zI one3 (J 0 O) O<|yE O<|A O<|rL0 O (fun g1_5=>zG O zAh O) O<|rL1 11 O (fun g1_5=>zF O one9 O (J 1 O) O) O<|rL0 O (fun g1_5=>zG O zAh O) O<|rL1 13 O (fun g1_5=>zF O one9 O (J 0 O) O) O<|rLz [(12,_),(14,_)] O B ⟨O,O,O,O,T⟩ (fun g1_5=>zLs O O O) O<|yR O (fun h=>h)<|A O<|rL0 O (fun g1_12=>zG O zAp O) O<|rL1 18 O (fun g1_12=>zF O one3 O (J 1 O) O) O<|rL0 O (fun g1_12=>zG O zAp O) O<|rL1 20 O (fun g1_12=>zF O one3 O (J 0 O) O) O<|rLz [(19,_),(21,_)] O B ⟨O,O,O,O,T⟩ (fun g1_12=>yM O O O) O<|yR O (fun h=>h)<|A O<|rL0 O (fun g1_19=>zG O zJc O) O<|rL1 25 O (fun g1_19=>zF O one3 O (J 1 O) O) O<|rL0 O (fun g1_19=>zG O zJc O) O<|rL1 27 O (fun g1_19=>zF O one3 O (J 0 O) O) O<|rLz [(26,_),(28,_)] O B ⟨O,O,O,O,T⟩ (fun g1_19=>yM O O O) O<|yR O (fun h=>h)<|A O<|rL0 O (fun g1_26=>zG O zOr O) O<|rL1 32 O (fun g1_26=>zF O one3 O (J 1 O) O) O<|rL0 O (fun g1_26=>zG O zOr O) O<|rL1 34 O (fun g1_26=>zF O one3 O (J 0 O) O) O<|rLz [(33,_),(35,_)] O B ⟨O,O,O,O,T⟩ (fun g1_26=>yM O O O) O<|yR O (fun h=>h)<|A O<|rL0 O (fun g1_33=>zG O zEt O) O<|rL1 39 O (fun g1_33=>zF O wQ O (J 1 O) O) O<|rL0 O (fun g1_33=>zG O zEt O) O<|rL1 41 O (fun g1_33=>zF O wQ O (J 0 O) O) O<|rLz [(40,_),(42,_)] O B ⟨O,O,O,O,T⟩ (fun g1_33=>qG O ok116 (zRr a.Idx b.Idx zA zA) ⟨R,O,R,O,T⟩) O<|yR O (fun h=>h)<|A O<|rL0 O (fun g1_40=>zG O zBc O) O<|rL1 46 O (fun g1_40=>zU O yX O (J 1 O) O) O<|rL0 O (fun g1_40=>zG O zBc O) O<|rL1 48 O (fun g1_40=>zU O yX O (J 0 O) O) O<|rLz [(47,_),(49,_)] O B ⟨O,O,O,O,T⟩ (fun g1_40=>qG O ok117 (base_Expr a.E b.E zA) ⟨R,O,R,O,T⟩) O<|yR O (fun h=>h)<|A O<|rL0 O (fun g1_47=>zG O kV O) O<|rL1 53 O (fun g1_47=>zF O kU O (J 1 O) O) O<|rL0 O (fun g1_47=>zG O kV O) O<|rL1 55 O (fun g1_47=>zF O kU O (J 0 O) O) O<|rLz [(54,_),(56,_)] O B ⟨O,O,O,O,T⟩ (fun g1_47=>qG O ok43 (zPj a.Body b.Body (fun x hx y=>ih x hx (by have:=yU hx;omega) y) zA) ⟨R,O,R,O,T⟩) O<|yR O (fun h=>h)<|A O<|Y<|zH<|zS O ?_
 exact congrArg vB (st_eq a b)
theorem base_Stmt (a b:St) (ha:a.wt<=4294967296):Pur cfg 80 [vSt a,vSt b] (vB (decide (a=b))):=by
  induction a using St.ind generalizing b with
  |_ a ih=>exact base_Stmt_step a (fun x hx h y=>ih x hx y h) ha b
theorem base_Stmts (a b:List St) (ha:bC a<=4294967296):Pur cfg 43 [bU a,bU b] (vB (decide (a=b))):=
  zPj a b (fun x hx y=>base_Stmt x y (by have:=yU hx;omega)) (by have:=kX a;omega)
theorem base_Nest (a b:Ns) (ha:a.Ok):
    Pur cfg 15 [vNs a,vNs b] (vB (decide (a=b))):=by
 refine zR Tryz.func15 O Tryz.ntmps15 Tryz.results15 O ?_
 intro z hz
 have hab:=ha.bufs
 have hbw:=ha.body
 refine G O<|zV O O (qJ O O) ?_
 rintro _ _ ⟨b1,rfl,rfl⟩
 refine zV O O (qJ O O) ?_
 rintro _ _ ⟨b2,rfl,rfl⟩
 refine A O<|Y<|zJ<|G O<|zD O zAj<|zI zDk (J 1 O) O<|qB O el22<|zD O zAj<|zI zDk (J 0 O) O<|qB O el22<|yK O<|Y<|zE O (fun c1=>?_) (fun c1=>?_)
 ·exact o7
 ·try simp only [sx] at c1
  refine zK<|zJ<|G O<|A O<|Y<|zQ<|zY ⟨[(5,.c _),(2,.c _),(3,.c _)],[_,_]⟩ (Weak.mk [true,true] ⟨R,R,R,T⟩ O)<|qK 1 0 O O (Nat) (fun k=>[(5,vI k)]) (fun k=>[]) (fun k=>k<=a.Bufs.length/\(a.Bufs.take k=b.Bufs.take k)) (fun k=>a.Bufs.length-k) ⟨0,⟨zA,O⟩,Weak.mk [true,true] ⟨R,R,R,T⟩ O⟩ ?_
  rintro k ⟨hk,hp⟩
  refine zJ<|G O<|A O<|zD O zAj<|zI zDk (J 1 O) O<|qB O el22<|yG O<|Y<|zE O (fun c2=>?_) (fun c2=>?_)
  ·try simp only [sx] at c2
   obtain ⟨x,hx⟩:=qY a.Bufs k zA
   obtain ⟨y,hy⟩:=qY b.Bufs k zA
   refine zK<|zJ<|zQ<|zJ<|kI 13 2 [⟨0,.q []⟩,⟨1,.q [3]⟩,⟨2,.q []⟩,⟨3,.q []⟩,⟨4,.q []⟩,⟨5,.q []⟩,⟨6,.q [2]⟩,⟨7,.q []⟩,⟨8,.q []⟩,⟨9,.q []⟩,⟨10,.f 1⟩,⟨11,.f 0⟩,⟨12,.g 1 []⟩] mixed uC uC O O O<|zX O<|zX O<|zX O<|zX O<|zX O<|zX O<|zX O<|zX O<|zX O<|zX O<|zOo O O (zEq (qH [none,none,none,none,none,none,some 1,none] O zr94 O)) ⟨_,_,0,O,O⟩<|zOo O O (zEq (qH [none,none,none,none,none,none,some 1,none] O zr94 O)) ⟨_,_,0,O,O⟩<|zX O<|zBb<|qF O zB O O (zG O zAj O)<|qF O zB O O (zF O zDk O (J 0 O) O)<|qF O zB O O (zO O O)<|qF O zB O O (qE O el22 O O zA (getm uB))<|qF O zB O O (zU O zLd O zZ O)<|qF O zB O O (zG O zAj O)<|qF O zB O O (zF O zDk O (J 0 O) O)<|qF O zB O O (zO O O)<|qF O zB O O (qE O el22 O O zA (getm uB))<|qF O zB O O (zU O zLd O zZ O)<|zNl O O ?_
   rintro _ _ ⟨b3,rfl,rfl⟩
   refine zNl O O ?_
   rintro _ _ ⟨b4,rfl,rfl⟩
   refine sq_v0 O O zB O O O (yL O sz94 O O O (zFf 0 O O)) O<|zAx O<|rStR 0 sz94 O<|Y<|G O<|zD O zEr<|zI one9 (J 1 O) O<|zD O zEr<|zI one9 (J 0 O) O<|zW O (zBj O O O)<|A O<|rL0 O (fun g7_5=>zG O zGc O) O<|rL1 38 O (fun g7_5=>zU O yD O (J 1 O) O) O<|rL0 O (fun g7_5=>zG O zGc O) O<|rL1 40 O (fun g7_5=>zU O yD O (J 0 O) O) O<|rLz [(39,_),(41,_)] O B ⟨O,O,O,O,T⟩ (fun g7_5=>wY O fl48 O O O) O<|r_or O (fun h=>(lzf h))<|A O<|rL0 O (fun g7_12=>zG O zOq O) O<|rL1 45 O (fun g7_12=>zF O one3 O (J 1 O) O) O<|rL0 O (fun g7_12=>zG O zOq O) O<|rL1 47 O (fun g7_12=>zF O one3 O (J 0 O) O) O<|rLz [(46,_),(48,_)] O B ⟨O,O,O,O,T⟩ (fun g7_12=>kA O O O) O<|r_or O (fun h=>(lzf h))<|A O<|rL0 O (fun g7_19=>zG O zGb O) O<|rL1 52 O (fun g7_19=>zF O zBs O (J 1 O) O) O<|rL0 O (fun g7_19=>zG O zGb O) O<|rL1 54 O (fun g7_19=>zF O zBs O (J 0 O) O) O<|rLz [(53,_),(55,_)] O B ⟨O,O,O,O,T⟩ (fun g7_19=>qG O ok42 (zXp x.Dims y.Dims (ha.dims x (qA hx))) ⟨R,O,R,O,T⟩) O<|rL1 56 O (fun g7_19=>kJ O O) O<|r_or O (fun h=>(lzf h))<|Y<|zE O (fun c3=>?_) (fun c3=>?_)
   ·have c3:(!decide (x.Name=y.Name)|| !bT [cI x.T.Kind,cI x.T.Bits,cI x.T.Frac,cI x.T.Round,cI x.T.Over] [cI y.T.Kind,cI y.T.Bits,cI y.T.Frac,cI y.T.Round,cI y.T.Over]|| !decide (x.Use=y.Use)|| !decide (x.Dims=y.Dims))=true:=c3
    rw [bf_ne] at c3
    have c3:¬x=y:=by simpa using c3
    refine G O<|A O<|Y<|zH<|zS O ?_
    rw [qW (fun h=>zFx hx hy c3 (by rw [h]))]
   ·have c3:(!decide (x.Name=y.Name)|| !bT [cI x.T.Kind,cI x.T.Bits,cI x.T.Frac,cI x.T.Round,cI x.T.Over] [cI y.T.Kind,cI y.T.Bits,cI y.T.Frac,cI y.T.Round,cI y.T.Over]|| !decide (x.Use=y.Use)|| !decide (x.Dims=y.Dims))=false:=by first|exact c3|simpa using c3
    rw [bf_ne] at c3
    have c3:x=y:=by simpa using c3
    refine zK<|zT O<|A O<|qI O ⟨zA,zA⟩<|A O<|Y ?_
    refine ⟨k+1,⟨zA,zBw hx hy hp c3⟩,zA,Weak.mk [false,false,true,true] ⟨R,R,R,T⟩ O⟩
  ·try simp only [sx] at c2
   refine qN<|G O<|zD O zAi<|zI kU (J 1 O) O<|zD O zAi<|zI kU (J 0 O) O<|qD O ok43 (base_Stmts a.Body b.Body zA) ⟨R,O,R,O,T⟩<|A O<|Y<|zH<|zS O ?_
   have hbe:=zEa hp zA zA
   exact congrArg vB (decide_eq_decide.2 (by rw [Ns.eq_iff];simp [hbe]))
theorem lin_SubstR (l:Lf) (s:ByteArray) (u:Lf) (hl:l.L.length<=4294967296) (ht:u.L.length<=4294967296) (hrl:l.rng) (hrt:u.rng):Pur cfg 59 [dF l,vS s,dF u] (.tup [dF (lV l s u).1,vI (lV l s u).2]):=by
  have h:=lin_Substitute l s u hl ht hrl hrt
  rw [subst_eq hrl] at h;exact h
end Go.W
end
section
set_option maxRecDepth 10000
namespace Go.W
open Go Go.Eng Go.Proofs Go.L41 Go.Br
attribute [local irreducible] AWP RWP TD fH
theorem ok58:bA Tryz.prog 58=true:=by kernel_rfl
theorem ok59:bA Tryz.prog 59=true:=by kernel_rfl
theorem substitute_1 (n:ByteArray) (u:Lf) (hu:u.L.length<=4294967296) (hru:u.rng) (l:Lf) (hl:l.L.length<=1073741824) (hr:l.rng):
    Pur cfg 58 [dF l,.c (.iptr [cS n]),.c (.iptr u.cells)] (.tup [dF (sbF n u l).1,vI (sbF n u l).2]):=by
 refine zR Tryz.func58 O Tryz.ntmps58 Tryz.results58 O ?_
 intro z hz
 refine G O<|zV O O (qJ O O) ?_
 rintro _ _ ⟨b1,rfl,rfl⟩
 refine zV O O (qH [none,some 2] O zr51 O) ?_
 rintro _ _ ⟨b2,rfl,rfl⟩
 refine A O<|Y<|G O<|zM kP (J 1 O) O<|zI one9 zZ O<|zM kP zZ O<|qD O ok59 (lin_SubstR l n u zA hu hr hru) ⟨R,O,R,O,R,O,T⟩<|yH O<|qR O<|rStR 0 sz51 O<|A O<|Y<|zH<|fin2 (zP kP O (J 0 O) O) (rs_c O) ?_
 exact O
theorem zBh (l:List St) (n:ByteArray) (u:Lf) (hu:u.L.length<=4294967296) (hru:u.rng) (hl:bC l<=1000000000) (hr:bS Lf.rng l):
    Pur cfg 22 [bU l,vS n,dF u] (.tup [bU (lK (sbT n u l)),vI (jM (sbT n u l))]):=by
 refine zR Tryz.func22 O Tryz.ntmps22 Tryz.results22 O ?_
 intro z hz
 refine G O<|zV O O (qJ O O) ?_
 rintro _ _ ⟨b1,rfl,rfl⟩
 refine yS _ (yW 0 O 4 _ PLe.ptr)<|zV O O (qJ O O) ?_
 rintro _ _ ⟨b2,rfl,rfl⟩
 refine yS _ (yW 0 O 5 _ PLe.ptr)<|yI 20 O<|A O<|Y<|G O<|A O<|zW O (zEk O O O O O)<|qD O ok57 (zDx (sbF n u) _ (fun l=>l.rng/\l.L.length<=1073741824) (fun l hl=>FnPur.of_pur (first:=[]) (cap:=[.iptr [cS n],.iptr u.cells]) ok58 (substitute_1 n u hu hru l hl.2 hl.1)) (fun x=>x) _ (fun s=>FnPur.of_pur (first:=[]) (cap:=[]) ok60 (zIm s)) l (zPn l hr (zJo zA)) zA) ⟨R,O,R,O,R,O,T⟩<|qR O<|qR O<|A O<|A O<|Y<|zH<|fin2 (rs_c O) (rs_c O) ?_
 exact O
end Go.W
end
section
set_option maxRecDepth 10000
namespace Go.W
open Go Go.Eng Go.Proofs Go.L41 Go.Br
attribute [local irreducible] AWP RWP TD fH
/-! rY trees: the cells of forms,indices,expressions,statements,buffers and nests all of whose slices are new. -/
theorem pl25:fP Tryz.prog 25=some [(0,1),(1,1)]:=by kernel_rfl
theorem sz22:(Tryz.prog.info? 22).map (·.size)=some 1:=by kernel_rfl
theorem sz25:(Tryz.prog.info? 25).map (·.size)=some 2:=by kernel_rfl
theorem zr25:fF Tryz.prog 25=some [(Value.slice none 0 0),(Value.slice none 0 0)]:=by kernel_rfl
end Go.W
end
section
set_option maxRecDepth 10000
namespace Go.W
open Go Go.Eng Go.Proofs Go.L41 Go.Br
attribute [local irreducible] AWP RWP TD fH
end Go.W
end
section
set_option maxRecDepth 10000
namespace Go.W
open Go Go.Eng Go.Proofs Go.L41 Go.Br
attribute [local irreducible] AWP RWP TD fH
end Go.W
end
section
set_option maxRecDepth 10000
namespace Go.W
open Go Go.Eng Go.Proofs Go.L41 Go.Br
attribute [local irreducible] AWP RWP TD fH
structure P2 where
  (a0 a1:Value)
def P2.vals (p:P2):List Value:=[p.a0,p.a1]
abbrev P2.v (p:P2):V:=.agg [.lit p.a0,.lit p.a1]
end Go.W
end
section
set_option maxRecDepth 10000
namespace Go.W
open Go Go.Eng Go.Proofs Go.L41 Go.Br
attribute [local irreducible] AWP RWP TD fH
end Go.W
end
section
set_option maxRecDepth 10000
namespace Go.W
open Go Go.Eng Go.Proofs Go.L41 Go.Br
attribute [local irreducible] AWP RWP TD fH
def nW (ls:List (List St)):Nat:=ls.flatten.length
theorem totK_next {ls:List (List St)} {k:Nat} {x:List St} (h:ls[k]? =some x):nW (ls.take (k+1))=nW (ls.take k)+x.length:=by
  unfold nW;rw [yQ h,List.flatten_append,List.length_append];simp
theorem totK_le (ls:List (List St)) (k:Nat):nW (ls.take k)<=nW ls:=by
  have:nW ls=nW (ls.take k)+nW (ls.drop k):=by unfold nW;rw [←List.length_append,←List.flatten_append,List.take_append_drop]
  omega
theorem totK_get {ls:List (List St)} {k:Nat} {x:List St} (h:ls[k]? =some x):nW (ls.take k)+x.length<=nW ls:=by
  rw [←totK_next h];exact totK_le _ _
theorem totK_flat {ls:List (List St)} {k:Nat} {x:List St} (h:ls[k]? =some x):(ls.take k).flatten.length+x.length<=nW ls:=totK_get h
theorem el208:dX Tryz.prog 208=some (23,1,24):=by kernel_rfl
theorem ik3:tJ Tryz.prog 3=some .i64:=by kernel_rfl
theorem ok148:bA Tryz.prog 148=true:=by kernel_rfl
theorem slices_Grow_st (n:Nat) (hn:n<=4294967296):
    OwnR cfg 148 [.c (.lit (.slice none 0 0)),vI n] 56 20 ([]):=by
 refine zR Tryz.func148 O Tryz.ntmps148 Tryz.results148 O ?_
 intro z hz
 refine G O<|yI 20 O<|Y<|zJ<|G O<|A O<|yG O<|Y<|zE O (fun c1=>?_) (fun c1=>?_)
 ·try simp only [sx] at c1
  exact absurd c1 zA
 ·try simp only [sx] at c1
  refine zK<|zJ<|G O<|A O<|A O<|zW O (zWz O D O)<|A O<|zW O (zWx O D O)<|zW O (yA O O O ⟨zA,zA⟩)<|zW O (yA O O O ⟨zA,zA⟩)<|A O<|Y<|G O<|A O<|zW O (yC O O O)<|Y<|zE O (fun c2=>?_) (fun c2=>?_)
  ·try simp only [sx] at c2
   refine zT O<|A O<|A O<|zW O (zWz O D O)<|zW O (det_cut_nil O D O O)<|A O<|zV O O (ope_grow n O D ik3 O O zA zA zA zA) ?_
   rintro _ _ ⟨b1,cap1,rfl,hcap1,rfl⟩
   refine A O<|zW O (zWx O D O)<|zW O (det_cut_row 0 O D O O O ⟨zA,hcap1⟩)<|A O<|Y<|G O<|A O<|A O<|Y<|zH<|zS O ?_
   exact ⟨_,O,O⟩
  ·refine zK<|G O<|A O<|yS _ (wC 56 20)<|A O<|Y<|zH<|zS O ?_
   exact ⟨_,O,O⟩
theorem zRu (ls:List (List St)) (hl:ls.length<=4294967296) (ht:nW ls<=4294967296):
    OwnR cfg 123 [.c (.sl 1 (ls.map fun l=>[.sl 20 (l.map St.cells)]))] 56 20 (ls.flatten.map St.cells):=by
 refine zR Tryz.func123 O Tryz.ntmps123 Tryz.results123 O ?_
 intro z hz
 refine G O<|yI 20 O<|Y<|G O<|A O<|Y<|zJ<|G O<|A O<|qB O el208<|A O<|Y<|zQ<|zY ⟨[(11,.c _),(3,.c _),(0,.c _),(9,.c _),(10,.c _)],[]⟩ (Weak.mk [] ⟨R,R,R,R,R,T⟩ O)<|qK 2 0 O O (Nat) (fun k=>[(11,vI k),(3,vI (nW (ls.take k)))]) (fun k=>[]) (fun k=>k<=ls.length) (fun k=>ls.length-k) ⟨0,zA,Weak.mk [] ⟨R,R,R,R,R,T⟩ O⟩ ?_
 rintro k hk
 refine G O<|yG O<|Y<|zJ<|zE O (fun c1=>?_) (fun c1=>?_)
 ·try simp only [sx] at c1
  obtain ⟨x,hx⟩:=qY ls k zA
  have hb1:=totK_get hx
  refine zK<|zJ<|zQ<|G O<|qC O el208 zA (getm uB)<|zI kU zZ O<|A O<|Y<|G O<|A O<|A O<|qB O D<|qI O ⟨zA,zA⟩<|A O<|Y<|G O<|A O<|yG O<|Y<|zE O (fun c2=>?_) (fun c2=>?_)
  ·try simp only [sx] at c2
   exact absurd c2 zA
  ·try simp only [sx] at c2
   refine zK<|zT O<|qI O ⟨zA,zA⟩<|A O<|Y ?_
   refine ⟨k+1,zA,zA,Weak.mk [] ⟨R,VLe.of_eq (congrArg vI (by rw [totK_next hx];simp)),R,R,R,T⟩ O⟩
 ·try simp only [sx] at c1
  have hT:nW (ls.take k)=nW ls:=by rw [yV zA]
  refine qN<|G O<|A O<|zV O O (zAy O ok148 (slices_Grow_st (nW (ls.take k)) zA) ⟨R,O,R,O,T⟩) ?_
  rintro _ _ ⟨sv1,rfl,rfl⟩
  refine A O<|Y<|zJ<|G O<|A O<|qB O el208<|A O<|Y<|zQ<|zY ⟨[(27,.c _),(6,.c _),(25,.c _),(26,.c _)],[_]⟩ (Weak.mk [true] ⟨R,R,R,R,T⟩ O)<|qK 2 1 O O (Nat×Value) (fun ⟨k,sv⟩=>[(27,vI k),(6,.c (.lit sv))]) (fun ⟨k,sv⟩=>[E.vec sv 56 20 ((ls.take k).flatten.map St.cells)]) (fun ⟨k,sv⟩=>k<=ls.length) (fun ⟨k,sv⟩=>ls.length-k) ⟨⟨0,_⟩,zA,Weak.mk [true] ⟨R,R,R,R,T⟩ O⟩ ?_
  rintro ⟨k,sv⟩ hk
  show AWP _ _ _ _ _ ⟨[(27,vI k),(6,.c (.lit sv))]++_,[E.vec sv 56 20 ((ls.take k).flatten.map St.cells)]++_⟩
  refine G O<|yG O<|Y<|zJ<|zE O (fun c3=>?_) (fun c3=>?_)
  ·try simp only [sx] at c3
   obtain ⟨x,hx⟩:=qY ls k zA
   refine zK<|zJ<|zQ<|G O<|qC O el208 zA (getm uB)<|zI kU zZ O<|A O<|Y<|zT O<|A O<|A O<|zV O O (yN 0 O D O O O (by have:=totK_flat hx;simp only [List.length_map];omega) (by have:=totK_flat hx;simp only [List.length_map];omega)) ?_
   rintro _ _ ⟨sv2,rfl,rfl⟩
   refine A O<|Y<|zT O<|qI O ⟨zA,zA⟩<|A O<|Y ?_
   refine ⟨⟨k+1,sv2⟩,zA,(by show ls.length-(k+1)<ls.length-k;omega),Weak.mk [true] ⟨R,R,R,R,T⟩ (by show _=[E.vec sv2 _ 20 ((ls.take (k+1)).flatten.map St.cells)]++_;rw [yQ hx,List.flatten_append,List.map_append];simp only [List.flatten_cons,List.flatten_nil,List.append_nil];rfl)⟩
  ·try simp only [sx] at c3
   refine qN<|G O<|A O<|A O<|Y<|zH<|zS O ?_
   exact ⟨_,O,by rw [yV zA];rfl⟩
theorem zUo (x y z:List St) (hx:x.length<=1073741824) (hy:y.length<=1073741824) (hz:z.length<=1073741824):OwnR cfg 123 [.c (.sl 1 [[.sl 20 (x.map St.cells)],[.sl 20 (y.map St.cells)],[.sl 20 (z.map St.cells)]])] 56 20 ((x++y++z).map St.cells):=by
  have h:=zRu [x,y,z] uD (by simp [nW];omega)
  simpa using h
end Go.W
end
section
set_option maxRecDepth 10000
namespace Go.W
open Go Go.Eng Go.Proofs Go.L41 Go.Br
attribute [local irreducible] AWP RWP TD fH
theorem ok123:bA Tryz.prog 123=true:=by kernel_rfl
theorem zr23:fF Tryz.prog 23=some [(Value.slice none 0 0)]:=by kernel_rfl
theorem replaceIn_one (sv:Value) (l:List St) (i:Int) (q:List St) (hi:0<=i/\i<l.length) (hl:l.length<=1073741823) (hq:q.length<=1073741823):
    Con cfg 93 [.c (.lit sv),vIs [i],bU q] [.vec sv 56 20 (l.map St.cells)] fun r μ'=>∃sv',r=.c (.lit sv')/\μ'=[.vec sv' 56 20 ((mB [i] l q).map St.cells)]:=by
 refine zR Tryz.func93 O Tryz.ntmps93 Tryz.results93 O ?_
 intro z hz
 have hw:IntKind.i64.wrap (i+1)=i+1:=IntWalk.i64_in _ ⟨zA,zA⟩
 refine G O<|yI 20 O<|Y<|G O<|A O<|qC O el38 zA O<|zI one3 zZ O<|A O<|Y<|zJ<|G O<|A O<|qB O el38<|yE O<|Y<|zE O (fun c1=>?_) (fun c1=>?_)
 ·try simp only [sx] at c1
  refine zJ<|zY _ (yT 0 O (regs':=[(0,_)]) (μ':=[]) ⟨FLe.sl,T⟩ T)<|qU 9 mixed uC O O<|zN O O (zO O O)<|zN O O (zO O O)<|zN O O (zRo (k:=i.toNat) O D O (congrArg (fun n=>V.c (C.lit (.int .i64 n))) zA) zA)<|zN O O (zO O O)<|zN O O (zO O O)<|zN O O (zO O O)<|zN O O (zEe O O O ⟨zA,zA⟩)<|zN O O (zCb (k:=i.toNat+1) O D O (congrArg (fun n=>V.c (C.lit (.int .i64 n))) zA) zA)<|zN O O (qZ O el208 zr23 O O O O)<|yP<|zV O O (zAy O ok123 (zUo (l.take i.toNat) q (l.drop (i.toNat+1)) (by rw [List.length_take];omega) zA (by rw [List.length_drop];omega)) ⟨R,O,T⟩) ?_
  rintro _ _ ⟨sv1,rfl,rfl⟩
  refine A O<|Y<|zH<|zS O ?_
  exact ⟨_,O,by rw [replL_one]⟩
 ·try simp only [sx] at c1
  exact absurd O c1
end Go.W
end
section
set_option maxRecDepth 10000
namespace Go.W
open Go Go.Eng Go.Proofs Go.L41 Go.Br
attribute [local irreducible] AWP RWP TD fH
def csB (s:St) (c:C):List C:=[cI s.Op,cS s.Name,cI s.Many,cI s.Mark,cI s.Fold,.sl 4 (s.Idx.map Ix.cells),cI s.E.Op,cS s.E.Name,cI s.E.Val.N,cI s.E.Val.D,cI s.E.Ty.Kind,cI s.E.Ty.Bits,cI s.E.Ty.Frac,cI s.E.Ty.Round,cI s.E.Ty.Over,cI s.E.Lin.K,.sl 2 (s.E.Lin.L.map Mono.cells),.sl 4 (s.E.Idx.map Ix.cells),.sl 13 (s.E.Args.map Ex.cells),c]
theorem csB_set (s:St) (b:List St):csB s (.sl 20 (b.map St.cells))=(lB s b).cells:=by rw [St.cells_eq];rfl
theorem rep_in {l:List St} {i:Int} (h:0<=i/\i<l.length) (s:St):(l.map St.cells).set i.toNat s.cells=(l.take i.toNat++[s]++l.drop (i.toNat+1)).map St.cells:=by
  have hl:i.toNat<l.length:=by omega
  rw [List.set_eq_take_append_cons_drop,if_pos (by rw [List.length_map];exact hl)]
  simp [List.map_take,List.map_drop]
theorem replaceIn_in (sv sv1:Value) (l:List St) (i:Int) (p:List Int) (rest:List E) (q:List St) (hp:p≠[]) (hi:0<=i/\i<l.length) (ih:Con cfg 93 [.c (.lit sv1),vIs p,bU q] rest (fun r μ'=>∃sv',r=.c (.lit sv')/\μ'=[.vec sv' 56 20 ((mB p (l.getD i.toNat zSt).Body q).map St.cells)])):
    Con cfg 93 [.c (.lit sv),vIs (i::p),bU q] (.vec sv 56 20 ((l.map St.cells).set i.toNat (csB (l.getD i.toNat zSt) (.lit sv1)))::rest) (fun r μ'=>∃sv',r=.c (.lit sv')/\μ'=[.vec sv' 56 20 ((mB (i::p) l q).map St.cells)]):=by
 refine zR Tryz.func93 O Tryz.ntmps93 Tryz.results93 O ?_
 intro z hz
 generalize hs0:l.getD i.toNat zSt=s0 at *
 refine G O<|yI 20 O<|Y<|G O<|A O<|qC O el38 zA O<|zI one3 zZ O<|A O<|Y<|zJ<|G O<|A O<|qB O el38<|yE O<|Y<|zE O (fun c1=>?_) (fun c1=>?_)
 ·try simp only [sx] at c1
  exact absurd (List.eq_nil_of_length_eq_zero (by simp at c1;omega)) hp
 ·try simp only [sx] at c1
  refine zK<|zJ<|awp_draw_s 10 [true,true,false,false,false,false,false,false,false,false] iB mixed uC O O O<|td2_detA O O (fun _=>zO O O)<|td2_detA O O (fun _=>zO O O)<|zJn O O (zO O O)<|zJn O O (zO O O)<|zJn O O (qS 0 O D O O O zA uE)<|zJn O O (kD O kV O)<|zJn O O (zF O kU O (wU 0 O (zCm uE)) O)<|zJn O O (zO O O)<|zJn O O (zCb (k:=1) O el38 O O uD)<|zJn O O (zO O O)<|td2_nil ?_
  refine ⟨_,ope_call_tail O ok91 ih ⟨R,O,R,O,R,O,T⟩,fun _ _ _=>T,?_⟩
  rintro _ _ ⟨sv9,rfl,rfl⟩
  refine zW O (qS 0 O D O O O zA uE)<|zW O (kD O kV O)<|kQ O O (yL O sz23 O O O (zDb 0 O (zCm uE) O))<|Y<|zJ<|zY _ (yT 1 O (regs':=[]) (μ':=[_]) T ⟨EFle.vec (r':=[_,_,_,_,_,_,_,_,_,_,_,_,_,_,_,_,_,_,_,_]) (zCm uE) ⟨.inl O,.inl O,.inl O,.inl O,.inl O,.inl O,.inl O,.inl O,.inl O,.inl O,.inl O,.inl O,.inl O,.inl O,.inl O,.inl O,.inl O,.inl O,.inl O,.inr ⟨O,O⟩,T⟩,T⟩)<|zT O<|A O<|A O<|Y<|zH<|zS O ?_
  refine ⟨_,O,?_⟩
  rw [List.set_set,List.set_set]
  have e1:=rep_in hi (lB s0 (mB p s0.Body q))
  rw [replL_in hp,hs0,←e1,←csB_set]
  rfl
end Go.W
end
section
set_option maxRecDepth 10000
namespace Go.W
open Go Go.Eng Go.Proofs Go.L41 Go.Br
attribute [local irreducible] AWP RWP TD fH
def chE:List (Int×Value)->List St->List E
  |[],_=>[]
  |[(_,sv)],l=>[.vec sv 56 20 (l.map St.cells)]
  |(i,sv)::(j,sv1)::r,l=>.vec sv 56 20 ((l.map St.cells).set i.toNat (csB (l.getD i.toNat zSt) (.lit sv1)))::chE ((j,sv1)::r) (l.getD i.toNat zSt).Body
theorem zNw (q:List St) (hq:q.length<=2000000):∀(r:List (Int×Value)) (i:Int) (sv:Value) (l:List St),pR (i::r.map Prod.fst) l->bC l<=2000000->
    Con cfg 93 [.c (.lit sv),vIs (i::r.map Prod.fst),bU q] (chE ((i,sv)::r) l) fun r' μ'=>∃sv',r'=.c (.lit sv')/\μ'=[.vec sv' 56 20 ((mB (i::r.map Prod.fst) l q).map St.cells)]
  |[],i,sv,l,hw,hl=>replaceIn_one sv l i q hw.1 (by have:=kX l;omega) zA
  |(j,sv1)::r,i,sv,l,hw,hl=>by
    rw [chE]
    exact replaceIn_in sv sv1 l i (j::r.map Prod.fst) (chE ((j,sv1)::r) (l.getD i.toNat zSt).Body) q uD hw.1
      (zNw q hq r j sv1 _ hw.2 (by have:=yU (qA (zUi hw.1));have:=St.body_wt (l.getD i.toNat zSt);omega))
end Go.W
end
section
set_option maxRecDepth 10000
namespace Go.W
open Go Go.Eng Go.Proofs Go.L41 Go.Br
attribute [local irreducible] AWP RWP TD fH
theorem zOe {α:Type} {l:List α} {k:Nat} {x:α} (h:l[k]? =some x):k<l.length:=(List.getElem?_eq_some_iff.1 h).1
def mR (l:List St) (i:Nat) (v:Value) (k:Nat):List (List C):=((l.map St.cells).set i (csB (l.getD i zSt) (.lit v))).take k++(l.drop k).map St.cells
theorem rowsI_get {l:List St} {i:Nat} {v:Value} {k:Nat} {s:St} (h:l[k]? =some s):(mR l i v k)[k]? =some s.cs:=by
  have:=zOe h
  unfold mR;exact mid_getS uE h
theorem rowsI_lt {l:List St} {i:Nat} {v:Value} {k:Nat} {s:St} (h:l[k]? =some s):k<(mR l i v k).length:=by
  have:=zOe h
  unfold mR;simp;omega
theorem rowsI_set {l:List St} {i:Nat} {v v9:Value} {k:Nat} {s:St} {b:C} (h:l[k]? =some s) (hb:(k=i/\b=.lit v9)∨(k≠i/\b=.sl 20 (s.Body.map St.cells))):(mR l i v k).set k (csB s b)=mR l i (if k=i then v9 else v) (k+1):=by
  have hk:=zOe h
  have hm:(l.map St.cells)[k]? =some s.cells:=by rw [List.getElem?_map,h];rfl
  unfold mR
  rw [zQi uE h]
  congr 1
  rcases hb with ⟨rfl,rfl⟩|⟨hne,rfl⟩
  · rw [if_pos rfl,List.take_set_of_le (Nat.le_refl k),yQ (l:=(l.map St.cells).set k (csB (l.getD k zSt) (.lit v9))) (x:=csB s (.lit v9)),List.take_set_of_le (Nat.le_refl k)]
    rw [List.getElem?_set_self (by simpa using hk),show l.getD k zSt=s by rw [List.getD_eq_getElem?_getD,h];rfl]
  · rw [if_neg hne,yQ (l:=(l.map St.cells).set i (csB (l.getD i zSt) (.lit v))) (x:=csB s (.sl 20 (s.Body.map St.cells)))]
    rw [List.getElem?_set_ne (fun h=>hne h.symm),hm,csB_set,setB_self]
theorem rowsI_none (l:List St) (v:Value):mR l l.length v l.length=l.map St.cells:=by
  unfold mR
  rw [List.set_eq_of_length_le uD,List.take_of_length_le uD,List.drop_length];simp
theorem rowsI_all (l:List St) (i:Nat) (v:Value):mR l i v l.length=(l.map St.cells).set i (csB (l.getD i zSt) (.lit v)):=by
  unfold mR
  rw [List.take_of_length_le uD,List.drop_length];simp
theorem invX {k i:Nat} {X Y:List E} {v:Value} {b c:C} {Q:Value->List E->Prop} (hX:k<=i->X=[]) (hb:(k=i/\b=.lit v/\Q v Y)∨(k≠i/\b=c/\Y=[])):k+1<=i->X++Y=[]:=by
  intro h
  rcases hb with ⟨h1,_,_⟩|⟨_,_,rfl⟩
  · omega
  · rw [hX zA];rfl
theorem invQ {k i:Nat} {X Y:List E} {v v0:Value} {b c:C} {Q:Value->List E->Prop} (hX:k<=i->X=[]) (hQ:i<k->Q v0 X) (hb:(k=i/\b=.lit v/\Q v Y)∨(k≠i/\b=c/\Y=[])):i<k+1->Q (if k=i then v else v0) (X++Y):=by
  intro h
  rcases hb with ⟨h1,_,hq⟩|⟨h1,_,rfl⟩
  · rw [if_pos h1,hX zA];exact hq
  · rw [if_neg h1,List.append_nil];exact hQ zA
def hdV:List (Int×Value)->Value
  |[]=>.slice none 0 0
  |(_,v)::_=>v
theorem mapIx_id {c:C} {P:Lf->Prop} (hf:∀l,P l->FnPur cfg c [dF l] (.tup [dF l,vI 0])) (i:List Ix) (hi:i.length<=4294967296) (hA:∀x,x∈i->x.At.length<=4294967296) (hP:lY P i):Pur cfg 91 [gR i,.c c] (.tup [gR i,vI 0]):=by
  have h:=zBg idF c P hf i hi hA hP
  rw [mIxs_id] at h;exact h
theorem mapEx_id {c:C} {P:Lf->Prop} (hf:∀l,P l->FnPur cfg c [dF l] (.tup [dF l,vI 0])) (e:Ex) (hP:e.allF P) (he:e.cnt<=4294967296):Pur cfg 92 [vE e,.c c] (.tup [vE e,vI 0]):=by
  have h:=zFa idF c P hf e hP he
  rw [mEx_id] at h;exact h
theorem mapSts_id {c c9:C} {P:Lf->Prop} (hf:∀l,P l->FnPur cfg c [dF l] (.tup [dF l,vI 0])) (hg:∀s,FnPur cfg c9 [vS s] (vS s)) (l:List St) (hP:bS P l) (hl:bC l<=1073741824):Pur cfg 57 [bU l,.c c,.c c9] (.tup [bU l,vI 0]):=by
  have h:=zDx idF c P hf (fun x=>x) c9 hg l hP hl
  rw [mSts_id] at h;exact h
theorem zMg {c c9:C} {P:Lf->Prop} (hf:∀l,P l->FnPur cfg c [dF l] (.tup [dF l,vI 0])) (hg:∀s,FnPur cfg c9 [vS s] (vS s)) (l:List St) (hP:bS P l) (i:Nat) (Q:Value->List E->Prop) (ih:∀k s,l[k]? =some s->Con cfg 57 [bU s.Body,.c c,.c c9] [] (fun r μ'=>∃b v,r=.tup [.c b,vI 0]/\((k=i/\b=.lit v/\Q v μ')∨(k≠i/\b=.sl 20 (s.Body.map St.cells)/\μ'=[])))) (hl:bC l<=1073741824):
    Con cfg 57 [bU l,.c c,.c c9] [] (fun r μ'=>∃sv v X,r=.tup [.c (.lit sv),vI 0]/\μ'=.vec sv 56 20 (mR l i v l.length)::X/\(l.length<=i->X=[])/\(i<l.length->Q v X)):=by
 refine zR Tryz.func57 O Tryz.ntmps57 Tryz.results57 O ?_
 intro z hz
 have hll:=kX l
 refine G O<|yI 20 O<|A O<|Y<|G O<|A O<|zV O O (zAy O ok90 (zJu l zA) ⟨R,O,T⟩) ?_
 rintro _ _ ⟨sv1,rfl,rfl⟩
 refine A O<|Y<|G O<|A O<|Y<|zJ<|G O<|A O<|qB O D<|A O<|Y<|zQ<|zY ⟨[(15,.c _),(0,.c _),(1,.c _),(2,.c _),(8,.c _),(14,.c _)],_⟩ (Weak.regs ⟨R,R,R,R,R,R,T⟩)<|zDg 1 O (Nat×Value×List E) (fun ⟨k,v,X⟩=>[(15,vI k)]) (fun ⟨k,v,X⟩=>(E.vec sv1 56 20 (mR l i v k)::X)) (fun ⟨k,v,X⟩=>k<=l.length/\(k<=i->X=[])/\(i<k->Q v X)) (fun ⟨k,v,X⟩=>l.length-k) ⟨⟨0,.slice none 0 0,[]⟩,⟨zA,fun _=>O,fun h=>absurd h (Nat.not_lt_zero _)⟩,Weak.regsEq ⟨R,R,R,R,R,R,T⟩ O⟩ ?_
 rintro ⟨k,v,X⟩ ⟨hk,hX,hQ⟩
 show AWP _ _ _ _ _ ⟨[(15,vI k)]++_,(E.vec sv1 56 20 (mR l i v k)::X)⟩
 refine G O<|yG O<|Y<|zJ<|zE O (fun c1=>?_) (fun c1=>?_)
 ·try simp only [sx] at c1
  obtain ⟨s,hs⟩:=qY l k zA
  have hsw:=yU (qA hs)
  have hse:=St.wt_eq s
  have hPs:=St.allF_eq (wO hP s (qA hs))
  refine zK<|zJ<|zQ<|G O<|A O<|A O<|Y<|zJ<|G O<|A O<|A O<|qC O D zA (wJ hs)<|qQ O zAm<|zI one3 zZ O<|yE O<|Y<|zE O (fun c2=>?_) (fun c2=>?_)
  ·try simp only [sx] at c2
   refine zT O<|A O<|A O<|A O<|A O<|A O<|qC O D zA (wJ hs)<|qQ O zAh<|zI one9 zZ O<|zW O (kS O O (hg s.Name) ⟨R,O,T⟩)<|zW O (qS 0 O D O O O zA (by simpa using rowsI_lt hs))<|zW O (kD O zAh O)<|kQ O O (yL O sz9 O O O (zDb 0 O (rowsI_get hs) O))<|Y<|zJ<|G O<|A O<|A O<|A O<|A O<|qC O D zA (wJ hs)<|qQ O zEt<|zI wQ zZ O<|A O<|qD O ok91 (mapIx_id hf s.Idx zA (fun x hx=>by have:=zBn hx;rw [Ix.wt] at this;omega) hPs.1) ⟨R,O,R,O,T⟩<|qO O<|qR O<|qR O<|zW O (qS 0 O D O O O zA (by simpa using rowsI_lt hs))<|zW O (kD O zEt O)<|kQ O O (yL O sz44 O O O (zDb 0 O (zCm (by simpa using rowsI_lt hs)) O))<|A O<|Y<|G O<|A O<|yK O<|Y<|zE O (fun c3=>?_) (fun c3=>?_)
   ·try simp only [sx] at c3
    exact (c3 T).elim
   ·exact w9
  ·try simp only [sx] at c2
   refine zK<|zJ<|G O<|A O<|A O<|A O<|A O<|qC O D zA (wJ hs)<|qQ O zEt<|zI wQ zZ O<|A O<|qD O ok91 (mapIx_id hf s.Idx zA (fun x hx=>by have:=zBn hx;rw [Ix.wt] at this;omega) hPs.1) ⟨R,O,R,O,T⟩<|qO O<|qR O<|qR O<|zW O (qS 0 O D O O O zA (by simpa using rowsI_lt hs))<|zW O (kD O zEt O)<|kQ O O (yL O sz44 O O O (zDb 0 O (rowsI_get hs) O))<|A O<|Y<|G O<|A O<|yK O<|Y<|zE O (fun c3=>?_) (fun c3=>?_)
   ·try simp only [sx] at c3
    exact (c3 T).elim
   ·exact w9
 ·try simp only [sx] at c1
  have hke:k=l.length:=by omega
  subst hke
  refine qN<|G O<|A O<|A O<|A O<|Y<|zH<|fin2 (rs_c O) (rs_c O) ?_
  exact ⟨_,v,X,O,O,hX,hQ⟩
theorem mapStmtsP {c c9:C} {P:Lf->Prop} (hf:∀l,P l->FnPur cfg c [dF l] (.tup [dF l,vI 0])) (hg:∀s,FnPur cfg c9 [vS s] (vS s)):∀(p:List Int) (l:List St),p≠[]->pR p l->bS P l->bC l<=1073741824->Con cfg 57 [bU l,.c c,.c c9] [] (fun r μ'=>∃ch,ch.map Prod.fst=p/\r=.tup [.c (.lit (hdV ch)),vI 0]/\μ'=chE ch l)
  |[],_,h,_,_,_=>absurd rfl h
  |[j],l,_,hw,hP,hl=>by
    refine (zMg hf hg l hP l.length (fun _ _=>True) (fun k s hs=>?_) hl).mono ?_
    · have hsw:=yU (qA hs)
      have hse:=St.wt_eq s
      have hPs:=St.allF_eq (wO hP s (qA hs))
      refine (Con.pure_frame (Q:=fun r=>r=.tup [bU s.Body,vI 0]) (mapSts_id hf hg s.Body hPs.2.2 zA) []).mono ?_
      rintro r μ' ⟨rfl,rfl⟩
      exact ⟨_,.slice none 0 0,O,.inr ⟨by have:=zOe hs;omega,O,O⟩⟩
    · rintro r μ' ⟨sv,v,X,rfl,rfl,hX,_⟩
      refine ⟨[(j,sv)],O,O,?_⟩
      rw [hX (Nat.le_refl _),rowsI_none,chE]
  |j::j1::p,l,_,hw,hP,hl=>by
    have hg0:=zUi hw.1
    have hjw:=yU (qA hg0)
    have hjb:=St.body_wt (l.getD j.toNat zSt)
    have hPj:=St.allF_eq (wO hP _ (qA hg0))
    have ih:=mapStmtsP hf hg (j1::p) (l.getD j.toNat zSt).Body uD hw.2 hPj.2.2 zA
    refine (zMg hf hg l hP j.toNat (fun v μ=>∃ch,ch.map Prod.fst=j1::p/\v=hdV ch/\μ=chE ch (l.getD j.toNat zSt).Body) (fun k s hs=>?_) hl).mono ?_
    · by_cases hkj:k=j.toNat
      · subst hkj
        have e:l.getD j.toNat zSt=s:=by rw [List.getD_eq_getElem?_getD,hs];rfl
        rw [e] at ih⊢
        refine ih.mono ?_
        rintro r μ' ⟨ch,h1,rfl,rfl⟩
        exact ⟨_,hdV ch,O,.inl ⟨O,O,ch,h1,O,O⟩⟩
      · have hsw:=yU (qA hs)
        have hse:=St.wt_eq s
        have hPs:=St.allF_eq (wO hP s (qA hs))
        refine (Con.pure_frame (Q:=fun r=>r=.tup [bU s.Body,vI 0]) (mapSts_id hf hg s.Body hPs.2.2 zA) []).mono ?_
        rintro r μ' ⟨rfl,rfl⟩
        exact ⟨_,.slice none 0 0,O,.inr ⟨hkj,O,O⟩⟩
    · rintro r μ' ⟨sv,v,X,rfl,rfl,_,hQ⟩
      obtain ⟨ch,h1,rfl,rfl⟩:=hQ (by have:=hw.1;omega)
      match ch,h1 with
      |(i1,sv1)::r1,h1=>exact ⟨(j,sv)::(i1,sv1)::r1,by rw [List.map_cons,h1],rfl,by rw [rowsI_all,chE];rfl⟩
end Go.W
end
section
set_option maxRecDepth 10000
namespace Go.W
open Go Go.Eng Go.Proofs Go.L41 Go.Br
attribute [local irreducible] AWP RWP TD fH
abbrev Chn (p:List Int):={ ch:List (Int×Value)//ch.map Prod.fst=p }
theorem chE_mono:∀(ch:List (Int×Value)) (l:List St),∀e,e∈chE ch l->e.Mono
  |[],_,e,h=>by rw [chE] at h;cases h
  |[(_,sv)],l,e,h=>by rw [chE] at h;obtain rfl:=List.mem_singleton.1 h;trivial
  |(i,sv)::(j,sv1)::r,l,e,h=>by
    rw [chE] at h
    rcases List.mem_cons.1 h with rfl|h
    · trivial
    · exact chE_mono ((j,sv1)::r) _ e h
theorem copyStmtsQ (p:List Int) (hp:p≠[]) (l:List St) (hw:pR p l) (hl:bC l<=1073741824):
    Con cfg 74 [bU l] [] (fun r μ'=>∃ch,ch.map Prod.fst=p/\r=.c (.lit (hdV ch))/\μ'=chE ch l):=by
 refine zR Tryz.func74 O Tryz.ntmps74 Tryz.results74 O ?_
 intro z hz
 refine G O<|yI 20 O<|Y<|G O<|A O<|zV O O (zIj O ok57 (mapStmtsP (P:=fun l=>l.L.length<=1073741824) (fun l hl=>FnPur.of_pur (first:=[]) (cap:=[]) ok106 (zXc l hl)) (fun s=>FnPur.of_pur (first:=[]) (cap:=[]) ok60 (zIm s)) p l hp hw (zJo hl) hl) ⟨R,O,R,O,R,O,T⟩) ?_
 rintro _ _ ⟨_,⟨ch,hch,rfl,rfl⟩,rfl⟩
 refine qO O<|qR O<|qR O<|A O<|A O<|Y<|G O<|A O<|A O<|Y<|zH<|zS O ?_
 exact ⟨ch,hch,O,O⟩
theorem copyStmtsC (p:List Int) (hp:p≠[]) (l:List St) (hw:pR p l) (hl:bC l<=1073741824):Con cfg 74 [bU l] [] fun r μ'=>∃a:Chn p,r=.c (.lit (hdV a.1))/\μ'=[pk (chE a.1 l)]:=
  (Con.pack (copyStmtsQ p hp l hw hl)).mono fun r μ' ⟨φ,⟨ch,h1,h2,h3⟩,h4⟩=>⟨⟨ch,h1⟩,h2,by rw [h4,h3]⟩
theorem replaceC (p:List Int) (hp:p≠[]) (a:Chn p) (l q:List St) (hw:pR p l) (hl:bC l<=2000000) (hq:q.length<=2000000):Con cfg 93 [.c (.lit (hdV a.1)),vIs p,bU q] [pk (chE a.1 l)] fun r' μ'=>∃sv',r'=.c (.lit sv')/\μ'=[.vec sv' 56 20 ((mB p l q).map St.cells)]:=by
  obtain ⟨ch,rfl⟩:=a
  match ch,hp,hw with
  |[],hp,_=>exact absurd rfl hp
  |(i,sv)::r,_,hw=>exact Con.unpack (zNw q hq r i sv l hw hl) (chE_mono _ _)
theorem loopnest_CopyC (p:List Int) (hp:p≠[]) (n:Ns) (hn:n.Ok) (hw:pR p n.Body):
    Con cfg 35 [vNs n] [] (fun r μ'=>∃a:Chn p,r=.agg [.sl 8 (n.Bufs.map Bf.cells),.lit (hdV a.1)]/\μ'=[pk (chE a.1 n.Body)]):=by
 refine Con.dropG<|zR Tryz.func35 O Tryz.ntmps35 Tryz.results35 O ?_
 intro z hz
 have hnb:=hn.bufs
 have hnw:=hn.body
 refine G O<|zV O O (qJ O O) ?_
 rintro _ _ ⟨b1,rfl,rfl⟩
 refine zV O O (qH [some 8,some 20] O zr25 O) ?_
 rintro _ _ ⟨b2,rfl,rfl⟩
 refine Y<|G O<|zD O zAi<|zI kU (J 1 O) O<|zV O O (zNz O ok74 (copyStmtsC p hp n.Body hw zA) ⟨R,O,T⟩) ?_
 rintro _ _ ⟨ch,rfl,rfl⟩
 refine qT O zr25 pl25<|zV O O (qH [some 8,some 20] O zr25 O) ?_
 rintro _ _ ⟨b3,rfl,rfl⟩
 refine rStR 0 sz25 O<|Y<|zJ<|G O<|yS _ (wC 94 8)<|zD O zAj<|zI zDk (J 4 O) O<|qB O el22<|A O<|Y<|zQ<|zY ⟨[(12,.c _),(1,.c _),(2,.c _),(3,.c _),(11,.c _)],[_,_,_,_,_]⟩ (Weak.mk [true,true,true,true,true] ⟨R,R,R,R,R,T⟩ O)<|qK 1 2 O O (Nat×Value) (fun ⟨k,sv⟩=>[(12,vI k)]) (fun ⟨k,sv⟩=>[E.vec sv 94 8 ((n.Bufs.take k).map Bf.cells),E.row b3 25 [.lit sv,.lit (hdV ch.1)]]) (fun ⟨k,sv⟩=>k<=n.Bufs.length) (fun ⟨k,sv⟩=>n.Bufs.length-k) ⟨⟨0,(.slice none 0 0)⟩,zA,Weak.mk [true,true,true,true,true] ⟨R,R,R,R,R,T⟩ O⟩ ?_
 rintro ⟨k,sv⟩ hk
 show AWP _ _ _ _ _ ⟨[(12,vI k)]++_,[E.vec sv 94 8 ((n.Bufs.take k).map Bf.cells),E.row b3 25 [.lit sv,.lit (hdV ch.1)]]++_⟩
 refine G O<|yG O<|Y<|zJ<|zE O (fun c1=>?_) (fun c1=>?_)
 ·try simp only [sx] at c1
  obtain ⟨b,hb⟩:=qY n.Bufs k zA
  have hbd:=hn.dims b (qA hb)
  refine zK<|zJ<|zQ<|G O<|A O<|A O<|Y<|qU 9 mixed uC O O<|zN O O (zG O zAj O)<|zN O O (zF O zDk O (J 1 O) O)<|zN O O (zG O zAj O)<|zN O O (zF O zDk O (J 4 O) O)<|zN O O (zO O O)<|zN O O (qE O el22 O O zA (getm uB))<|zN O O (zU O zLd O zZ O)<|zN O O (qG O ok75 (zCx b zA) ⟨R,O,T⟩)<|zN O O (qZ O el22 zr94 O O O O)<|yP<|zV O O (yN 0 O el22 O O O zC zC) ?_
  rintro _ _ ⟨sv4,rfl,rfl⟩
  refine zD O zAj<|rStR 1 sz22 O<|Y<|zT O<|qI O ⟨zA,zA⟩<|A O<|Y ?_
  refine ⟨⟨k+1,sv4⟩,zA,(by show n.Bufs.length-(k+1)<n.Bufs.length-k;omega),Weak.mk [true,true,true,true,true] ⟨R,R,R,R,R,T⟩ (by exact mem2_eq' (by rw [yQ hb,List.map_append];rfl))⟩
 ·try simp only [sx] at c1
  rw [yV (l:=n.Bufs) (k:=k) zA]
  refine zY _ (yT 0 O (regs':=[]) (μ':=[_,_,_,_]) T ⟨EFle.row (ds:=[_,_]) ⟨.inr ⟨O,O⟩,.inl O,T⟩,EFle.refl _,EFle.refl _,EFle.refl _,T⟩)<|qN<|G O<|zM kE (J 0 O) O<|rStR 2 sz25 O<|Y<|zH<|fin1 (zP kE O (J 2 O) O) ?_
  exact ⟨[pk _],⟨[E.row _ _ _],[E.row _ _ _,E.row _ _ _],O⟩,ch,O,O⟩
theorem zOh (n:Ns) (hn:n.Ok):
    Pur cfg 35 [vNs n] (vNs n):=by
 refine zR Tryz.func35 O Tryz.ntmps35 Tryz.results35 O ?_
 intro z hz
 have hnb:=hn.bufs
 have hnw:=hn.body
 refine G O<|zV O O (qJ O O) ?_
 rintro _ _ ⟨b1,rfl,rfl⟩
 refine zV O O (qH [some 8,some 20] O zr25 O) ?_
 rintro _ _ ⟨b2,rfl,rfl⟩
 refine Y<|G O<|zD O zAi<|zI kU (J 1 O) O<|qD O ok74 (zDm n.Body zA) ⟨R,O,T⟩<|qT O zr25 pl25<|zV O O (qH [some 8,some 20] O zr25 O) ?_
 rintro _ _ ⟨b3,rfl,rfl⟩
 refine rStR 0 sz25 O<|Y<|zJ<|G O<|yS _ (wC 94 8)<|zD O zAj<|zI zDk (J 3 O) O<|qB O el22<|A O<|Y<|zQ<|zY ⟨[(12,.c _),(1,.c _),(2,.c _),(3,.c _),(11,.c _)],[_,_,_,_]⟩ (Weak.mk [true,true,true,true] ⟨R,R,R,R,R,T⟩ O)<|qK 1 2 O O (Nat×Value) (fun ⟨k,sv⟩=>[(12,vI k)]) (fun ⟨k,sv⟩=>[E.vec sv 94 8 ((n.Bufs.take k).map Bf.cells),E.row b3 25 [.lit sv,.sl 20 (n.Body.map St.cells)]]) (fun ⟨k,sv⟩=>k<=n.Bufs.length) (fun ⟨k,sv⟩=>n.Bufs.length-k) ⟨⟨0,(.slice none 0 0)⟩,zA,Weak.mk [true,true,true,true] ⟨R,R,R,R,R,T⟩ O⟩ ?_
 rintro ⟨k,sv⟩ hk
 show AWP _ _ _ _ _ ⟨[(12,vI k)]++_,[E.vec sv 94 8 ((n.Bufs.take k).map Bf.cells),E.row b3 25 [.lit sv,.sl 20 (n.Body.map St.cells)]]++_⟩
 refine G O<|yG O<|Y<|zJ<|zE O (fun c1=>?_) (fun c1=>?_)
 ·try simp only [sx] at c1
  obtain ⟨b,hb⟩:=qY n.Bufs k zA
  have hbd:=hn.dims b (qA hb)
  refine zK<|zJ<|zQ<|G O<|A O<|A O<|Y<|qU 9 mixed uC O O<|zN O O (zG O zAj O)<|zN O O (zF O zDk O (J 1 O) O)<|zN O O (zG O zAj O)<|zN O O (zF O zDk O (J 3 O) O)<|zN O O (zO O O)<|zN O O (qE O el22 O O zA (getm uB))<|zN O O (zU O zLd O zZ O)<|zN O O (qG O ok75 (zCx b zA) ⟨R,O,T⟩)<|zN O O (qZ O el22 zr94 O O O O)<|yP<|zV O O (yN 0 O el22 O O O zC zC) ?_
  rintro _ _ ⟨sv4,rfl,rfl⟩
  refine zD O zAj<|rStR 1 sz22 O<|Y<|zT O<|qI O ⟨zA,zA⟩<|A O<|Y ?_
  refine ⟨⟨k+1,sv4⟩,zA,(by show n.Bufs.length-(k+1)<n.Bufs.length-k;omega),Weak.mk [true,true,true,true] ⟨R,R,R,R,R,T⟩ (by exact mem2_eq' (by rw [yQ hb,List.map_append];rfl))⟩
 ·try simp only [sx] at c1
  rw [yV (l:=n.Bufs) (k:=k) zA]
  refine zY _ (yT 0 O (regs':=[]) (μ':=[_,_,_]) T ⟨EFle.row (ds:=[_,_]) ⟨.inr ⟨O,O⟩,.inl O,T⟩,EFle.refl _,EFle.refl _,T⟩)<|qN<|G O<|zM kE (J 0 O) O<|rStR 1 sz25 O<|Y<|zH<|fin1 (zP kE O (J 1 O) O) ?_
  rfl
end Go.W
end
