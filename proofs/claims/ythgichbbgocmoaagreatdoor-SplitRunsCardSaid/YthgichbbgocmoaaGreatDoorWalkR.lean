/-
  What functions compute.
  And what the laws need besides.
  Conditions: none.
-/
import Derived.Test.YthgichbbgocmoaaGreatDoorGL
import Derived.Test.YthgichbbgocmoaaGreatDoorPlain3
import Derived.Test.YthgichbbgocmoaaGreatDoorEngZ
import Derived.Test.YthgichbbgocmoaaGreatDoorGB
set_option linter.unusedSimpArgs false
set_option linter.unusedVariables false
set_option linter.defProp false
section
set_option maxRecDepth 10000
namespace Go.W
open Go Go.Eng Go.Proofs Go.L41 Go.Br Tryz
attribute [local irreducible] AWP RWP TD fK
def pl56:fW prog 56=some [(0,1),(1,1),(2,1),(3,1),(4,1),(5,1),(6,13),(19,1)]:=by kernel_rfl
def sz9:(prog.info? 9).map (·.size)=some 1:=by kernel_rfl
def sz23:(prog.info? 23).map (·.size)=some 1:=by kernel_rfl
def sz44:(prog.info? 44).map (·.size)=some 1:=by kernel_rfl
def sz52:(prog.info? 52).map (·.size)=some 1:=by kernel_rfl
def sz90:(prog.info? 90).map (·.size)=some 1:=by kernel_rfl
def zLd (l:List St) (hl:l.length<=4294967296):
    OwnR cfg 90 [dA l] 56 20 (l.map St.cells):=by
 refine zR func90 O ntmps90 results90 O fun z hz=>G O<|yJ 20 O<|Y<|zG<|mo O O<|zV O O (zIk O D O O) ?_
 rintro _ _ ⟨nb1,rfl,hnil1,rfl⟩
 refine Y<|zK O ?_ ?_<;>intro c1<;>try simp only [sx] at c1
 ·refine mo O O<|yU _ (wE 56 20)<|Y<|zF<|zS O ?_
  exact ⟨_,O,by rw [hnil1 c1]⟩
 ·refine zI<|G O<|zV O O (zDr O D zr56 O O O O) ?_
  rintro _ _ ⟨sv3,rfl,rfl⟩
  refine A O<|zV O O (yO 0 O D O O O uG uG) ?_
  exact l7
def zBn (f:Lf->Lf×Int) (c:C) (P:Lf->Prop) (hf:∀l,P l->FnPur cfg c [dK l] (.tup [dK (f l).1,vI (f l).2])) (i:List Ix) (hi:i.length<=4294967296) (hA:∀x,x∈i->x.At.length<=4294967296) (hP:gK P i):
    Pur cfg 91 [jF i,.c c] (.tup [jF (iE (fF f i)),vI (jV (fF f i))]):=by
 refine zR func91 O ntmps91 results91 O fun z hz=>G O<|yJ 4 O<|mm O<|mo O O<|zV O O (zBg O uB (zWo i hi) (vlr O)) ?_
 rintro _ _ ⟨sv1,rfl,rfl⟩
 refine mm O<|ml O O<|zG<|mo O O<|qB O v<|mm O<|zQ<|zY ⟨[(14,.c _),(0,.c _),(1,.c _),(6,.c _),(13,.c _)],[_]⟩ (Weak.mk [true] ⟨zJ,zJ,zJ,zJ,zJ,T⟩ O)<|qL 1 1 O O (Nat×List Ix) (fun ⟨k,outs⟩=>[(14,vI k)]) (fun ⟨k,outs⟩=>[E.vec sv1 92 4 (outs.map Ix.cells++(i.drop k).map Ix.cells)]) (fun ⟨k,outs⟩=>k<=i.length/\(outs.length=k)/\(fF f i=dS outs (fF f (i.drop k)))) (fun ⟨k,outs⟩=>i.length-k) ⟨⟨0,[]⟩,⟨zA,O,(zJt _).symm⟩,Weak.mk [true] ⟨zJ,zJ,zJ,zJ,zJ,T⟩ O⟩ ?_
 rintro ⟨k,outs⟩ ⟨hk,ho,hp⟩
 show AWP _ _ _ _ _ ⟨[(14,vI k)]++_,[E.vec sv1 92 4 (outs.map Ix.cells++(i.drop k).map Ix.cells)]++_⟩
 refine G O<|yI O<|Y<|zG<|zK O ?_ ?_<;>intro c1<;>try simp only [sx] at c1
 ·obtain ⟨x,hx⟩:=qZ i k zA
  have hAx:=hA x (qA hx)
  refine zI<|zG<|zQ<|mo O O<|mm O<|zG<|mo O O<|A O<|A O<|A O<|A O<|qC O v zA (getm uA)<|qR O zFw<|zM kQ zZ O<|zW O (kU O O (hf x.Lin (hP x (qA hx)).1) (vlr O))<|qP O<|yG O<|qS O<|zW O (qT 0 O v O O O zA (zXq uE zA))<|zW O (kF O zFw O)<|kS O O (yM O sz51 O O O (zDp 0 O (mid_get uE hx) O))<|mm O<|mo O O<|yL O<|Y<|zK O ?_ ?_<;>intro c2<;>try simp only [sx] at c2
  ·refine mo O O<|yJ 4 O<|mm O<|zF<|fin2 (rs_c O) (rs_c O) ?_
   rw [mIxs_no hx hp (mIx_e1 c2)];rfl
  ·refine zI<|mo O O<|A O<|A O<|A O<|qC O v zA (getm uA)<|qR O zBa<|zH zFf zZ O<|zV O O (zBg O uB (zUc x.At (hA x (qA hx))) (vlr O)) ?_
   rintro _ _ ⟨sv2,rfl,rfl⟩
   refine zW O (qT 1 O v O O O zA uE)<|zW O (kF O zBa O)<|kS O O (yM O sz90 O O O (zDp 1 O (zCx uE) O))<|Y<|mo O O<|A O<|qC O v zA (getm uA)<|qR O zBa<|zH zFf zZ O<|qB O el90<|mm O<|zQ<|zY ⟨[(50,.c _),(0,.c _),(1,.c _),(6,.c _),(8,.c _),(13,.c _),(14,.c _),(49,.c _)],[_,_]⟩ (Weak.mk [true,true] ⟨zJ,zJ,zJ,zJ,zJ,zJ,zJ,zJ,T⟩ O)<|qL 1 1 O O (Nat×List Lf) (fun ⟨j,lins⟩=>[(50,vI j)]) (fun ⟨j,lins⟩=>[E.vec sv2 51 2 (lins.map Lf.cells++(x.At.drop j).map Lf.cells)]) (fun ⟨j,lins⟩=>j<=x.At.length/\(lins.length=j)/\(fD f x.At=dS lins (fD f (x.At.drop j)))) (fun ⟨j,lins⟩=>x.At.length-j) ⟨⟨0,[]⟩,⟨zA,O,(zJt _).symm⟩,Weak.mk [true,true] ⟨zJ,zJ,zJ,zJ,zJ,zJ,zJ,zJ,T⟩ O⟩ ?_
   rintro ⟨j,lins⟩ ⟨hj,hlo,hq⟩
   show AWP _ _ _ _ _ ⟨[(50,vI j)]++_,[E.vec sv2 51 2 (lins.map Lf.cells++(x.At.drop j).map Lf.cells)]++_⟩
   refine G O<|yI O<|Y<|zG<|zK O ?_ ?_<;>intro c3<;>try simp only [sx] at c3
   ·obtain ⟨l,hl⟩:=qZ x.At j zA
    refine zI<|zG<|zQ<|mo O O<|mm O<|zG<|kK 21 0 [⟨0,.q []⟩,⟨1,.q []⟩,⟨2,.q [1]⟩,⟨3,.q []⟩,⟨4,.q [1]⟩,⟨5,.q []⟩,⟨6,.q []⟩,⟨7,.q []⟩,⟨8,.q []⟩,⟨9,.q []⟩,⟨10,.q []⟩,⟨11,.q []⟩,⟨12,.q []⟩,⟨13,.q []⟩,⟨14,.q []⟩,⟨15,.q []⟩,⟨16,.q []⟩,⟨17,.q []⟩,⟨18,.q []⟩,⟨19,.q [0]⟩,⟨20,.e 0 []⟩] mixed uB uB O O O<|zX O<|zX O<|zX O<|zX O<|zX O<|zX O<|zX O<|zX O<|zX O<|zX O<|zX O<|zX O<|zX O<|zX O<|zX O<|zX O<|zX O<|zX O<|zX O<|zX O<|zX O<|zBj<|mq O (zO O O)<|mq O (zO O O)<|mq O (qT 0 O v O O O zA uE)<|mq O (kF O zBa O)<|mq O (zD O zFf O (wX 0 O (zCx uE)) O)<|mq O (zO O O)<|mq O (zO O O)<|mq O (zO O O)<|mq O (zO O O)<|mq O (qE O v O O zA (getm uA))<|mq O (qN O zBa O)<|mq O (zD O zFf O zZ O)<|mq O (zO O O)<|mq O (qE O el90 O O zA (getm uA))<|mq O (zU O kQ O zZ O)<|mq O (kU O O (hf l ((hP x (qA hx)).2 l (qA hl))) (vlr O))<|mq O (kJ O O)<|mq O (wG O O O)<|mq O (wF O O O)<|mq O (qT 0 O el90 O O O zA (zXq uE zA))<|zGl O O zB O O (yM O sz51 O O O (zDp 0 O (mid_get uE hl) O)) ?_
    rintro _ _ ⟨rfl,rfl⟩
    refine ⟨_,O,?_⟩
    refine zBe O<|mm O<|mo O O<|yL O<|Y<|zK O ?_ ?_<;>intro c4<;>try simp only [sx] at c4
    ·refine mo O O<|yJ 4 O<|mm O<|zF<|fin2 (rs_c O) (rs_c O) ?_
     rw [mIxs_no hx hp (mIx_e2 c2 (mLins_no hl hq c4))];rfl
    ·refine zI<|zT O<|qI O ⟨zA,zA⟩<|A O<|Y ?_
     refine ⟨⟨j+1,lins++[(f l).1]⟩,⟨zA,uE,mLins_next hl hq c4⟩,(by show x.At.length-(j+1)<x.At.length-j;omega),Weak.mk [true,true] ⟨zJ,zJ,zJ,zJ,zJ,zJ,zJ,zJ,T⟩ (by simp only [dq];rw [zSi uE hl];simp only [aC,aK,ck];rfl)⟩
   ·have hml:=mLins_end hq zA
    rw [kL (l:=x.At) (k:=j) zA]
    simp only [ck,lAn]
    refine zY _ (yV 0 O (regs':=[]) (μ':=[_]) T ⟨EFle.vec (r':=[_,_,_,_]) (zCx uE) ⟨.inl O,.inl O,.inl O,.inr ⟨O,O⟩,T⟩,T⟩)<|qO<|zT O<|qI O ⟨zA,zA⟩<|A O<|Y ?_
    refine ⟨⟨k+1,outs++[⟨(f x.Lin).1,x.From,lins⟩]⟩,⟨zA,uE,mIxs_next hx hp (mIx_ok c2 hml)⟩,(by show i.length-(k+1)<i.length-k;omega),Weak.mk [true] ⟨zJ,zJ,zJ,zJ,zJ,T⟩ (by simp only [dq,fz];rw [zSi uE hx];simp only [aC,aK,ck];rfl)⟩
 ·have hmi:=mIxs_end hp zA
  rw [kL (l:=i) (k:=k) zA]
  simp only [ck,lAn]
  refine zY _ (yV 0 O (regs':=[(6,_)]) (μ':=[]) ⟨FLe.sl,T⟩ T)<|qO<|mo O O<|A O<|mm O<|zF<|fin2 (rs_c O) (rs_c O) ?_
  rw [hmi];rfl
def zLr (f:Lf->Lf×Int) (c:C) (P:Lf->Prop) (hf:∀l,P l->FnPur cfg c [dK l] (.tup [dK (f l).1,vI (f l).2])) (e:Ex) (hP:e.allF P) (ih:∀a,a∈e.Args->a.allF P->a.cnt<=4294967296->Pur cfg 92 [vE a,.c c] (.tup [vE (xS (mEx f a)),vI (jV (mEx f a))])) (he:e.cnt<=4294967296):
    Pur cfg 92 [vE e,.c c] (.tup [vE (xS (mEx f e)),vI (jV (mEx f e))]):=by
 refine zR func92 O ntmps92 results92 O ?_
 intro z hz
 obtain ⟨hI,hA,hAt⟩:=e.cparts he
 have hPI:=ixsAll_of hP
 refine G O<|mj O fun b1=>zV O O (qH lx O zr54 O) ?_
 rintro _ _ ⟨b2,rfl,rfl⟩
 refine mm O<|G O<|zM yY (J 1 O) O<|zV O O (qH lx O zr54 O) ?_
 rintro _ _ ⟨b3,rfl,rfl⟩
 refine rStR 0 sz54 O<|Y<|ml O O<|zG<|mo O O<|zC O zEk<|zM kQ (J 2 O) O<|zW O (kU O O (hf e.Lin (Ex.allF_lin hP)) (vlr O))<|qP O<|yG O<|qS O<|zC O zEk<|rStR 0 sz51 O<|mm O<|mo O O<|yL O<|Y<|zK O ?_ ?_<;>intro c1<;>try simp only [sx] at c1
 ·refine G O<|yH lx O zr54 pl54<|A O<|rStR 1 sz54 O<|mm O<|zF<|fin2 (zP yY O (J 1 O) O) (rs_c O) ?_
  rw [mEx_e1 c1];rfl
 ·refine zI<|zG<|G O<|zC O wK<|zH wT (J 2 O) O<|A O<|qD O uB (zBn f c P hf e.Idx hI hAt hPI) (vlr O)<|qP O<|qS O<|qS O<|zC O wK<|rStR 0 sz44 O<|mm O<|mo O O<|yL O<|Y<|zK O ?_ ?_<;>intro c2<;>try simp only [sx] at c2
  ·refine G O<|yH lx O zr54 pl54<|A O<|rStR 1 sz54 O<|mm O<|zF<|fin2 (zP yY O (J 1 O) O) (rs_c O) ?_
   rw [mEx_e2 c1 (mIxs_err c2)];rfl
  ·obtain ⟨di,hmi⟩:=mIxs_0 c2
   rw [hmi]
   refine zI<|G O<|zC O wD<|zH zAs (J 2 O) O<|zV O O (zBg O uB (zWp e.Args hA) (vlr O)) ?_
   rintro _ _ ⟨sv4,rfl,rfl⟩
   refine zC O wD<|rStR 1 sz52 O<|Y<|zG<|G O<|zC O wD<|zH zAs (J 3 O) O<|qB O el52<|mm O<|zQ<|zY ⟨[(41,.c _),(1,.c _),(2,.c _),(4,.c _),(6,.c _),(40,.c _)],[_,_,_,_]⟩ (Weak.mk [true,true,true,true] ⟨zJ,zJ,zJ,zJ,zJ,zJ,T⟩ O)<|qL 1 1 O O (Nat×List Ex) (fun ⟨n,exs⟩=>[(41,vI n)]) (fun ⟨n,exs⟩=>[E.vec sv4 54 13 (exs.map Ex.cells++(e.Args.drop n).map Ex.cells)]) (fun ⟨n,exs⟩=>n<=e.Args.length/\(exs.length=n)/\(gW f e.Args=dS exs (gW f (e.Args.drop n)))) (fun ⟨n,exs⟩=>e.Args.length-n) ⟨⟨0,[]⟩,⟨zA,O,(zJt _).symm⟩,Weak.mk [true,true,true,true] ⟨zJ,zJ,zJ,zJ,zJ,zJ,T⟩ O⟩ ?_
   rintro ⟨n,exs⟩ ⟨hn,hno,hr⟩
   show AWP _ _ _ _ _ ⟨[(41,vI n)]++_,[E.vec sv4 54 13 (exs.map Ex.cells++(e.Args.drop n).map Ex.cells)]++_⟩
   refine G O<|yI O<|Y<|zG<|zK O ?_ ?_<;>intro c3<;>try simp only [sx] at c3
   ·obtain ⟨a,ha⟩:=qZ e.Args n zA
    refine zI<|zG<|zQ<|mo O O<|mm O<|zG<|kK 15 0 [⟨0,.q []⟩,⟨1,.q [1]⟩,⟨2,.q []⟩,⟨3,.q []⟩,⟨4,.q [3]⟩,⟨5,.q []⟩,⟨6,.q []⟩,⟨7,.q []⟩,⟨8,.q []⟩,⟨9,.q []⟩,⟨10,.q []⟩,⟨11,.q []⟩,⟨12,.q []⟩,⟨13,.q [0]⟩,⟨14,.e 0 []⟩] mixed uB uB O O O<|zX O<|zX O<|zX O<|zX O<|zX O<|zX O<|zX O<|zX O<|zX O<|zX O<|zX O<|zX O<|zX O<|zX O<|zX O<|zBj<|mq O (zE O wD O)<|mq O (zD O zAs O (J 0 O) O)<|mq O (zO O O)<|mq O (zE O wD O)<|mq O (zD O zAs O (J 0 O) O)<|mq O (zO O O)<|mq O (qE O el52 O O zA (zCy uA))<|mq O (zU O yY O zZ O)<|mq O (zO O O)<|mq O (qG O uB (ih a (qA ha) (Ex.allF_arg hP (qA ha)) (by have:=Ex.arg_cnt (qA ha);omega)) (vlr O))<|mq O (kJ O O)<|mq O (wG O O O)<|mq O (wF O O O)<|mq O (qT 0 O el52 O O O zA (zXq uE zA))<|zGl O O zB O O (yM O sz54 O O O (zDp 0 O (mid_getE uE ha) O)) ?_
    rintro _ _ ⟨rfl,rfl⟩
    refine ⟨_,O,?_⟩
    refine zBe O<|mm O<|mo O O<|yL O<|Y<|zK O ?_ ?_<;>intro c4<;>try simp only [sx] at c4
    ·refine G O<|yH lx O zr54 pl54<|A O<|rStR 2 sz54 O<|mm O<|zF<|fin2 (zP yY O (J 2 O) O) (rs_c O) ?_
     rw [mEx_e3 c1 hmi (mExs_no ha hr c4)];rfl
    ·refine zI<|zT O<|qI O ⟨zA,zA⟩<|A O<|Y ?_
     refine ⟨⟨n+1,exs++[xS (mEx f a)]⟩,⟨zA,uE,mExs_next ha hr c4⟩,(by show e.Args.length-(n+1)<e.Args.length-n;omega),Weak.mk [true,true,true,true] ⟨zJ,zJ,zJ,zJ,zJ,zJ,T⟩ (by simp only [dq];rw [zSi uE ha];simp only [aC,aK,ck,Ex.cells_eq (xS (mEx f a))];rfl)⟩
   ·have hme:=mExs_end hr zA
    rw [kL (l:=e.Args) (k:=n) zA]
    simp only [ck,lAn]
    refine zY _ (yV 0 O (regs':=[]) (μ':=[_,_,_]) T ⟨EFle.row (ds:=[_,_,_,_,_,_,_,_,_,_,_,_,_]) ⟨.inl O,.inl O,.inl O,.inl O,.inl O,.inl O,.inl O,.inl O,.inl O,.inl O,.inl O,.inl O,.inr ⟨O,O⟩,T⟩,EFle.refl _,EFle.refl _,T⟩)<|qO<|G O<|zM yY (J 0 O) O<|rStR 1 sz54 O<|mm O<|zF<|fin2 (zP yY O (J 1 O) O) (rs_c O) ?_
    rw [mEx_ok c1 hmi hme];rfl
def zFp (f:Lf->Lf×Int) (c:C) (P:Lf->Prop) (hf:∀l,P l->FnPur cfg c [dK l] (.tup [dK (f l).1,vI (f l).2])) (e:Ex) (hP:e.allF P) (he:e.cnt<=4294967296):Pur cfg 92 [vE e,.c c] (.tup [vE (xS (mEx f e)),vI (jV (mEx f e))]):=by
  induction e using Ex.ind with
  |_ e ih=>exact zLr f c P hf e hP ih he
def zEj (f:Lf->Lf×Int) (c:C) (P:Lf->Prop) (hf:∀l,P l->FnPur cfg c [dK l] (.tup [dK (f l).1,vI (f l).2])) (g:lr->lr) (c9:C) (hg:∀s,FnPur cfg c9 [vS s] (vS (g s))) (l:List St) (hP:bE P l) (ih:∀s,s∈l->Pur cfg 57 [dA s.Body,.c c,.c c9] (.tup [dA (jU (fT f g s.Body)),vI (jV (fT f g s.Body))])) (hl:bD l<=1073741824):
    Pur cfg 57 [dA l,.c c,.c c9] (.tup [dA (jU (fT f g l)),vI (jV (fT f g l))]):=by
 refine zR func57 O ntmps57 results57 O ?_
 intro z hz
 have hll:=kY l
 refine G O<|yJ 20 O<|mm O<|mo O O<|zV O O (zBg O uB (zLd l zA) (vlr O)) ?_
 rintro _ _ ⟨sv1,rfl,rfl⟩
 refine mm O<|ml O O<|zG<|mo O O<|qB O D<|mm O<|zQ<|zY ⟨[(15,.c _),(0,.c _),(1,.c _),(2,.c _),(8,.c _),(14,.c _)],[_]⟩ (Weak.mk [true] ⟨zJ,zJ,zJ,zJ,zJ,zJ,T⟩ O)<|qL 1 1 O O (Nat×List St) (fun ⟨k,outs⟩=>[(15,vI k)]) (fun ⟨k,outs⟩=>[E.vec sv1 56 20 (outs.map St.cells++(l.drop k).map St.cells)]) (fun ⟨k,outs⟩=>k<=l.length/\(outs.length=k)/\(fT f g l=dS outs (fT f g (l.drop k)))) (fun ⟨k,outs⟩=>l.length-k) ⟨⟨0,[]⟩,⟨zA,O,(zJt _).symm⟩,Weak.mk [true] ⟨zJ,zJ,zJ,zJ,zJ,zJ,T⟩ O⟩ ?_
 rintro ⟨k,outs⟩ ⟨hk,ho,hp⟩
 show AWP _ _ _ _ _ ⟨[(15,vI k)]++_,[E.vec sv1 56 20 (outs.map St.cells++(l.drop k).map St.cells)]++_⟩
 refine G O<|yI O<|Y<|zG<|zK O ?_ ?_<;>intro c1<;>try simp only [sx] at c1
 ·obtain ⟨s,hs⟩:=qZ l k zA
  have hsw:=yS (qA hs)
  have hse:=St.wt_eq s
  have hPs:=St.allF_eq (kR hP s (qA hs))
  refine zI<|zG<|zQ<|mo O O<|mm O<|zG<|mo O O<|A O<|qC O D zA (wL hs)<|qR O zAp<|zH one3 zZ O<|yF O<|Y<|qK O (fun c2=>?_) (fun c2=>?_)
  ·refine zT O<|A O<|A O<|A O<|A O<|A O<|qC O D zA (wL hs)<|qR O zAl<|zH one9 zZ O<|zW O (kU O O (hg s.Name) (vlr O))<|zW O (qT 0 O D O O O zA (zXq uE zA))<|zW O (kF O zAl O)<|kS O O (yM O sz9 O O O (zDp 0 O (mid_getS uE hs) O))<|Y<|zG<|mo O O<|A O<|A O<|A O<|qC O D zA (wL hs)<|qR O zFj<|zH wT zZ O<|A O<|qD O uB (zBn f c P hf s.Idx zA (fun x hx=>by have:=zBu hx;rw [Ix.wt] at this;omega) hPs.1) (vlr O)<|qP O<|qS O<|qS O<|zW O (qT 0 O D O O O zA uE)<|zW O (kF O zFj O)<|kS O O (yM O sz44 O O O (zDp 0 O (zCx uE) O))<|mm O<|mo O O<|yL O<|Y<|zK O (fun c3=>?_) (fun c3=>?_)
   ·try simp only [sx] at c3
    refine mo O O<|yJ 20 O<|mm O<|zF<|fin2 (rs_c O) (rs_c O) ?_
    rw [zSl hs hp (mSt_e1 (mIxs_err c3))];rfl
   ·exact w8
  ·refine zI<|zG<|mo O O<|A O<|A O<|A O<|qC O D zA (wL hs)<|qR O zFj<|zH wT zZ O<|A O<|qD O uB (zBn f c P hf s.Idx zA (fun x hx=>by have:=zBu hx;rw [Ix.wt] at this;omega) hPs.1) (vlr O)<|qP O<|qS O<|qS O<|zW O (qT 0 O D O O O zA (zXq uE zA))<|zW O (kF O zFj O)<|kS O O (yM O sz44 O O O (zDp 0 O (mid_getS uE hs) O))<|mm O<|mo O O<|yL O<|Y<|zK O (fun c3=>?_) (fun c3=>?_)
   ·try simp only [sx] at c3
    refine mo O O<|yJ 20 O<|mm O<|zF<|fin2 (rs_c O) (rs_c O) ?_
    rw [zSl hs hp (mSt_e1 (mIxs_err c3))];rfl
   ·exact w8
 ·have hme:=mSts_end hp zA
  rw [kL (l:=l) (k:=k) zA]
  simp only [ck,lAn]
  refine zY _ (yV 0 O (regs':=[(8,_)]) (μ':=[]) ⟨FLe.sl,T⟩ T)<|qO<|mo O O<|A O<|mm O<|zF<|fin2 (rs_c O) (rs_c O) ?_
  rw [hme];rfl
def zKp (f:Lf->Lf×Int) (c:C) (P:Lf->Prop) (hf:∀l,P l->FnPur cfg c [dK l] (.tup [dK (f l).1,vI (f l).2])) (g:lr->lr) (c9:C) (hg:∀s,FnPur cfg c9 [vS s] (vS (g s))) (s:St) (hP:bE P s.Body) (hl:bD s.Body<=1073741824):Pur cfg 57 [dA s.Body,.c c,.c c9] (.tup [dA (jU (fT f g s.Body)),vI (jV (fT f g s.Body))]):=by
  induction s using St.ind with
  |_ s ih=>exact zEj f c P hf g c9 hg s.Body hP (fun a ha=>ih a ha (St.allF_eq (kR hP a ha)).2.2 (by have:=yS ha;have:=St.body_wt a;omega)) hl
def zEl (f:Lf->Lf×Int) (c:C) (P:Lf->Prop) (hf:∀l,P l->FnPur cfg c [dK l] (.tup [dK (f l).1,vI (f l).2])) (g:lr->lr) (c9:C) (hg:∀s,FnPur cfg c9 [vS s] (vS (g s))) (l:List St) (hP:bE P l) (hl:bD l<=1073741824):Pur cfg 57 [dA l,.c c,.c c9] (.tup [dA (jU (fT f g l)),vI (jV (fT f g l))]):=
  zEj f c P hf g c9 hg l hP (fun s hs=>zKp f c P hf g c9 hg s (St.allF_eq (kR hP s hs)).2.2 (by have:=yS hs;have:=St.body_wt s;omega)) hl
def zUg (l:Lf) (hl:l.L.length<=1073741824):
    Pur cfg 107 [dK l] (dK l):=by
 refine zR func107 O ntmps107 results107 O fun z hz=>G O<|mj O fun b1=>zV O O (qH [none,some 2] O zr51 O) ?_
 rintro _ _ ⟨b2,rfl,rfl⟩
 refine Y<|zG<|qV 6 mixed uB O O<|mr O (zE O zFl O)<|mr O (zD O U O (J 1 O) O)<|mr O (zE O wM O)<|mr O (zD O zBs O (J 1 O) O)<|mr O (qG O uB (OwnR.pur (zSa l.L zA)) (vlr O))<|mr O (zDc O zr51 pl51 O)<|yQ<|rStR 0 sz51 O<|Y<|zF<|fin1 (zP kQ O (J 0 O) O) ?_
 exact O
def zZi (l:Lf) (hl:l.L.length<=1073741824):
    Pur cfg 106 [dK l] (.tup [dK (idF l).1,vI (idF l).2]):=by
 refine zR func106 O ntmps106 results106 O fun z hz=>G O<|mj O fun b1=>zV O O (qH [none,some 2] O zr51 O) ?_
 rintro _ _ ⟨b2,rfl,rfl⟩
 refine mm O<|G O<|zM kQ (J 1 O) O<|qD O uB (zUg l hl) (vlr O)<|rStR 0 sz51 O<|mm O<|zF<|fin2 (zP kQ O (J 0 O) O) (rs_c O) ?_
 exact O
def zJv (s:lr):
    Pur cfg 60 [vS s] (vS s):=by
 refine zR func60 O ntmps60 results60 O fun z hz=>ml O O<|mo O O<|mm O<|zF<|zS O ?_
 exact O
def zDz (l:List St) (hl:bD l<=1073741824):
    Pur cfg 74 [dA l] (dA l):=by
 refine zR func74 O ntmps74 results74 O fun z hz=>G O<|yJ 20 O<|Y<|mo O O<|qD O uB (zEl idF _ (fun l=>l.L.length<=1073741824) (fun l hl=>FnPur.of_pur (first:=[]) (cap:=[]) uB (zZi l hl)) (fun x=>x) _ (fun s=>FnPur.of_pur (first:=[]) (cap:=[]) uB (zJv s)) l (zKw hl) hl) (vlr O)<|qP O<|qS O<|qS O<|A O<|mm O<|mo O O<|mm O<|zF<|zS O ?_
 rw [mSts_id];rfl
def loopnest_At (n:Ns) (way:List Int) (hw:way.length<=1073741824) (hl:bD n.Body<=1000000000):
    Pur cfg 45 [vNs n,vIs way] (.tup [vSt (atT n.Body way).1,vB (atT n.Body way).2]):=by
 refine zR func45 O ntmps45 results45 O ?_
 intro z hz
 have htl:=trl_len way n.Body []
 have htl2:(fQ n.Body way).length<=way.length:=by unfold fQ;simpa using htl
 refine G O<|mj O fun b1=>zV O O (qH ly O zr56 O) ?_
 rintro _ _ ⟨b2,rfl,rfl⟩
 refine mm O<|G O<|zC O zAq<|zH kX (J 1 O) O<|A O<|qD O uB (zOb n.Body way hw) (vlr O)<|mm O<|zG<|mo O O<|qB O D<|yF O<|Y<|qK O (fun c1=>?_) (fun c1=>?_)
 ·have he:fQ n.Body way=[]:=aV zA
  have ha:=at_none he
  refine G O<|yH ly O zr56 pl56<|rStR 0 sz56 O<|mm O<|zF<|fin2 (zP zDv O (J 0 O) O) (rs_c O) ?_
  rw [ha];rfl
 ·have hne:fQ n.Body way≠[]:=fun h=>c1 (by rw [h];rfl)
  have hlast:=at_last hne
  have hok:=at_some hne
  refine zI<|mo O O<|A O<|qB O D<|zW O (yB O O O ⟨zA,zA⟩)<|zW O (zCk (k:=(fQ n.Body way).length-1) O D O (ag (fun n=>V.c (C.lit (.int .i64 n))) (by have:=List.length_pos_iff.2 hne;omega)) zA)<|qD O uB (show Pur cfg 74 [dA ((fQ n.Body way).drop ((fQ n.Body way).length-1))] (dA [(atT n.Body way).1]) by rw [hlast];exact zDz [(atT n.Body way).1] (by have:=atT_wt (l:=n.Body) (way:=way);simp only [bD];omega)) (vlr O)<|qC O D zA (show ([(atT n.Body way).1].map St.cells)[0]? =some (atT n.Body way).1.cs by rw [←St.cells_eq];rfl)<|zM zDv zZ O<|rStR 0 sz56 O<|mm O<|zF<|fin2 (zP zDv O (J 0 O) O) (rs_c O) ?_
  rw [hok];rfl
end Go.W
end
section
set_option maxRecDepth 10000
namespace Go.W
open Go Go.Eng Go.Proofs Go.L41 Go.Br Tryz
attribute [local irreducible] AWP RWP TD fK
def zRk (a b:List St) (hE:∀x,x∈a->∀y,Pur cfg 80 [vSt x,vSt y] (vB (decide (x=y)))) (ha:a.length<=4294967296):
    Pur cfg 43 [dA a,dA b] (vB (decide (a=b))):=by
 refine zR func43 O ntmps43 results43 O fun z hz=>ml O O<|zG<|mo O O<|qB O D<|A O<|qB O D<|yL O<|Y<|zK O (fun c1=>?_) (fun c1=>?_)
 ·exact n8
 ·try simp only [sx] at c1
  refine zI<|zG<|ml O O<|zQ<|zY ⟨[(5,.c _),(0,.c _),(1,.c _)],[]⟩ (Weak.mk [] ⟨zJ,zJ,zJ,T⟩ O)<|qL 1 0 O O (Nat) (fun k=>[(5,vI k)]) (fun k=>[]) (fun k=>k<=a.length/\(a.take k=b.take k)) (fun k=>a.length-k) ⟨0,⟨zA,O⟩,Weak.mk [] ⟨zJ,zJ,zJ,T⟩ O⟩ ?_
  rintro k ⟨hk,hp⟩
  refine zG<|mo O O<|A O<|qB O D<|yI O<|Y<|zK O (fun c2=>?_) (fun c2=>?_)
  ·try simp only [sx] at c2
   obtain ⟨x,hx⟩:=qZ a k zA
   obtain ⟨y,hy⟩:=qZ b k zA
   refine zI<|zG<|zQ<|zG<|qV 10 mixed uB O O<|mr O (zO O O)<|mr O (zO O O)<|mr O (qE O D O O zA (wL hx))<|mr O (zU O zDv O zZ O)<|mr O (zO O O)<|mr O (zO O O)<|mr O (qE O D O O zA (wL hy))<|mr O (zU O zDv O zZ O)<|mr O (qG O uB (hE x (qA hx) y) (vlr O))<|mr O (kG O O)<|yQ<|Y<|zK O (fun c3=>?_) (fun c3=>?_)
   ·exact j7
   ·exact p6
  ·exact m8
def base_Stmt_step (a:St) (ih:∀x,x∈a.Body->x.wt<=4294967296->∀y,Pur cfg 80 [vSt x,vSt y] (vB (decide (x=y)))) (ha:a.wt<=4294967296) (b:St):
    Pur cfg 80 [vSt a,vSt b] (vB (decide (a=b))):=by
 refine zR func80 O ntmps80 results80 O ?_
 intro z hz
 have hw:=St.wt_eq a
 have hbl:=kY a.Body
 refine G O<|mj O fun b1=>mj O fun b2=>mm O<|G O<|zC O zAp<|zH one3 (J 1 O) O<|zC O zAp<|zH one3 (J 0 O) O<|yF O<|A O<|rL0 O (fun g1_5=>zE O zAl O) O<|rL1 11 O (fun g1_5=>zD O one9 O (J 1 O) O) O<|rL0 O (fun g1_5=>zE O zAl O) O<|rL1 13 O (fun g1_5=>zD O one9 O (J 0 O) O) O<|rLz [(12,_),(14,_)] O gv1 ⟨O,O,O,O,T⟩ (fun g1_5=>zNi O O O) O<|yT O (fun h=>h)<|A O<|rL0 O (fun g1_12=>zE O zAt O) O<|rL1 18 O (fun g1_12=>zD O one3 O (J 1 O) O) O<|rL0 O (fun g1_12=>zE O zAt O) O<|rL1 20 O (fun g1_12=>zD O one3 O (J 0 O) O) O<|rLz [(19,_),(21,_)] O gv1 ⟨O,O,O,O,T⟩ (fun g1_12=>yN O O O) O<|yT O (fun h=>h)<|A O<|rL0 O (fun g1_19=>zE O zKj O) O<|rL1 25 O (fun g1_19=>zD O one3 O (J 1 O) O) O<|rL0 O (fun g1_19=>zE O zKj O) O<|rL1 27 O (fun g1_19=>zD O one3 O (J 0 O) O) O<|rLz [(26,_),(28,_)] O gv1 ⟨O,O,O,O,T⟩ (fun g1_19=>yN O O O) O<|yT O (fun h=>h)<|A O<|rL0 O (fun g1_26=>zE O zQs O) O<|rL1 32 O (fun g1_26=>zD O one3 O (J 1 O) O) O<|rL0 O (fun g1_26=>zE O zQs O) O<|rL1 34 O (fun g1_26=>zD O one3 O (J 0 O) O) O<|rLz [(33,_),(35,_)] O gv1 ⟨O,O,O,O,T⟩ (fun g1_26=>yN O O O) O<|yT O (fun h=>h)<|A O<|rL0 O (fun g1_33=>zE O zFj O) O<|rL1 39 O (fun g1_33=>zD O wT O (J 1 O) O) O<|rL0 O (fun g1_33=>zE O zFj O) O<|rL1 41 O (fun g1_33=>zD O wT O (J 0 O) O) O<|rLz [(40,_),(42,_)] O gv1 ⟨O,O,O,O,T⟩ (fun g1_33=>qG O uB (zTx a.Idx b.Idx zA zA) (vlr O)) O<|yT O (fun h=>h)<|A O<|rL0 O (fun g1_40=>zE O zBk O) O<|rL1 46 O (fun g1_40=>zU O yY O (J 1 O) O) O<|rL0 O (fun g1_40=>zE O zBk O) O<|rL1 48 O (fun g1_40=>zU O yY O (J 0 O) O) O<|rLz [(47,_),(49,_)] O gv1 ⟨O,O,O,O,T⟩ (fun g1_40=>qG O uB (base_Expr a.E b.E zA) (vlr O)) O<|yT O (fun h=>h)<|A O<|rL0 O (fun g1_47=>zE O kV O) O<|rL1 53 O (fun g1_47=>zD O kX O (J 1 O) O) O<|rL0 O (fun g1_47=>zE O kV O) O<|rL1 55 O (fun g1_47=>zD O kX O (J 0 O) O) O<|rLz [(54,_),(56,_)] O gv1 ⟨O,O,O,O,T⟩ (fun g1_47=>qG O uB (zRk a.Body b.Body (fun x hx y=>ih x hx (by have:=yS hx;omega) y) zA) (vlr O)) O<|yT O (fun h=>h)<|mm O<|zF<|zS O ?_
 exact ag vB (st_eq a b)
def base_Stmt (a b:St) (ha:a.wt<=4294967296):Pur cfg 80 [vSt a,vSt b] (vB (decide (a=b))):=by
  induction a using St.ind generalizing b with
  |_ a ih=>exact base_Stmt_step a (fun x hx h y=>ih x hx y h) ha b
def base_Stmts (a b:List St) (ha:bD a<=4294967296):Pur cfg 43 [dA a,dA b] (vB (decide (a=b))):=
  zRk a b (fun x hx y=>base_Stmt x y (by have:=yS hx;omega)) (by have:=kY a;omega)
def base_Nest (a b:Ns) (ha:a.Ok):
    Pur cfg 15 [vNs a,vNs b] (vB (decide (a=b))):=by
 refine zR func15 O ntmps15 results15 O ?_
 intro z hz
 have hab:=ha.bufs
 have hbw:=ha.body
 refine G O<|mj O fun b1=>mj O fun b2=>mm O<|zG<|G O<|zC O zAm<|zH zDx (J 1 O) O<|qB O el22<|zC O zAm<|zH zDx (J 0 O) O<|qB O el22<|yL O<|Y<|zK O (fun c1=>?_) (fun c1=>?_)
 ·exact n8
 ·try simp only [sx] at c1
  refine zI<|zG<|ml O O<|zQ<|zY ⟨[(5,.c _),(2,.c _),(3,.c _)],[_,_]⟩ (Weak.mk [true,true] ⟨zJ,zJ,zJ,T⟩ O)<|qL 1 0 O O (Nat) (fun k=>[(5,vI k)]) (fun k=>[]) (fun k=>k<=a.Bufs.length/\(a.Bufs.take k=b.Bufs.take k)) (fun k=>a.Bufs.length-k) ⟨0,⟨zA,O⟩,Weak.mk [true,true] ⟨zJ,zJ,zJ,T⟩ O⟩ ?_
  rintro k ⟨hk,hp⟩
  refine zG<|mo O O<|zC O zAm<|zH zDx (J 1 O) O<|qB O el22<|yI O<|Y<|zK O ?_ ?_<;>intro c2<;>try simp only [sx] at c2
  ·obtain ⟨x,hx⟩:=qZ a.Bufs k zA
   obtain ⟨y,hy⟩:=qZ b.Bufs k zA
   refine zI<|zG<|zQ<|zG<|kK 13 2 [⟨0,.q []⟩,⟨1,.q [3]⟩,⟨2,.q []⟩,⟨3,.q []⟩,⟨4,.q []⟩,⟨5,.q []⟩,⟨6,.q [2]⟩,⟨7,.q []⟩,⟨8,.q []⟩,⟨9,.q []⟩,⟨10,.f 1⟩,⟨11,.f 0⟩,⟨12,.g 1 []⟩] mixed uB uB O O O<|zX O<|zX O<|zX O<|zX O<|zX O<|zX O<|zX O<|zX O<|zX O<|zX O<|zQp O O (zFg (qH lw O zr94 O)) ⟨_,_,0,O,O⟩<|zQp O O (zFg (qH lw O zr94 O)) ⟨_,_,0,O,O⟩<|zX O<|zBj<|mq O (zE O zAm O)<|mq O (zD O zDx O (J 0 O) O)<|mq O (zO O O)<|mq O (qE O el22 O O zA (getm uA))<|mq O (zU O zMl O zZ O)<|mq O (zE O zAm O)<|mq O (zD O zDx O (J 0 O) O)<|mq O (zO O O)<|mq O (qE O el22 O O zA (getm uA))<|mq O (zU O zMl O zZ O)<|zPk O O ?_
   rintro _ _ ⟨b3,rfl,rfl⟩
   refine zPk O O ?_
   rintro _ _ ⟨b4,rfl,rfl⟩
   refine sq_v0 O O zB O O O (yM O sz94 O O O (zFu 0 O O)) O<|zBe O<|rStR 0 sz94 O<|Y<|G O<|zC O zFh<|zH one9 (J 1 O) O<|zC O zFh<|zH one9 (J 0 O) O<|zW O (zBq O O O)<|A O<|rL0 O (fun g7_5=>zE O zGy O) O<|rL1 38 O (fun g7_5=>zU O yE O (J 1 O) O) O<|rL0 O (fun g7_5=>zE O zGy O) O<|rL1 40 O (fun g7_5=>zU O yE O (J 0 O) O) O<|rLz [(39,_),(41,_)] O gv1 ⟨O,O,O,O,T⟩ (fun g7_5=>zAb O fl48 O O O) O<|r_or O (fun h=>(lzf h))<|A O<|rL0 O (fun g7_12=>zE O zQr O) O<|rL1 45 O (fun g7_12=>zD O one3 O (J 1 O) O) O<|rL0 O (fun g7_12=>zE O zQr O) O<|rL1 47 O (fun g7_12=>zD O one3 O (J 0 O) O) O<|rLz [(46,_),(48,_)] O gv1 ⟨O,O,O,O,T⟩ (fun g7_12=>kB O O O) O<|r_or O (fun h=>(lzf h))<|A O<|rL0 O (fun g7_19=>zE O zGx O) O<|rL1 52 O (fun g7_19=>zD O zBz O (J 1 O) O) O<|rL0 O (fun g7_19=>zE O zGx O) O<|rL1 54 O (fun g7_19=>zD O zBz O (J 0 O) O) O<|rLz [(53,_),(55,_)] O gv1 ⟨O,O,O,O,T⟩ (fun g7_19=>qG O uB (zZx x.Dims y.Dims (ha.dims x (qA hx))) (vlr O)) O<|rL1 56 O (fun g7_19=>kG O O) O<|r_or O (fun h=>(lzf h))<|Y<|zK O (fun c3=>?_) (fun c3=>?_)
   ·have c3:(!decide (x.Name=y.Name)|| !bZ [cI x.T.Kind,cI x.T.Bits,cI x.T.Frac,cI x.T.Round,cI x.T.Over] [cI y.T.Kind,cI y.T.Bits,cI y.T.Frac,cI y.T.Round,cI y.T.Over]|| !decide (x.Use=y.Use)|| !decide (x.Dims=y.Dims))=true:=c3
    rw [bf_ne] at c3
    have c3:¬x=y:=by simpa using c3
    refine ml O O<|zF<|zS O ?_
    rw [qX (fun h=>zGr hx hy c3 (by rw [h]))]
   ·have c3:(!decide (x.Name=y.Name)|| !bZ [cI x.T.Kind,cI x.T.Bits,cI x.T.Frac,cI x.T.Round,cI x.T.Over] [cI y.T.Kind,cI y.T.Bits,cI y.T.Frac,cI y.T.Round,cI y.T.Over]|| !decide (x.Use=y.Use)|| !decide (x.Dims=y.Dims))=false:=by first|exact c3|simpa using c3
    rw [bf_ne] at c3
    have c3:x=y:=by simpa using c3
    refine zI<|zT O<|A O<|qI O ⟨zA,zA⟩<|A O<|Y ?_
    refine ⟨k+1,⟨zA,zCd hx hy hp c3⟩,zA,Weak.mk [false,false,true,true] ⟨zJ,zJ,zJ,T⟩ O⟩
  ·refine qO<|G O<|zC O zAq<|zH kX (J 1 O) O<|zC O zAq<|zH kX (J 0 O) O<|qD O uB (base_Stmts a.Body b.Body zA) (vlr O)<|mm O<|zF<|zS O ?_
   have hbe:=zEo hp zA zA
   exact ag vB (da.2 (by rw [Ns.eq_iff];simp [hbe]))
def lin_SubstR (l:Lf) (s:lr) (u:Lf) (hl:l.L.length<=4294967296) (ht:u.L.length<=4294967296) (hrl:l.rng) (hrt:u.rng):Pur cfg 59 [dK l,vS s,dK u] (.tup [dK (bS l s u).1,vI (bS l s u).2]):=by
  have h:=lin_Substitute l s u hl ht hrl hrt
  rw [subst_eq hrl] at h;exact h
end Go.W
end
section
set_option maxRecDepth 10000
namespace Go.W
open Go Go.Eng Go.Proofs Go.L41 Go.Br Tryz
attribute [local irreducible] AWP RWP TD fK
def substitute_1 (n:lr) (u:Lf) (hu:u.L.length<=4294967296) (hru:u.rng) (l:Lf) (hl:l.L.length<=1073741824) (hr:l.rng):
    Pur cfg 58 [dK l,.c (.iptr [cS n]),.c (.iptr u.cells)] (.tup [dK (sbF n u l).1,vI (sbF n u l).2]):=by
 refine zR func58 O ntmps58 results58 O fun z hz=>G O<|mj O fun b1=>zV O O (qH [none,some 2] O zr51 O) ?_
 rintro _ _ ⟨b2,rfl,rfl⟩
 refine mm O<|G O<|zM kQ (J 1 O) O<|zH one9 zZ O<|zM kQ zZ O<|qD O uB (lin_SubstR l n u zA hu hr hru) (vlr O)<|yG O<|qS O<|rStR 0 sz51 O<|mm O<|zF<|fin2 (zP kQ O (J 0 O) O) (rs_c O) ?_
 exact O
def zBo (l:List St) (n:lr) (u:Lf) (hu:u.L.length<=4294967296) (hru:u.rng) (hl:bD l<=1000000000) (hr:bE Lf.rng l):
    Pur cfg 22 [dA l,vS n,dK u] (.tup [dA (jU (sbT n u l)),vI (jV (sbT n u l))]):=by
 refine zR func22 O ntmps22 results22 O fun z hz=>G O<|mj O fun b1=>yU _ (yX 0 O 4 _ PLe.ptr)<|mj O fun b2=>yU _ (yX 0 O 5 _ PLe.ptr)<|yJ 20 O<|mm O<|mo O O<|zW O (zFa O O O O O)<|qD O uB (zEl (sbF n u) _ (fun l=>l.rng/\l.L.length<=1073741824) (fun l hl=>FnPur.of_pur (first:=[]) (cap:=[.iptr [cS n],.iptr u.cells]) uB (substitute_1 n u hu hru l hl.2 hl.1)) (fun x=>x) _ (fun s=>FnPur.of_pur (first:=[]) (cap:=[]) uB (zJv s)) l (zHd l hr (zKw zA)) zA) (vlr O)<|qS O<|qS O<|A O<|mm O<|zF<|fin2 (rs_c O) (rs_c O) ?_
 exact O
end Go.W
end
section
set_option maxRecDepth 10000
namespace Go.W
open Go Go.Eng Go.Proofs Go.L41 Go.Br Tryz
attribute [local irreducible] AWP RWP TD fK
/-! sO trees: the cells of forms,indices,expressions,statements,buffers and nests all of whose slices are new. -/
def pl25:fW prog 25=some [(0,1),(1,1)]:=by kernel_rfl
def sz22:(prog.info? 22).map (·.size)=some 1:=by kernel_rfl
def sz25:(prog.info? 25).map (·.size)=some 2:=by kernel_rfl
def zr25:fL prog 25=some [(Value.slice none 0 0),(Value.slice none 0 0)]:=by kernel_rfl
end Go.W
end
section
set_option maxRecDepth 10000
namespace Go.W
open Go Go.Eng Go.Proofs Go.L41 Go.Br Tryz
attribute [local irreducible] AWP RWP TD fK
end Go.W
end
section
set_option maxRecDepth 10000
namespace Go.W
open Go Go.Eng Go.Proofs Go.L41 Go.Br Tryz
attribute [local irreducible] AWP RWP TD fK
end Go.W
end
section
set_option maxRecDepth 10000
namespace Go.W
open Go Go.Eng Go.Proofs Go.L41 Go.Br Tryz
attribute [local irreducible] AWP RWP TD fK
structure P2 where
  (a0 a1:Value)
def P2.vals (p:P2):List Value:=[p.a0,p.a1]
abbrev P2.v (p:P2):V:=.agg [.lit p.a0,.lit p.a1]
end Go.W
end
section
set_option maxRecDepth 10000
namespace Go.W
open Go Go.Eng Go.Proofs Go.L41 Go.Br Tryz
attribute [local irreducible] AWP RWP TD fK
end Go.W
end
section
set_option maxRecDepth 10000
namespace Go.W
open Go Go.Eng Go.Proofs Go.L41 Go.Br Tryz
attribute [local irreducible] AWP RWP TD fK
def pI (ls:List (List St)):Nat:=ls.flatten.length
variable {ls:List (List St)} {x:List St} {k:Nat}
def totK_next (h:ls[k]? =some x):pI (ls.take (k+1))=pI (ls.take k)+x.length:=by
  unfold pI;rw [yR h,gy,lLa];simp
def totK_le (ls:List (List St)) (k:Nat):pI (ls.take k)<=pI ls:=by
  have:pI ls=pI (ls.take k)+pI (ls.drop k):=by unfold pI;rw [←lLa,←gy,aM]
  omega
def totK_get (h:ls[k]? =some x):pI (ls.take k)+x.length<=pI ls:=by
  rw [←totK_next h];exact totK_le _ _
def totK_flat (h:ls[k]? =some x):(ls.take k).flatten.length+x.length<=pI ls:=totK_get h
def el208:fB prog 208=some (23,1,24):=by kernel_rfl
def ik3:tU prog 3=some .i64:=by kernel_rfl
def slices_Grow_st (n:Nat) (hn:n<=4294967296):
    OwnR cfg 148 [.c (.lit (.slice none 0 0)),vI n] 56 20 ([]):=by
 refine zR func148 O ntmps148 results148 O fun z hz=>G O<|yJ 20 O<|Y<|zG<|mo O O<|yI O<|Y<|zK O ?_ ?_<;>intro c1<;>try simp only [sx] at c1
 ·exact absurd c1 zA
 ·refine zI<|zG<|mo O O<|A O<|zW O (zZf O D O)<|A O<|zW O (zZd O D O)<|zW O (yB O O O ⟨zA,zA⟩)<|zW O (yB O O O ⟨zA,zA⟩)<|mm O<|mo O O<|zW O (yD O O O)<|Y<|zK O (fun c2=>?_) (fun c2=>?_)
  ·try simp only [sx] at c2
   refine zT O<|A O<|A O<|zW O (zZf O D O)<|zW O (det_cut_nil O D O O)<|A O<|zV O O (ope_grow n O D ik3 O O zA zA zA zA) ?_
   rintro _ _ ⟨b1,cap1,rfl,hcap1,rfl⟩
   refine A O<|zW O (zZd O D O)<|zW O (det_cut_row 0 O D O O O ⟨zA,hcap1⟩)<|mm O<|mo O O<|mm O<|zF<|zS O ?_
   exact ⟨_,O,O⟩
  ·refine zI<|mo O O<|yU _ (wE 56 20)<|mm O<|zF<|zS O ?_
   exact ⟨_,O,O⟩
def zUb (ls:List (List St)) (hl:ls.length<=4294967296) (ht:pI ls<=4294967296):
    OwnR cfg 123 [.c (.sl 1 (ls.map fun l=>[.sl 20 (l.map St.cells)]))] 56 20 (ls.flatten.map St.cells):=by
 refine zR func123 O ntmps123 results123 O fun z hz=>G O<|yJ 20 O<|Y<|ml O O<|zG<|mo O O<|qB O el208<|mm O<|zQ<|zY ⟨[(11,.c _),(3,.c _),(0,.c _),(9,.c _),(10,.c _)],[]⟩ (Weak.mk [] ⟨zJ,zJ,zJ,zJ,zJ,T⟩ O)<|qL 2 0 O O (Nat) (fun k=>[(11,vI k),(3,vI (pI (ls.take k)))]) (fun k=>[]) (fun k=>k<=ls.length) (fun k=>ls.length-k) ⟨0,zA,Weak.mk [] ⟨zJ,zJ,zJ,zJ,zJ,T⟩ O⟩ ?_
 rintro k hk
 refine G O<|yI O<|Y<|zG<|zK O ?_ ?_<;>intro c1<;>try simp only [sx] at c1
 ·obtain ⟨x,hx⟩:=qZ ls k zA
  have hb1:=totK_get hx
  refine zI<|zG<|zQ<|G O<|qC O el208 zA (getm uA)<|zH kX zZ O<|mm O<|mo O O<|A O<|qB O D<|qI O ⟨zA,zA⟩<|mm O<|mo O O<|yI O<|Y<|zK O ?_ ?_<;>intro c2<;>try simp only [sx] at c2
  ·exact absurd c2 zA
  ·refine zI<|zT O<|qI O ⟨zA,zA⟩<|A O<|Y ?_
   refine ⟨k+1,zA,zA,Weak.mk [] ⟨zJ,VLe.of_eq (ag vI (by rw [totK_next hx];simp)),zJ,zJ,zJ,T⟩ O⟩
 ·have hT:pI (ls.take k)=pI ls:=by rw [yW zA]
  refine qO<|mo O O<|zV O O (zBg O uB (slices_Grow_st (pI (ls.take k)) zA) (vlr O)) ?_
  rintro _ _ ⟨sv1,rfl,rfl⟩
  refine mm O<|zG<|mo O O<|qB O el208<|mm O<|zQ<|zY ⟨[(27,.c _),(6,.c _),(25,.c _),(26,.c _)],[_]⟩ (Weak.mk [true] ⟨zJ,zJ,zJ,zJ,T⟩ O)<|qL 2 1 O O (Nat×Value) (fun ⟨k,sv⟩=>[(27,vI k),(6,.c (.lit sv))]) (fun ⟨k,sv⟩=>[E.vec sv 56 20 ((ls.take k).flatten.map St.cells)]) (fun ⟨k,sv⟩=>k<=ls.length) (fun ⟨k,sv⟩=>ls.length-k) ⟨⟨0,_⟩,zA,Weak.mk [true] ⟨zJ,zJ,zJ,zJ,T⟩ O⟩ ?_
  rintro ⟨k,sv⟩ hk
  show AWP _ _ _ _ _ ⟨[(27,vI k),(6,.c (.lit sv))]++_,[E.vec sv 56 20 ((ls.take k).flatten.map St.cells)]++_⟩
  refine G O<|yI O<|Y<|zG<|zK O ?_ ?_<;>intro c3<;>try simp only [sx] at c3
  ·obtain ⟨x,hx⟩:=qZ ls k zA
   refine zI<|zG<|zQ<|G O<|qC O el208 zA (getm uA)<|zH kX zZ O<|mm O<|zT O<|A O<|A O<|zV O O (yO 0 O D O O O (by have:=totK_flat hx;simp only [lLm];omega) (by have:=totK_flat hx;simp only [lLm];omega)) ?_
   rintro _ _ ⟨sv2,rfl,rfl⟩
   refine mm O<|zT O<|qI O ⟨zA,zA⟩<|A O<|Y ?_
   refine ⟨⟨k+1,sv2⟩,zA,(by show ls.length-(k+1)<ls.length-k;omega),Weak.mk [true] ⟨zJ,zJ,zJ,zJ,T⟩ (by show _=[E.vec sv2 _ 20 ((ls.take (k+1)).flatten.map St.cells)]++_;rw [yR hx,gy,aC];simp only [ez,List.flatten_nil,lAn];rfl)⟩
  ·refine qO<|mo O O<|mm O<|zF<|zS O ?_
   exact ⟨_,O,by rw [yW zA];rfl⟩
def zWn (x y z:List St) (hx:x.length<=1073741824) (hy:y.length<=1073741824) (hz:z.length<=1073741824):OwnR cfg 123 [.c (.sl 1 [[.sl 20 (x.map St.cells)],[.sl 20 (y.map St.cells)],[.sl 20 (z.map St.cells)]])] 56 20 ((x++y++z).map St.cells):=by
  have h:=zUb [x,y,z] uD (by simp [pI];omega)
  simpa using h
end Go.W
end
section
set_option maxRecDepth 10000
namespace Go.W
open Go Go.Eng Go.Proofs Go.L41 Go.Br Tryz
attribute [local irreducible] AWP RWP TD fK
def zr23:fL prog 23=some [(Value.slice none 0 0)]:=by kernel_rfl
def replaceIn_one (sv:Value) (l:List St) (i:Int) (q:List St) (hi:0<=i/\i<l.length) (hl:l.length<=1073741823) (hq:q.length<=1073741823):
    Con cfg 93 [.c (.lit sv),vIs [i],dA q] [.vec sv 56 20 (l.map St.cells)] fun r μ'=>∃sv',r=.c (.lit sv')/\μ'=[.vec sv' 56 20 ((jI [i] l q).map St.cells)]:=by
 refine zR func93 O ntmps93 results93 O ?_
 intro z hz
 have hw:IntKind.i64.wrap (i+1)=i+1:=jr _ ⟨zA,zA⟩
 refine G O<|yJ 20 O<|Y<|mo O O<|qC O el38 zA O<|zH one3 zZ O<|mm O<|zG<|mo O O<|qB O el38<|yF O<|Y<|qK O (fun c1=>?_) (fun c1=>?_)
 ·refine zG<|zY _ (yV 0 O (regs':=[(0,_)]) (μ':=[]) ⟨FLe.sl,T⟩ T)<|qV 9 mixed uB O O<|mr O (zO O O)<|mr O (zO O O)<|mr O (zTu (k:=i.toNat) O D O (ag (fun n=>V.c (C.lit (.int .i64 n))) zA) zA)<|mr O (zO O O)<|mr O (zO O O)<|mr O (zO O O)<|mr O (zEs O O O ⟨zA,zA⟩)<|mr O (zCk (k:=i.toNat+1) O D O (ag (fun n=>V.c (C.lit (.int .i64 n))) zA) zA)<|mr O (yA O el208 zr23 O O O O)<|yQ<|zV O O (zBg O uB (zWn (l.take i.toNat) q (l.drop (i.toNat+1)) (by rw [aG];omega) zA (by rw [ct];omega)) (vlr O)) ?_
  rintro _ _ ⟨sv1,rfl,rfl⟩
  refine mm O<|zF<|zS O ?_
  exact ⟨_,O,by rw [zPu]⟩
 ·exact absurd O c1
end Go.W
end
section
set_option maxRecDepth 10000
namespace Go.W
open Go Go.Eng Go.Proofs Go.L41 Go.Br Tryz
attribute [local irreducible] AWP RWP TD fK
def csB (s:St) (c:C):List C:=[cI s.Op,cS s.Name,cI s.Many,cI s.Mark,cI s.Fold,.sl 4 (s.Idx.map Ix.cells),cI s.E.Op,cS s.E.Name,cI s.E.Val.N,cI s.E.Val.D,cI s.E.Ty.Kind,cI s.E.Ty.Bits,cI s.E.Ty.Frac,cI s.E.Ty.Round,cI s.E.Ty.Over,cI s.E.Lin.K,.sl 2 (s.E.Lin.L.map Mono.cells),.sl 4 (s.E.Idx.map Ix.cells),.sl 13 (s.E.Args.map Ex.cells),c]
def csB_set (s:St) (b:List St):csB s (.sl 20 (b.map St.cells))=(pJ s b).cells:=by rw [St.cells_eq];rfl
def rep_in {l:List St} {i:Int} (h:0<=i/\i<l.length) (s:St):(l.map St.cells).set i.toNat s.cells=(l.take i.toNat++[s]++l.drop (i.toNat+1)).map St.cells:=by
  have hl:i.toNat<l.length:=by omega
  rw [iS,ab (by rw [lLm];exact hl)]
  simp [List.map_take,List.map_drop]
def replaceIn_in (sv sv1:Value) (l:List St) (i:Int) (p:List Int) (rest:List E) (q:List St) (hp:p≠[]) (hi:0<=i/\i<l.length) (ih:Con cfg 93 [.c (.lit sv1),vIs p,dA q] rest (fun r μ'=>∃sv',r=.c (.lit sv')/\μ'=[.vec sv' 56 20 ((jI p (l.getD i.toNat zSt).Body q).map St.cells)])):
    Con cfg 93 [.c (.lit sv),vIs (i::p),dA q] (.vec sv 56 20 ((l.map St.cells).set i.toNat (csB (l.getD i.toNat zSt) (.lit sv1)))::rest) (fun r μ'=>∃sv',r=.c (.lit sv')/\μ'=[.vec sv' 56 20 ((jI (i::p) l q).map St.cells)]):=by
 refine zR func93 O ntmps93 results93 O ?_
 intro z hz
 generalize hs0:l.getD i.toNat zSt=s0 at *
 refine G O<|yJ 20 O<|Y<|mo O O<|qC O el38 zA O<|zH one3 zZ O<|mm O<|zG<|mo O O<|qB O el38<|yF O<|Y<|qK O (fun c1=>?_) (fun c1=>?_)
 ·exact absurd (aV (by simp at c1;omega)) hp
 ·refine zI<|zG<|awp_draw_s 10 [true,true,false,false,false,false,false,false,false,false] iD mixed uB O O O<|td2_detA O O (fun _=>zO O O)<|td2_detA O O (fun _=>zO O O)<|zKv O O (zO O O)<|zKv O O (zO O O)<|zKv O O (qT 0 O D O O O zA uE)<|zKv O O (kF O kV O)<|zKv O O (zD O kX O (wX 0 O (zCx uE)) O)<|zKv O O (zO O O)<|zKv O O (zCk (k:=1) O el38 O O uD)<|zKv O O (zO O O)<|td2_nil ?_
  refine ⟨_,ope_call_tail O uB ih (vlr O),fun _ _ _=>T,?_⟩
  rintro _ _ ⟨sv9,rfl,rfl⟩
  refine zW O (qT 0 O D O O O zA uE)<|zW O (kF O kV O)<|kS O O (yM O sz23 O O O (zDp 0 O (zCx uE) O))<|Y<|zG<|zY _ (yV 1 O (regs':=[]) (μ':=[_]) T ⟨EFle.vec (r':=[_,_,_,_,_,_,_,_,_,_,_,_,_,_,_,_,_,_,_,_]) (zCx uE) ⟨.inl O,.inl O,.inl O,.inl O,.inl O,.inl O,.inl O,.inl O,.inl O,.inl O,.inl O,.inl O,.inl O,.inl O,.inl O,.inl O,.inl O,.inl O,.inl O,.inr ⟨O,O⟩,T⟩,T⟩)<|zT O<|A O<|mm O<|zF<|zS O ?_
  refine ⟨_,O,?_⟩
  rw [fz,fz]
  have e1:=rep_in hi (pJ s0 (jI p s0.Body q))
  rw [zUy hp,hs0,←e1,←csB_set]
  rfl
end Go.W
end
section
set_option maxRecDepth 10000
namespace Go.W
open Go Go.Eng Go.Proofs Go.L41 Go.Br Tryz
attribute [local irreducible] AWP RWP TD fK
def chE:List (Int×Value)->List St->List E
  |[],_=>[]
  |[(_,sv)],l=>[.vec sv 56 20 (l.map St.cells)]
  |(i,sv)::(j,sv1)::r,l=>.vec sv 56 20 ((l.map St.cells).set i.toNat (csB (l.getD i.toNat zSt) (.lit sv1)))::chE ((j,sv1)::r) (l.getD i.toNat zSt).Body
def zPt (q:List St) (hq:q.length<=2000000):∀(r:List (Int×Value)) (i:Int) (sv:Value) (l:List St),rE (i::r.map Prod.fst) l->bD l<=2000000->
    Con cfg 93 [.c (.lit sv),vIs (i::r.map Prod.fst),dA q] (chE ((i,sv)::r) l) fun r' μ'=>∃sv',r'=.c (.lit sv')/\μ'=[.vec sv' 56 20 ((jI (i::r.map Prod.fst) l q).map St.cells)]
  |[],i,sv,l,hw,hl=>replaceIn_one sv l i q hw.1 (by have:=kY l;omega) zA
  |(j,sv1)::r,i,sv,l,hw,hl=>by
    rw [chE]
    exact replaceIn_in sv sv1 l i (j::r.map Prod.fst) (chE ((j,sv1)::r) (l.getD i.toNat zSt).Body) q uD hw.1
      (zPt q hq r j sv1 _ hw.2 (by have:=yS (qA (zWi hw.1));have:=St.body_wt (l.getD i.toNat zSt);omega))
end Go.W
end
section
set_option maxRecDepth 10000
namespace Go.W
open Go Go.Eng Go.Proofs Go.L41 Go.Br Tryz
attribute [local irreducible] AWP RWP TD fK
variable {k:Nat}
def zQe {α:Type} {l:List α} {x:α} (h:l[k]? =some x):k<l.length:=(ai.1 h).1
def nF (l:List St) (i:Nat) (v:Value) (k:Nat):List (List C):=((l.map St.cells).set i (csB (l.getD i zSt) (.lit v))).take k++(l.drop k).map St.cells
variable {i:Nat} {l:List St} {s:St}
def rowsI_get {v:Value} (h:l[k]? =some s):(nF l i v k)[k]? =some s.cs:=by
  have:=zQe h
  unfold nF;exact mid_getS uE h
def rowsI_lt {v:Value} (h:l[k]? =some s):k<(nF l i v k).length:=by
  have:=zQe h
  unfold nF;simp;omega
variable {b:C}
def rowsI_set {v v9:Value} (h:l[k]? =some s) (hb:(k=i/\b=.lit v9)∨(k≠i/\b=.sl 20 (s.Body.map St.cells))):(nF l i v k).set k (csB s b)=nF l i (if k=i then v9 else v) (k+1):=by
  have hk:=zQe h
  have hm:(l.map St.cells)[k]? =some s.cells:=by rw [bu,h];rfl
  unfold nF
  rw [zSi uE h]
  congr 1
  rcases hb with ⟨rfl,rfl⟩|⟨hne,rfl⟩
  · rw [ab rfl,gw (aH k),yR (l:=(l.map St.cells).set k (csB (l.getD k zSt) (.lit v9))) (x:=csB s (.lit v9)),gw (aH k)]
    rw [dk (by simpa using hk),show l.getD k zSt=s by rw [aT,h];rfl]
  · rw [aa hne,yR (l:=(l.map St.cells).set i (csB (l.getD i zSt) (.lit v))) (x:=csB s (.sl 20 (s.Body.map St.cells)))]
    rw [gt (fun h=>hne h.symm),hm,csB_set,setB_self]
def rowsI_none (l:List St) (v:Value):nF l l.length v l.length=l.map St.cells:=by
  unfold nF
  rw [List.set_eq_of_length_le uD,aS uD,iv];simp
def rowsI_all (l:List St) (i:Nat) (v:Value):nF l i v l.length=(l.map St.cells).set i (csB (l.getD i zSt) (.lit v)):=by
  unfold nF
  rw [aS uD,iv];simp
variable {c:C}
def invX {X Y:List E} {v:Value} {Q:Value->List E->Prop} (hX:k<=i->X=[]) (hb:(k=i/\b=.lit v/\Q v Y)∨(k≠i/\b=c/\Y=[])):k+1<=i->X++Y=[]:=by
  intro h
  rcases hb with ⟨h1,_,_⟩|⟨_,_,rfl⟩
  · omega
  · rw [hX zA];rfl
def invQ {X Y:List E} {v v0:Value} {Q:Value->List E->Prop} (hX:k<=i->X=[]) (hQ:i<k->Q v0 X) (hb:(k=i/\b=.lit v/\Q v Y)∨(k≠i/\b=c/\Y=[])):i<k+1->Q (if k=i then v else v0) (X++Y):=by
  intro h
  rcases hb with ⟨h1,_,hq⟩|⟨h1,_,rfl⟩
  · rw [ab h1,hX zA];exact hq
  · rw [aa h1,lAn];exact hQ zA
def hdV:List (Int×Value)->Value
  |[]=>.slice none 0 0
  |(_,v)::_=>v
variable {P:Lf->Prop}
def mapIx_id (hf:∀l,P l->FnPur cfg c [dK l] (.tup [dK l,vI 0])) (i:List Ix) (hi:i.length<=4294967296) (hA:∀x,x∈i->x.At.length<=4294967296) (hP:gK P i):Pur cfg 91 [jF i,.c c] (.tup [jF i,vI 0]):=by
  have h:=zBn idF c P hf i hi hA hP
  rw [mIxs_id] at h;exact h
def mapEx_id (hf:∀l,P l->FnPur cfg c [dK l] (.tup [dK l,vI 0])) (e:Ex) (hP:e.allF P) (he:e.cnt<=4294967296):Pur cfg 92 [vE e,.c c] (.tup [vE e,vI 0]):=by
  have h:=zFp idF c P hf e hP he
  rw [mEx_id] at h;exact h
def mapSts_id {c9:C} (hf:∀l,P l->FnPur cfg c [dK l] (.tup [dK l,vI 0])) (hg:∀s,FnPur cfg c9 [vS s] (vS s)) (l:List St) (hP:bE P l) (hl:bD l<=1073741824):Pur cfg 57 [dA l,.c c,.c c9] (.tup [dA l,vI 0]):=by
  have h:=zEl idF c P hf (fun x=>x) c9 hg l hP hl
  rw [mSts_id] at h;exact h
def zOa {c9:C} (hf:∀l,P l->FnPur cfg c [dK l] (.tup [dK l,vI 0])) (hg:∀s,FnPur cfg c9 [vS s] (vS s)) (l:List St) (hP:bE P l) (i:Nat) (Q:Value->List E->Prop) (ih:∀k s,l[k]? =some s->Con cfg 57 [dA s.Body,.c c,.c c9] [] (fun r μ'=>∃b v,r=.tup [.c b,vI 0]/\((k=i/\b=.lit v/\Q v μ')∨(k≠i/\b=.sl 20 (s.Body.map St.cells)/\μ'=[])))) (hl:bD l<=1073741824):
    Con cfg 57 [dA l,.c c,.c c9] [] (fun r μ'=>∃sv v X,r=.tup [.c (.lit sv),vI 0]/\μ'=.vec sv 56 20 (nF l i v l.length)::X/\(l.length<=i->X=[])/\(i<l.length->Q v X)):=by
 refine zR func57 O ntmps57 results57 O ?_
 intro z hz
 have hll:=kY l
 refine G O<|yJ 20 O<|mm O<|mo O O<|zV O O (zBg O uB (zLd l zA) (vlr O)) ?_
 rintro _ _ ⟨sv1,rfl,rfl⟩
 refine mm O<|ml O O<|zG<|mo O O<|qB O D<|mm O<|zQ<|zY ⟨[(15,.c _),(0,.c _),(1,.c _),(2,.c _),(8,.c _),(14,.c _)],_⟩ (Weak.regs ⟨zJ,zJ,zJ,zJ,zJ,zJ,T⟩)<|zDu 1 O (Nat×Value×List E) (fun ⟨k,v,X⟩=>[(15,vI k)]) (fun ⟨k,v,X⟩=>(E.vec sv1 56 20 (nF l i v k)::X)) (fun ⟨k,v,X⟩=>k<=l.length/\(k<=i->X=[])/\(i<k->Q v X)) (fun ⟨k,v,X⟩=>l.length-k) ⟨⟨0,.slice none 0 0,[]⟩,⟨zA,fun _=>O,fun h=>absurd h (Nat.not_lt_zero _)⟩,Weak.regsEq ⟨zJ,zJ,zJ,zJ,zJ,zJ,T⟩ O⟩ ?_
 rintro ⟨k,v,X⟩ ⟨hk,hX,hQ⟩
 show AWP _ _ _ _ _ ⟨[(15,vI k)]++_,(E.vec sv1 56 20 (nF l i v k)::X)⟩
 refine G O<|yI O<|Y<|zG<|zK O ?_ ?_<;>intro c1<;>try simp only [sx] at c1
 ·obtain ⟨s,hs⟩:=qZ l k zA
  have hsw:=yS (qA hs)
  have hse:=St.wt_eq s
  have hPs:=St.allF_eq (kR hP s (qA hs))
  refine zI<|zG<|zQ<|mo O O<|mm O<|zG<|mo O O<|A O<|qC O D zA (wL hs)<|qR O zAp<|zH one3 zZ O<|yF O<|Y<|qK O (fun c2=>?_) (fun c2=>?_)
  ·refine zT O<|A O<|A O<|A O<|A O<|A O<|qC O D zA (wL hs)<|qR O zAl<|zH one9 zZ O<|zW O (kU O O (hg s.Name) (vlr O))<|zW O (qT 0 O D O O O zA (by simpa using rowsI_lt hs))<|zW O (kF O zAl O)<|kS O O (yM O sz9 O O O (zDp 0 O (rowsI_get hs) O))<|Y<|zG<|mo O O<|A O<|A O<|A O<|qC O D zA (wL hs)<|qR O zFj<|zH wT zZ O<|A O<|qD O uB (mapIx_id hf s.Idx zA (fun x hx=>by have:=zBu hx;rw [Ix.wt] at this;omega) hPs.1) (vlr O)<|qP O<|qS O<|qS O<|zW O (qT 0 O D O O O zA (by simpa using rowsI_lt hs))<|zW O (kF O zFj O)<|kS O O (yM O sz44 O O O (zDp 0 O (zCx (by simpa using rowsI_lt hs)) O))<|mm O<|mo O O<|yL O<|Y<|zK O (fun c3=>?_) (fun c3=>?_)
   ·try simp only [sx] at c3
    exact (c3 T).elim
   ·exact v7
  ·refine zI<|zG<|mo O O<|A O<|A O<|A O<|qC O D zA (wL hs)<|qR O zFj<|zH wT zZ O<|A O<|qD O uB (mapIx_id hf s.Idx zA (fun x hx=>by have:=zBu hx;rw [Ix.wt] at this;omega) hPs.1) (vlr O)<|qP O<|qS O<|qS O<|zW O (qT 0 O D O O O zA (by simpa using rowsI_lt hs))<|zW O (kF O zFj O)<|kS O O (yM O sz44 O O O (zDp 0 O (rowsI_get hs) O))<|mm O<|mo O O<|yL O<|Y<|zK O (fun c3=>?_) (fun c3=>?_)
   ·try simp only [sx] at c3
    exact (c3 T).elim
   ·exact v7
 ·have hke:k=l.length:=by omega
  subst hke
  refine qO<|mo O O<|A O<|mm O<|zF<|fin2 (rs_c O) (rs_c O) ?_
  exact ⟨_,v,X,O,O,hX,hQ⟩
def mapStmtsP {c c9:C} {P:Lf->Prop} (hf:∀l,P l->FnPur cfg c [dK l] (.tup [dK l,vI 0])) (hg:∀s,FnPur cfg c9 [vS s] (vS s)):∀(p:List Int) (l:List St),p≠[]->rE p l->bE P l->bD l<=1073741824->Con cfg 57 [dA l,.c c,.c c9] [] (fun r μ'=>∃ch,ch.map Prod.fst=p/\r=.tup [.c (.lit (hdV ch)),vI 0]/\μ'=chE ch l)
  |[],_,h,_,_,_=>absurd rfl h
  |[j],l,_,hw,hP,hl=>by
    refine (zOa hf hg l hP l.length (fun _ _=>True) (fun k s hs=>?_) hl).mono ?_
    · have hsw:=yS (qA hs)
      have hse:=St.wt_eq s
      have hPs:=St.allF_eq (kR hP s (qA hs))
      refine (Con.pure_frame (Q:=fun r=>r=.tup [dA s.Body,vI 0]) (mapSts_id hf hg s.Body hPs.2.2 zA) []).mono ?_
      rintro r μ' ⟨rfl,rfl⟩
      exact ⟨_,.slice none 0 0,O,.inr ⟨by have:=zQe hs;omega,O,O⟩⟩
    · rintro r μ' ⟨sv,v,X,rfl,rfl,hX,_⟩
      refine ⟨[(j,sv)],O,O,?_⟩
      rw [hX (aH _),rowsI_none,chE]
  |j::j1::p,l,_,hw,hP,hl=>by
    have hg0:=zWi hw.1
    have hjw:=yS (qA hg0)
    have hjb:=St.body_wt (l.getD j.toNat zSt)
    have hPj:=St.allF_eq (kR hP _ (qA hg0))
    have ih:=mapStmtsP hf hg (j1::p) (l.getD j.toNat zSt).Body uD hw.2 hPj.2.2 zA
    refine (zOa hf hg l hP j.toNat (fun v μ=>∃ch,ch.map Prod.fst=j1::p/\v=hdV ch/\μ=chE ch (l.getD j.toNat zSt).Body) (fun k s hs=>?_) hl).mono ?_
    · by_cases hkj:k=j.toNat
      · subst hkj
        have e:l.getD j.toNat zSt=s:=by rw [aT,hs];rfl
        rw [e] at ih⊢
        refine ih.mono ?_
        rintro r μ' ⟨ch,h1,rfl,rfl⟩
        exact ⟨_,hdV ch,O,.inl ⟨O,O,ch,h1,O,O⟩⟩
      · have hsw:=yS (qA hs)
        have hse:=St.wt_eq s
        have hPs:=St.allF_eq (kR hP s (qA hs))
        refine (Con.pure_frame (Q:=fun r=>r=.tup [dA s.Body,vI 0]) (mapSts_id hf hg s.Body hPs.2.2 zA) []).mono ?_
        rintro r μ' ⟨rfl,rfl⟩
        exact ⟨_,.slice none 0 0,O,.inr ⟨hkj,O,O⟩⟩
    · rintro r μ' ⟨sv,v,X,rfl,rfl,_,hQ⟩
      obtain ⟨ch,h1,rfl,rfl⟩:=hQ (by have:=hw.1;omega)
      match ch,h1 with
      |(i1,sv1)::r1,h1=>exact ⟨(j,sv)::(i1,sv1)::r1,by rw [aK,h1],rfl,by rw [rowsI_all,chE];rfl⟩
end Go.W
end
section
set_option maxRecDepth 10000
namespace Go.W
open Go Go.Eng Go.Proofs Go.L41 Go.Br Tryz
attribute [local irreducible] AWP RWP TD fK
abbrev Chn (p:List Int):={ ch:List (Int×Value)//ch.map Prod.fst=p }
def chE_mono:∀(ch:List (Int×Value)) (l:List St),∀e,e∈chE ch l->e.Mono
  |[],_,e,h=>by rw [chE] at h;cases h
  |[(_,sv)],l,e,h=>by rw [chE] at h;obtain rfl:=aO.1 h;trivial
  |(i,sv)::(j,sv1)::r,l,e,h=>by
    rw [chE] at h
    rcases af.1 h with rfl|h
    · trivial
    · exact chE_mono ((j,sv1)::r) _ e h
def copyStmtsQ (p:List Int) (hp:p≠[]) (l:List St) (hw:rE p l) (hl:bD l<=1073741824):
    Con cfg 74 [dA l] [] (fun r μ'=>∃ch,ch.map Prod.fst=p/\r=.c (.lit (hdV ch))/\μ'=chE ch l):=by
 refine zR func74 O ntmps74 results74 O fun z hz=>G O<|yJ 20 O<|Y<|mo O O<|zV O O (zJp O uB (mapStmtsP (P:=fun l=>l.L.length<=1073741824) (fun l hl=>FnPur.of_pur (first:=[]) (cap:=[]) uB (zZi l hl)) (fun s=>FnPur.of_pur (first:=[]) (cap:=[]) uB (zJv s)) p l hp hw (zKw hl) hl) (vlr O)) ?_
 rintro _ _ ⟨_,⟨ch,hch,rfl,rfl⟩,rfl⟩
 refine qP O<|qS O<|qS O<|A O<|mm O<|mo O O<|mm O<|zF<|zS O ?_
 exact ⟨ch,hch,O,O⟩
def copyStmtsC (p:List Int) (hp:p≠[]) (l:List St) (hw:rE p l) (hl:bD l<=1073741824):Con cfg 74 [dA l] [] fun r μ'=>∃a:Chn p,r=.c (.lit (hdV a.1))/\μ'=[pk (chE a.1 l)]:=
  (Con.pack (copyStmtsQ p hp l hw hl)).mono fun r μ' ⟨φ,⟨ch,h1,h2,h3⟩,h4⟩=>⟨⟨ch,h1⟩,h2,by rw [h4,h3]⟩
def replaceC (p:List Int) (hp:p≠[]) (a:Chn p) (l q:List St) (hw:rE p l) (hl:bD l<=2000000) (hq:q.length<=2000000):Con cfg 93 [.c (.lit (hdV a.1)),vIs p,dA q] [pk (chE a.1 l)] fun r' μ'=>∃sv',r'=.c (.lit sv')/\μ'=[.vec sv' 56 20 ((jI p l q).map St.cells)]:=by
  obtain ⟨ch,rfl⟩:=a
  match ch,hp,hw with
  |[],hp,_=>exact absurd rfl hp
  |(i,sv)::r,_,hw=>exact Con.unpack (zPt q hq r i sv l hw hl) (chE_mono _ _)
def loopnest_CopyC (p:List Int) (hp:p≠[]) (n:Ns) (hn:n.Ok) (hw:rE p n.Body):
    Con cfg 35 [vNs n] [] (fun r μ'=>∃a:Chn p,r=.agg [.sl 8 (n.Bufs.map Bf.cells),.lit (hdV a.1)]/\μ'=[pk (chE a.1 n.Body)]):=by
 refine Con.dropG<|zR func35 O ntmps35 results35 O ?_
 intro z hz
 have hnb:=hn.bufs
 have hnw:=hn.body
 refine G O<|mj O fun b1=>zV O O (qH [some 8,some 20] O zr25 O) ?_
 rintro _ _ ⟨b2,rfl,rfl⟩
 refine Y<|G O<|zC O zAq<|zH kX (J 1 O) O<|zV O O (zPx O uB (copyStmtsC p hp n.Body hw zA) (vlr O)) ?_
 rintro _ _ ⟨ch,rfl,rfl⟩
 refine qU O zr25 pl25<|zV O O (qH [some 8,some 20] O zr25 O) ?_
 rintro _ _ ⟨b3,rfl,rfl⟩
 refine rStR 0 sz25 O<|Y<|zG<|G O<|yU _ (wE 94 8)<|zC O zAm<|zH zDx (J 4 O) O<|qB O el22<|mm O<|zQ<|zY ⟨[(12,.c _),(1,.c _),(2,.c _),(3,.c _),(11,.c _)],[_,_,_,_,_]⟩ (Weak.mk [true,true,true,true,true] ⟨zJ,zJ,zJ,zJ,zJ,T⟩ O)<|qL 1 2 O O (Nat×Value) (fun ⟨k,sv⟩=>[(12,vI k)]) (fun ⟨k,sv⟩=>[E.vec sv 94 8 ((n.Bufs.take k).map Bf.cells),E.row b3 25 [.lit sv,.lit (hdV ch.1)]]) (fun ⟨k,sv⟩=>k<=n.Bufs.length) (fun ⟨k,sv⟩=>n.Bufs.length-k) ⟨⟨0,(.slice none 0 0)⟩,zA,Weak.mk [true,true,true,true,true] ⟨zJ,zJ,zJ,zJ,zJ,T⟩ O⟩ ?_
 rintro ⟨k,sv⟩ hk
 show AWP _ _ _ _ _ ⟨[(12,vI k)]++_,[E.vec sv 94 8 ((n.Bufs.take k).map Bf.cells),E.row b3 25 [.lit sv,.lit (hdV ch.1)]]++_⟩
 refine G O<|yI O<|Y<|zG<|zK O ?_ ?_<;>intro c1<;>try simp only [sx] at c1
 ·obtain ⟨b,hb⟩:=qZ n.Bufs k zA
  have hbd:=hn.dims b (qA hb)
  refine zI<|zG<|zQ<|mo O O<|mm O<|qV 9 mixed uB O O<|mr O (zE O zAm O)<|mr O (zD O zDx O (J 1 O) O)<|mr O (zE O zAm O)<|mr O (zD O zDx O (J 4 O) O)<|mr O (zO O O)<|mr O (qE O el22 O O zA (getm uA))<|mr O (zU O zMl O zZ O)<|mr O (qG O uB (zDj b zA) (vlr O))<|mr O (yA O el22 zr94 O O O O)<|yQ<|zV O O (yO 0 O el22 O O O uC uC) ?_
  rintro _ _ ⟨sv4,rfl,rfl⟩
  refine zC O zAm<|rStR 1 sz22 O<|Y<|zT O<|qI O ⟨zA,zA⟩<|A O<|Y ?_
  refine ⟨⟨k+1,sv4⟩,zA,(by show n.Bufs.length-(k+1)<n.Bufs.length-k;omega),Weak.mk [true,true,true,true,true] ⟨zJ,zJ,zJ,zJ,zJ,T⟩ (by exact mem2_eq' (by rw [yR hb,aC];rfl))⟩
 ·rw [yW (l:=n.Bufs) (k:=k) zA]
  refine zY _ (yV 0 O (regs':=[]) (μ':=[_,_,_,_]) T ⟨EFle.row (ds:=[_,_]) ⟨.inr ⟨O,O⟩,.inl O,T⟩,EFle.refl _,EFle.refl _,EFle.refl _,T⟩)<|qO<|G O<|zM kE (J 0 O) O<|rStR 2 sz25 O<|Y<|zF<|fin1 (zP kE O (J 2 O) O) ?_
  exact ⟨[pk _],⟨[E.row _ _ _],[E.row _ _ _,E.row _ _ _],O⟩,ch,O,O⟩
def zQh (n:Ns) (hn:n.Ok):
    Pur cfg 35 [vNs n] (vNs n):=by
 refine zR func35 O ntmps35 results35 O ?_
 intro z hz
 have hnb:=hn.bufs
 have hnw:=hn.body
 refine G O<|mj O fun b1=>zV O O (qH [some 8,some 20] O zr25 O) ?_
 rintro _ _ ⟨b2,rfl,rfl⟩
 refine Y<|G O<|zC O zAq<|zH kX (J 1 O) O<|qD O uB (zDz n.Body zA) (vlr O)<|qU O zr25 pl25<|zV O O (qH [some 8,some 20] O zr25 O) ?_
 rintro _ _ ⟨b3,rfl,rfl⟩
 refine rStR 0 sz25 O<|Y<|zG<|G O<|yU _ (wE 94 8)<|zC O zAm<|zH zDx (J 3 O) O<|qB O el22<|mm O<|zQ<|zY ⟨[(12,.c _),(1,.c _),(2,.c _),(3,.c _),(11,.c _)],[_,_,_,_]⟩ (Weak.mk [true,true,true,true] ⟨zJ,zJ,zJ,zJ,zJ,T⟩ O)<|qL 1 2 O O (Nat×Value) (fun ⟨k,sv⟩=>[(12,vI k)]) (fun ⟨k,sv⟩=>[E.vec sv 94 8 ((n.Bufs.take k).map Bf.cells),E.row b3 25 [.lit sv,.sl 20 (n.Body.map St.cells)]]) (fun ⟨k,sv⟩=>k<=n.Bufs.length) (fun ⟨k,sv⟩=>n.Bufs.length-k) ⟨⟨0,(.slice none 0 0)⟩,zA,Weak.mk [true,true,true,true] ⟨zJ,zJ,zJ,zJ,zJ,T⟩ O⟩ ?_
 rintro ⟨k,sv⟩ hk
 show AWP _ _ _ _ _ ⟨[(12,vI k)]++_,[E.vec sv 94 8 ((n.Bufs.take k).map Bf.cells),E.row b3 25 [.lit sv,.sl 20 (n.Body.map St.cells)]]++_⟩
 refine G O<|yI O<|Y<|zG<|zK O ?_ ?_<;>intro c1<;>try simp only [sx] at c1
 ·obtain ⟨b,hb⟩:=qZ n.Bufs k zA
  have hbd:=hn.dims b (qA hb)
  refine zI<|zG<|zQ<|mo O O<|mm O<|qV 9 mixed uB O O<|mr O (zE O zAm O)<|mr O (zD O zDx O (J 1 O) O)<|mr O (zE O zAm O)<|mr O (zD O zDx O (J 3 O) O)<|mr O (zO O O)<|mr O (qE O el22 O O zA (getm uA))<|mr O (zU O zMl O zZ O)<|mr O (qG O uB (zDj b zA) (vlr O))<|mr O (yA O el22 zr94 O O O O)<|yQ<|zV O O (yO 0 O el22 O O O uC uC) ?_
  rintro _ _ ⟨sv4,rfl,rfl⟩
  refine zC O zAm<|rStR 1 sz22 O<|Y<|zT O<|qI O ⟨zA,zA⟩<|A O<|Y ?_
  refine ⟨⟨k+1,sv4⟩,zA,(by show n.Bufs.length-(k+1)<n.Bufs.length-k;omega),Weak.mk [true,true,true,true] ⟨zJ,zJ,zJ,zJ,zJ,T⟩ (by exact mem2_eq' (by rw [yR hb,aC];rfl))⟩
 ·rw [yW (l:=n.Bufs) (k:=k) zA]
  refine zY _ (yV 0 O (regs':=[]) (μ':=[_,_,_]) T ⟨EFle.row (ds:=[_,_]) ⟨.inr ⟨O,O⟩,.inl O,T⟩,EFle.refl _,EFle.refl _,T⟩)<|qO<|G O<|zM kE (J 0 O) O<|rStR 1 sz25 O<|Y<|zF<|fin1 (zP kE O (J 1 O) O) ?_
  rfl
end Go.W
end
