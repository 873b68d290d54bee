/-
  What functions compute.
  Conditions: none.
-/
import Derived.Test.YtgfomfnjionbeaaGreatDoorNG
import Derived.Test.YtgfomfnjionbeaaGreatDoorPlain3
set_option linter.unusedSimpArgs false
set_option linter.unusedVariables false
set_option maxRecDepth 10000
namespace Go.W
open Go Go.Eng Go.Proofs Go.L41 Go.Br
attribute [local irreducible] AWP RWP TD fQ
theorem ok140:bA Tryz.prog 140=true:=by kernel_rfl
theorem ok141:bA Tryz.prog 141=true:=by kernel_rfl
theorem ok142:bA Tryz.prog 142=true:=by kernel_rfl
theorem ok143:bA Tryz.prog 143=true:=by kernel_rfl
theorem ok193:bA Tryz.prog 193=true:=by kernel_rfl
theorem ok194:bA Tryz.prog 194=true:=by kernel_rfl
theorem ok195:bA Tryz.prog 195=true:=by kernel_rfl
theorem sz9:(Tryz.prog.info? 9).map (·.size)=some 1:=by kernel_rfl
theorem sz33:(Tryz.prog.info? 33).map (·.size)=some 1:=by kernel_rfl
theorem zSc (l:List St) (hl:l.length<=4294967296):
    OwnR cfg 193 [fP l] 64 20 (l.map St.cells):=by
 refine zV Tryz.func193 O Tryz.ntmps193 Tryz.results193 O ?_
 intro z hz
 refine Y O<|qX 20 O<|zA<|zH<|Y O<|G O<|zY O O (zGn O L O O) ?_
 rintro _ _ ⟨nb1,rfl,hnil1,rfl⟩
 refine zA<|zE O (fun c1=>?_) (fun c1=>?_)
 ·try simp only [sx] at c1
  refine Y O<|G O<|yT _ (kO 64 20)<|zA<|zJ<|zT O ?_
  exact ⟨_,O,by rw [hnil1 c1]⟩
 ·try simp only [sx] at c1
  refine zI<|Y O<|zY O O (zBx O L zr64 O O O O) ?_
  rintro _ _ ⟨sv3,rfl,rfl⟩
  refine G O<|zY O O (yH 0 O L O O O uH uH) ?_
  exact j9
theorem zCp (f:Lf->Lf×Int) (c:C) (P:Lf->Prop) (hf:∀l,P l->FnPur cfg c [dP l] (.tup [dP (f l).1,vI (f l).2])) (i:List Ix) (hi:i.length<=4294967296) (hA:∀x,x∈i->x.At.length<=4294967296) (hP:tO P i):
    Pur cfg 194 [lN i,.c c] (.tup [lN (eV (fJ f i)),vI (jR (fJ f i))]):=by
 refine zV Tryz.func194 O Tryz.ntmps194 Tryz.results194 O ?_
 intro z hz
 refine Y O<|qX 4 O<|G O<|zA<|Y O<|G O<|zY O O (zBb O ok128 (zIq i hi) ⟨zB,O,T⟩) ?_
 rintro _ _ ⟨sv1,rfl,rfl⟩
 refine G O<|zA<|Y O<|G O<|zA<|zH<|Y O<|G O<|qB O N<|G O<|zA<|zR<|zU ⟨[(14,.c _),(0,.c _),(1,.c _),(6,.c _),(13,.c _)],[_]⟩ (Weak.mk [true] ⟨zB,zB,zB,zB,zB,T⟩ O)<|qF 1 1 O O (Nat×List Ix) (fun ⟨k,outs⟩=>[(14,vI k)]) (fun ⟨k,outs⟩=>[E.vec sv1 93 4 (outs.map Ix.cells++(i.drop k).map Ix.cells)]) (fun ⟨k,outs⟩=>k<=i.length/\(outs.length=k)/\(fJ f i=bZ outs (fJ f (i.drop k)))) (fun ⟨k,outs⟩=>i.length-k) ⟨⟨0,[]⟩,⟨zC,O,(zCo _).symm⟩,Weak.mk [true] ⟨zB,zB,zB,zB,zB,T⟩ O⟩ ?_
 rintro ⟨k,outs⟩ ⟨hk,ho,hp⟩
 show AWP _ _ _ _ _ ⟨[(14,vI k)]++_,[E.vec sv1 93 4 (outs.map Ix.cells++(i.drop k).map Ix.cells)]++_⟩
 refine Y O<|yA O<|zA<|zH<|zE O (fun c1=>?_) (fun c1=>?_)
 ·try simp only [sx] at c1
  obtain ⟨x,hx⟩:=qV i k zC
  have hAx:=hA x (qC hx)
  refine zI<|zH<|zR<|Y O<|G O<|G O<|zA<|zH<|Y O<|G O<|G O<|G O<|G O<|G O<|qE O N zC (getm uD)<|qW O zCi<|zM kD qD O<|zW O (kX O O (hf x.Lin (hP x (qC hx)).1) ⟨zB,O,T⟩)<|qU O<|zW O (qY O O O)<|yK O<|zW O (qR 0 O N O O O zC (zJf uF zC))<|zW O (kS O zCi O)<|zBd O O (yX O sz59 O O O (zEl 0 O (zOm uF hx) O))<|G O<|zA<|Y O<|G O<|yN O<|zA<|zE O (fun c2=>?_) (fun c2=>?_)
  ·try simp only [sx] at c2
   refine Y O<|G O<|qX 4 O<|G O<|zA<|zJ<|fin2 (rs_c O) (rs_c O) ?_
   rw [mIxs_no hx hp (mIx_e1 c2)];rfl
  ·try simp only [sx] at c2
   refine zI<|Y O<|G O<|G O<|G O<|G O<|qE O N zC (getm uD)<|qW O zAg<|zG zCg qD O<|zY O O (zBb O ok129 (zHz x.At (hA x (qC hx))) ⟨zB,O,T⟩) ?_
   rintro _ _ ⟨sv2,rfl,rfl⟩
   refine zW O (qR 1 O N O O O zC uF)<|zW O (kS O zAg O)<|zBd O O (yX O sz72 O O O (zEl 1 O (zFe uF) O))<|zA<|Y O<|G O<|G O<|qE O N zC (getm uD)<|qW O zAg<|zG zCg qD O<|qB O el72<|G O<|zA<|zR<|zU ⟨[(50,.c _),(0,.c _),(1,.c _),(6,.c _),(8,.c _),(13,.c _),(14,.c _),(49,.c _)],[_,_]⟩ (Weak.mk [true,true] ⟨zB,zB,zB,zB,zB,zB,zB,zB,T⟩ O)<|qF 1 1 O O (Nat×List Lf) (fun ⟨j,lins⟩=>[(50,vI j)]) (fun ⟨j,lins⟩=>[E.vec sv2 59 2 (lins.map Lf.cells++(x.At.drop j).map Lf.cells)]) (fun ⟨j,lins⟩=>j<=x.At.length/\(lins.length=j)/\(fG f x.At=bZ lins (fG f (x.At.drop j)))) (fun ⟨j,lins⟩=>x.At.length-j) ⟨⟨0,[]⟩,⟨zC,O,(zCo _).symm⟩,Weak.mk [true,true] ⟨zB,zB,zB,zB,zB,zB,zB,zB,T⟩ O⟩ ?_
   rintro ⟨j,lins⟩ ⟨hj,hlo,hq⟩
   show AWP _ _ _ _ _ ⟨[(50,vI j)]++_,[E.vec sv2 59 2 (lins.map Lf.cells++(x.At.drop j).map Lf.cells)]++_⟩
   refine Y O<|yA O<|zA<|zH<|zE O (fun c3=>?_) (fun c3=>?_)
   ·try simp only [sx] at c3
    obtain ⟨l,hl⟩:=qV x.At j zC
    refine zI<|zH<|zR<|Y O<|G O<|G O<|zA<|zH<|yS 21 0 [⟨0,.q []⟩,⟨1,.q []⟩,⟨2,.q [1]⟩,⟨3,.q []⟩,⟨4,.q [1]⟩,⟨5,.q []⟩,⟨6,.q []⟩,⟨7,.q []⟩,⟨8,.q []⟩,⟨9,.q []⟩,⟨10,.q []⟩,⟨11,.q []⟩,⟨12,.q []⟩,⟨13,.q []⟩,⟨14,.q []⟩,⟨15,.q []⟩,⟨16,.q []⟩,⟨17,.q []⟩,⟨18,.q []⟩,⟨19,.q [0]⟩,⟨20,.e 0 []⟩] mixed uC uC O O O<|zQ O<|zQ O<|zQ O<|zQ O<|zQ O<|zQ O<|zQ O<|zQ O<|zQ O<|zQ O<|zQ O<|zQ O<|zQ O<|zQ O<|zQ O<|zQ O<|zQ O<|zQ O<|zQ O<|zQ O<|zQ O<|wS<|zX O uA O O (zP O O)<|zX O uA O O (zP O O)<|zX O uA O O (qR 0 O N O O O zC uF)<|zX O uA O O (kS O zAg O)<|zX O uA O O (zK O zCg O (kP 0 O (zFe uF)) O)<|zX O uA O O (zP O O)<|zX O uA O O (zP O O)<|zX O uA O O (zP O O)<|zX O uA O O (zP O O)<|zX O uA O O (qN O N O O zC (getm uD))<|zX O uA O O (qQ O zAg O)<|zX O uA O O (zK O zCg O qD O)<|zX O uA O O (zP O O)<|zX O uA O O (qN O el72 O O zC (getm uD))<|zX O uA O O (qA O kD O qD O)<|zX O uA O O (kX O O (hf l ((hP x (qC hx)).2 l (qC hl))) ⟨zB,O,T⟩)<|zX O uA O O (yW O O)<|zX O uA O O (qY O O O)<|zX O uA O O (kT O O O)<|zX O uA O O (qR 0 O el72 O O O zC (zJf uF zC))<|zDx O O uA O O (yX O sz59 O O O (zEl 0 O (zOm uF hl) O)) ?_
    rintro _ _ ⟨rfl,rfl⟩
    refine ⟨_,O,?_⟩
    refine wR O<|G O<|zA<|Y O<|G O<|yN O<|zA<|zE O (fun c4=>?_) (fun c4=>?_)
    ·try simp only [sx] at c4
     refine Y O<|G O<|qX 4 O<|G O<|zA<|zJ<|fin2 (rs_c O) (rs_c O) ?_
     rw [mIxs_no hx hp (mIx_e2 c2 (mLins_no hl hq c4))];rfl
    ·try simp only [sx] at c4
     refine zI<|zO O<|qH O ⟨zC,zC⟩<|G O<|zA ?_
     refine ⟨⟨j+1,lins++[(f l).1]⟩,⟨zC,uF,mLins_next hl hq c4⟩,(by show x.At.length-(j+1)<x.At.length-j;omega),Weak.mk [true,true] ⟨zB,zB,zB,zB,zB,zB,zB,zB,T⟩ (by simp only [Int.toNat_natCast];rw [zJe uF hl];simp only [List.map_append,List.map_cons,List.map_nil];rfl)⟩
   ·try simp only [sx] at c3
    have hml:=mLins_end hq zC
    rw [kJ (l:=x.At) (k:=j) zC]
    simp only [List.map_nil,List.append_nil]
    refine zU _ (yO 0 O (regs':=[]) (μ':=[_]) T ⟨EFle.vec (r':=[_,_,_,_]) (zFe uF) ⟨.inl O,.inl O,.inl O,.inr ⟨O,O⟩,T⟩,T⟩)<|qM<|zO O<|qH O ⟨zC,zC⟩<|G O<|zA ?_
    refine ⟨⟨k+1,outs++[⟨(f x.Lin).1,x.From,lins⟩]⟩,⟨zC,uF,mIxs_next hx hp (mIx_ok c2 hml)⟩,(by show i.length-(k+1)<i.length-k;omega),Weak.mk [true] ⟨zB,zB,zB,zB,zB,T⟩ (by simp only [Int.toNat_natCast,List.set_set];rw [zJe uF hx];simp only [List.map_append,List.map_cons,List.map_nil];rfl)⟩
 ·try simp only [sx] at c1
  have hmi:=mIxs_end hp zC
  rw [kJ (l:=i) (k:=k) zC]
  simp only [List.map_nil,List.append_nil]
  refine zU _ (yO 0 O (regs':=[(6,_)]) (μ':=[]) ⟨FLe.sl,T⟩ T)<|qM<|Y O<|G O<|G O<|G O<|zA<|zJ<|fin2 (rs_c O) (rs_c O) ?_
  rw [hmi];rfl
theorem zJg (f:Lf->Lf×Int) (c:C) (P:Lf->Prop) (hf:∀l,P l->FnPur cfg c [dP l] (.tup [dP (f l).1,vI (f l).2])) (e:Ex) (hP:e.allF P) (ih:∀a,a∈e.Args->a.allF P->a.cnt<=4294967296->Pur cfg 195 [vE a,.c c] (.tup [vE (nW (mEx f a)),vI (jR (mEx f a))])) (he:e.cnt<=4294967296):
    Pur cfg 195 [vE e,.c c] (.tup [vE (nW (mEx f e)),vI (jR (mEx f e))]):=by
 refine zV Tryz.func195 O Tryz.ntmps195 Tryz.results195 O ?_
 intro z hz
 obtain ⟨hI,hA,hAt⟩:=e.cparts he
 have hPI:=ixsAll_of hP
 refine Y O<|zY O O (qL O O) ?_
 rintro _ _ ⟨b1,rfl,rfl⟩
 refine zY O O (qG [none,none,none,none,none,none,none,none,none,none,some 2,some 4,some 13] O zr62 O) ?_
 rintro _ _ ⟨b2,rfl,rfl⟩
 refine G O<|zA<|Y O<|zM yU (J 1 O) O<|zY O O (qG [none,none,none,none,none,none,none,none,none,none,some 2,some 4,some 13] O zr62 O) ?_
 rintro _ _ ⟨b3,rfl,rfl⟩
 refine D 0 sz62 O<|zA<|Y O<|G O<|zA<|zH<|Y O<|G O<|zD O zDi<|zM kD (J 2 O) O<|zW O (kX O O (hf e.Lin (Ex.allF_lin hP)) ⟨zB,O,T⟩)<|qU O<|zW O (qY O O O)<|yK O<|zD O zDi<|D 0 sz59 O<|G O<|zA<|Y O<|G O<|yN O<|zA<|zE O (fun c1=>?_) (fun c1=>?_)
 ·exact v41
 ·try simp only [sx] at c1
  refine zI<|zH<|Y O<|zD O kQ<|zG wG (J 2 O) O<|G O<|qJ O ok194 (zCp f c P hf e.Idx hI hAt hPI) ⟨zB,O,zB,O,T⟩<|qU O<|yK O<|yK O<|zD O kQ<|D 0 sz52 O<|G O<|zA<|Y O<|G O<|yN O<|zA<|zE O (fun c2=>?_) (fun c2=>?_)
  ·try simp only [sx] at c2
   refine Y O<|yZ [none,none,none,none,none,none,none,none,none,none,some 2,some 4,some 13] O zr62 pl62<|G O<|D 1 sz62 O<|G O<|zA<|zJ<|fin2 (zZ yU O (J 1 O) O) (rs_c O) ?_
   rw [mEx_e2 c1 (mIxs_err c2)];rfl
  ·try simp only [sx] at c2
   obtain ⟨di,hmi⟩:=mIxs_0 c2
   rw [hmi]
   refine zI<|Y O<|zD O wP<|zG zBy (J 2 O) O<|zY O O (zBb O ok130 (zIr e.Args hA) ⟨zB,O,T⟩) ?_
   rintro _ _ ⟨sv4,rfl,rfl⟩
   refine zD O wP<|D 1 sz60 O<|zA<|zH<|Y O<|zD O wP<|zG zBy (J 3 O) O<|qB O el60<|G O<|zA<|zR<|zU ⟨[(41,.c _),(1,.c _),(2,.c _),(4,.c _),(6,.c _),(40,.c _)],[_,_,_,_]⟩ (Weak.mk [true,true,true,true] ⟨zB,zB,zB,zB,zB,zB,T⟩ O)<|qF 1 1 O O (Nat×List Ex) (fun ⟨n,exs⟩=>[(41,vI n)]) (fun ⟨n,exs⟩=>[E.vec sv4 62 13 (exs.map Ex.cells++(e.Args.drop n).map Ex.cells)]) (fun ⟨n,exs⟩=>n<=e.Args.length/\(exs.length=n)/\(gW f e.Args=bZ exs (gW f (e.Args.drop n)))) (fun ⟨n,exs⟩=>e.Args.length-n) ⟨⟨0,[]⟩,⟨zC,O,(zCo _).symm⟩,Weak.mk [true,true,true,true] ⟨zB,zB,zB,zB,zB,zB,T⟩ O⟩ ?_
   rintro ⟨n,exs⟩ ⟨hn,hno,hr⟩
   show AWP _ _ _ _ _ ⟨[(41,vI n)]++_,[E.vec sv4 62 13 (exs.map Ex.cells++(e.Args.drop n).map Ex.cells)]++_⟩
   refine Y O<|yA O<|zA<|zH<|zE O (fun c3=>?_) (fun c3=>?_)
   ·try simp only [sx] at c3
    obtain ⟨a,ha⟩:=qV e.Args n zC
    refine zI<|zH<|zR<|Y O<|G O<|G O<|zA<|zH<|yS 15 0 [⟨0,.q []⟩,⟨1,.q [1]⟩,⟨2,.q []⟩,⟨3,.q []⟩,⟨4,.q [3]⟩,⟨5,.q []⟩,⟨6,.q []⟩,⟨7,.q []⟩,⟨8,.q []⟩,⟨9,.q []⟩,⟨10,.q []⟩,⟨11,.q []⟩,⟨12,.q []⟩,⟨13,.q [0]⟩,⟨14,.e 0 []⟩] mixed uC uC O O O<|zQ O<|zQ O<|zQ O<|zQ O<|zQ O<|zQ O<|zQ O<|zQ O<|zQ O<|zQ O<|zQ O<|zQ O<|zQ O<|zQ O<|zQ O<|wS<|zX O uA O O (zF O wP O)<|zX O uA O O (zK O zBy O (J 0 O) O)<|zX O uA O O (zP O O)<|zX O uA O O (zF O wP O)<|zX O uA O O (zK O zBy O (J 0 O) O)<|zX O uA O O (zP O O)<|zX O uA O O (qN O el60 O O zC (zGh uD))<|zX O uA O O (qA O yU O qD O)<|zX O uA O O (zP O O)<|zX O uA O O (qS O ok195 (ih a (qC ha) (Ex.allF_arg hP (qC ha)) (by have:=Ex.arg_cnt (qC ha);omega)) ⟨zB,O,zB,O,T⟩)<|zX O uA O O (yW O O)<|zX O uA O O (qY O O O)<|zX O uA O O (kT O O O)<|zX O uA O O (qR 0 O el60 O O O zC (zJf uF zC))<|zDx O O uA O O (yX O sz62 O O O (zEl 0 O (mid_getE uF ha) O)) ?_
    rintro _ _ ⟨rfl,rfl⟩
    refine ⟨_,O,?_⟩
    refine wR O<|G O<|zA<|Y O<|G O<|yN O<|zA<|zE O (fun c4=>?_) (fun c4=>?_)
    ·try simp only [sx] at c4
     refine Y O<|yZ [none,none,none,none,none,none,none,none,none,none,some 2,some 4,some 13] O zr62 pl62<|G O<|D 2 sz62 O<|G O<|zA<|zJ<|fin2 (zZ yU O (J 2 O) O) (rs_c O) ?_
     rw [mEx_e3 c1 hmi (mExs_no ha hr c4)];rfl
    ·try simp only [sx] at c4
     refine zI<|zO O<|qH O ⟨zC,zC⟩<|G O<|zA ?_
     refine ⟨⟨n+1,exs++[nW (mEx f a)]⟩,⟨zC,uF,mExs_next ha hr c4⟩,(by show e.Args.length-(n+1)<e.Args.length-n;omega),Weak.mk [true,true,true,true] ⟨zB,zB,zB,zB,zB,zB,T⟩ (by simp only [Int.toNat_natCast];rw [zJe uF ha];simp only [List.map_append,List.map_cons,List.map_nil,Ex.cells_eq (nW (mEx f a))];rfl)⟩
   ·try simp only [sx] at c3
    have hme:=mExs_end hr zC
    rw [kJ (l:=e.Args) (k:=n) zC]
    simp only [List.map_nil,List.append_nil]
    refine zU _ (yO 0 O (regs':=[]) (μ':=[_,_,_]) T ⟨EFle.row (ds:=[_,_,_,_,_,_,_,_,_,_,_,_,_]) ⟨.inl O,.inl O,.inl O,.inl O,.inl O,.inl O,.inl O,.inl O,.inl O,.inl O,.inl O,.inl O,.inr ⟨O,O⟩,T⟩,EFle.refl _,EFle.refl _,T⟩)<|qM<|Y O<|zM yU (J 0 O) O<|D 1 sz62 O<|G O<|zA<|zJ<|fin2 (zZ yU O (J 1 O) O) (rs_c O) ?_
    rw [mEx_ok c1 hmi hme];rfl
theorem zId (f:Lf->Lf×Int) (c:C) (P:Lf->Prop) (hf:∀l,P l->FnPur cfg c [dP l] (.tup [dP (f l).1,vI (f l).2])) (e:Ex) (hP:e.allF P) (he:e.cnt<=4294967296):Pur cfg 195 [vE e,.c c] (.tup [vE (nW (mEx f e)),vI (jR (mEx f e))]):=by
  induction e using Ex.ind with
  |_ e ih=>exact zJg f c P hf e hP ih he
theorem zDl (f:Lf->Lf×Int) (c:C) (P:Lf->Prop) (hf:∀l,P l->FnPur cfg c [dP l] (.tup [dP (f l).1,vI (f l).2])) (g:ByteArray->ByteArray) (c9:C) (hg:∀s,FnPur cfg c9 [vS s] (vS (g s))) (l:List St) (hP:nN P l) (ih:∀s,s∈l->Pur cfg 140 [fP s.Body,.c c,.c c9] (.tup [fP (cV (gD f g s.Body)),vI (jR (gD f g s.Body))])) (hl:bI l<=1073741824):
    Pur cfg 140 [fP l,.c c,.c c9] (.tup [fP (cV (gD f g l)),vI (jR (gD f g l))]):=by
 refine zV Tryz.func140 O Tryz.ntmps140 Tryz.results140 O ?_
 intro z hz
 have hll:=zAt l
 refine Y O<|qX 20 O<|G O<|zA<|Y O<|G O<|zY O O (zBb O ok193 (zSc l zC) ⟨zB,O,T⟩) ?_
 rintro _ _ ⟨sv1,rfl,rfl⟩
 refine G O<|zA<|Y O<|G O<|zA<|zH<|Y O<|G O<|qB O L<|G O<|zA<|zR<|zU ⟨[(15,.c _),(0,.c _),(1,.c _),(2,.c _),(8,.c _),(14,.c _)],[_]⟩ (Weak.mk [true] ⟨zB,zB,zB,zB,zB,zB,T⟩ O)<|qF 1 1 O O (Nat×List St) (fun ⟨k,outs⟩=>[(15,vI k)]) (fun ⟨k,outs⟩=>[E.vec sv1 64 20 (outs.map St.cells++(l.drop k).map St.cells)]) (fun ⟨k,outs⟩=>k<=l.length/\(outs.length=k)/\(gD f g l=bZ outs (gD f g (l.drop k)))) (fun ⟨k,outs⟩=>l.length-k) ⟨⟨0,[]⟩,⟨zC,O,(zCo _).symm⟩,Weak.mk [true] ⟨zB,zB,zB,zB,zB,zB,T⟩ O⟩ ?_
 rintro ⟨k,outs⟩ ⟨hk,ho,hp⟩
 show AWP _ _ _ _ _ ⟨[(15,vI k)]++_,[E.vec sv1 64 20 (outs.map St.cells++(l.drop k).map St.cells)]++_⟩
 refine Y O<|yA O<|zA<|zH<|zE O (fun c1=>?_) (fun c1=>?_)
 ·try simp only [sx] at c1
  obtain ⟨s,hs⟩:=qV l k zC
  have hsw:=zAb (qC hs)
  have hse:=St.wt_eq s
  have hPs:=St.allF_eq (zNr hP s (qC hs))
  refine zI<|zH<|zR<|Y O<|G O<|G O<|zA<|zH<|Y O<|G O<|G O<|qE O L zC (zCq hs)<|qW O zDh<|zG one3 qD O<|yJ O<|zA<|zE O (fun c2=>?_) (fun c2=>?_)
  ·try simp only [sx] at c2
   refine zO O<|G O<|G O<|G O<|G O<|G O<|qE O L zC (zCq hs)<|qW O zDg<|zG one9 qD O<|zW O (kX O O (hg s.Name) ⟨zB,O,T⟩)<|zW O (qR 0 O L O O O zC (zJf uF zC))<|zW O (kS O zDg O)<|zBd O O (yX O sz9 O O O (zEl 0 O (mid_getS uF hs) O))<|zA<|zH<|Y O<|G O<|G O<|G O<|G O<|qE O L zC (zCq hs)<|qW O zPy<|zG wG qD O<|G O<|qJ O ok194 (zCp f c P hf s.Idx zC (fun x hx=>by have:=zCh hx;rw [Ix.wt] at this;omega) hPs.1) ⟨zB,O,zB,O,T⟩<|qU O<|yK O<|yK O<|zW O (qR 0 O L O O O zC uF)<|zW O (kS O zPy O)<|zBd O O (yX O sz52 O O O (zEl 0 O (zFe uF) O))<|G O<|zA<|Y O<|G O<|yN O<|zA<|zE O (fun c3=>?_) (fun c3=>?_)
   ·try simp only [sx] at c3
    refine Y O<|G O<|qX 20 O<|G O<|zA<|zJ<|fin2 (rs_c O) (rs_c O) ?_
    rw [zOo hs hp (mSt_e1 (mIxs_err c3))];rfl
   ·exact w9
  ·try simp only [sx] at c2
   refine zI<|zH<|Y O<|G O<|G O<|G O<|G O<|qE O L zC (zCq hs)<|qW O zPy<|zG wG qD O<|G O<|qJ O ok194 (zCp f c P hf s.Idx zC (fun x hx=>by have:=zCh hx;rw [Ix.wt] at this;omega) hPs.1) ⟨zB,O,zB,O,T⟩<|qU O<|yK O<|yK O<|zW O (qR 0 O L O O O zC (zJf uF zC))<|zW O (kS O zPy O)<|zBd O O (yX O sz52 O O O (zEl 0 O (mid_getS uF hs) O))<|G O<|zA<|Y O<|G O<|yN O<|zA<|zE O (fun c3=>?_) (fun c3=>?_)
   ·try simp only [sx] at c3
    refine Y O<|G O<|qX 20 O<|G O<|zA<|zJ<|fin2 (rs_c O) (rs_c O) ?_
    rw [zOo hs hp (mSt_e1 (mIxs_err c3))];rfl
   ·exact w9
 ·try simp only [sx] at c1
  have hme:=mSts_end hp zC
  rw [kJ (l:=l) (k:=k) zC]
  simp only [List.map_nil,List.append_nil]
  refine zU _ (yO 0 O (regs':=[(8,_)]) (μ':=[]) ⟨FLe.sl,T⟩ T)<|qM<|Y O<|G O<|G O<|G O<|zA<|zJ<|fin2 (rs_c O) (rs_c O) ?_
  rw [hme];rfl
theorem zIi (f:Lf->Lf×Int) (c:C) (P:Lf->Prop) (hf:∀l,P l->FnPur cfg c [dP l] (.tup [dP (f l).1,vI (f l).2])) (g:ByteArray->ByteArray) (c9:C) (hg:∀s,FnPur cfg c9 [vS s] (vS (g s))) (s:St) (hP:nN P s.Body) (hl:bI s.Body<=1073741824):Pur cfg 140 [fP s.Body,.c c,.c c9] (.tup [fP (cV (gD f g s.Body)),vI (jR (gD f g s.Body))]):=by
  induction s using St.ind with
  |_ s ih=>exact zDl f c P hf g c9 hg s.Body hP (fun a ha=>ih a ha (St.allF_eq (zNr hP a ha)).2.2 (by have:=zAb ha;have:=St.body_wt a;omega)) hl
theorem zOr (f:Lf->Lf×Int) (c:C) (P:Lf->Prop) (hf:∀l,P l->FnPur cfg c [dP l] (.tup [dP (f l).1,vI (f l).2])) (g:ByteArray->ByteArray) (c9:C) (hg:∀s,FnPur cfg c9 [vS s] (vS (g s))) (l:List St) (hP:nN P l) (hl:bI l<=1073741824):Pur cfg 140 [fP l,.c c,.c c9] (.tup [fP (cV (gD f g l)),vI (jR (gD f g l))]):=
  zDl f c P hf g c9 hg l hP (fun s hs=>zIi f c P hf g c9 hg s (St.allF_eq (zNr hP s hs)).2.2 (by have:=zAb hs;have:=St.body_wt s;omega)) hl
theorem zQk (l:Lf) (hl:l.L.length<=1073741824):
    Pur cfg 142 [dP l] (dP l):=by
 refine zV Tryz.func142 O Tryz.ntmps142 Tryz.results142 O ?_
 intro z hz
 refine Y O<|zY O O (qL O O) ?_
 rintro _ _ ⟨b1,rfl,rfl⟩
 refine zY O O (qG [none,some 2] O zr59 O) ?_
 rintro _ _ ⟨b2,rfl,rfl⟩
 refine zA<|zH<|yE 6 mixed uC O O<|zN O O (zF O zEd O)<|zN O O (zK O W O (J 1 O) O)<|zN O O (zF O wC O)<|zN O O (zK O zBe O (J 1 O) O)<|zN O O (qS O ok196 (OwnR.pur (zGl l.L zC)) ⟨zB,O,T⟩)<|zN O O (zAz O zr59 pl59 O)<|kE<|D 0 sz59 O<|zA<|zJ<|fin1 (zZ kD O (J 0 O) O) ?_
 exact O
theorem copyStmts_1 (l:Lf) (hl:l.L.length<=1073741824):
    Pur cfg 141 [dP l] (.tup [dP (idF l).1,vI (idF l).2]):=by
 refine zV Tryz.func141 O Tryz.ntmps141 Tryz.results141 O ?_
 intro z hz
 refine Y O<|zY O O (qL O O) ?_
 rintro _ _ ⟨b1,rfl,rfl⟩
 refine zY O O (qG [none,some 2] O zr59 O) ?_
 rintro _ _ ⟨b2,rfl,rfl⟩
 refine G O<|zA<|Y O<|zM kD (J 1 O) O<|qJ O ok142 (zQk l hl) ⟨zB,O,T⟩<|D 0 sz59 O<|G O<|zA<|zJ<|fin2 (zZ kD O (J 0 O) O) (rs_c O) ?_
 exact O
theorem loopnest_same (s:ByteArray):
    Pur cfg 143 [vS s] (vS s):=by
 refine zV Tryz.func143 O Tryz.ntmps143 Tryz.results143 O ?_
 intro z hz
 refine Y O<|G O<|zA<|Y O<|G O<|G O<|zA<|zJ<|zT O ?_
 exact O
theorem zMr (l:List St) (hl:bI l<=1073741824):
    Pur cfg 78 [fP l] (fP l):=by
 refine zV Tryz.func78 O Tryz.ntmps78 Tryz.results78 O ?_
 intro z hz
 refine Y O<|qX 20 O<|zA<|Y O<|G O<|qJ O ok140 (zOr idF _ (fun l=>l.L.length<=1073741824) (fun l hl=>FnPur.of_pur (first:=[]) (cap:=[]) ok141 (copyStmts_1 l hl)) (fun x=>x) _ (fun s=>FnPur.of_pur (first:=[]) (cap:=[]) ok143 (loopnest_same s)) l (sts_short hl) hl) ⟨zB,O,zB,O,zB,O,T⟩<|qU O<|yK O<|yK O<|G O<|G O<|zA<|Y O<|G O<|G O<|zA<|zJ<|zT O ?_
 rw [mSts_id];rfl
end Go.W
