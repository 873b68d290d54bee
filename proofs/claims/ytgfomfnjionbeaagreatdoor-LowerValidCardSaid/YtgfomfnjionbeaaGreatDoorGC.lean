/-
  What functions compute.
  What functions compute.
  What functions compute.
  Conditions: none.
-/
import Derived.Test.YtgfomfnjionbeaaGreatDoorWE
import Derived.Test.YtgfomfnjionbeaaGreatDoorPlain
import Derived.Test.YtgfomfnjionbeaaGreatDoorEngZ
set_option linter.unusedSimpArgs false
set_option linter.unusedVariables false
section
set_option maxRecDepth 10000
namespace Go.W
open Go Go.Eng Go.Proofs Go.L41 Go.Br
attribute [local irreducible] AWP RWP TD fQ
theorem ok69:bA Tryz.prog 69=true:=by kernel_rfl
theorem ok128:bA Tryz.prog 128=true:=by kernel_rfl
theorem ok129:bA Tryz.prog 129=true:=by kernel_rfl
theorem ok130:bA Tryz.prog 130=true:=by kernel_rfl
theorem pl62:dL Tryz.prog 62=some [(0,1),(1,1),(2,2),(4,5),(9,2),(11,1),(12,1)]:=by kernel_rfl
theorem sz52:(Tryz.prog.info? 52).map (·.size)=some 1:=by kernel_rfl
theorem sz60:(Tryz.prog.info? 60).map (·.size)=some 1:=by kernel_rfl
theorem sz72:(Tryz.prog.info? 72).map (·.size)=some 1:=by kernel_rfl
theorem mapForms_step (f:Lf->Lf×Int) (c:C) (P:Lf->Prop) (hf:∀l,P l->FnPur cfg c [dP l] (.tup [dP (f l).1,vI (f l).2])) (e:Ex) (hP:e.allF P) (ih:∀a,a∈e.Args->a.allF P->a.cnt<=4294967296->Pur cfg 69 [vE a,.c c] (.tup [vE (nW (mEx f a)),vI (jR (mEx f a))])) (he:e.cnt<=4294967296):
    Pur cfg 69 [vE e,.c c] (.tup [vE (nW (mEx f e)),vI (jR (mEx f e))]):=by
 refine zV Tryz.func69 O Tryz.ntmps69 Tryz.results69 O ?_
 intro z hz
 obtain ⟨hI,hA,hAt⟩:=e.cparts he
 refine Y O<|zY O O (qL O O) ?_
 rintro _ _ ⟨b1,rfl,rfl⟩
 refine zY O O (qG [none,none,none,none,none,none,none,none,none,none,some 2,some 4,some 13] O zr62 O) ?_
 rintro _ _ ⟨b2,rfl,rfl⟩
 refine G O<|zA<|Y O<|zM yU (J 1 O) O<|zY O O (qG [none,none,none,none,none,none,none,none,none,none,some 2,some 4,some 13] O zr62 O) ?_
 rintro _ _ ⟨b3,rfl,rfl⟩
 refine D 0 sz62 O<|zA<|Y O<|G O<|zA<|zH<|Y O<|G O<|zD O zDi<|zM kD (J 2 O) O<|zW O (kX O O (hf e.Lin (Ex.allF_lin hP)) ⟨zB,O,T⟩)<|qU O<|zW O (qY O O O)<|yK O<|zD O zDi<|D 0 sz59 O<|G O<|zA<|Y O<|G O<|yN O<|zA<|zE O (fun c1=>?_) (fun c1=>?_)
 ·exact v41
 ·try simp only [sx] at c1
  refine zI<|Y O<|zD O kQ<|zG wG (J 2 O) O<|zY O O (zBb O ok128 (zIq e.Idx hI) ⟨zB,O,T⟩) ?_
  rintro _ _ ⟨sv4,rfl,rfl⟩
  refine zD O kQ<|D 1 sz52 O<|zA<|zH<|Y O<|zD O kQ<|zG wG (J 3 O) O<|qB O N<|G O<|zA<|zR<|zU ⟨[(34,.c _),(1,.c _),(2,.c _),(4,.c _),(6,.c _),(32,.c _),(33,.c _)],[_,_,_,_]⟩ (Weak.mk [true,true,true,true] ⟨zB,zB,zB,zB,zB,zB,zB,T⟩ O)<|qF 1 1 O O (Nat×List Ix) (fun ⟨k,outs⟩=>[(34,vI k)]) (fun ⟨k,outs⟩=>[E.vec sv4 93 4 (outs.map Ix.cells++(e.Idx.drop k).map Ix.cells)]) (fun ⟨k,outs⟩=>k<=e.Idx.length/\(outs.length=k)/\(fJ f e.Idx=bZ outs (fJ f (e.Idx.drop k)))) (fun ⟨k,outs⟩=>e.Idx.length-k) ⟨⟨0,[]⟩,⟨zC,O,(zCo _).symm⟩,Weak.mk [true,true,true,true] ⟨zB,zB,zB,zB,zB,zB,zB,T⟩ O⟩ ?_
  rintro ⟨k,outs⟩ ⟨hk,ho,hp⟩
  show AWP _ _ _ _ _ ⟨[(34,vI k)]++_,[E.vec sv4 93 4 (outs.map Ix.cells++(e.Idx.drop k).map Ix.cells)]++_⟩
  refine Y O<|yA O<|zA<|zH<|zE O (fun c2=>?_) (fun c2=>?_)
  ·try simp only [sx] at c2
   obtain ⟨x,hx⟩:=qV e.Idx k zC
   have hxw:=hAt x (qC hx)
   refine zI<|zH<|zR<|Y O<|G O<|qE O N zC (getm uD)<|zM zJx qD O<|zY O O (qG [none,some 2,none,some 2] O zr93 O) ?_
   rintro _ _ ⟨b5,rfl,rfl⟩
   refine G O<|D 0 sz93 O<|zA<|zH<|zH<|zPk 12 [false,false,false,false,false,false,false,false,false,true,false,false] xY mixed uC O O O<|wB O O (zF O kQ O)<|wB O O (zK O wG O (J 2 O) O)<|wB O O (zP O O)<|wB O O (zP O O)<|wB O O (zF O zCi O)<|wB O O (qA O kD O (J 0 O) O)<|wB O O (kX O O (hf x.Lin (Ex.allF_ix hP (qC hx))) ⟨zB,O,T⟩)<|wB O O (yW O O)<|wB O O (qY O O O)<|td2_detA O O (fun _=>kT O O O)<|wB O O (qR 1 O N O O O zC (zJf uF zC))<|wB O O (kS O zCi O)<|td2_nil ?_
   refine ⟨_,yX O sz59 O O O (zEl 1 O (zOm uF hx) O),fun _ _ _=>T,?_⟩
   rintro _ _ ⟨rfl,rfl⟩
   refine G O<|zA<|Y O<|G O<|yN O<|zA<|zE O (fun c3=>?_) (fun c3=>?_)
   ·try simp only [sx] at c3
    refine Y O<|yZ [none,none,none,none,none,none,none,none,none,none,some 2,some 4,some 13] O zr62 pl62<|G O<|D 3 sz62 O<|G O<|zA<|zJ<|fin2 (zZ yU O (J 3 O) O) (rs_c O) ?_
    rw [mEx_e2 c1 (mIxs_no hx hp (mIx_e1 c3))];rfl
   ·try simp only [sx] at c3
    refine zI<|zH<|awp_draw_f 8 [.q,.q,.q,.q,.q,.f,.q,.q] xY mixed uC O O O<|wA O O (zF O kQ O)<|wA O O (zK O wG O (J 2 O) O)<|wA O O (zP O O)<|wA O O (zF O zAg O)<|wA O O (zK O zCg O (J 0 O) O)<|zQt<|wA O O (qR 1 O N O O O zC uF)<|wA O O (kS O zAg O)<|tdq_nil<|zCf<|zCf<|zCf<|zCf<|zCf<|zLx (fresh_own (zBb O ok129 (zHz x.At zC) ⟨zB,O,T⟩))<|zCf<|zCf<|tdf_nil<|zKn ?_
    rintro _ _ ⟨sv6,rfl,rfl⟩
    refine zNp ?_
    refine ⟨_,yX O sz72 O O O (zEl 2 O (zFe uF) O),(fun _ _ _=>T),?_⟩
    rintro _ _ ⟨rfl,rfl⟩
    refine zA<|Y O<|zD O zAg<|zG zCg (J 1 O) O<|qB O el72<|G O<|zA<|zR<|zU ⟨[(66,.c _),(1,.c _),(2,.c _),(4,.c _),(6,.c _),(8,.c _),(32,.c _),(33,.c _),(34,.c _),(64,.c _),(65,.c _)],[_,_,_,_,_]⟩ (Weak.mk [true,false,true,true,true,true] ⟨zB,zB,zB,zB,zB,zB,zB,zB,zB,zB,zB,T⟩ O)<|qF 1 1 O O (Nat×List Lf) (fun ⟨j,lins⟩=>[(66,vI j)]) (fun ⟨j,lins⟩=>[E.vec sv6 59 2 (lins.map Lf.cells++(x.At.drop j).map Lf.cells)]) (fun ⟨j,lins⟩=>j<=x.At.length/\(lins.length=j)/\(fG f x.At=bZ lins (fG f (x.At.drop j)))) (fun ⟨j,lins⟩=>x.At.length-j) ⟨⟨0,[]⟩,⟨zC,O,(zCo _).symm⟩,Weak.mk [true,true,true,true,true] ⟨zB,zB,zB,zB,zB,zB,zB,zB,zB,zB,zB,T⟩ O⟩ ?_
    rintro ⟨j,lins⟩ ⟨hj,hlo,hq⟩
    show AWP _ _ _ _ _ ⟨[(66,vI j)]++_,[E.vec sv6 59 2 (lins.map Lf.cells++(x.At.drop j).map Lf.cells)]++_⟩
    refine Y O<|yA O<|zA<|zH<|zE O (fun c4=>?_) (fun c4=>?_)
    ·try simp only [sx] at c4
     obtain ⟨l,hl⟩:=qV x.At j zC
     have hlw:=hAt x (qC hx)
     refine zI<|zH<|zR<|Y O<|G O<|qE O el72 zC (getm uD)<|zM kD qD O<|zY O O (qG [none,some 2] O zr59 O) ?_
     rintro _ _ ⟨b7,rfl,rfl⟩
     refine G O<|D 0 sz59 O<|zA<|zH<|zPk 14 [false,false,false,false,false,false,false,false,false,false,false,false,true,false] xY mixed uC O O O<|wB O O (zF O kQ O)<|wB O O (zK O wG O (J 3 O) O)<|wB O O (zP O O)<|wB O O (qR 2 O N O O O zC uF)<|wB O O (kS O zAg O)<|wB O O (zK O zCg O (kP 2 O (zFe uF)) O)<|wB O O (zP O O)<|wB O O (zP O O)<|wB O O (qA O kD O (J 0 O) O)<|wB O O (kX O O (hf l (Ex.allF_at hP (qC hx) (qC hl))) ⟨zB,O,T⟩)<|wB O O (yW O O)<|wB O O (qY O O O)<|td2_detA O O (fun _=>kT O O O)<|wB O O (qR 1 O el72 O O O zC (zJf uF zC))<|td2_nil ?_
     refine ⟨_,yX O sz59 O O O (zEl 1 O (zOm uF hl) O),fun _ _ _=>T,?_⟩
     rintro _ _ ⟨rfl,rfl⟩
     refine G O<|zA<|Y O<|G O<|yN O<|zA<|zE O (fun c5=>?_) (fun c5=>?_)
     ·try simp only [sx] at c5
      refine Y O<|yZ [none,none,none,none,none,none,none,none,none,none,some 2,some 4,some 13] O zr62 pl62<|G O<|D 4 sz62 O<|G O<|zA<|zJ<|fin2 (zZ yU O (J 4 O) O) (rs_c O) ?_
      rw [mEx_e2 c1 (mIxs_no hx hp (mIx_e2 c3 (mLins_no hl hq c5)))];rfl
     ·try simp only [sx] at c5
      refine zI<|zO O<|qH O ⟨zC,zC⟩<|G O<|zA ?_
      refine ⟨⟨j+1,lins++[(f l).1]⟩,⟨zC,uF,mLins_next hl hq c5⟩,(by show x.At.length-(j+1)<x.At.length-j;omega),Weak.mk [false,true,true,true,true,true] ⟨zB,zB,zB,zB,zB,zB,zB,zB,zB,zB,zB,T⟩ (by simp only [Int.toNat_natCast];rw [zJe uF hl];simp only [List.map_append,List.map_cons,List.map_nil];rfl)⟩
    ·try simp only [sx] at c4
     have hml:=mLins_end hq zC
     rw [kJ (l:=x.At) (k:=j) zC]
     simp only [List.map_nil,List.append_nil]
     refine zU _ (yO 0 O (regs':=[]) (μ':=[_,_,_,_]) T ⟨EFle.vec (r':=[_,_,_,_]) (zFe uF) ⟨.inl O,.inl O,.inl O,.inr ⟨O,O⟩,T⟩,EFle.refl _,EFle.refl _,EFle.refl _,T⟩)<|qM<|zO O<|qH O ⟨zC,zC⟩<|G O<|zA ?_
     refine ⟨⟨k+1,outs++[⟨(f x.Lin).1,x.From,lins⟩]⟩,⟨zC,uF,mIxs_next hx hp (mIx_ok c3 hml)⟩,(by show e.Idx.length-(k+1)<e.Idx.length-k;omega),Weak.mk [true,true,true,true] ⟨zB,zB,zB,zB,zB,zB,zB,T⟩ (by simp only [Int.toNat_natCast,List.set_set];rw [zJe uF hx];simp only [List.map_append,List.map_cons,List.map_nil];rfl)⟩
  ·try simp only [sx] at c2
   have hmi:=mIxs_end hp zC
   rw [kJ (l:=e.Idx) (k:=k) zC]
   simp only [List.map_nil,List.append_nil]
   refine zU _ (yO 0 O (regs':=[]) (μ':=[_,_,_]) T ⟨EFle.row (ds:=[_,_,_,_,_,_,_,_,_,_,_,_,_]) ⟨.inl O,.inl O,.inl O,.inl O,.inl O,.inl O,.inl O,.inl O,.inl O,.inl O,.inl O,.inr ⟨O,O⟩,.inl O,T⟩,EFle.refl _,EFle.refl _,T⟩)<|qM<|Y O<|zD O wP<|zG zBy (J 2 O) O<|zY O O (zBb O ok130 (zIr e.Args hA) ⟨zB,O,T⟩) ?_
   rintro _ _ ⟨sv8,rfl,rfl⟩
   refine zD O wP<|D 1 sz60 O<|zA<|zH<|Y O<|zD O wP<|zG zBy (J 3 O) O<|qB O el60<|G O<|zA<|zR<|zU ⟨[(98,.c _),(1,.c _),(4,.c _),(6,.c _),(96,.c _),(97,.c _)],[_,_,_]⟩ (Weak.mk [true,true,true,false] ⟨zB,zB,zB,zB,zB,zB,T⟩ O)<|qF 1 1 O O (Nat×List Ex) (fun ⟨n,exs⟩=>[(98,vI n)]) (fun ⟨n,exs⟩=>[E.vec sv8 62 13 (exs.map Ex.cells++(e.Args.drop n).map Ex.cells)]) (fun ⟨n,exs⟩=>n<=e.Args.length/\(exs.length=n)/\(gW f e.Args=bZ exs (gW f (e.Args.drop n)))) (fun ⟨n,exs⟩=>e.Args.length-n) ⟨⟨0,[]⟩,⟨zC,O,(zCo _).symm⟩,Weak.mk [true,true,true] ⟨zB,zB,zB,zB,zB,zB,T⟩ O⟩ ?_
   rintro ⟨n,exs⟩ ⟨hn,hno,hr⟩
   show AWP _ _ _ _ _ ⟨[(98,vI n)]++_,[E.vec sv8 62 13 (exs.map Ex.cells++(e.Args.drop n).map Ex.cells)]++_⟩
   refine Y O<|yA O<|zA<|zH<|zE O (fun c6=>?_) (fun c6=>?_)
   ·try simp only [sx] at c6
    obtain ⟨a,ha⟩:=qV e.Args n zC
    refine zI<|zH<|zR<|Y O<|G O<|qE O el60 zC (zGh uD)<|zM yU qD O<|zY O O (qG [none,none,none,none,none,none,none,none,none,none,some 2,some 4,some 13] O zr62 O) ?_
    rintro _ _ ⟨b9,rfl,rfl⟩
    refine G O<|D 0 sz62 O<|zA<|zH<|zPk 10 [false,false,false,false,false,false,false,false,true,false] xY mixed uC O O O<|wB O O (zF O wP O)<|wB O O (zK O zBy O (J 2 O) O)<|wB O O (zP O O)<|wB O O (qA O yU O (J 0 O) O)<|wB O O (zP O O)<|wB O O (qS O ok69 (ih a (qC ha) (Ex.allF_arg hP (qC ha)) (by have:=Ex.arg_cnt (qC ha);omega)) ⟨zB,O,zB,O,T⟩)<|wB O O (yW O O)<|wB O O (qY O O O)<|td2_detA O O (fun _=>kT O O O)<|wB O O (qR 1 O el60 O O O zC (zJf uF zC))<|td2_nil ?_
    refine ⟨_,yX O sz62 O O O (zEl 1 O (mid_getE uF ha) O),fun _ _ _=>T,?_⟩
    rintro _ _ ⟨rfl,rfl⟩
    refine G O<|zA<|Y O<|G O<|yN O<|zA<|zE O (fun c7=>?_) (fun c7=>?_)
    ·try simp only [sx] at c7
     refine Y O<|yZ [none,none,none,none,none,none,none,none,none,none,some 2,some 4,some 13] O zr62 pl62<|G O<|D 3 sz62 O<|G O<|zA<|zJ<|fin2 (zZ yU O (J 3 O) O) (rs_c O) ?_
     rw [mEx_e3 c1 hmi (mExs_no ha hr c7)];rfl
    ·try simp only [sx] at c7
     refine zI<|zO O<|qH O ⟨zC,zC⟩<|G O<|zA ?_
     refine ⟨⟨n+1,exs++[nW (mEx f a)]⟩,⟨zC,uF,mExs_next ha hr c7⟩,(by show e.Args.length-(n+1)<e.Args.length-n;omega),Weak.mk [false,true,true,true] ⟨zB,zB,zB,zB,zB,zB,T⟩ (by simp only [Int.toNat_natCast];rw [zJe uF ha];simp only [List.map_append,List.map_cons,List.map_nil,Ex.cells_eq (nW (mEx f a))];rfl)⟩
   ·try simp only [sx] at c6
    have hme:=mExs_end hr zC
    rw [kJ (l:=e.Args) (k:=n) zC]
    simp only [List.map_nil,List.append_nil]
    refine zU _ (yO 0 O (regs':=[]) (μ':=[_,_]) T ⟨EFle.row (ds:=[_,_,_,_,_,_,_,_,_,_,_,_,_]) ⟨.inl O,.inl O,.inl O,.inl O,.inl O,.inl O,.inl O,.inl O,.inl O,.inl O,.inl O,.inl O,.inr ⟨O,O⟩,T⟩,EFle.refl _,T⟩)<|qM<|Y O<|zM yU (J 0 O) O<|D 1 sz62 O<|G O<|zA<|zJ<|fin2 (zZ yU O (J 1 O) O) (rs_c O) ?_
    rw [mEx_ok c1 hmi hme];rfl
theorem mapForms_conW (f:Lf->Lf×Int) (c:C) (P:Lf->Prop) (hf:∀l,P l->FnPur cfg c [dP l] (.tup [dP (f l).1,vI (f l).2])) (e:Ex) (hP:e.allF P) (he:e.cnt<=4294967296):Pur cfg 69 [vE e,.c c] (.tup [vE (nW (mEx f e)),vI (jR (mEx f e))]):=by
  induction e using Ex.ind with
  |_ e ih=>exact mapForms_step f c P hf e hP ih he
theorem mapForms_con (f:Lf->Lf×Int) (c:C) (P:Lf->Prop) (hf:∀l,P l->l.L.length<=4294967296->FnPur cfg c [dP l] (.tup [dP (f l).1,vI (f l).2])) (e:Ex) (hP:e.allF P) (he:e.wt<=4294967296):Pur cfg 69 [vE e,.c c] (.tup [vE (nW (mEx f e)),vI (jR (mEx f e))]):=
  mapForms_conW f c (fun l=>P l/\l.L.length<=4294967296) (fun l h=>hf l h.1 h.2) e (fun x hx l hl=>⟨hP x hx l hl,zRc (Nat.le_trans (zFh e x hx) he) hl⟩) (Nat.le_trans e.cnt_le he)
end Go.W
end
section
set_option maxRecDepth 10000
namespace Go.W
open Go Go.Eng Go.Proofs Go.L41 Go.Br
attribute [local irreducible] AWP RWP TD fQ
end Go.W
end
section
set_option maxRecDepth 10000
namespace Go.W
open Go Go.Eng Go.Proofs Go.L41 Go.Br
attribute [local irreducible] AWP RWP TD fQ
theorem agg70:mJ Tryz.prog 70=some 22:=by kernel_rfl
theorem el28:dG Tryz.prog 28=some (70,22,272):=by kernel_rfl
theorem zEe:bD Tryz.prog 30 3=some (3,28):=by kernel_rfl
theorem zJo:bD Tryz.prog 70 0=some (0,9):=by kernel_rfl
theorem ok183:bA Tryz.prog 183=true:=by kernel_rfl
theorem ok196:bA Tryz.prog 196=true:=by kernel_rfl
theorem ok225:bA Tryz.prog 225=true:=by kernel_rfl
theorem ok226:bA Tryz.prog 226=true:=by kernel_rfl
theorem zKr:gB Tryz.prog 28=true:=by kernel_rfl
theorem zIc (l:Lf) (hl:l.L.length<=5864062014805):
    Pur cfg 183 [dP l] (dP l):=by
 refine zV Tryz.func183 O Tryz.ntmps183 Tryz.results183 O ?_
 intro z hz
 refine Y O<|zY O O (qL O O) ?_
 rintro _ _ ⟨b1,rfl,rfl⟩
 refine zY O O (qG [none,some 2] O zr59 O) ?_
 rintro _ _ ⟨b2,rfl,rfl⟩
 refine zA<|zH<|yE 6 mixed uC O O<|zN O O (zF O zEd O)<|zN O O (zK O W O (J 1 O) O)<|zN O O (zF O wC O)<|zN O O (zK O zBe O (J 1 O) O)<|zN O O (qS O ok196 (OwnR.pur (zGl l.L hl)) ⟨zB,O,T⟩)<|zN O O (zAz O zr59 pl59 O)<|kE<|D 0 sz59 O<|zA<|zJ<|fin1 (zZ kD O (J 0 O) O) ?_
 exact O
theorem zOc (l:List Lf) (hl:l.length<=4294967296) (hx:∀x,x∈l->x.L.length<=5864062014805):
    OwnR cfg 181 [nI l] 59 2 (l.map Lf.cells):=by
 refine zV Tryz.func181 O Tryz.ntmps181 Tryz.results181 O ?_
 intro z hz
 have hl0:=hx
 clear hx
 refine Y O<|qX 2 O<|zA<|Y O<|G O<|yT _ (kO 59 2)<|zA<|zH<|Y O<|G O<|qB O el72<|G O<|zA<|zR<|zU ⟨[(8,.c _),(3,.c _),(6,.c _),(7,.c _)],[_]⟩ (Weak.mk [true] ⟨zB,zB,zB,zB,T⟩ O)<|qF 2 1 O O (Nat×Value) (fun ⟨k,sv⟩=>[(8,vI k),(3,.c (.lit sv))]) (fun ⟨k,sv⟩=>[E.vec sv 59 2 ((l.take k).map Lf.cells)]) (fun ⟨k,sv⟩=>k<=l.length) (fun ⟨k,sv⟩=>l.length-k) ⟨⟨0,(.slice none 0 0)⟩,zC,Weak.mk [true] ⟨zB,zB,zB,zB,T⟩ O⟩ ?_
 rintro ⟨k,sv⟩ hk
 show AWP _ _ _ _ _ ⟨[(8,vI k),(3,.c (.lit sv))]++_,[E.vec sv 59 2 ((l.take k).map Lf.cells)]++_⟩
 refine Y O<|yA O<|zA<|zH<|zE O (fun c1=>?_) (fun c1=>?_)
 ·try simp only [sx] at c1
  obtain ⟨x,hx⟩:=qV l k zC
  refine zI<|zH<|zR<|Y O<|qE O el72 zC (getm uD)<|zM kD qD O<|zY O O (qG [none,some 2] O zr59 O) ?_
  rintro _ _ ⟨b2,rfl,rfl⟩
  refine D 0 sz59 O<|zA<|zO O<|G O<|zM kD (J 0 O) O<|qJ O ok183 (zIc _ (hl0 _ (qC hx))) ⟨zB,O,T⟩<|kA O el72 zr59<|zY O O (yH 1 O el72 O O O uJ uJ) ?_
  rintro _ _ ⟨sv3,rfl,rfl⟩
  refine G O<|zA<|zO O<|qH O ⟨zC,zC⟩<|G O<|zA ?_
  refine ⟨⟨k+1,sv3⟩,zC,(by show l.length-(k+1)<l.length-k;omega),Weak.mk [false,true] ⟨zB,zB,zB,zB,T⟩ (by show _=[E.vec sv3 _ 2 ((l.take (k+1)).map Lf.cells)]++_;rw [yB hx,List.map_append];rfl)⟩
 ·try simp only [sx] at c1
  refine qM<|Y O<|G O<|G O<|zA<|zJ<|zT O ?_
  exact ⟨_,O,by rw [yD zC];rfl⟩
theorem zOd (d:Df) (s:ByteArray):
    Pur cfg 226 [vDf d,.c (.iptr [cS s])] (vB (decide (d.Name=s))):=by
 refine zV Tryz.func226 O Tryz.ntmps226 Tryz.results226 O ?_
 intro z hz
 refine Y O<|zY O O (qL O O) ?_
 rintro _ _ ⟨b1,rfl,rfl⟩
 refine G O<|zA<|Y O<|zD O zJo<|zG one9 (J 0 O) O<|zG one9 qD O<|wD O<|G O<|zA<|zJ<|zT O ?_
 exact O
theorem zLg (l:List Df) (c:C) (p:Df->Bool) (hl:l.length<=4294967296) (hc:∀x,x∈l->FnPur cfg c [vDf x] (vB (p x))):
    Pur cfg 225 [.c (.sl 22 (l.map Df.cells)),.c c] (vI (dJ p l)):=by
 refine zV Tryz.func225 O Tryz.ntmps225 Tryz.results225 O ?_
 intro z hz
 refine Y O<|G O<|zA<|zH<|Y O<|G O<|qB O el28<|G O<|zA<|zR<|zU ⟨[(8,.c _),(0,.c _),(1,.c _),(7,.c _)],[]⟩ (Weak.mk [] ⟨zB,zB,zB,zB,T⟩ O)<|qF 1 0 O O (Nat) (fun k=>[(8,vI k)]) (fun k=>[]) (fun k=>k<=l.length/\((l.take k).any p=false)) (fun k=>l.length-k) ⟨0,⟨zC,O⟩,Weak.mk [] ⟨zB,zB,zB,zB,T⟩ O⟩ ?_
 rintro k ⟨hk,hp⟩
 refine Y O<|yA O<|zA<|zH<|zE O (fun c1=>?_) (fun c1=>?_)
 ·try simp only [sx] at c1
  obtain ⟨x,hx⟩:=qV l k zC
  refine zI<|zH<|zR<|Y O<|G O<|G O<|zA<|Y O<|G O<|G O<|G O<|qE O el28 zC (getm uD)<|zM agg70 qD O<|zW O (kX O O (hc _ (qC hx)) ⟨zB,O,T⟩)<|zA<|zE O (fun c2=>?_) (fun c2=>?_)
  ·exact v37
  ·exact m8
 ·exact v15
theorem zSo (p:Pg) (s:ByteArray) (hd:p.Defs.length<=4294967296):
    Pur cfg 182 [vPg p,vS s] (vI (mW s p.Defs)):=by
 refine zV Tryz.func182 O Tryz.ntmps182 Tryz.results182 O ?_
 intro z hz
 refine Y O<|zY O O (qL O O) ?_
 rintro _ _ ⟨b1,rfl,rfl⟩
 refine zY O O (qL O O) ?_
 rintro _ _ ⟨b2,rfl,rfl⟩
 refine G O<|zA<|Y O<|zD O zEe<|zG zKr (J 1 O) O<|zW O (zDw O O O O O)<|yT _ (kG 0 O 7 (.c (.fn _ _ [_])) (PLe.fn ⟨.inr ⟨O,O⟩,T⟩))<|qJ O ok225 (zLg p.Defs _ (fun d=>decide (d.Name=s)) hd (fun x _=>FnPur.of_pur (first:=[]) (cap:=[.iptr [cS s]]) ok226 (zOd x s))) ⟨zB,O,zB,O,T⟩<|G O<|zA<|zJ<|zT O ?_
 exact O
end Go.W
end
