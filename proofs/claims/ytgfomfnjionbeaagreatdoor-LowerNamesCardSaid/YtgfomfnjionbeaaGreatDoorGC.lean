/-
  Walks: what functions of the program compute. Printed by wip/gen/mk2.py.
  Walks: what functions of the program compute. Printed by wip/gen/mk2.py.
  Walks: what functions of the program compute. Printed by wip/gen/mk2.py.
  Conditions: none.
-/
import Derived.Test.YtgfomfnjionbeaaGreatDoorWE
import Derived.Test.YtgfomfnjionbeaaGreatDoorPlain
import Derived.Test.YtgfomfnjionbeaaGreatDoorEngZ
set_option linter.unusedSimpArgs false
set_option linter.unusedVariables false
section
set_option maxRecDepth 10000
namespace Go.W
open Go Go.Eng Go.Proofs Go.L41 Go.Br
attribute [local irreducible] AWP RWP TD finQ
theorem ok69:callOk Tryz.prog 69=true:=by kernel_rfl
theorem ok128:callOk Tryz.prog 128=true:=by kernel_rfl
theorem ok129:callOk Tryz.prog 129=true:=by kernel_rfl
theorem ok130:callOk Tryz.prog 130=true:=by kernel_rfl
theorem pl62:placesT Tryz.prog 62=some [(0,1),(1,1),(2,2),(4,5),(9,2),(11,1),(12,1)]:=by kernel_rfl
theorem sz52:(Tryz.prog.info? 52).map (·.size)=some 1:=by kernel_rfl
theorem sz60:(Tryz.prog.info? 60).map (·.size)=some 1:=by kernel_rfl
theorem sz72:(Tryz.prog.info? 72).map (·.size)=some 1:=by kernel_rfl
theorem mapForms_step (f:Lf->Lf×Int) (c:C) (P:Lf->Prop) (hf:∀l,P l->FnPur cfg c [vLin l] (.tup [vLin (f l).1,vI (f l).2])) (e:Ex) (hP:e.allF P) (ih:∀a,a∈e.Args->a.allF P->a.cnt<=4294967296->Pur cfg 69 [vE a,.c c] (.tup [vE (outE (mEx f a)),vI (errE (mEx f a))])) (he:e.cnt<=4294967296):
    Pur cfg 69 [vE e,.c c] (.tup [vE (outE (mEx f e)),vI (errE (mEx f e))]):=by
 refine zW Tryz.func69 O Tryz.ntmps69 Tryz.results69 O ?_
 intro z hz
 obtain ⟨hI,hA,hAt⟩:=e.cparts he
 refine Y O<|zZ O O (qO O O) ?_
 rintro _ _ ⟨b1,rfl,rfl⟩
 refine zZ O O (qF [none,none,none,none,none,none,none,none,none,none,some 2,some 4,some 13] O zr62 O) ?_
 rintro _ _ ⟨b2,rfl,rfl⟩
 refine G O<|zA<|Y O<|zM kD (J 1 O) O<|zZ O O (qF [none,none,none,none,none,none,none,none,none,none,some 2,some 4,some 13] O zr62 O) ?_
 rintro _ _ ⟨b3,rfl,rfl⟩
 refine D 0 sz62 O<|zA<|Y O<|G O<|zA<|zH<|Y O<|G O<|zD O zGp<|zM kE (J 2 O) O<|zR O (kP O O (hf e.Lin (Ex.allF_lin hP)) ⟨zB,O,T⟩)<|qV O<|zR O (yA O O O)<|yI O<|zD O zGp<|D 0 sz59 O<|G O<|zA<|Y O<|G O<|yM O<|zA<|zE O (fun c1=>?_) (fun c1=>?_)
 ·exact v26
 ·try simp only [sx] at c1
  refine zF<|Y O<|zD O zAt<|zI zBr (J 2 O) O<|zZ O O (zAg O ok128 (zHc e.Idx hI) ⟨zB,O,T⟩) ?_
  rintro _ _ ⟨sv4,rfl,rfl⟩
  refine zD O zAt<|D 1 sz52 O<|zA<|zH<|Y O<|zD O zAt<|zI zBr (J 3 O) O<|qB O el52<|G O<|zA<|zT<|zU ⟨[(34,.c _),(1,.c _),(2,.c _),(4,.c _),(6,.c _),(32,.c _),(33,.c _)],[_,_,_,_]⟩ (Weak.mk [true,true,true,true] ⟨zB,zB,zB,zB,zB,zB,zB,T⟩ O)<|qJ 1 1 O O (Nat×List Ix) (fun ⟨k,outs⟩=>[(34,vI k)]) (fun ⟨k,outs⟩=>[E.vec sv4 93 4 (outs.map Ix.cells++(e.Idx.drop k).map Ix.cells)]) (fun ⟨k,outs⟩=>k<=e.Idx.length/\(outs.length=k)/\(mIxs f e.Idx=mapRest outs (mIxs f (e.Idx.drop k)))) (fun ⟨k,outs⟩=>e.Idx.length-k) ⟨⟨0,[]⟩,⟨by omega,O,(zBs _).symm⟩,Weak.mk [true,true,true,true] ⟨zB,zB,zB,zB,zB,zB,zB,T⟩ O⟩ ?_
  rintro ⟨k,outs⟩ ⟨hk,ho,hp⟩
  show AWP _ _ _ _ _ ⟨[(34,vI k)]++_,[E.vec sv4 93 4 (outs.map Ix.cells++(e.Idx.drop k).map Ix.cells)]++_⟩
  refine Y O<|yB O<|zA<|zH<|zE O (fun c2=>?_) (fun c2=>?_)
  ·try simp only [sx] at c2
   obtain ⟨x,hx⟩:=yD e.Idx k (by omega)
   have hxw:=hAt x (qC hx)
   refine zF<|zH<|zT<|Y O<|G O<|qD O el52 (by omega) (getm (by assumption))<|zM zLp qH O<|zZ O O (qF [none,some 2,none,some 2] O zr93 O) ?_
   rintro _ _ ⟨b5,rfl,rfl⟩
   refine G O<|D 0 sz93 O<|zA<|zH<|zH<|zMy 12 [false,false,false,false,false,false,false,false,false,true,false,false] Mall mixed (by kernel_rfl) O O O<|kT O O (zJ O zAt O)<|kT O O (zK O zBr O (J 2 O) O)<|kT O O (zS O O)<|kT O O (zS O O)<|kT O O (zJ O zEl O)<|kT O O (qA O kE O (J 0 O) O)<|kT O O (kP O O (hf x.Lin (Ex.allF_ix hP (qC hx))) ⟨zB,O,T⟩)<|kT O O (yR O O)<|kT O O (yA O O O)<|td2_detA O O (fun _=>kR O O O)<|kT O O (qL 1 O el52 O O O (by omega) (zHn (by simp;omega) (by omega)))<|kT O O (kK O zEl O)<|td2_nil ?_
   refine ⟨_,yT O sz59 O O O (zDf 1 O (zMh (by simp;omega) hx) O),fun _ _ _=>T,?_⟩
   rintro _ _ ⟨rfl,rfl⟩
   refine G O<|zA<|Y O<|G O<|yM O<|zA<|zE O (fun c3=>?_) (fun c3=>?_)
   ·try simp only [sx] at c3
    refine Y O<|yY [none,none,none,none,none,none,none,none,none,none,some 2,some 4,some 13] O zr62 pl62<|G O<|D 3 sz62 O<|G O<|zA<|zG<|fin2 (zY kD O (J 3 O) O) (N O) ?_
    rw [mEx_e2 c1 (mIxs_no hx hp (mIx_e1 c3))];rfl
   ·try simp only [sx] at c3
    refine zF<|zH<|awp_draw_f 8 [.q,.q,.q,.q,.q,.f,.q,.q] Mall mixed (by kernel_rfl) O O O<|kS O O (zJ O zAt O)<|kS O O (zK O zBr O (J 2 O) O)<|kS O O (zS O O)<|kS O O (zJ O zBj O)<|kS O O (zK O zEt O (J 0 O) O)<|zNx<|kS O O (qL 1 O el52 O O O (by omega) (by simp;omega))<|kS O O (kK O zBj O)<|tdq_nil<|zAy<|zAy<|zAy<|zAy<|zAy<|zJx (fresh_own (zAg O ok129 (zGl x.At (by omega)) ⟨zB,O,T⟩))<|zAy<|zAy<|tdf_nil<|zIr ?_
    rintro _ _ ⟨sv6,rfl,rfl⟩
    refine zLm ?_
    refine ⟨_,yT O sz72 O O O (zDf 2 O (zDt (by simp;omega)) O),(fun _ _ _=>T),?_⟩
    rintro _ _ ⟨rfl,rfl⟩
    refine zA<|Y O<|zD O zBj<|zI zEt (J 1 O) O<|qB O el72<|G O<|zA<|zT<|zU ⟨[(66,.c _),(1,.c _),(2,.c _),(4,.c _),(6,.c _),(8,.c _),(32,.c _),(33,.c _),(34,.c _),(64,.c _),(65,.c _)],[_,_,_,_,_]⟩ (Weak.mk [true,false,true,true,true,true] ⟨zB,zB,zB,zB,zB,zB,zB,zB,zB,zB,zB,T⟩ O)<|qJ 1 1 O O (Nat×List Lf) (fun ⟨j,lins⟩=>[(66,vI j)]) (fun ⟨j,lins⟩=>[E.vec sv6 59 2 (lins.map Lf.cells++(x.At.drop j).map Lf.cells)]) (fun ⟨j,lins⟩=>j<=x.At.length/\(lins.length=j)/\(mLins f x.At=mapRest lins (mLins f (x.At.drop j)))) (fun ⟨j,lins⟩=>x.At.length-j) ⟨⟨0,[]⟩,⟨by omega,O,(zBs _).symm⟩,Weak.mk [true,true,true,true,true] ⟨zB,zB,zB,zB,zB,zB,zB,zB,zB,zB,zB,T⟩ O⟩ ?_
    rintro ⟨j,lins⟩ ⟨hj,hlo,hq⟩
    show AWP _ _ _ _ _ ⟨[(66,vI j)]++_,[E.vec sv6 59 2 (lins.map Lf.cells++(x.At.drop j).map Lf.cells)]++_⟩
    refine Y O<|yB O<|zA<|zH<|zE O (fun c4=>?_) (fun c4=>?_)
    ·try simp only [sx] at c4
     obtain ⟨l,hl⟩:=yD x.At j (by omega)
     have hlw:=hAt x (qC hx)
     refine zF<|zH<|zT<|Y O<|G O<|qD O el72 (by omega) (getm (by assumption))<|zM kE qH O<|zZ O O (qF [none,some 2] O W O) ?_
     rintro _ _ ⟨b7,rfl,rfl⟩
     refine G O<|D 0 sz59 O<|zA<|zH<|zMy 14 [false,false,false,false,false,false,false,false,false,false,false,false,true,false] Mall mixed (by kernel_rfl) O O O<|kT O O (zJ O zAt O)<|kT O O (zK O zBr O (J 3 O) O)<|kT O O (zS O O)<|kT O O (qL 2 O el52 O O O (by omega) (by simp;omega))<|kT O O (kK O zBj O)<|kT O O (zK O zEt O (kN 2 O (zDt (by simp;omega))) O)<|kT O O (zS O O)<|kT O O (zS O O)<|kT O O (qA O kE O (J 0 O) O)<|kT O O (kP O O (hf l (Ex.allF_at hP (qC hx) (qC hl))) ⟨zB,O,T⟩)<|kT O O (yR O O)<|kT O O (yA O O O)<|td2_detA O O (fun _=>kR O O O)<|kT O O (qL 1 O el72 O O O (by omega) (zHn (by simp;omega) (by omega)))<|td2_nil ?_
     refine ⟨_,yT O sz59 O O O (zDf 1 O (zMh (by simp;omega) hl) O),fun _ _ _=>T,?_⟩
     rintro _ _ ⟨rfl,rfl⟩
     refine G O<|zA<|Y O<|G O<|yM O<|zA<|zE O (fun c5=>?_) (fun c5=>?_)
     ·try simp only [sx] at c5
      refine Y O<|yY [none,none,none,none,none,none,none,none,none,none,some 2,some 4,some 13] O zr62 pl62<|G O<|D 4 sz62 O<|G O<|zA<|zG<|fin2 (zY kD O (J 4 O) O) (N O) ?_
      rw [mEx_e2 c1 (mIxs_no hx hp (mIx_e2 c3 (mLins_no hl hq c5)))];rfl
     ·try simp only [sx] at c5
      refine zF<|zP O<|qM O ⟨by omega,by omega⟩<|G O<|zA ?_
      refine ⟨⟨j+1,lins++[(f l).1]⟩,⟨by omega,by simp;omega,mLins_next hl hq c5⟩,(by show x.At.length-(j+1)<x.At.length-j;omega),Weak.mk [false,true,true,true,true,true] ⟨zB,zB,zB,zB,zB,zB,zB,zB,zB,zB,zB,T⟩ (by simp only [Int.toNat_natCast];rw [zHm (by simp;omega) hl];simp only [List.map_append,List.map_cons,List.map_nil];rfl)⟩
    ·try simp only [sx] at c4
     have hml:=mLins_end hq (by omega)
     rw [kV (l:=x.At) (k:=j) (by omega)]
     simp only [List.map_nil,List.append_nil]
     refine zU _ (yJ 0 O (regs':=[]) (μ':=[_,_,_,_]) T ⟨EFle.vec (r':=[_,_,_,_]) (zDt (by simp;omega)) ⟨.inl O,.inl O,.inl O,.inr ⟨O,O⟩,T⟩,EFle.refl _,EFle.refl _,EFle.refl _,T⟩)<|qP<|zP O<|qM O ⟨by omega,by omega⟩<|G O<|zA ?_
     refine ⟨⟨k+1,outs++[⟨(f x.Lin).1,x.From,lins⟩]⟩,⟨by omega,by simp;omega,mIxs_next hx hp (mIx_ok c3 hml)⟩,(by show e.Idx.length-(k+1)<e.Idx.length-k;omega),Weak.mk [true,true,true,true] ⟨zB,zB,zB,zB,zB,zB,zB,T⟩ (by simp only [Int.toNat_natCast,List.set_set];rw [zHm (by simp;omega) hx];simp only [List.map_append,List.map_cons,List.map_nil];rfl)⟩
  ·try simp only [sx] at c2
   have hmi:=mIxs_end hp (by omega)
   rw [kV (l:=e.Idx) (k:=k) (by omega)]
   simp only [List.map_nil,List.append_nil]
   refine zU _ (yJ 0 O (regs':=[]) (μ':=[_,_,_]) T ⟨EFle.row (ds:=[_,_,_,_,_,_,_,_,_,_,_,_,_]) ⟨.inl O,.inl O,.inl O,.inl O,.inl O,.inl O,.inl O,.inl O,.inl O,.inl O,.inl O,.inr ⟨O,O⟩,.inl O,T⟩,EFle.refl _,EFle.refl _,T⟩)<|qP<|Y O<|zD O zCf<|zI zIw (J 2 O) O<|zZ O O (zAg O ok130 (zHd e.Args hA) ⟨zB,O,T⟩) ?_
   rintro _ _ ⟨sv8,rfl,rfl⟩
   refine zD O zCf<|D 1 sz60 O<|zA<|zH<|Y O<|zD O zCf<|zI zIw (J 3 O) O<|qB O el60<|G O<|zA<|zT<|zU ⟨[(98,.c _),(1,.c _),(4,.c _),(6,.c _),(96,.c _),(97,.c _)],[_,_,_]⟩ (Weak.mk [true,true,true,false] ⟨zB,zB,zB,zB,zB,zB,T⟩ O)<|qJ 1 1 O O (Nat×List Ex) (fun ⟨n,exs⟩=>[(98,vI n)]) (fun ⟨n,exs⟩=>[E.vec sv8 62 13 (exs.map Ex.cells++(e.Args.drop n).map Ex.cells)]) (fun ⟨n,exs⟩=>n<=e.Args.length/\(exs.length=n)/\(mExs f e.Args=mapRest exs (mExs f (e.Args.drop n)))) (fun ⟨n,exs⟩=>e.Args.length-n) ⟨⟨0,[]⟩,⟨by omega,O,(zBs _).symm⟩,Weak.mk [true,true,true] ⟨zB,zB,zB,zB,zB,zB,T⟩ O⟩ ?_
   rintro ⟨n,exs⟩ ⟨hn,hno,hr⟩
   show AWP _ _ _ _ _ ⟨[(98,vI n)]++_,[E.vec sv8 62 13 (exs.map Ex.cells++(e.Args.drop n).map Ex.cells)]++_⟩
   refine Y O<|yB O<|zA<|zH<|zE O (fun c6=>?_) (fun c6=>?_)
   ·try simp only [sx] at c6
    obtain ⟨a,ha⟩:=yD e.Args n (by omega)
    refine zF<|zH<|zT<|Y O<|G O<|qD O el60 (by omega) (getmE (by assumption))<|zM kD qH O<|zZ O O (qF [none,none,none,none,none,none,none,none,none,none,some 2,some 4,some 13] O zr62 O) ?_
    rintro _ _ ⟨b9,rfl,rfl⟩
    refine G O<|D 0 sz62 O<|zA<|zH<|zMy 10 [false,false,false,false,false,false,false,false,true,false] Mall mixed (by kernel_rfl) O O O<|kT O O (zJ O zCf O)<|kT O O (zK O zIw O (J 2 O) O)<|kT O O (zS O O)<|kT O O (qA O kD O (J 0 O) O)<|kT O O (zS O O)<|kT O O (qR O ok69 (ih a (qC ha) (Ex.allF_arg hP (qC ha)) (by have:=Ex.arg_cnt (qC ha);omega)) ⟨zB,O,zB,O,T⟩)<|kT O O (yR O O)<|kT O O (yA O O O)<|td2_detA O O (fun _=>kR O O O)<|kT O O (qL 1 O el60 O O O (by omega) (zHn (by simp;omega) (by omega)))<|td2_nil ?_
    refine ⟨_,yT O sz62 O O O (zDf 1 O (mid_getE (by simp;omega) ha) O),fun _ _ _=>T,?_⟩
    rintro _ _ ⟨rfl,rfl⟩
    refine G O<|zA<|Y O<|G O<|yM O<|zA<|zE O (fun c7=>?_) (fun c7=>?_)
    ·try simp only [sx] at c7
     refine Y O<|yY [none,none,none,none,none,none,none,none,none,none,some 2,some 4,some 13] O zr62 pl62<|G O<|D 3 sz62 O<|G O<|zA<|zG<|fin2 (zY kD O (J 3 O) O) (N O) ?_
     rw [mEx_e3 c1 hmi (mExs_no ha hr c7)];rfl
    ·try simp only [sx] at c7
     refine zF<|zP O<|qM O ⟨by omega,by omega⟩<|G O<|zA ?_
     refine ⟨⟨n+1,exs++[outE (mEx f a)]⟩,⟨by omega,by simp;omega,mExs_next ha hr c7⟩,(by show e.Args.length-(n+1)<e.Args.length-n;omega),Weak.mk [false,true,true,true] ⟨zB,zB,zB,zB,zB,zB,T⟩ (by simp only [Int.toNat_natCast];rw [zHm (by simp;omega) ha];simp only [List.map_append,List.map_cons,List.map_nil,Ex.cells_eq (outE (mEx f a))];rfl)⟩
   ·try simp only [sx] at c6
    have hme:=mExs_end hr (by omega)
    rw [kV (l:=e.Args) (k:=n) (by omega)]
    simp only [List.map_nil,List.append_nil]
    refine zU _ (yJ 0 O (regs':=[]) (μ':=[_,_]) T ⟨EFle.row (ds:=[_,_,_,_,_,_,_,_,_,_,_,_,_]) ⟨.inl O,.inl O,.inl O,.inl O,.inl O,.inl O,.inl O,.inl O,.inl O,.inl O,.inl O,.inl O,.inr ⟨O,O⟩,T⟩,EFle.refl _,T⟩)<|qP<|Y O<|zM kD (J 0 O) O<|D 1 sz62 O<|G O<|zA<|zG<|fin2 (zY kD O (J 1 O) O) (N O) ?_
    rw [mEx_ok c1 hmi hme];rfl
theorem mapForms_conW (f:Lf->Lf×Int) (c:C) (P:Lf->Prop) (hf:∀l,P l->FnPur cfg c [vLin l] (.tup [vLin (f l).1,vI (f l).2])) (e:Ex) (hP:e.allF P) (he:e.cnt<=4294967296):Pur cfg 69 [vE e,.c c] (.tup [vE (outE (mEx f e)),vI (errE (mEx f e))]):=by
  induction e using Ex.ind with
  |_ e ih=>exact mapForms_step f c P hf e hP ih he
theorem mapForms_con (f:Lf->Lf×Int) (c:C) (P:Lf->Prop) (hf:∀l,P l->l.L.length<=4294967296->FnPur cfg c [vLin l] (.tup [vLin (f l).1,vI (f l).2])) (e:Ex) (hP:e.allF P) (he:e.wt<=4294967296):Pur cfg 69 [vE e,.c c] (.tup [vE (outE (mEx f e)),vI (errE (mEx f e))]):=
  mapForms_conW f c (fun l=>P l/\l.L.length<=4294967296) (fun l h=>hf l h.1 h.2) e (fun x hx l hl=>⟨hP x hx l hl,forms_wt (Nat.le_trans (zFu e x hx) he) hl⟩) (Nat.le_trans e.cnt_le he)
end Go.W
end
section
set_option maxRecDepth 10000
namespace Go.W
open Go Go.Eng Go.Proofs Go.L41 Go.Br
attribute [local irreducible] AWP RWP TD finQ
end Go.W
end
section
set_option maxRecDepth 10000
namespace Go.W
open Go Go.Eng Go.Proofs Go.L41 Go.Br
attribute [local irreducible] AWP RWP TD finQ
theorem agg70:aggT Tryz.prog 70=some 22:=by kernel_rfl
theorem el28:elemT Tryz.prog 28=some (70,22,272):=by kernel_rfl
theorem zIa:fieldT Tryz.prog 30 3=some (3,28):=by kernel_rfl
theorem zHw:fieldT Tryz.prog 70 0=some (0,9):=by kernel_rfl
theorem ok183:callOk Tryz.prog 183=true:=by kernel_rfl
theorem ok196:callOk Tryz.prog 196=true:=by kernel_rfl
theorem ok225:callOk Tryz.prog 225=true:=by kernel_rfl
theorem ok226:callOk Tryz.prog 226=true:=by kernel_rfl
theorem one28:oneT Tryz.prog 28=true:=by kernel_rfl
theorem zGn (l:Lf) (hl:l.L.length<=5864062014805):
    Pur cfg 183 [vLin l] (vLin l):=by
 refine zW Tryz.func183 O Tryz.ntmps183 Tryz.results183 O ?_
 intro z hz
 refine Y O<|zZ O O (qO O O) ?_
 rintro _ _ ⟨b1,rfl,rfl⟩
 refine zZ O O (qF [none,some 2] O W O) ?_
 rintro _ _ ⟨b2,rfl,rfl⟩
 refine zA<|zH<|yL 6 mixed (by kernel_rfl) O O<|zQ O O (zJ O zFk O)<|zQ O O (zK O one2 O (J 1 O) O)<|zQ O O (zJ O zAe O)<|zQ O O (zK O zEg O (J 1 O) O)<|zQ O O (qR O ok196 (OwnR.pur (zFb l.L hl)) ⟨zB,O,T⟩)<|zQ O O (zBl O W pl59 O)<|kL<|D 0 sz59 O<|zA<|zG<|fin1 (zY kE O (J 0 O) O) ?_
 exact O
theorem zLx (l:List Lf) (hl:l.length<=4294967296) (hx:∀x,x∈l->x.L.length<=5864062014805):
    OwnR cfg 181 [vLins l] 59 2 (l.map Lf.cells):=by
 refine zW Tryz.func181 O Tryz.ntmps181 Tryz.results181 O ?_
 intro z hz
 have hl0:=hx
 clear hx
 refine Y O<|qT 2 O<|zA<|Y O<|G O<|yK _ (kI 59 2)<|zA<|zH<|Y O<|G O<|qB O el72<|G O<|zA<|zT<|zU ⟨[(8,.c _),(3,.c _),(6,.c _),(7,.c _)],[_]⟩ (Weak.mk [true] ⟨zB,zB,zB,zB,T⟩ O)<|qJ 2 1 O O (Nat×Value) (fun ⟨k,sv⟩=>[(8,vI k),(3,.c (.lit sv))]) (fun ⟨k,sv⟩=>[E.vec sv 59 2 ((l.take k).map Lf.cells)]) (fun ⟨k,sv⟩=>k<=l.length) (fun ⟨k,sv⟩=>l.length-k) ⟨⟨0,(.slice none 0 0)⟩,(by omega),Weak.mk [true] ⟨zB,zB,zB,zB,T⟩ O⟩ ?_
 rintro ⟨k,sv⟩ hk
 show AWP _ _ _ _ _ ⟨[(8,vI k),(3,.c (.lit sv))]++_,[E.vec sv 59 2 ((l.take k).map Lf.cells)]++_⟩
 refine Y O<|yB O<|zA<|zH<|zE O (fun c1=>?_) (fun c1=>?_)
 ·try simp only [sx] at c1
  obtain ⟨x,hx⟩:=yD l k (by omega)
  refine zF<|zH<|zT<|Y O<|qD O el72 (by omega) (getm (by assumption))<|zM kE qH O<|zZ O O (qF [none,some 2] O W O) ?_
  rintro _ _ ⟨b2,rfl,rfl⟩
  refine D 0 sz59 O<|zA<|zP O<|G O<|zM kE (J 0 O) O<|qK O ok183 (zGn _ (hl0 _ (qC hx))) ⟨zB,O,T⟩<|zR O (qS O el72 W O O O O)<|zZ O O (yH 1 O el72 O O O (by first|omega|(simp only [List.length_take,List.length_map,List.length_append,List.length_nil,List.length_cons];omega)) (by first|omega|(simp only [List.length_take,List.length_map,List.length_append,List.length_nil,List.length_cons];omega))) ?_
  rintro _ _ ⟨sv3,rfl,rfl⟩
  refine G O<|zA<|zP O<|qM O ⟨by omega,by omega⟩<|G O<|zA ?_
  refine ⟨⟨k+1,sv3⟩,(by omega),(by show l.length-(k+1)<l.length-k;omega),Weak.mk [false,true] ⟨zB,zB,zB,zB,T⟩ (by show _=[E.vec sv3 _ 2 ((l.take (k+1)).map Lf.cells)]++_;rw [qW hx,List.map_append];rfl)⟩
 ·try simp only [sx] at c1
  refine qP<|Y O<|G O<|G O<|zA<|zG<|zV O ?_
  exact ⟨_,O,by rw [yC (by omega)];rfl⟩
theorem zLy (d:Df) (s:ByteArray):
    Pur cfg 226 [vDf d,.c (.iptr [cS s])] (vB (decide (d.Name=s))):=by
 refine zW Tryz.func226 O Tryz.ntmps226 Tryz.results226 O ?_
 intro z hz
 refine Y O<|zZ O O (qO O O) ?_
 rintro _ _ ⟨b1,rfl,rfl⟩
 refine G O<|zA<|Y O<|zD O zHw<|zI one9 (J 0 O) O<|zI one9 qH O<|kY O<|G O<|zA<|zG<|zV O ?_
 exact O
theorem zJj (l:List Df) (c:C) (p:Df->Bool) (hl:l.length<=4294967296) (hc:∀x,x∈l->FnPur cfg c [vDf x] (vB (p x))):
    Pur cfg 225 [.c (.sl 22 (l.map Df.cells)),.c c] (vI (idxOf p l)):=by
 refine zW Tryz.func225 O Tryz.ntmps225 Tryz.results225 O ?_
 intro z hz
 refine Y O<|G O<|zA<|zH<|Y O<|G O<|qB O el28<|G O<|zA<|zT<|zU ⟨[(8,.c _),(0,.c _),(1,.c _),(7,.c _)],[]⟩ (Weak.mk [] ⟨zB,zB,zB,zB,T⟩ O)<|qJ 1 0 O O (Nat) (fun k=>[(8,vI k)]) (fun k=>[]) (fun k=>k<=l.length/\((l.take k).any p=false)) (fun k=>l.length-k) ⟨0,⟨by omega,O⟩,Weak.mk [] ⟨zB,zB,zB,zB,T⟩ O⟩ ?_
 rintro k ⟨hk,hp⟩
 refine Y O<|yB O<|zA<|zH<|zE O (fun c1=>?_) (fun c1=>?_)
 ·try simp only [sx] at c1
  obtain ⟨x,hx⟩:=yD l k (by omega)
  refine zF<|zH<|zT<|Y O<|G O<|G O<|zA<|Y O<|G O<|G O<|G O<|qD O el28 (by omega) (getm (by assumption))<|zM agg70 qH O<|zR O (kP O O (hc _ (qC hx)) ⟨zB,O,T⟩)<|zA<|zE O (fun c2=>?_) (fun c2=>?_)
  ·exact v23
  ·exact n4
 ·exact j4
theorem zOy (p:Pg) (s:ByteArray) (hd:p.Defs.length<=4294967296):
    Pur cfg 182 [vPg p,vS s] (vI (defOf s p.Defs)):=by
 refine zW Tryz.func182 O Tryz.ntmps182 Tryz.results182 O ?_
 intro z hz
 refine Y O<|zZ O O (qO O O) ?_
 rintro _ _ ⟨b1,rfl,rfl⟩
 refine zZ O O (qO O O) ?_
 rintro _ _ ⟨b2,rfl,rfl⟩
 refine G O<|zA<|Y O<|zD O zIa<|zI one28 (J 1 O) O<|zR O (zCw O O O O O)<|yK _ (yZ 0 O 7 (.c (.fn _ _ [_])) (PLe.fn ⟨.inr ⟨O,O⟩,T⟩))<|qK O ok225 (zJj p.Defs _ (fun d=>decide (d.Name=s)) hd (fun x _=>FnPur.of_pur (first:=[]) (cap:=[.iptr [cS s]]) ok226 (zLy x s))) ⟨zB,O,zB,O,T⟩<|G O<|zA<|zG<|zV O ?_
 exact O
end Go.W
end
