/-
  What functions compute.
  What functions compute.
  What functions compute.
  Conditions: none.
-/
import Derived.Test.YtkidnhldibjiaaaGreatDoorWE
import Derived.Test.YtkidnhldibjiaaaGreatDoorPlain
import Derived.Test.YtkidnhldibjiaaaGreatDoorEngZ
set_option linter.unusedSimpArgs false
set_option linter.unusedVariables false
section
set_option maxRecDepth 10000
namespace Go.W
open Go Go.Eng Go.Proofs Go.L41 Go.Br
attribute [local irreducible] AWP RWP TD fL
theorem ok78:bA Tryz.prog 78=true:=by kernel_rfl
theorem ok79:bA Tryz.prog 79=true:=by kernel_rfl
theorem ok149:bA Tryz.prog 149=true:=by kernel_rfl
theorem ok150:bA Tryz.prog 150=true:=by kernel_rfl
theorem ok151:bA Tryz.prog 151=true:=by kernel_rfl
theorem pl44:fR Tryz.prog 44=some [(0,1),(1,1),(2,2),(4,5),(9,2),(11,1),(12,1)]:=by kernel_rfl
theorem sz41:(Tryz.prog.info? 41).map (·.size)=some 1:=by kernel_rfl
theorem sz42:(Tryz.prog.info? 42).map (·.size)=some 1:=by kernel_rfl
theorem sz65:(Tryz.prog.info? 65).map (·.size)=some 1:=by kernel_rfl
theorem mapForms_step (f:Lf->Lf×Int) (c:C) (P:Lf->Prop) (hf:∀l,P l->FnPur cfg c [dK l] (.tup [dK (f l).1,vI (f l).2])) (e:Ex) (hP:e.allF P) (ih:∀a,a∈e.Args->a.allF P->a.cnt<=4294967296->Pur cfg 78 [vE a,.c c] (.tup [vE (lD (mEx f a)),vI (lT (mEx f a))])) (he:e.cnt<=4294967296):
    Pur cfg 78 [vE e,.c c] (.tup [vE (lD (mEx f e)),vI (lT (mEx f e))]):=by
 refine zW Tryz.func78 O Tryz.ntmps78 Tryz.results78 O ?_
 intro z hz
 obtain ⟨hI,hA,hAt⟩:=e.cparts he
 refine Y O<|zY O O (qN O O) ?_
 rintro _ _ ⟨b1,rfl,rfl⟩
 refine zY O O (qF [none,none,none,none,none,none,none,none,none,none,some 2,some 4,some 13] O zr44 O) ?_
 rintro _ _ ⟨b2,rfl,rfl⟩
 refine G O<|W<|Y O<|zP yG (J 1 O) O<|zY O O (qF [none,none,none,none,none,none,none,none,none,none,some 2,some 4,some 13] O zr44 O) ?_
 rintro _ _ ⟨b3,rfl,rfl⟩
 refine rStR 0 sz44 O<|W<|Y O<|G O<|W<|zM<|Y O<|G O<|zF O zBk<|zP yB (J 2 O) O<|qA O (zBl O O (hf e.Lin (Ex.allF_lin hP)) ⟨U,O,T⟩)<|yH O<|qA O (yA O O O)<|yX O<|zF O zBk<|rStR 0 sz40 O<|G O<|W<|Y O<|G O<|yW O<|W<|zH O (fun c1=>?_) (fun c1=>?_)
 ·try simp only [sx] at c1
  refine Y O<|yF [none,none,none,none,none,none,none,none,none,none,some 2,some 4,some 13] O zr44 pl44<|G O<|rStR 1 sz44 O<|G O<|W<|zO<|fin2 (zZ yG O (J 1 O) O) (rs_c O) ?_
  rw [mEx_e1 c1];rfl
 ·try simp only [sx] at c1
  refine zN<|Y O<|zF O kM<|zK zAh (J 2 O) O<|zY O O (zCf O ok149 (zQg e.Idx hI) ⟨U,O,T⟩) ?_
  rintro _ _ ⟨sv4,rfl,rfl⟩
  refine zF O kM<|rStR 1 sz41 O<|W<|zM<|Y O<|zF O kM<|zK zAh (J 3 O) O<|qB O el41<|G O<|W<|zR<|qC ⟨[(34,.c _),(1,.c _),(2,.c _),(4,.c _),(6,.c _),(32,.c _),(33,.c _)],[_,_,_,_]⟩ (Weak.mk [true,true,true,true] ⟨U,U,U,U,U,U,U,T⟩ O)<|qG 1 1 O O (Nat×List Ix) (fun ⟨k,outs⟩=>[(34,vI k)]) (fun ⟨k,outs⟩=>[E.vec sv4 115 4 (outs.map Ix.cells++(e.Idx.drop k).map Ix.cells)]) (fun ⟨k,outs⟩=>k<=e.Idx.length/\(outs.length=k)/\(fO f e.Idx=dF outs (fO f (e.Idx.drop k)))) (fun ⟨k,outs⟩=>e.Idx.length-k) ⟨⟨0,[]⟩,⟨by omega,O,(zDd _).symm⟩,Weak.mk [true,true,true,true] ⟨U,U,U,U,U,U,U,T⟩ O⟩ ?_
  rintro ⟨k,outs⟩ ⟨hk,ho,hp⟩
  show AWP _ _ _ _ _ ⟨[(34,vI k)]++_,[E.vec sv4 115 4 (outs.map Ix.cells++(e.Idx.drop k).map Ix.cells)]++_⟩
  refine Y O<|yI O<|W<|zM<|zH O (fun c2=>?_) (fun c2=>?_)
  ·try simp only [sx] at c2
   obtain ⟨x,hx⟩:=qU e.Idx k (by omega)
   have hxw:=hAt x (zX hx)
   refine zN<|zM<|zR<|Y O<|G O<|qJ O el41 (by omega) (getm (by assumption))<|zP zDv qE O<|zY O O (qF [none,some 2,none,some 2] O zJa O) ?_
   rintro _ _ ⟨b5,rfl,rfl⟩
   refine G O<|rStR 0 zQb O<|W<|zM<|zM<|zNt 12 [false,false,false,false,false,false,false,false,false,true,false,false] tA mixed (by kernel_rfl) O O O<|kX O O (zE O kM O)<|kX O O (zJ O zAh O (J 2 O) O)<|kX O O (zS O O)<|kX O O (zS O O)<|kX O O (zE O zCp O)<|kX O O (zU O yB O (J 0 O) O)<|kX O O (zBl O O (hf x.Lin (Ex.allF_ix hP (zX hx))) ⟨U,O,T⟩)<|kX O O (kL O O)<|kX O O (yA O O O)<|td2_detA O O (fun _=>wW O O O)<|kX O O (qZ 1 O el41 O O O (by omega) (mid_len (by simp;omega) (by omega)))<|kX O O (zCs O zCp O)<|td2_nil ?_
   refine ⟨_,kN O sz40 O O O (st_vec 1 O (mid_get (by simp;omega) hx) O),fun _ _ _=>T,?_⟩
   rintro _ _ ⟨rfl,rfl⟩
   refine G O<|W<|Y O<|G O<|yW O<|W<|zH O (fun c3=>?_) (fun c3=>?_)
   ·try simp only [sx] at c3
    refine Y O<|yF [none,none,none,none,none,none,none,none,none,none,some 2,some 4,some 13] O zr44 pl44<|G O<|rStR 3 sz44 O<|G O<|W<|zO<|fin2 (zZ yG O (J 3 O) O) (rs_c O) ?_
    rw [mEx_e2 c1 (mIxs_no hx hp (mIx_e1 c3))];rfl
   ·try simp only [sx] at c3
    refine zN<|zM<|zIx 8 [.q,.q,.q,.q,.q,.f,.q,.q] tA mixed (by kernel_rfl) O O O<|yS O O (zE O kM O)<|yS O O (zJ O zAh O (J 2 O) O)<|yS O O (zS O O)<|yS O O (zE O wI O)<|yS O O (zJ O zAp O (J 0 O) O)<|zGo<|yS O O (qZ 1 O el41 O O O (by omega) (by simp;omega))<|yS O O (zCs O wI O)<|zJo<|wN<|wN<|wN<|wN<|wN<|zEm (fresh_own (zCf O ok150 (zOp x.At (by omega)) ⟨U,O,T⟩))<|wN<|wN<|zJp<|zDh ?_
    rintro _ _ ⟨sv6,rfl,rfl⟩
    refine zEy ?_
    refine ⟨_,kN O sz65 O O O (st_vec 2 O (set_get (by simp;omega)) O),(fun _ _ _=>T),?_⟩
    rintro _ _ ⟨rfl,rfl⟩
    refine W<|Y O<|zF O wI<|zK zAp (J 1 O) O<|qB O el65<|G O<|W<|zR<|qC ⟨[(66,.c _),(1,.c _),(2,.c _),(4,.c _),(6,.c _),(8,.c _),(32,.c _),(33,.c _),(34,.c _),(64,.c _),(65,.c _)],[_,_,_,_,_]⟩ (Weak.mk [true,false,true,true,true,true] ⟨U,U,U,U,U,U,U,U,U,U,U,T⟩ O)<|qG 1 1 O O (Nat×List Lf) (fun ⟨j,lins⟩=>[(66,vI j)]) (fun ⟨j,lins⟩=>[E.vec sv6 40 2 (lins.map Lf.cells++(x.At.drop j).map Lf.cells)]) (fun ⟨j,lins⟩=>j<=x.At.length/\(lins.length=j)/\(dV f x.At=dF lins (dV f (x.At.drop j)))) (fun ⟨j,lins⟩=>x.At.length-j) ⟨⟨0,[]⟩,⟨by omega,O,(zDd _).symm⟩,Weak.mk [true,true,true,true,true] ⟨U,U,U,U,U,U,U,U,U,U,U,T⟩ O⟩ ?_
    rintro ⟨j,lins⟩ ⟨hj,hlo,hq⟩
    show AWP _ _ _ _ _ ⟨[(66,vI j)]++_,[E.vec sv6 40 2 (lins.map Lf.cells++(x.At.drop j).map Lf.cells)]++_⟩
    refine Y O<|yI O<|W<|zM<|zH O (fun c4=>?_) (fun c4=>?_)
    ·try simp only [sx] at c4
     obtain ⟨l,hl⟩:=qU x.At j (by omega)
     have hlw:=hAt x (zX hx)
     refine zN<|zM<|zR<|Y O<|G O<|qJ O el65 (by omega) (getm (by assumption))<|zP yB qE O<|zY O O (qF [none,some 2] O v O) ?_
     rintro _ _ ⟨b7,rfl,rfl⟩
     refine G O<|rStR 0 sz40 O<|W<|zM<|zNt 14 [false,false,false,false,false,false,false,false,false,false,false,false,true,false] tA mixed (by kernel_rfl) O O O<|kX O O (zE O kM O)<|kX O O (zJ O zAh O (J 3 O) O)<|kX O O (zS O O)<|kX O O (qZ 2 O el41 O O O (by omega) (by simp;omega))<|kX O O (zCs O wI O)<|kX O O (zJ O zAp O (wP 2 O (set_get (by simp;omega))) O)<|kX O O (zS O O)<|kX O O (zS O O)<|kX O O (zU O yB O (J 0 O) O)<|kX O O (zBl O O (hf l (Ex.allF_at hP (zX hx) (zX hl))) ⟨U,O,T⟩)<|kX O O (kL O O)<|kX O O (yA O O O)<|td2_detA O O (fun _=>wW O O O)<|kX O O (qZ 1 O el65 O O O (by omega) (mid_len (by simp;omega) (by omega)))<|td2_nil ?_
     refine ⟨_,kN O sz40 O O O (st_vec 1 O (mid_get (by simp;omega) hl) O),fun _ _ _=>T,?_⟩
     rintro _ _ ⟨rfl,rfl⟩
     refine G O<|W<|Y O<|G O<|yW O<|W<|zH O (fun c5=>?_) (fun c5=>?_)
     ·try simp only [sx] at c5
      refine Y O<|yF [none,none,none,none,none,none,none,none,none,none,some 2,some 4,some 13] O zr44 pl44<|G O<|rStR 4 sz44 O<|G O<|W<|zO<|fin2 (zZ yG O (J 4 O) O) (rs_c O) ?_
      rw [mEx_e2 c1 (mIxs_no hx hp (mIx_e2 c3 (mLins_no hl hq c5)))];rfl
     ·try simp only [sx] at c5
      refine zN<|zT O<|qK O ⟨by omega,by omega⟩<|G O<|W ?_
      refine ⟨⟨j+1,lins++[(f l).1]⟩,⟨by omega,by simp;omega,mLins_next hl hq c5⟩,(by show x.At.length-(j+1)<x.At.length-j;omega),Weak.mk [false,true,true,true,true,true] ⟨U,U,U,U,U,U,U,U,U,U,U,T⟩ (by simp only [Int.toNat_natCast];rw [mid_set (by simp;omega) hl];simp only [List.map_append,List.map_cons,List.map_nil];rfl)⟩
    ·try simp only [sx] at c4
     have hml:=mLins_end hq (by omega)
     rw [wB (l:=x.At) (k:=j) (by omega)]
     simp only [List.map_nil,List.append_nil]
     refine qC _ (yC 0 O (regs':=[]) (μ':=[_,_,_,_]) T ⟨EFle.vec (r':=[_,_,_,_]) (set_get (by simp;omega)) ⟨.inl O,.inl O,.inl O,.inr ⟨O,O⟩,T⟩,EFle.refl _,EFle.refl _,EFle.refl _,T⟩)<|qO<|zT O<|qK O ⟨by omega,by omega⟩<|G O<|W ?_
     refine ⟨⟨k+1,outs++[⟨(f x.Lin).1,x.From,lins⟩]⟩,⟨by omega,by simp;omega,mIxs_next hx hp (mIx_ok c3 hml)⟩,(by show e.Idx.length-(k+1)<e.Idx.length-k;omega),Weak.mk [true,true,true,true] ⟨U,U,U,U,U,U,U,T⟩ (by simp only [Int.toNat_natCast,List.set_set];rw [mid_set (by simp;omega) hx];simp only [List.map_append,List.map_cons,List.map_nil];rfl)⟩
  ·try simp only [sx] at c2
   have hmi:=mIxs_end hp (by omega)
   rw [wB (l:=e.Idx) (k:=k) (by omega)]
   simp only [List.map_nil,List.append_nil]
   refine qC _ (yC 0 O (regs':=[]) (μ':=[_,_,_]) T ⟨EFle.row (ds:=[_,_,_,_,_,_,_,_,_,_,_,_,_]) ⟨.inl O,.inl O,.inl O,.inl O,.inl O,.inl O,.inl O,.inl O,.inl O,.inl O,.inl O,.inr ⟨O,O⟩,.inl O,T⟩,EFle.refl _,EFle.refl _,T⟩)<|qO<|Y O<|zF O kO<|zK zAj (J 2 O) O<|zY O O (zCf O ok151 (zQh e.Args hA) ⟨U,O,T⟩) ?_
   rintro _ _ ⟨sv8,rfl,rfl⟩
   refine zF O kO<|rStR 1 sz42 O<|W<|zM<|Y O<|zF O kO<|zK zAj (J 3 O) O<|qB O el42<|G O<|W<|zR<|qC ⟨[(98,.c _),(1,.c _),(4,.c _),(6,.c _),(96,.c _),(97,.c _)],[_,_,_]⟩ (Weak.mk [true,true,true,false] ⟨U,U,U,U,U,U,T⟩ O)<|qG 1 1 O O (Nat×List Ex) (fun ⟨n,exs⟩=>[(98,vI n)]) (fun ⟨n,exs⟩=>[E.vec sv8 44 13 (exs.map Ex.cells++(e.Args.drop n).map Ex.cells)]) (fun ⟨n,exs⟩=>n<=e.Args.length/\(exs.length=n)/\(fV f e.Args=dF exs (fV f (e.Args.drop n)))) (fun ⟨n,exs⟩=>e.Args.length-n) ⟨⟨0,[]⟩,⟨by omega,O,(zDd _).symm⟩,Weak.mk [true,true,true] ⟨U,U,U,U,U,U,T⟩ O⟩ ?_
   rintro ⟨n,exs⟩ ⟨hn,hno,hr⟩
   show AWP _ _ _ _ _ ⟨[(98,vI n)]++_,[E.vec sv8 44 13 (exs.map Ex.cells++(e.Args.drop n).map Ex.cells)]++_⟩
   refine Y O<|yI O<|W<|zM<|zH O (fun c6=>?_) (fun c6=>?_)
   ·try simp only [sx] at c6
    obtain ⟨a,ha⟩:=qU e.Args n (by omega)
    refine zN<|zM<|zR<|Y O<|G O<|qJ O el42 (by omega) (zBj (by assumption))<|zP yG qE O<|zY O O (qF [none,none,none,none,none,none,none,none,none,none,some 2,some 4,some 13] O zr44 O) ?_
    rintro _ _ ⟨b9,rfl,rfl⟩
    refine G O<|rStR 0 sz44 O<|W<|zM<|zNt 10 [false,false,false,false,false,false,false,false,true,false] tA mixed (by kernel_rfl) O O O<|kX O O (zE O kO O)<|kX O O (zJ O zAj O (J 2 O) O)<|kX O O (zS O O)<|kX O O (zU O yG O (J 0 O) O)<|kX O O (zS O O)<|kX O O (qL O ok78 (ih a (zX ha) (Ex.allF_arg hP (zX ha)) (by have:=Ex.arg_cnt (zX ha);omega)) ⟨U,O,U,O,T⟩)<|kX O O (kL O O)<|kX O O (yA O O O)<|td2_detA O O (fun _=>wW O O O)<|kX O O (qZ 1 O el42 O O O (by omega) (mid_len (by simp;omega) (by omega)))<|td2_nil ?_
    refine ⟨_,kN O sz44 O O O (st_vec 1 O (mid_getE (by simp;omega) ha) O),fun _ _ _=>T,?_⟩
    rintro _ _ ⟨rfl,rfl⟩
    refine G O<|W<|Y O<|G O<|yW O<|W<|zH O (fun c7=>?_) (fun c7=>?_)
    ·try simp only [sx] at c7
     refine Y O<|yF [none,none,none,none,none,none,none,none,none,none,some 2,some 4,some 13] O zr44 pl44<|G O<|rStR 3 sz44 O<|G O<|W<|zO<|fin2 (zZ yG O (J 3 O) O) (rs_c O) ?_
     rw [mEx_e3 c1 hmi (mExs_no ha hr c7)];rfl
    ·try simp only [sx] at c7
     refine zN<|zT O<|qK O ⟨by omega,by omega⟩<|G O<|W ?_
     refine ⟨⟨n+1,exs++[lD (mEx f a)]⟩,⟨by omega,by simp;omega,mExs_next ha hr c7⟩,(by show e.Args.length-(n+1)<e.Args.length-n;omega),Weak.mk [false,true,true,true] ⟨U,U,U,U,U,U,T⟩ (by simp only [Int.toNat_natCast];rw [mid_set (by simp;omega) ha];simp only [List.map_append,List.map_cons,List.map_nil,Ex.cells_eq (lD (mEx f a))];rfl)⟩
   ·try simp only [sx] at c6
    have hme:=mExs_end hr (by omega)
    rw [wB (l:=e.Args) (k:=n) (by omega)]
    simp only [List.map_nil,List.append_nil]
    refine qC _ (yC 0 O (regs':=[]) (μ':=[_,_]) T ⟨EFle.row (ds:=[_,_,_,_,_,_,_,_,_,_,_,_,_]) ⟨.inl O,.inl O,.inl O,.inl O,.inl O,.inl O,.inl O,.inl O,.inl O,.inl O,.inl O,.inl O,.inr ⟨O,O⟩,T⟩,EFle.refl _,T⟩)<|qO<|Y O<|zP yG (J 0 O) O<|rStR 1 sz44 O<|G O<|W<|zO<|fin2 (zZ yG O (J 1 O) O) (rs_c O) ?_
    rw [mEx_ok c1 hmi hme];rfl
theorem zLj (f:Lf->Lf×Int) (c:C) (P:Lf->Prop) (hf:∀l,P l->FnPur cfg c [dK l] (.tup [dK (f l).1,vI (f l).2])) (e:Ex) (hP:e.allF P) (he:e.cnt<=4294967296):Pur cfg 78 [vE e,.c c] (.tup [vE (lD (mEx f e)),vI (lT (mEx f e))]):=by
  induction e using Ex.ind with
  |_ e ih=>exact mapForms_step f c P hf e hP ih he
theorem mapForms_con (f:Lf->Lf×Int) (c:C) (P:Lf->Prop) (hf:∀l,P l->l.L.length<=4294967296->FnPur cfg c [dK l] (.tup [dK (f l).1,vI (f l).2])) (e:Ex) (hP:e.allF P) (he:e.wt<=4294967296):Pur cfg 78 [vE e,.c c] (.tup [vE (lD (mEx f e)),vI (lT (mEx f e))]):=
  zLj f c (fun l=>P l/\l.L.length<=4294967296) (fun l h=>hf l h.1 h.2) e (fun x hx l hl=>⟨hP x hx l hl,zPi (Nat.le_trans (zDc e x hx) he) hl⟩) (Nat.le_trans e.cnt_le he)
theorem zNn (e:Ex) (hl:e.allF (fun l=>l.L.length<=5864062014805)) (he:e.cnt<=4294967296):
    Pur cfg 32 [vE e] (vE e):=by
 refine zW Tryz.func32 O Tryz.ntmps32 Tryz.results32 O ?_
 intro z hz
 refine Y O<|zY O O (qN O O) ?_
 rintro _ _ ⟨b1,rfl,rfl⟩
 refine zY O O (qF [none,none,none,none,none,none,none,none,none,none,some 2,some 4,some 13] O zr44 O) ?_
 rintro _ _ ⟨b2,rfl,rfl⟩
 refine W<|Y O<|zP yG (J 1 O) O<|qQ O ok78 (zLj idF _ (fun l=>l.L.length<=5864062014805) (fun l hl=>FnPur.of_pur (first:=[]) (cap:=[]) ok79 (expr_Copy_1 l hl)) e hl he) ⟨U,O,U,O,T⟩<|yH O<|qA O (yA O O O)<|yX O<|zY O O (qF [none,none,none,none,none,none,none,none,none,none,some 2,some 4,some 13] O zr44 O) ?_
 rintro _ _ ⟨b3,rfl,rfl⟩
 refine rStR 0 sz44 O<|G O<|W<|Y O<|zP yG (J 0 O) O<|rStR 1 sz44 O<|W<|zO<|fin1 (zZ yG O (J 1 O) O) ?_
 rw [mEx_id];rfl
theorem zSg (e:Ex) (he:e.wt<=4294967296):Pur cfg 32 [vE e] (vE e):=
  zNn e (fun x hx l hl=>by have:=zPi (Nat.le_trans (zDc e x hx) he) hl;omega) (Nat.le_trans e.cnt_le he)
end Go.W
end
section
set_option maxRecDepth 10000
namespace Go.W
open Go Go.Eng Go.Proofs Go.L41 Go.Br
attribute [local irreducible] AWP RWP TD fL
theorem ok32:bA Tryz.prog 32=true:=by kernel_rfl
theorem ok65:bA Tryz.prog 65=true:=by kernel_rfl
theorem ok91:bA Tryz.prog 91=true:=by kernel_rfl
theorem ok113:bA Tryz.prog 113=true:=by kernel_rfl
theorem ok114:bA Tryz.prog 114=true:=by kernel_rfl
theorem ok115:bA Tryz.prog 115=true:=by kernel_rfl
theorem ok116:bA Tryz.prog 116=true:=by kernel_rfl
theorem ok135:bA Tryz.prog 135=true:=by kernel_rfl
theorem ok160:bA Tryz.prog 160=true:=by kernel_rfl
theorem ok169:bA Tryz.prog 169=true:=by kernel_rfl
theorem ok181:bA Tryz.prog 181=true:=by kernel_rfl
theorem ok182:bA Tryz.prog 182=true:=by kernel_rfl
theorem ok229:bA Tryz.prog 229=true:=by kernel_rfl
theorem zJk (e:Ex):
    Pur cfg 115 [vE e] (.tup [dK (dJ e).1,vB (dJ e).2]):=by
 refine zW Tryz.func115 O Tryz.ntmps115 Tryz.results115 O ?_
 intro z hz
 refine Y O<|zY O O (qN O O) ?_
 rintro _ _ ⟨b1,rfl,rfl⟩
 refine zY O O (qF [none,some 2] O v O) ?_
 rintro _ _ ⟨b2,rfl,rfl⟩
 refine G O<|W<|zM<|zR<|Y O<|zF O kE<|zK one3 (J 1 O) O<|yK O<|G O<|W<|zH O (fun c1=>?_) (fun c1=>?_)
 ·try simp only [sx] at c1
  refine Y O<|zF O zBk<|zP yB (J 1 O) O<|rStR 0 sz40 O<|G O<|W<|zO<|fin2 (zZ yB O (J 0 O) O) (rs_c O) ?_
  rw [dJ,kR c1];rfl
 ·try simp only [sx] at c1
  refine Y O<|zF O kE<|zK one3 (J 1 O) O<|yK O<|G O<|rL0 O (fun g3_3=>zE O zCw O) O<|rL1 15 O (fun g3_3=>zE O zFg O) O<|rL1 16 O (fun g3_3=>zJ O one3 O (J 1 O) O) O<|rL1 17 O (fun g3_3=>yM O O O) O<|yZ O (fun h=>h)<|G O<|W<|zH O (fun c2=>?_) (fun c2=>?_)
  ·refine Y O<|zF O zHe<|zF O zGh<|zK one2 (J 1 O) O<|qQ O ok169 (lin_Const _) ⟨U,O,T⟩<|rStR 0 sz40 O<|G O<|W<|zO<|fin2 (zZ yB O (J 0 O) O) (rs_c O) ?_
   rw [dJ,yD c1,c2];rfl
  ·refine zN<|Y O<|yF [none,some 2] O v pl40<|rStR 0 sz40 O<|G O<|W<|zO<|fin2 (zZ yB O (J 0 O) O) (rs_c O) ?_
   rw [dJ,yD c1,c2];rfl
theorem ref22_form (e:Ex):
    Pur cfg 181 [vE e] (.tup [dK (jO e).1,vB (jO e).2]):=by
 refine zW Tryz.func181 O Tryz.ntmps181 Tryz.results181 O ?_
 intro z hz
 refine Y O<|zY O O (qN O O) ?_
 rintro _ _ ⟨b1,rfl,rfl⟩
 refine zY O O (qF [none,some 2] O v O) ?_
 rintro _ _ ⟨b2,rfl,rfl⟩
 refine G O<|W<|zM<|Y O<|zF O kE<|zK one3 (J 1 O) O<|yK O<|W<|zH O (fun c1=>?_) (fun c1=>?_)
 ·try simp only [sx] at c1
  refine Y O<|zF O zBk<|zP yB (J 1 O) O<|rStR 0 sz40 O<|G O<|W<|zO<|fin2 (zZ yB O (J 0 O) O) (rs_c O) ?_
  rw [jO,kR c1];rfl
 ·try simp only [sx] at c1
  refine zN<|zM<|awp_draw_t 13 0 [.q,.q,.q,.q,.q,.q,.q,.q,.u,.u,.u,.u,.u]  mixed (by kernel_rfl) O O O<|yS O O (zE O zHe O)<|yS O O (zE O zGh O)<|yS O O (zJ O one2 O (J 1 O) O)<|yS O O (qL O ok229 (zMa _) ⟨U,O,T⟩)<|yS O O (zE O kE O)<|yS O O (zJ O one3 O (J 1 O) O)<|yS O O (yM O O O)<|yS O O (zS O O)<|zKv [] O O O O gv1 T (fun g3_7=>zE O zCw O) (fun g3_7 _=>zE O zCw O) O<|zKv [(17,_)] O O O O gv1 ⟨O,O,T⟩ (fun g3_7=>zE O zFg O) (fun g3_7 _=>zE O zFg O) O<|zKv [(18,_)] O O O O gv1 ⟨O,O,T⟩ (fun g3_7=>zJ O one3 O (J 1 O) O) (fun g3_7 _=>zJ O one3 O (J 1 O) O) O<|zKv [(19,_)] O O O O gv1 ⟨O,O,T⟩ (fun g3_7=>yM O O O) (fun g3_7 _=>yM O O O) O<|tdq_detS O O (wK O O O (fun h=>h) O) (fun _=>wK O O O (fun h=>h) O)<|zJo<|wN<|wN<|wN<|wN<|wN<|wN<|wN<|wN<|zKw<|zKw<|zKw<|zKw<|zKw<|zJp<|zEy ?_
  refine ⟨_,kN O sz40 O O O (zCu 0 O O),(by rintro _ _ ⟨rfl,rfl⟩;exact ⟨[],.inr ⟨_,rfl⟩⟩),?_⟩
  rintro _ _ ⟨rfl,rfl⟩
  refine G O<|W<|zO<|fin2 (zZ yB O (J 0 O) O) (rs_c O) ?_
  rw [jO,yD c1];rfl
theorem ref22_variable (e:Ex) (s:ByteArray) (he:e.wt<=4294967296):
    Pur cfg 182 [vE e,vS s] (vB (decide (e.Op=2)&&bD s&&decide (e.Lin=lR s))):=by
 refine zW Tryz.func182 O Tryz.ntmps182 Tryz.results182 O ?_
 intro z hz
 obtain ⟨hL,hI,hA⟩:=e.parts he
 refine Y O<|zY O O (qN O O) ?_
 rintro _ _ ⟨b1,rfl,rfl⟩
 refine G O<|W<|zM<|qW 15 mixed (by kernel_rfl) O O<|zQ O O (zE O kE O)<|zQ O O (zJ O one3 O (J 0 O) O)<|zQ O O (yM O O O)<|zQ O O (zS O O)<|qI [] O O O O gv1 T (fun g1_3=>zS O O) O<|qI [(9,_)] O O O O gv1 ⟨O,O,T⟩ (fun g1_3=>qL O ok137 (zEw _) ⟨U,O,T⟩) O<|zQ O O (wK O O O (fun h=>h) O)<|zQ O O (zS O O)<|qI [] O O O O gv1 T (fun g1_7=>zE O zBk O) O<|qI [(13,_)] O O O O gv1 ⟨O,O,T⟩ (fun g1_7=>zU O yB O (J 0 O) O) O<|qI [] O O O O gv1 T (fun g1_7=>zS O O) O<|qI [(15,_)] O O O O gv1 ⟨O,O,T⟩ (fun g1_7=>qL O ok65 (zOv _) ⟨U,O,T⟩) O<|qI [(14,_),(16,_)] O O O O gv1 ⟨O,O,O,O,T⟩ (fun g1_7=>qL O ok34 (zIw e.Lin (lR s) (by omega)) ⟨U,O,U,O,T⟩) O<|zQ O O (wK O O O (fun h=>h) O)<|zQ O O (yY O O)<|yR<|W<|zO<|zV O ?_
 exact O
theorem zSq (c:Ex) (s:ByteArray) (he:c.wt<=4294967296):
    Pur cfg 61 [vE c,vS s] (.tup [dK (bX c s).1,vB (bX c s).2]):=by
 refine zW Tryz.func61 O Tryz.ntmps61 Tryz.results61 O ?_
 intro z hz
 refine Y O<|zY O O (qN O O) ?_
 rintro _ _ ⟨b1,rfl,rfl⟩
 refine zY O O (qF [none,some 2] O v O) ?_
 rintro _ _ ⟨b2,rfl,rfl⟩
 refine G O<|W<|zM<|Y O<|zP yG (J 1 O) O<|qQ O ok113 (zEc c (by omega)) ⟨U,O,T⟩<|yW O<|G O<|rL0 O (fun g1_3=>zE O kE O) O<|rL1 15 O (fun g1_3=>zJ O one3 O (J 1 O) O) O<|rL1 16 O (fun g1_3=>zAg O O O) O<|r_or O (fun h=>(lzf h))<|W<|zH O (fun c1=>?_) (fun c1=>?_)
 ·try simp only [sx] at c1
  have hS:bX c s=(zL,false):=by simp only [bX,solve_c1 c1];rfl
  refine Y O<|yF [none,some 2] O v pl40<|rStR 0 sz40 O<|G O<|W<|zO<|fin2 (zZ yB O (J 0 O) O) (rs_c O) ?_
  rw [hS];rfl
 ·try simp only [sx] at c1
  obtain ⟨hv,hop⟩:=c1
  have hP:=wS hv
  obtain ⟨a,b,hab,hPa,hPb⟩:=zKt hP (by rw [hop];rfl)
  have ha0:c.Args[0]? =some a:=by rw [hab];rfl
  have hb0:c.Args[1]? =some b:=by rw [hab];rfl
  have hwa:=Ex.arg_wt (zX ha0)
  have hwb:=Ex.arg_wt (zX hb0)
  have hS:bX c s=fK a b s:=by simp only [bX,hv,hop,bT,hab];rfl
  obtain ⟨hLa,_,_⟩:=a.parts (show a.wt<=4294967296 by omega)
  obtain ⟨hLb,_,_⟩:=b.parts (show b.wt<=4294967296 by omega)
  refine zN<|zM<|awp_draw_p 10 [.q,.q,.q,.q,.u,.u,.u,.u,.f,.f]  mixed (by kernel_rfl) O O O<|yS O O (zE O kO O)<|yS O O (zJ O zAj O (J 1 O) O)<|yS O O (qH O el42 O O (by omega) (zBj ha0))<|yS O O (zU O yG O qE O)<|zDy O O (zE O kO O)<|zDy O O (zJ O zAj O (J 1 O) O)<|zDy O O (qH O el42 O O (by omega) (zBj hb0))<|zDy O O (zU O yG O qE O)<|zGo<|zGo<|zJo<|wN<|wN<|wN<|wN<|zKw<|zKw<|zKw<|zKw<|zEm (wH (qF [none,none,none,none,none,none,none,none,none,none,some 2,some 4,some 13] O zr44 O))<|zEm (wH (qF [none,none,none,none,none,none,none,none,none,none,some 2,some 4,some 13] O zr44 O))<|zJp<|zDh ?_
  rintro _ _ ⟨b3,rfl,rfl⟩
  refine zDh ?_
  rintro _ _ ⟨b4,rfl,rfl⟩
  refine zEy ?_
  refine ⟨_,kN O sz44 O O O (zCu 1 O O),(by rintro _ _ ⟨rfl,rfl⟩;exact ⟨[_,_],rfl⟩),?_⟩
  rintro _ _ ⟨rfl,rfl⟩
  refine rStR 0 sz44 O<|W<|Y O<|G O<|qQ O ok91 (lin_Var _) ⟨U,O,T⟩<|zY O O (qF [none,some 2] O v O) ?_
  rintro _ _ ⟨b5,rfl,rfl⟩
  refine rStR 0 sz40 O<|W<|zM<|Y O<|zF O yP<|zK kQ (J 0 O) O<|qB O D<|yK O<|W<|zH O (fun c2=>?_) (fun c2=>?_)
  ·try simp only [sx] at c2
   have hn:=var_empty.1 c2
   refine Y O<|yF [none,some 2] O v pl40<|rStR 3 sz40 O<|G O<|W<|zO<|fin2 (zZ yB O (J 3 O) O) (rs_c O) ?_
   rw [hS,fK,hn];rfl
  ·try simp only [sx] at c2
   have hn:bD s=true:=by cases h:bD s;exact absurd (var_empty.2 h) c2;rfl
   refine zN<|zM<|Y O<|zF O kE<|zK one3 (J 2 O) O<|yW O<|G O<|rL0 O (fun g7_3=>zE O zBk O) O<|rL1 39 O (fun g7_3=>zU O yB O (J 2 O) O) O<|rL0 O (fun g7_3=>zU O yB O (J 0 O) O) O<|rLz [(40,_),(41,_)] O gv1 ⟨O,O,O,O,T⟩ (fun g7_3=>qL O ok114 (lin_Same a.Lin (lR s) (by omega)) ⟨U,O,U,O,T⟩) O<|rL1 42 O (fun g7_3=>kT O O) O<|r_or O (fun h=>(lzf h))<|W<|zH O (fun c3=>?_) (fun c3=>?_)
   ·have h3:isV a s=false:=zOb c3
    refine zT O<|zP yG (J 1 O) O<|zP yG (J 2 O) O<|rStR 2 sz44 O<|rStR 1 sz44 O<|W<|zM<|Y O<|zF O kE<|zK one3 (J 2 O) O<|yW O<|G O<|rL0 O (fun g9_3=>zE O zBk O) O<|rL1 51 O (fun g9_3=>zU O yB O (J 2 O) O) O<|rL0 O (fun g9_3=>zU O yB O (J 0 O) O) O<|rLz [(52,_),(53,_)] O gv1 ⟨O,O,O,O,T⟩ (fun g9_3=>qL O ok114 (lin_Same _ _ (by omega)) ⟨U,O,U,O,T⟩) O<|rL1 54 O (fun g9_3=>kT O O) O<|r_or O (fun h=>(lzf h))<|W<|zH O (fun c4=>?_) (fun c4=>?_)
    ·first|(have h4:isV b s=false:=zOb c4)|(have h4:isV a s=false:=zOb c4)
     refine Y O<|yF [none,some 2] O v pl40<|rStR 3 sz40 O<|G O<|W<|zO<|fin2 (zZ yB O (J 3 O) O) (rs_c O) ?_
     rw [hS,fK,hn,h3,h4];rfl
    ·first|(have h4:isV b s=true:=zOb c4)|skip
     refine zN<|Y O<|zP yG (J 1 O) O<|qQ O ok115 (zJk _) ⟨U,O,T⟩<|yH O<|qA O (yA O O O)<|yX O<|zY O O (qF [none,some 2] O v O) ?_
     rintro _ _ ⟨b6,rfl,rfl⟩
     refine rStR 0 sz40 O<|G O<|W<|zM<|Y O<|G O<|wE O<|G O<|rL0 O (fun g12_2=>zU O yB O (J 0 O) O) O<|rL0 O (fun g12_2=>zS O O) O<|rLz [(66,_),(67,_)] O gv1 ⟨O,O,O,O,T⟩ (fun g12_2=>qL O ok116 (zFq _ s (by first|(have:=zCt a;omega)|(have:=zCt b;omega))) ⟨U,O,U,O,T⟩) O<|r_or O (fun h=>(lzf h))<|W<|zH O (fun c5=>?_) (fun c5=>?_)
     ·refine Y O<|yF [none,some 2] O v pl40<|rStR 4 sz40 O<|G O<|W<|zO<|fin2 (zZ yB O (J 4 O) O) (rs_c O) ?_
      simp only [hS,fK,hn,h3,h4,cond_true,cond_false]
      rw [lE,c5];rfl
     ·refine zN<|Y O<|zP yB (J 0 O) O<|yF [none,none,none,none,none,none,none,none,none,none,none,some 4,some 13] O zr44 pl44<|qQ O ok32 (zSg (.mk 0 (bs []) ⟨0,0⟩ ⟨0,0,0,0,0⟩ _ [] []) (cw_le (by first|(have:=zCt a;omega)|(have:=zCt b;omega)))) ⟨U,O,T⟩<|qA O (zOh O zBk yB O)<|rStR 4 sz40 O<|G O<|W<|zO<|fin2 (zZ yB O (J 4 O) O) (rs_c O) ?_
      simp only [hS,fK,hn,h3,h4,cond_true,cond_false]
      rw [lE,c5];rfl
   ·have h3:isV a s=true:=zOb c3
    refine zN<|zM<|Y O<|zF O kE<|zK one3 (J 2 O) O<|yW O<|G O<|rL0 O (fun g9_3=>zE O zBk O) O<|rL1 51 O (fun g9_3=>zU O yB O (J 2 O) O) O<|rL0 O (fun g9_3=>zU O yB O (J 0 O) O) O<|rLz [(52,_),(53,_)] O gv1 ⟨O,O,O,O,T⟩ (fun g9_3=>qL O ok114 (lin_Same _ _ (by omega)) ⟨U,O,U,O,T⟩) O<|rL1 54 O (fun g9_3=>kT O O) O<|r_or O (fun h=>(lzf h))<|W<|zH O (fun c4=>?_) (fun c4=>?_)
    ·first|(have h4:isV b s=false:=zOb c4)|(have h4:isV a s=false:=zOb c4)
     refine Y O<|yF [none,some 2] O v pl40<|rStR 3 sz40 O<|G O<|W<|zO<|fin2 (zZ yB O (J 3 O) O) (rs_c O) ?_
     exact absurd (h3.symm.trans h4) (by simp)
    ·first|(have h4:isV b s=true:=zOb c4)|skip
     refine zN<|Y O<|zP yG (J 1 O) O<|qQ O ok115 (zJk _) ⟨U,O,T⟩<|yH O<|qA O (yA O O O)<|yX O<|zY O O (qF [none,some 2] O v O) ?_
     rintro _ _ ⟨b7,rfl,rfl⟩
     refine rStR 0 sz40 O<|G O<|W<|zM<|Y O<|G O<|wE O<|G O<|rL0 O (fun g12_2=>zU O yB O (J 0 O) O) O<|rL0 O (fun g12_2=>zS O O) O<|rLz [(66,_),(67,_)] O gv1 ⟨O,O,O,O,T⟩ (fun g12_2=>qL O ok116 (zFq _ s (by first|(have:=zCt a;omega)|(have:=zCt b;omega))) ⟨U,O,U,O,T⟩) O<|r_or O (fun h=>(lzf h))<|W<|zH O (fun c5=>?_) (fun c5=>?_)
     ·refine Y O<|yF [none,some 2] O v pl40<|rStR 4 sz40 O<|G O<|W<|zO<|fin2 (zZ yB O (J 4 O) O) (rs_c O) ?_
      simp only [hS,fK,hn,h3,cond_true]
      rw [lE,c5];rfl
     ·refine zN<|Y O<|zP yB (J 0 O) O<|yF [none,none,none,none,none,none,none,none,none,none,none,some 4,some 13] O zr44 pl44<|qQ O ok32 (zSg (.mk 0 (bs []) ⟨0,0⟩ ⟨0,0,0,0,0⟩ _ [] []) (cw_le (by first|(have:=zCt a;omega)|(have:=zCt b;omega)))) ⟨U,O,T⟩<|qA O (zOh O zBk yB O)<|rStR 4 sz40 O<|G O<|W<|zO<|fin2 (zZ yB O (J 4 O) O) (rs_c O) ?_
      simp only [hS,fK,hn,h3,cond_true]
      rw [lE,c5];rfl
theorem ref22_Solve (c:Ex) (s:ByteArray) (he:c.wt<=4294967296):
    Pur cfg 134 [vE c,vS s] (.tup [dK (bX c s).1,vB (bX c s).2]):=by
 refine zW Tryz.func134 O Tryz.ntmps134 Tryz.results134 O ?_
 intro z hz
 refine Y O<|zY O O (qN O O) ?_
 rintro _ _ ⟨b1,rfl,rfl⟩
 refine zY O O (qF [none,some 2] O v O) ?_
 rintro _ _ ⟨b2,rfl,rfl⟩
 refine G O<|W<|zM<|Y O<|zP yG (J 1 O) O<|qQ O ok160 (zDi c (by omega)) ⟨U,O,T⟩<|yW O<|G O<|rL0 O (fun g1_3=>zE O kE O) O<|rL1 13 O (fun g1_3=>zJ O one3 O (J 1 O) O) O<|rL1 14 O (fun g1_3=>zAg O O O) O<|r_or O (fun h=>(lzf h))<|W<|zH O (fun c1=>?_) (fun c1=>?_)
 ·try simp only [sx] at c1
  have hS:bX c s=(zL,false):=by simp only [bX,solve_c1 c1];rfl
  refine Y O<|yF [none,some 2] O v pl40<|rStR 0 sz40 O<|G O<|W<|zO<|fin2 (zZ yB O (J 0 O) O) (rs_c O) ?_
  rw [hS];rfl
 ·try simp only [sx] at c1
  obtain ⟨hv,hop⟩:=c1
  have hP:=wS hv
  obtain ⟨a,b,hab,hPa,hPb⟩:=zKt hP (by rw [hop];rfl)
  have ha0:c.Args[0]? =some a:=by rw [hab];rfl
  have hb0:c.Args[1]? =some b:=by rw [hab];rfl
  have hwa:=Ex.arg_wt (zX ha0)
  have hwb:=Ex.arg_wt (zX hb0)
  have hS:bX c s=fK a b s:=by simp only [bX,hv,hop,bT,hab];rfl
  obtain ⟨hLa,_,_⟩:=a.parts (show a.wt<=4294967296 by omega)
  obtain ⟨hLb,_,_⟩:=b.parts (show b.wt<=4294967296 by omega)
  have hka:=zPd (zAo hPa)
  have hkb:=zPd (zAo hPb)
  refine zN<|zM<|Y O<|G O<|W<|zR<|qC ⟨[(6,.c _),(1,.c _),(2,.c _),(4,.c _)],[_,_]⟩ (Weak.mk [true,true] ⟨U,U,U,U,T⟩ O)<|qG 1 0 O O (Nat) (fun k=>[(6,vI k)]) (fun k=>[]) (fun k=>k<=2/\(0<k->mV a b s=false)/\(1<k->mV b a s=false)) (fun k=>2-k) ⟨0,⟨by omega,fun h=>by omega,fun h=>by omega⟩,Weak.mk [true,true] ⟨U,U,U,U,T⟩ O⟩ ?_
  rintro k ⟨hk,hk0,hk1⟩
  refine zM<|Y O<|G O<|yI O<|W<|zH O (fun c2=>?_) (fun c2=>?_)
  ·try simp only [sx] at c2
   obtain ⟨x,y,hx,hy,hxw,hyw,hxy⟩:=pick_ab (a:=a) (b:=b) ha0 hb0 (show k<2 by omega)
   refine zN<|zM<|zR<|Y O<|zF O kO<|zK zAj (J 1 O) O<|G O<|qA O (kP O O O ⟨by omega,by omega⟩)<|qJ O el42 (by omega) (zBj hy)<|zP yG qE O<|qQ O ok181 (ref22_form y) ⟨U,O,T⟩<|yH O<|qA O (yA O O O)<|yX O<|zY O O (qF [none,some 2] O v O) ?_
   rintro _ _ ⟨b3,rfl,rfl⟩
   refine rStR 0 sz40 O<|G O<|W<|Y O<|zF O kO<|zK zAj (J 2 O) O<|G O<|qJ O el42 (by omega) (zBj hx)<|zP yG qE O<|G O<|qQ O ok182 (ref22_variable x s (by omega)) ⟨U,O,U,O,T⟩<|G O<|rL0 O (fun g7_7=>zS O O) O<|yZ O (fun h=>h)<|G O<|rL0 O (fun g7_10=>zU O yB O (J 0 O) O) O<|rL0 O (fun g7_10=>zS O O) O<|rLz [(43,_),(44,_)] O gv1 ⟨O,O,O,O,T⟩ (fun g7_10=>qL O ok135 (zQv _ s (by have:=form_len y;omega)) ⟨U,O,U,O,T⟩) O<|rL1 45 O (fun g7_10=>yM O O O) O<|yZ O (fun h=>h)<|W<|zH O (fun c3=>?_) (fun c3=>?_)
   ·have h3:mV x y s=true:=c3
    refine Y O<|zP yB (J 0 O) O<|rStR 1 sz40 O<|G O<|W<|zO<|fin2 (zZ yB O (J 1 O) O) (rs_c O) ?_
    rw [hS,pick_done hka hkb hxy h3 hk0];rfl
   ·have h3:mV x y s=false:=c3
    refine zN<|zT O<|G O<|qK O ⟨by omega,by omega⟩<|G O<|W ?_
    refine ⟨k+1,pick_next hxy h3 hk hk0 hk1,(by omega),Weak.mk [false,true,true] ⟨U,U,U,U,T⟩ O⟩
  ·try simp only [sx] at c2
   refine qO<|Y O<|yF [none,some 2] O v pl40<|rStR 0 sz40 O<|G O<|W<|zO<|fin2 (zZ yB O (J 0 O) O) (rs_c O) ?_
   rw [hS,solve_none hka hkb (hk0 (by omega)) (hk1 (by omega))];rfl
end Go.W
end
section
set_option maxRecDepth 10000
namespace Go.W
open Go Go.Eng Go.Proofs Go.L41 Go.Br
attribute [local irreducible] AWP RWP TD fL
theorem zAi:mY Tryz.prog 63=some 22:=by kernel_rfl
theorem el25:dM Tryz.prog 25=some (63,22,272):=by kernel_rfl
theorem kV:bM Tryz.prog 27 3=some (3,25):=by kernel_rfl
theorem zOe:bM Tryz.prog 63 0=some (0,9):=by kernel_rfl
theorem ok84:bA Tryz.prog 84=true:=by kernel_rfl
theorem ok325:bA Tryz.prog 325=true:=by kernel_rfl
theorem ok326:bA Tryz.prog 326=true:=by kernel_rfl
theorem zAq:lS Tryz.prog 25=true:=by kernel_rfl
theorem zBb (l:Lf) (hl:l.L.length<=5864062014805):
    Pur cfg 84 [dK l] (dK l):=by
 refine zW Tryz.func84 O Tryz.ntmps84 Tryz.results84 O ?_
 intro z hz
 refine Y O<|zY O O (qN O O) ?_
 rintro _ _ ⟨b1,rfl,rfl⟩
 refine zY O O (qF [none,some 2] O v O) ?_
 rintro _ _ ⟨b2,rfl,rfl⟩
 refine W<|zM<|qW 6 mixed (by kernel_rfl) O O<|zQ O O (zE O zCk O)<|zQ O O (zJ O one2 O (J 1 O) O)<|zQ O O (zE O yP O)<|zQ O O (zJ O kQ O (J 1 O) O)<|zQ O O (qL O ok80 (OwnR.pur (zFv l.L hl)) ⟨U,O,T⟩)<|zQ O O (kW O v pl40 O)<|yR<|rStR 0 sz40 O<|W<|zO<|fin1 (zZ yB O (J 0 O) O) ?_
 exact O
theorem zDb (l:List Lf) (hl:l.length<=4294967296) (hx:∀x,x∈l->x.L.length<=5864062014805):
    OwnR cfg 85 [mR l] 40 2 (l.map Lf.cells):=by
 refine zW Tryz.func85 O Tryz.ntmps85 Tryz.results85 O ?_
 intro z hz
 have hl0:=hx
 clear hx
 refine Y O<|qA O (yQ 2 O O)<|W<|Y O<|G O<|yE _ (yU 40 2)<|W<|zM<|Y O<|G O<|qB O el65<|G O<|W<|zR<|qC ⟨[(8,.c _),(3,.c _),(6,.c _),(7,.c _)],[_]⟩ (Weak.mk [true] ⟨U,U,U,U,T⟩ O)<|qG 2 1 O O (Nat×Value) (fun ⟨k,sv⟩=>[(8,vI k),(3,.c (.lit sv))]) (fun ⟨k,sv⟩=>[E.vec sv 40 2 ((l.take k).map Lf.cells)]) (fun ⟨k,sv⟩=>k<=l.length) (fun ⟨k,sv⟩=>l.length-k) ⟨⟨0,(.slice none 0 0)⟩,(by omega),Weak.mk [true] ⟨U,U,U,U,T⟩ O⟩ ?_
 rintro ⟨k,sv⟩ hk
 show AWP _ _ _ _ _ ⟨[(8,vI k),(3,.c (.lit sv))]++_,[E.vec sv 40 2 ((l.take k).map Lf.cells)]++_⟩
 refine Y O<|yI O<|W<|zM<|zH O (fun c1=>?_) (fun c1=>?_)
 ·try simp only [sx] at c1
  obtain ⟨x,hx⟩:=qU l k (by omega)
  refine zN<|zM<|zR<|Y O<|qJ O el65 (by omega) (getm (by assumption))<|zP yB qE O<|zY O O (qF [none,some 2] O v O) ?_
  rintro _ _ ⟨b2,rfl,rfl⟩
  refine rStR 0 sz40 O<|W<|zT O<|G O<|zP yB (J 0 O) O<|qQ O ok84 (zBb _ (hl0 _ (zX hx))) ⟨U,O,T⟩<|yV O el65 v<|zY O O (qV 1 O el65 O O O (by first|omega|(simp only [List.length_take,List.length_map,List.length_append,List.length_nil,List.length_cons];omega)) (by first|omega|(simp only [List.length_take,List.length_map,List.length_append,List.length_nil,List.length_cons];omega))) ?_
  rintro _ _ ⟨sv3,rfl,rfl⟩
  refine G O<|W<|zT O<|qK O ⟨by omega,by omega⟩<|G O<|W ?_
  refine ⟨⟨k+1,sv3⟩,(by omega),(by show l.length-(k+1)<l.length-k;omega),Weak.mk [false,true] ⟨U,U,U,U,T⟩ (by show _=[E.vec sv3 _ 2 ((l.take (k+1)).map Lf.cells)]++_;rw [qT hx,List.map_append];rfl)⟩
 ·try simp only [sx] at c1
  refine qO<|Y O<|G O<|G O<|W<|zO<|zV O ?_
  exact ⟨_,O,by rw [qY (by omega)];rfl⟩
theorem zMx (d:Df) (s:ByteArray):
    Pur cfg 326 [vDf d,.c (.iptr [cS s])] (vB (decide (d.Name=s))):=by
 refine zW Tryz.func326 O Tryz.ntmps326 Tryz.results326 O ?_
 intro z hz
 refine Y O<|zY O O (qN O O) ?_
 rintro _ _ ⟨b1,rfl,rfl⟩
 refine G O<|W<|Y O<|zF O zOe<|zK one9 (J 0 O) O<|zK one9 qE O<|wD O<|G O<|W<|zO<|zV O ?_
 exact O
theorem zJr (l:List Df) (c:C) (p:Df->Bool) (hl:l.length<=4294967296) (hc:∀x,x∈l->FnPur cfg c [vDf x] (vB (p x))):
    Pur cfg 325 [.c (.sl 22 (l.map Df.cells)),.c c] (vI (dI p l)):=by
 refine zW Tryz.func325 O Tryz.ntmps325 Tryz.results325 O ?_
 intro z hz
 refine Y O<|G O<|W<|zM<|Y O<|G O<|qB O el25<|G O<|W<|zR<|qC ⟨[(8,.c _),(0,.c _),(1,.c _),(7,.c _)],[]⟩ (Weak.mk [] ⟨U,U,U,U,T⟩ O)<|qG 1 0 O O (Nat) (fun k=>[(8,vI k)]) (fun k=>[]) (fun k=>k<=l.length/\((l.take k).any p=false)) (fun k=>l.length-k) ⟨0,⟨by omega,O⟩,Weak.mk [] ⟨U,U,U,U,T⟩ O⟩ ?_
 rintro k ⟨hk,hp⟩
 refine Y O<|yI O<|W<|zM<|zH O (fun c1=>?_) (fun c1=>?_)
 ·try simp only [sx] at c1
  obtain ⟨x,hx⟩:=qU l k (by omega)
  refine zN<|zM<|zR<|Y O<|G O<|G O<|W<|Y O<|G O<|G O<|G O<|qJ O el25 (by omega) (getm (by assumption))<|zP zAi qE O<|qA O (zBl O O (hc _ (zX hx)) ⟨U,O,T⟩)<|W<|zH O (fun c2=>?_) (fun c2=>?_)
  ·try simp only [sx] at c2
   refine Y O<|G O<|G O<|W<|zO<|zV O ?_
   rw [zFf hx c2 hp]
  ·try simp only [sx] at c2
   refine zN<|zT O<|qK O ⟨by omega,by omega⟩<|G O<|W ?_
   refine ⟨k+1,⟨by omega,zCb hx hp c2⟩,(by omega),Weak.mk [] ⟨U,U,U,U,T⟩ O⟩
 ·try simp only [sx] at c1
  refine qO<|Y O<|G O<|W<|zO<|zV O ?_
  rw [zDf (by rw [qY (by omega)] at hp;exact hp)]
theorem zQw (p:Pg) (s:ByteArray) (hd:p.Defs.length<=4294967296):
    Pur cfg 287 [vPg p,vS s] (vI (rN s p.Defs)):=by
 refine zW Tryz.func287 O Tryz.ntmps287 Tryz.results287 O ?_
 intro z hz
 refine Y O<|zY O O (qN O O) ?_
 rintro _ _ ⟨b1,rfl,rfl⟩
 refine zY O O (qN O O) ?_
 rintro _ _ ⟨b2,rfl,rfl⟩
 refine G O<|W<|Y O<|zF O kV<|zK zAq (J 1 O) O<|qA O (zEf O O O O O)<|yE _ (kD 0 O 7 (.c (.fn _ _ [_])) (PLe.fn ⟨.inr ⟨O,O⟩,T⟩))<|qQ O ok325 (zJr p.Defs _ (fun d=>decide (d.Name=s)) hd (fun x _=>FnPur.of_pur (first:=[]) (cap:=[.iptr [cS s]]) ok326 (zMx x s))) ⟨U,O,U,O,T⟩<|G O<|W<|zO<|zV O ?_
 exact O
theorem zJu (l:Lf) (v sz:List ByteArray) (hl:l.L.length<=5864062014805) (hv:v.length<=4294967296) (hz0:sz.length<=4294967296):
    Pur cfg 108 [dK l,vSs v,vSs sz] (vB (knL (knB sz v) l.L)):=by
 refine zW Tryz.func108 O Tryz.ntmps108 Tryz.results108 O ?_
 intro z hz
 refine Y O<|zY O O (qN O O) ?_
 rintro _ _ ⟨b1,rfl,rfl⟩
 refine G O<|W<|zM<|Y O<|G O<|W<|zR<|qC ⟨[(7,.c _),(1,.c _),(2,.c _),(3,.c _)],[_]⟩ (Weak.mk [true] ⟨U,U,U,U,T⟩ O)<|qG 1 0 O O (Nat) (fun k=>[(7,vI k)]) (fun k=>[]) (fun k=>k<=l.L.length/\(knL (knB sz v) (l.L.take k)=true)) (fun k=>l.L.length-k) ⟨0,⟨by omega,O⟩,Weak.mk [true] ⟨U,U,U,U,T⟩ O⟩ ?_
 rintro k ⟨hk,hp⟩
 refine zM<|Y O<|G O<|zF O yP<|zK kQ (J 0 O) O<|qB O D<|yI O<|W<|zH O (fun c1=>?_) (fun c1=>?_)
 ·try simp only [sx] at c1
  obtain ⟨x,hx⟩:=qU l.L k (by omega)
  refine zN<|zM<|zR<|Y O<|G O<|zF O yP<|zK kQ (J 0 O) O<|G O<|qJ O D (by omega) (getm (by assumption))<|qS O wF<|zK one9 qE O<|qQ O ok21 (zMc v x.Name (by omega)) ⟨U,O,U,O,T⟩<|wE O<|G O<|rL0 O (fun g4_9=>zS O O) O<|rL0 O (fun g4_9=>zE O yP O) O<|rL1 26 O (fun g4_9=>zJ O kQ O (J 0 O) O) O<|rL0 O (fun g4_9=>zS O O) O<|rLz [(27,_),(28,_)] O gv1 ⟨O,O,O,O,T⟩ (fun g4_9=>qH O D O O (by omega) (getm (by assumption))) O<|rL1 29 O (fun g4_9=>qP O wF O) O<|rL1 30 O (fun g4_9=>zJ O one9 O qE O) O<|rLz [(25,_),(31,_)] O gv1 ⟨O,O,O,O,T⟩ (fun g4_9=>qL O ok21 (zMc sz x.Name (by omega)) ⟨U,O,U,O,T⟩) O<|rL1 32 O (fun g4_9=>kT O O) O<|yZ O (fun h=>h)<|W<|zH O (fun c2=>?_) (fun c2=>?_)
  ·refine Y O<|G O<|W<|zO<|zV O ?_
   rw [kn_no hx c2]
  ·refine zN<|zT O<|G O<|qK O ⟨by omega,by omega⟩<|G O<|W ?_
   refine ⟨k+1,⟨by omega,kn_next hx hp c2⟩,(by omega),Weak.mk [true] ⟨U,U,U,U,T⟩ O⟩
 ·try simp only [sx] at c1
  refine qO<|Y O<|G O<|W<|zO<|zV O ?_
  rw [qY (by omega)] at hp;rw [hp]
end Go.W
end
