/-
  Walks: what functions of the program compute. Printed by wip/gen/mk2.py.
  Walks: what functions of the program compute. Printed by wip/gen/mk2.py.
  Walks: what functions of the program compute. Printed by wip/gen/mk2.py.
  Conditions: none.
-/
import Derived.Test.YtkidnhldibjiaaaGreatDoorWE
import Derived.Test.YtkidnhldibjiaaaGreatDoorPlain
import Derived.Test.YtkidnhldibjiaaaGreatDoorEngZ
set_option linter.unusedSimpArgs false
set_option linter.unusedVariables false
section
set_option maxRecDepth 10000
namespace Go.W
open Go Go.Eng Go.Proofs Go.L41 Go.Br
attribute [local irreducible] AWP RWP TD finQ
theorem ok78:callOk Tryz.prog 78=true:=by kernel_rfl
theorem ok79:callOk Tryz.prog 79=true:=by kernel_rfl
theorem ok149:callOk Tryz.prog 149=true:=by kernel_rfl
theorem ok150:callOk Tryz.prog 150=true:=by kernel_rfl
theorem ok151:callOk Tryz.prog 151=true:=by kernel_rfl
theorem pl44:placesT Tryz.prog 44=some [(0,1),(1,1),(2,2),(4,5),(9,2),(11,1),(12,1)]:=by kernel_rfl
theorem sz41:(Tryz.prog.info? 41).map (·.size)=some 1:=by kernel_rfl
theorem sz42:(Tryz.prog.info? 42).map (·.size)=some 1:=by kernel_rfl
theorem sz65:(Tryz.prog.info? 65).map (·.size)=some 1:=by kernel_rfl
theorem mapForms_step (f:Lf->Lf×Int) (c:C) (P:Lf->Prop) (hf:∀l,P l->FnPur cfg c [vLin l] (.tup [vLin (f l).1,vI (f l).2])) (e:Ex) (hP:e.allF P) (ih:∀a,a∈e.Args->a.allF P->a.cnt<=4294967296->Pur cfg 78 [vE a,.c c] (.tup [vE (outE (mEx f a)),vI (errE (mEx f a))])) (he:e.cnt<=4294967296):
    Pur cfg 78 [vE e,.c c] (.tup [vE (outE (mEx f e)),vI (errE (mEx f e))]):=by
 refine zR Tryz.func78 O Tryz.ntmps78 Tryz.results78 O ?_
 intro z hz
 obtain ⟨hI,hA,hAt⟩:=e.cparts he
 refine G O<|zS O O (qG O O) ?_
 rintro _ _ ⟨b1,rfl,rfl⟩
 refine zS O O (qD [none,none,none,none,none,none,none,none,none,none,some 2,some 4,some 13] O zr44 O) ?_
 rintro _ _ ⟨b2,rfl,rfl⟩
 refine Y O<|W<|G O<|zL qZ (J 1 O) O<|zS O O (qD [none,none,none,none,none,none,none,none,none,none,some 2,some 4,some 13] O zr44 O) ?_
 rintro _ _ ⟨b3,rfl,rfl⟩
 refine N 0 sz44 O<|W<|G O<|Y O<|W<|zG<|G O<|Y O<|zD O zCo<|zL kF (J 2 O) O<|zX O (kS O O (hf e.Lin (Ex.allF_lin hP)) ⟨U,O,T⟩)<|zX O (yE O O)<|zX O (kA O O O)<|zX O (yP O O O)<|zD O zCo<|N 0 sz40 O<|Y O<|W<|G O<|Y O<|yR O<|W<|zE O (fun c1=>?_) (fun c1=>?_)
 ·try simp only [sx] at c1
  refine G O<|zX O (kJ [none,none,none,none,none,none,none,none,none,none,some 2,some 4,some 13] O zr44 pl44 O O)<|Y O<|N 1 sz44 O<|Y O<|W<|zJ<|fin2 (qF qZ O (J 1 O) O) (v O) ?_
  rw [mEx_e1 c1];rfl
 ·try simp only [sx] at c1
  refine zI<|G O<|zD O kC<|zH wK (J 2 O) O<|zS O O (zCm O ok149 (zNt e.Idx hI) ⟨U,O,T⟩) ?_
  rintro _ _ ⟨sv4,rfl,rfl⟩
  refine zD O kC<|N 1 sz41 O<|W<|zG<|G O<|zD O kC<|zH wK (J 3 O) O<|zV O el41<|Y O<|W<|zN<|zU ⟨[(34,.c _),(1,.c _),(2,.c _),(4,.c _),(6,.c _),(32,.c _),(33,.c _)],[_,_,_,_]⟩ (Weak.mk [true,true,true,true] ⟨U,U,U,U,U,U,U,T⟩ O)<|qA 1 1 O O (Nat×List Ix) (fun ⟨k,outs⟩=>[(34,vI k)]) (fun ⟨k,outs⟩=>[E.vec sv4 115 4 (outs.map Ix.cells++(e.Idx.drop k).map Ix.cells)]) (fun ⟨k,outs⟩=>k<=e.Idx.length/\(outs.length=k)/\(mIxs f e.Idx=mapRest outs (mIxs f (e.Idx.drop k)))) (fun ⟨k,outs⟩=>e.Idx.length-k) ⟨⟨0,[]⟩,⟨by omega,O,(zIe _).symm⟩,Weak.mk [true,true,true,true] ⟨U,U,U,U,U,U,U,T⟩ O⟩ ?_
  rintro ⟨k,outs⟩ ⟨hk,ho,hp⟩
  show AWP _ _ _ _ _ ⟨[(34,vI k)]++_,[E.vec sv4 115 4 (outs.map Ix.cells++(e.Idx.drop k).map Ix.cells)]++_⟩
  refine G O<|qW O<|W<|zG<|zE O (fun c2=>?_) (fun c2=>?_)
  ·try simp only [sx] at c2
   obtain ⟨x,hx⟩:=qP e.Idx k (by omega)
   have hxw:=hAt x (zW hx)
   refine zI<|zG<|zN<|G O<|Y O<|zZ O el41 (by omega) (getm (by assumption))<|zL zAx zY O<|zS O O (qD [none,some 2,none,some 2] O zDp O) ?_
   rintro _ _ ⟨b5,rfl,rfl⟩
   refine Y O<|N 0 zNp O<|W<|zG<|zG<|zLm 12 [false,false,false,false,false,false,false,false,false,true,false,false] Mall mixed (by kernel_rfl) O O O<|kL O O (zF O kC O)<|kL O O (zK O wK O (J 2 O) O)<|kL O O (zQ O O)<|kL O O (zQ O O)<|kL O O (zF O zAz O)<|kL O O (zT O kF O (J 0 O) O)<|kL O O (kS O O (hf x.Lin (Ex.allF_ix hP (zW hx))) ⟨U,O,T⟩)<|kL O O (yE O O)<|kL O O (kA O O O)<|td2_detA O O (fun _=>yP O O O)<|kL O O (qR 1 O el41 O O O (by omega) (mid_len (by simp;omega) (by omega)))<|kL O O (yK O zAz O)<|td2_nil ?_
   refine ⟨_,kU O sz40 O O O (zLq 1 O (mid_get (by simp;omega) hx) O),fun _ _ _=>T,?_⟩
   rintro _ _ ⟨rfl,rfl⟩
   refine Y O<|W<|G O<|Y O<|yR O<|W<|zE O (fun c3=>?_) (fun c3=>?_)
   ·try simp only [sx] at c3
    refine G O<|zX O (kJ [none,none,none,none,none,none,none,none,none,none,some 2,some 4,some 13] O zr44 pl44 O O)<|Y O<|N 3 sz44 O<|Y O<|W<|zJ<|fin2 (qF qZ O (J 3 O) O) (v O) ?_
    rw [mEx_e2 c1 (mIxs_no hx hp (mIx_e1 c3))];rfl
   ·try simp only [sx] at c3
    refine zI<|zG<|awp_draw_f 8 [.q,.q,.q,.q,.q,.f,.q,.q] Mall mixed (by kernel_rfl) O O O<|kK O O (zF O kC O)<|kK O O (zK O wK O (J 2 O) O)<|kK O O (zQ O O)<|kK O O (zF O kW O)<|kK O O (zK O zAr O (J 0 O) O)<|zMr<|kK O O (qR 1 O el41 O O O (by omega) (by simp;omega))<|kK O O (yK O kW O)<|tdq_nil<|zAy<|zAy<|zAy<|zAy<|zAy<|zIu (fresh_own (zCm O ok150 (zMf x.At (by omega)) ⟨U,O,T⟩))<|zAy<|zAy<|tdf_nil<|zHe ?_
    rintro _ _ ⟨sv6,rfl,rfl⟩
    refine zJw ?_
    refine ⟨_,kU O sz65 O O O (zLq 2 O (set_get (by simp;omega)) O),(fun _ _ _=>T),?_⟩
    rintro _ _ ⟨rfl,rfl⟩
    refine W<|G O<|zD O kW<|zH zAr (J 1 O) O<|zV O el65<|Y O<|W<|zN<|zU ⟨[(66,.c _),(1,.c _),(2,.c _),(4,.c _),(6,.c _),(8,.c _),(32,.c _),(33,.c _),(34,.c _),(64,.c _),(65,.c _)],[_,_,_,_,_]⟩ (Weak.mk [true,false,true,true,true,true] ⟨U,U,U,U,U,U,U,U,U,U,U,T⟩ O)<|qA 1 1 O O (Nat×List Lf) (fun ⟨j,lins⟩=>[(66,vI j)]) (fun ⟨j,lins⟩=>[E.vec sv6 40 2 (lins.map Lf.cells++(x.At.drop j).map Lf.cells)]) (fun ⟨j,lins⟩=>j<=x.At.length/\(lins.length=j)/\(mLins f x.At=mapRest lins (mLins f (x.At.drop j)))) (fun ⟨j,lins⟩=>x.At.length-j) ⟨⟨0,[]⟩,⟨by omega,O,(zIe _).symm⟩,Weak.mk [true,true,true,true,true] ⟨U,U,U,U,U,U,U,U,U,U,U,T⟩ O⟩ ?_
    rintro ⟨j,lins⟩ ⟨hj,hlo,hq⟩
    show AWP _ _ _ _ _ ⟨[(66,vI j)]++_,[E.vec sv6 40 2 (lins.map Lf.cells++(x.At.drop j).map Lf.cells)]++_⟩
    refine G O<|qW O<|W<|zG<|zE O (fun c4=>?_) (fun c4=>?_)
    ·try simp only [sx] at c4
     obtain ⟨l,hl⟩:=qP x.At j (by omega)
     have hlw:=hAt x (zW hx)
     refine zI<|zG<|zN<|G O<|Y O<|zZ O el65 (by omega) (getm (by assumption))<|zL kF zY O<|zS O O (qD [none,some 2] O zr40 O) ?_
     rintro _ _ ⟨b7,rfl,rfl⟩
     refine Y O<|N 0 sz40 O<|W<|zG<|zLm 14 [false,false,false,false,false,false,false,false,false,false,false,false,true,false] Mall mixed (by kernel_rfl) O O O<|kL O O (zF O kC O)<|kL O O (zK O wK O (J 3 O) O)<|kL O O (zQ O O)<|kL O O (qR 2 O el41 O O O (by omega) (by simp;omega))<|kL O O (yK O kW O)<|kL O O (zK O zAr O (kN 2 O (set_get (by simp;omega))) O)<|kL O O (zQ O O)<|kL O O (zQ O O)<|kL O O (zT O kF O (J 0 O) O)<|kL O O (kS O O (hf l (Ex.allF_at hP (zW hx) (zW hl))) ⟨U,O,T⟩)<|kL O O (yE O O)<|kL O O (kA O O O)<|td2_detA O O (fun _=>yP O O O)<|kL O O (qR 1 O el65 O O O (by omega) (mid_len (by simp;omega) (by omega)))<|td2_nil ?_
     refine ⟨_,kU O sz40 O O O (zLq 1 O (mid_get (by simp;omega) hl) O),fun _ _ _=>T,?_⟩
     rintro _ _ ⟨rfl,rfl⟩
     refine Y O<|W<|G O<|Y O<|yR O<|W<|zE O (fun c5=>?_) (fun c5=>?_)
     ·try simp only [sx] at c5
      refine G O<|zX O (kJ [none,none,none,none,none,none,none,none,none,none,some 2,some 4,some 13] O zr44 pl44 O O)<|Y O<|N 4 sz44 O<|Y O<|W<|zJ<|fin2 (qF qZ O (J 4 O) O) (v O) ?_
      rw [mEx_e2 c1 (mIxs_no hx hp (mIx_e2 c3 (mLins_no hl hq c5)))];rfl
     ·try simp only [sx] at c5
      refine zI<|zO O<|qB O ⟨by omega,by omega⟩<|Y O<|W ?_
      refine ⟨⟨j+1,lins++[(f l).1]⟩,⟨by omega,by simp;omega,mLins_next hl hq c5⟩,(by show x.At.length-(j+1)<x.At.length-j;omega),Weak.mk [false,true,true,true,true,true] ⟨U,U,U,U,U,U,U,U,U,U,U,T⟩ (by simp only [Int.toNat_natCast];rw [mid_set (by simp;omega) hl];simp only [List.map_append,List.map_cons,List.map_nil];rfl)⟩
    ·try simp only [sx] at c4
     have hml:=mLins_end hq (by omega)
     rw [kB (l:=x.At) (k:=j) (by omega)]
     simp only [List.map_nil,List.append_nil]
     refine zU _ (yJ 0 O (regs':=[]) (μ':=[_,_,_,_]) T ⟨EFle.vec (r':=[_,_,_,_]) (set_get (by simp;omega)) ⟨.inl O,.inl O,.inl O,.inr ⟨O,O⟩,T⟩,EFle.refl _,EFle.refl _,EFle.refl _,T⟩)<|qE<|zO O<|qB O ⟨by omega,by omega⟩<|Y O<|W ?_
     refine ⟨⟨k+1,outs++[⟨(f x.Lin).1,x.From,lins⟩]⟩,⟨by omega,by simp;omega,mIxs_next hx hp (mIx_ok c3 hml)⟩,(by show e.Idx.length-(k+1)<e.Idx.length-k;omega),Weak.mk [true,true,true,true] ⟨U,U,U,U,U,U,U,T⟩ (by simp only [Int.toNat_natCast,List.set_set];rw [mid_set (by simp;omega) hx];simp only [List.map_append,List.map_cons,List.map_nil];rfl)⟩
  ·try simp only [sx] at c2
   have hmi:=mIxs_end hp (by omega)
   rw [kB (l:=e.Idx) (k:=k) (by omega)]
   simp only [List.map_nil,List.append_nil]
   refine zU _ (yJ 0 O (regs':=[]) (μ':=[_,_,_]) T ⟨EFle.row (ds:=[_,_,_,_,_,_,_,_,_,_,_,_,_]) ⟨.inl O,.inl O,.inl O,.inl O,.inl O,.inl O,.inl O,.inl O,.inl O,.inl O,.inl O,.inr ⟨O,O⟩,.inl O,T⟩,EFle.refl _,EFle.refl _,T⟩)<|qE<|G O<|zD O kG<|zH wS (J 2 O) O<|zS O O (zCm O ok151 (zNu e.Args hA) ⟨U,O,T⟩) ?_
   rintro _ _ ⟨sv8,rfl,rfl⟩
   refine zD O kG<|N 1 sz42 O<|W<|zG<|G O<|zD O kG<|zH wS (J 3 O) O<|zV O el42<|Y O<|W<|zN<|zU ⟨[(98,.c _),(1,.c _),(4,.c _),(6,.c _),(96,.c _),(97,.c _)],[_,_,_]⟩ (Weak.mk [true,true,true,false] ⟨U,U,U,U,U,U,T⟩ O)<|qA 1 1 O O (Nat×List Ex) (fun ⟨n,exs⟩=>[(98,vI n)]) (fun ⟨n,exs⟩=>[E.vec sv8 44 13 (exs.map Ex.cells++(e.Args.drop n).map Ex.cells)]) (fun ⟨n,exs⟩=>n<=e.Args.length/\(exs.length=n)/\(mExs f e.Args=mapRest exs (mExs f (e.Args.drop n)))) (fun ⟨n,exs⟩=>e.Args.length-n) ⟨⟨0,[]⟩,⟨by omega,O,(zIe _).symm⟩,Weak.mk [true,true,true] ⟨U,U,U,U,U,U,T⟩ O⟩ ?_
   rintro ⟨n,exs⟩ ⟨hn,hno,hr⟩
   show AWP _ _ _ _ _ ⟨[(98,vI n)]++_,[E.vec sv8 44 13 (exs.map Ex.cells++(e.Args.drop n).map Ex.cells)]++_⟩
   refine G O<|qW O<|W<|zG<|zE O (fun c6=>?_) (fun c6=>?_)
   ·try simp only [sx] at c6
    obtain ⟨a,ha⟩:=qP e.Args n (by omega)
    refine zI<|zG<|zN<|G O<|Y O<|zZ O el42 (by omega) (zBr (by assumption))<|zL qZ zY O<|zS O O (qD [none,none,none,none,none,none,none,none,none,none,some 2,some 4,some 13] O zr44 O) ?_
    rintro _ _ ⟨b9,rfl,rfl⟩
    refine Y O<|N 0 sz44 O<|W<|zG<|zLm 10 [false,false,false,false,false,false,false,false,true,false] Mall mixed (by kernel_rfl) O O O<|kL O O (zF O kG O)<|kL O O (zK O wS O (J 2 O) O)<|kL O O (zQ O O)<|kL O O (zT O qZ O (J 0 O) O)<|kL O O (zQ O O)<|kL O O (qH O ok78 (ih a (zW ha) (Ex.allF_arg hP (zW ha)) (by have:=Ex.arg_cnt (zW ha);omega)) ⟨U,O,U,O,T⟩)<|kL O O (yE O O)<|kL O O (kA O O O)<|td2_detA O O (fun _=>yP O O O)<|kL O O (qR 1 O el42 O O O (by omega) (mid_len (by simp;omega) (by omega)))<|td2_nil ?_
    refine ⟨_,kU O sz44 O O O (zLq 1 O (mid_getE (by simp;omega) ha) O),fun _ _ _=>T,?_⟩
    rintro _ _ ⟨rfl,rfl⟩
    refine Y O<|W<|G O<|Y O<|yR O<|W<|zE O (fun c7=>?_) (fun c7=>?_)
    ·try simp only [sx] at c7
     refine G O<|zX O (kJ [none,none,none,none,none,none,none,none,none,none,some 2,some 4,some 13] O zr44 pl44 O O)<|Y O<|N 3 sz44 O<|Y O<|W<|zJ<|fin2 (qF qZ O (J 3 O) O) (v O) ?_
     rw [mEx_e3 c1 hmi (mExs_no ha hr c7)];rfl
    ·try simp only [sx] at c7
     refine zI<|zO O<|qB O ⟨by omega,by omega⟩<|Y O<|W ?_
     refine ⟨⟨n+1,exs++[outE (mEx f a)]⟩,⟨by omega,by simp;omega,mExs_next ha hr c7⟩,(by show e.Args.length-(n+1)<e.Args.length-n;omega),Weak.mk [false,true,true,true] ⟨U,U,U,U,U,U,T⟩ (by simp only [Int.toNat_natCast];rw [mid_set (by simp;omega) ha];simp only [List.map_append,List.map_cons,List.map_nil,Ex.cells_eq (outE (mEx f a))];rfl)⟩
   ·try simp only [sx] at c6
    have hme:=mExs_end hr (by omega)
    rw [kB (l:=e.Args) (k:=n) (by omega)]
    simp only [List.map_nil,List.append_nil]
    refine zU _ (yJ 0 O (regs':=[]) (μ':=[_,_]) T ⟨EFle.row (ds:=[_,_,_,_,_,_,_,_,_,_,_,_,_]) ⟨.inl O,.inl O,.inl O,.inl O,.inl O,.inl O,.inl O,.inl O,.inl O,.inl O,.inl O,.inl O,.inr ⟨O,O⟩,T⟩,EFle.refl _,T⟩)<|qE<|G O<|zL qZ (J 0 O) O<|N 1 sz44 O<|Y O<|W<|zJ<|fin2 (qF qZ O (J 1 O) O) (v O) ?_
    rw [mEx_ok c1 hmi hme];rfl
theorem mapForms_conW (f:Lf->Lf×Int) (c:C) (P:Lf->Prop) (hf:∀l,P l->FnPur cfg c [vLin l] (.tup [vLin (f l).1,vI (f l).2])) (e:Ex) (hP:e.allF P) (he:e.cnt<=4294967296):Pur cfg 78 [vE e,.c c] (.tup [vE (outE (mEx f e)),vI (errE (mEx f e))]):=by
  induction e using Ex.ind with
  |_ e ih=>exact mapForms_step f c P hf e hP ih he
theorem expr_CopyW (e:Ex) (hl:e.allF (fun l=>l.L.length<=5864062014805)) (he:e.cnt<=4294967296):
    Pur cfg 32 [vE e] (vE e):=by
 refine zR Tryz.func32 O Tryz.ntmps32 Tryz.results32 O ?_
 intro z hz
 refine G O<|zS O O (qG O O) ?_
 rintro _ _ ⟨b1,rfl,rfl⟩
 refine zS O O (qD [none,none,none,none,none,none,none,none,none,none,some 2,some 4,some 13] O zr44 O) ?_
 rintro _ _ ⟨b2,rfl,rfl⟩
 refine W<|G O<|zL qZ (J 1 O) O<|qK O ok78 (mapForms_conW idF _ (fun l=>l.L.length<=5864062014805) (fun l hl=>FnPur.of_pur (first:=[]) (cap:=[]) ok79 (expr_Copy_1 l hl)) e hl he) ⟨U,O,U,O,T⟩<|zX O (yE O O)<|zX O (kA O O O)<|zX O (yP O O O)<|zS O O (qD [none,none,none,none,none,none,none,none,none,none,some 2,some 4,some 13] O zr44 O) ?_
 rintro _ _ ⟨b3,rfl,rfl⟩
 refine N 0 sz44 O<|Y O<|W<|G O<|zL qZ (J 0 O) O<|N 1 sz44 O<|W<|zJ<|fin1 (qF qZ O (J 1 O) O) ?_
 rw [mEx_id];rfl
theorem expr_Copy (e:Ex) (he:e.wt<=4294967296):Pur cfg 32 [vE e] (vE e):=
  expr_CopyW e (fun x hx l hl=>by have:=forms_wt (Nat.le_trans (zAo e x hx) he) hl;omega) (Nat.le_trans e.cnt_le he)
end Go.W
end
section
set_option maxRecDepth 10000
namespace Go.W
open Go Go.Eng Go.Proofs Go.L41 Go.Br
attribute [local irreducible] AWP RWP TD finQ
theorem ok32:callOk Tryz.prog 32=true:=by kernel_rfl
theorem ok65:callOk Tryz.prog 65=true:=by kernel_rfl
theorem ok91:callOk Tryz.prog 91=true:=by kernel_rfl
theorem ok113:callOk Tryz.prog 113=true:=by kernel_rfl
theorem ok114:callOk Tryz.prog 114=true:=by kernel_rfl
theorem ok160:callOk Tryz.prog 160=true:=by kernel_rfl
end Go.W
end
section
set_option maxRecDepth 10000
namespace Go.W
open Go Go.Eng Go.Proofs Go.L41 Go.Br
attribute [local irreducible] AWP RWP TD finQ
theorem wM:aggT Tryz.prog 63=some 22:=by kernel_rfl
theorem el25:elemT Tryz.prog 25=some (63,22,272):=by kernel_rfl
theorem yZ:fieldT Tryz.prog 27 3=some (3,25):=by kernel_rfl
theorem zGf:fieldT Tryz.prog 63 0=some (0,9):=by kernel_rfl
theorem ok84:callOk Tryz.prog 84=true:=by kernel_rfl
theorem ok325:callOk Tryz.prog 325=true:=by kernel_rfl
theorem ok326:callOk Tryz.prog 326=true:=by kernel_rfl
theorem wL:oneT Tryz.prog 25=true:=by kernel_rfl
theorem zBe (l:Lf) (hl:l.L.length<=5864062014805):
    Pur cfg 84 [vLin l] (vLin l):=by
 refine zR Tryz.func84 O Tryz.ntmps84 Tryz.results84 O ?_
 intro z hz
 refine G O<|zS O O (qG O O) ?_
 rintro _ _ ⟨b1,rfl,rfl⟩
 refine zS O O (qD [none,some 2] O zr40 O) ?_
 rintro _ _ ⟨b2,rfl,rfl⟩
 refine W<|zG<|qY 6 mixed (by kernel_rfl) O O<|zM O O (zF O zFn O)<|zM O O (zK O one2 O (J 1 O) O)<|zM O O (zF O kR O)<|zM O O (zK O zAm O (J 1 O) O)<|zM O O (qH O ok80 (OwnR.pur (zEe l.L hl)) ⟨U,O,T⟩)<|zM O O (kV O zr40 pl40 O)<|yT<|N 0 sz40 O<|W<|zJ<|fin1 (qF kF O (J 0 O) O) ?_
 exact O
theorem zEf (l:List Lf) (hl:l.length<=4294967296) (hx:∀x,x∈l->x.L.length<=5864062014805):
    OwnR cfg 85 [vLins l] 40 2 (l.map Lf.cells):=by
 refine zR Tryz.func85 O Tryz.ntmps85 Tryz.results85 O ?_
 intro z hz
 have hl0:=hx
 clear hx
 refine G O<|zX O (yA 2 O O)<|W<|G O<|Y O<|qV _ (yH 40 2)<|W<|zG<|G O<|Y O<|zV O el65<|Y O<|W<|zN<|zU ⟨[(8,.c _),(3,.c _),(6,.c _),(7,.c _)],[_]⟩ (Weak.mk [true] ⟨U,U,U,U,T⟩ O)<|qA 2 1 O O (Nat×Value) (fun ⟨k,sv⟩=>[(8,vI k),(3,.c (.lit sv))]) (fun ⟨k,sv⟩=>[E.vec sv 40 2 ((l.take k).map Lf.cells)]) (fun ⟨k,sv⟩=>k<=l.length) (fun ⟨k,sv⟩=>l.length-k) ⟨⟨0,(.slice none 0 0)⟩,(by omega),Weak.mk [true] ⟨U,U,U,U,T⟩ O⟩ ?_
 rintro ⟨k,sv⟩ hk
 show AWP _ _ _ _ _ ⟨[(8,vI k),(3,.c (.lit sv))]++_,[E.vec sv 40 2 ((l.take k).map Lf.cells)]++_⟩
 refine G O<|qW O<|W<|zG<|zE O (fun c1=>?_) (fun c1=>?_)
 ·try simp only [sx] at c1
  obtain ⟨x,hx⟩:=qP l k (by omega)
  refine zI<|zG<|zN<|G O<|zZ O el65 (by omega) (getm (by assumption))<|zL kF zY O<|zS O O (qD [none,some 2] O zr40 O) ?_
  rintro _ _ ⟨b2,rfl,rfl⟩
  refine N 0 sz40 O<|W<|zO O<|Y O<|zL kF (J 0 O) O<|qK O ok84 (zBe _ (hl0 _ (zW hx))) ⟨U,O,T⟩<|qX O el65 zr40<|zS O O (qO 1 O el65 O O O (by first|omega|(simp only [List.length_take,List.length_map,List.length_append,List.length_nil,List.length_cons];omega)) (by first|omega|(simp only [List.length_take,List.length_map,List.length_append,List.length_nil,List.length_cons];omega))) ?_
  rintro _ _ ⟨sv3,rfl,rfl⟩
  refine Y O<|W<|zO O<|qB O ⟨by omega,by omega⟩<|Y O<|W ?_
  refine ⟨⟨k+1,sv3⟩,(by omega),(by show l.length-(k+1)<l.length-k;omega),Weak.mk [false,true] ⟨U,U,U,U,T⟩ (by show _=[E.vec sv3 _ 2 ((l.take (k+1)).map Lf.cells)]++_;rw [qM hx,List.map_append];rfl)⟩
 ·try simp only [sx] at c1
  refine qE<|G O<|Y O<|Y O<|W<|zJ<|zP O ?_
  exact ⟨_,O,by rw [qS (by omega)];rfl⟩
theorem zKo (d:Df) (s:ByteArray):
    Pur cfg 326 [vDf d,.c (.iptr [cS s])] (vB (decide (d.Name=s))):=by
 refine zR Tryz.func326 O Tryz.ntmps326 Tryz.results326 O ?_
 intro z hz
 refine G O<|zS O O (qG O O) ?_
 rintro _ _ ⟨b1,rfl,rfl⟩
 refine Y O<|W<|G O<|zD O zGf<|zH one9 (J 0 O) O<|zH one9 zY O<|zX O (yM O O O)<|Y O<|W<|zJ<|zP O ?_
 exact O
theorem zHy (l:List Df) (c:C) (p:Df->Bool) (hl:l.length<=4294967296) (hc:∀x,x∈l->FnPur cfg c [vDf x] (vB (p x))):
    Pur cfg 325 [.c (.sl 22 (l.map Df.cells)),.c c] (vI (idxOf p l)):=by
 refine zR Tryz.func325 O Tryz.ntmps325 Tryz.results325 O ?_
 intro z hz
 refine G O<|Y O<|W<|zG<|G O<|Y O<|zV O el25<|Y O<|W<|zN<|zU ⟨[(8,.c _),(0,.c _),(1,.c _),(7,.c _)],[]⟩ (Weak.mk [] ⟨U,U,U,U,T⟩ O)<|qA 1 0 O O (Nat) (fun k=>[(8,vI k)]) (fun k=>[]) (fun k=>k<=l.length/\((l.take k).any p=false)) (fun k=>l.length-k) ⟨0,⟨by omega,O⟩,Weak.mk [] ⟨U,U,U,U,T⟩ O⟩ ?_
 rintro k ⟨hk,hp⟩
 refine G O<|qW O<|W<|zG<|zE O (fun c1=>?_) (fun c1=>?_)
 ·try simp only [sx] at c1
  obtain ⟨x,hx⟩:=qP l k (by omega)
  refine zI<|zG<|zN<|G O<|Y O<|Y O<|W<|G O<|Y O<|Y O<|Y O<|zZ O el25 (by omega) (getm (by assumption))<|zL wM zY O<|zX O (kS O O (hc _ (zW hx)) ⟨U,O,T⟩)<|W<|zE O (fun c2=>?_) (fun c2=>?_)
  ·try simp only [sx] at c2
   refine G O<|Y O<|Y O<|W<|zJ<|zP O ?_
   rw [zCx hx c2 hp]
  ·try simp only [sx] at c2
   refine zI<|zO O<|qB O ⟨by omega,by omega⟩<|Y O<|W ?_
   refine ⟨k+1,⟨by omega,zHd hx hp c2⟩,(by omega),Weak.mk [] ⟨U,U,U,U,T⟩ O⟩
 ·try simp only [sx] at c1
  refine qE<|G O<|Y O<|W<|zJ<|zP O ?_
  rw [zBm (by rw [qS (by omega)] at hp;exact hp)]
theorem zOg (p:Pg) (s:ByteArray) (hd:p.Defs.length<=4294967296):
    Pur cfg 287 [vPg p,vS s] (vI (defOf s p.Defs)):=by
 refine zR Tryz.func287 O Tryz.ntmps287 Tryz.results287 O ?_
 intro z hz
 refine G O<|zS O O (qG O O) ?_
 rintro _ _ ⟨b1,rfl,rfl⟩
 refine zS O O (qG O O) ?_
 rintro _ _ ⟨b2,rfl,rfl⟩
 refine Y O<|W<|G O<|zD O yZ<|zH wL (J 1 O) O<|zX O (zFd O O O O O)<|qV _ (yC 0 O 7 (.c (.fn _ _ [_])) (PLe.fn ⟨.inr ⟨O,O⟩,T⟩))<|qK O ok325 (zHy p.Defs _ (fun d=>decide (d.Name=s)) hd (fun x _=>FnPur.of_pur (first:=[]) (cap:=[.iptr [cS s]]) ok326 (zKo x s))) ⟨U,O,U,O,T⟩<|Y O<|W<|zJ<|zP O ?_
 exact O
theorem zIa (l:Lf) (v sz:List ByteArray) (hl:l.L.length<=5864062014805) (hv:v.length<=4294967296) (hz0:sz.length<=4294967296):
    Pur cfg 108 [vLin l,vSs v,vSs sz] (vB (knL (knB sz v) l.L)):=by
 refine zR Tryz.func108 O Tryz.ntmps108 Tryz.results108 O ?_
 intro z hz
 refine G O<|zS O O (qG O O) ?_
 rintro _ _ ⟨b1,rfl,rfl⟩
 refine Y O<|W<|zG<|G O<|Y O<|W<|zN<|zU ⟨[(7,.c _),(1,.c _),(2,.c _),(3,.c _)],[_]⟩ (Weak.mk [true] ⟨U,U,U,U,T⟩ O)<|qA 1 0 O O (Nat) (fun k=>[(7,vI k)]) (fun k=>[]) (fun k=>k<=l.L.length/\(knL (knB sz v) (l.L.take k)=true)) (fun k=>l.L.length-k) ⟨0,⟨by omega,O⟩,Weak.mk [true] ⟨U,U,U,U,T⟩ O⟩ ?_
 rintro k ⟨hk,hp⟩
 refine zG<|G O<|Y O<|zD O kR<|zH zAm (J 0 O) O<|zV O el38<|qW O<|W<|zE O (fun c1=>?_) (fun c1=>?_)
 ·try simp only [sx] at c1
  obtain ⟨x,hx⟩:=qP l.L k (by omega)
  refine zI<|zG<|zN<|G O<|Y O<|zD O kR<|zH zAm (J 0 O) O<|Y O<|zZ O el38 (by omega) (getm (by assumption))<|qN O zAk<|zH one9 zY O<|qK O ok21 (zFg v x.Name (by omega)) ⟨U,O,U,O,T⟩<|wD O<|Y O<|rL0 O (fun g4_9=>zQ O O) O<|rL0 O (fun g4_9=>zF O kR O) O<|rL1 26 O (fun g4_9=>zK O zAm O (J 0 O) O) O<|rL0 O (fun g4_9=>zQ O O) O<|rLz [(27,_),(28,_)] O gv1 ⟨O,O,O,O,T⟩ (fun g4_9=>qJ O el38 O O (by omega) (getm (by assumption))) O<|rL1 29 O (fun g4_9=>qQ O zAk O) O<|rL1 30 O (fun g4_9=>zK O one9 O zY O) O<|rLz [(25,_),(31,_)] O gv1 ⟨O,O,O,O,T⟩ (fun g4_9=>qH O ok21 (zFg sz x.Name (by omega)) ⟨U,O,U,O,T⟩) O<|rL1 32 O (fun g4_9=>wB O O) O<|kD O (fun h=>h)<|W<|zE O (fun c2=>?_) (fun c2=>?_)
  ·refine G O<|Y O<|W<|zJ<|zP O ?_
   rw [kn_no hx c2]
  ·refine zI<|zO O<|Y O<|qB O ⟨by omega,by omega⟩<|Y O<|W ?_
   refine ⟨k+1,⟨by omega,kn_next hx hp c2⟩,(by omega),Weak.mk [true] ⟨U,U,U,U,T⟩ O⟩
 ·try simp only [sx] at c1
  refine qE<|G O<|Y O<|W<|zJ<|zP O ?_
  rw [qS (by omega)] at hp;rw [hp]
end Go.W
end
