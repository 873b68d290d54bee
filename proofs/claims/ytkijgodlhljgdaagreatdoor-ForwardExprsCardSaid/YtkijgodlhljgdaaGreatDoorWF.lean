/-
  Walks: what functions of the program compute. Printed by wip/gen/mk2.py.
  Conditions: none.
-/
import Derived.Test.YtkijgodlhljgdaaGreatDoorWE
set_option linter.unusedSimpArgs false
set_option linter.unusedVariables false
set_option maxRecDepth 10000
namespace Go.W
open Go Go.Eng Go.Proofs Go.L41 Go.Br
attribute [local irreducible] AWP RWP TD finQ
theorem ok84:callOk Tryz.prog 84=true:=by kernel_rfl
theorem ok85:callOk Tryz.prog 85=true:=by kernel_rfl
theorem ok163:callOk Tryz.prog 163=true:=by kernel_rfl
theorem ok164:callOk Tryz.prog 164=true:=by kernel_rfl
theorem ok165:callOk Tryz.prog 165=true:=by kernel_rfl
theorem pl38:placesT Tryz.prog 38=some [(0,1),(1,1),(2,2),(4,5),(9,2),(11,1),(12,1)]:=by kernel_rfl
theorem sz35:(Tryz.prog.info? 35).map (·.size)=some 1:=by kernel_rfl
theorem sz36:(Tryz.prog.info? 36).map (·.size)=some 1:=by kernel_rfl
theorem sz63:(Tryz.prog.info? 63).map (·.size)=some 1:=by kernel_rfl
theorem mapForms_step (f:Lf->Lf×Int) (c:C) (P:Lf->Prop) (hf:∀l,P l->FnPur cfg c [vLin l] (.tup [vLin (f l).1,vI (f l).2])) (e:Ex) (hP:e.allF P) (ih:∀a,a∈e.Args->a.allF P->a.cnt<=4294967296->Pur cfg 84 [vE a,.c c] (.tup [vE (outE (mEx f a)),vI (errE (mEx f a))])) (he:e.cnt<=4294967296):
    Pur cfg 84 [vE e,.c c] (.tup [vE (outE (mEx f e)),vI (errE (mEx f e))]):=by
 refine zT Tryz.func84 O Tryz.ntmps84 Tryz.results84 O ?_
 intro z hz
 obtain ⟨hI,hA,hAt⟩:=e.cparts he
 refine B O<|zV O O (qI O O) ?_
 rintro _ _ ⟨b1,rfl,rfl⟩
 refine zV O O (qG [none,none,none,none,none,none,none,none,none,none,some 2,some 4,some 13] O u O) ?_
 rintro _ _ ⟨b2,rfl,rfl⟩
 refine F O<|H<|B O<|zK Q (K 1 O) O<|zV O O (qG [none,none,none,none,none,none,none,none,none,none,some 2,some 4,some 13] O u O) ?_
 rintro _ _ ⟨b3,rfl,rfl⟩
 refine N 0 D O<|H<|B O<|F O<|H<|W<|B O<|F O<|zH O zDf<|zK kQ (K 2 O) O<|zX O (wS O O (hf e.Lin (Ex.allF_lin hP)) ⟨G,O,T⟩)<|zX O (qU O O)<|zX O (yI O O O)<|zX O (yO O O O)<|zH O zDf<|N 0 sz34 O<|F O<|H<|B O<|F O<|yU O<|H<|g O (fun c1=>?_) (fun c1=>?_)
 ·try simp only [I] at c1
  refine B O<|zX O (yA [none,none,none,none,none,none,none,none,none,none,some 2,some 4,some 13] O u pl38 O O)<|F O<|N 1 D O<|F O<|H<|U<|fin2 (zR Q O (K 1 O) O) (o O) ?_
  rw [mEx_e1 c1];rfl
 ·try simp only [I] at c1
  refine zJ<|B O<|zH O kF<|zL wQ (K 2 O) O<|zV O O (zCd O ok163 (zMq e.Idx hI) ⟨G,O,T⟩) ?_
  rintro _ _ ⟨sv4,rfl,rfl⟩
  refine zH O kF<|N 1 sz35 O<|H<|W<|B O<|zH O kF<|zL wQ (K 3 O) O<|zZ O s<|F O<|H<|zP<|zW ⟨[(34,.c _),(1,.c _),(2,.c _),(4,.c _),(6,.c _),(32,.c _),(33,.c _)],[_,_,_,_]⟩ (Weak.mk [true,true,true,true] ⟨G,G,G,G,G,G,G,T⟩ O)<|qJ 1 1 O O (Nat×List Ix) (fun ⟨k,outs⟩=>[(34,vI k)]) (fun ⟨k,outs⟩=>[E.vec sv4 67 4 (outs.map Ix.cells++(e.Idx.drop k).map Ix.cells)]) (fun ⟨k,outs⟩=>k<=e.Idx.length/\(outs.length=k)/\(mIxs f e.Idx=mapRest outs (mIxs f (e.Idx.drop k)))) (fun ⟨k,outs⟩=>e.Idx.length-k) ⟨⟨0,[]⟩,⟨by omega,O,(zHv _).symm⟩,Weak.mk [true,true,true,true] ⟨G,G,G,G,G,G,G,T⟩ O⟩ ?_
  rintro ⟨k,outs⟩ ⟨hk,ho,hp⟩
  show AWP _ _ _ _ _ ⟨[(34,vI k)]++_,[E.vec sv4 67 4 (outs.map Ix.cells++(e.Idx.drop k).map Ix.cells)]++_⟩
  refine B O<|yD O<|H<|W<|g O (fun c2=>?_) (fun c2=>?_)
  ·try simp only [I] at c2
   obtain ⟨x,hx⟩:=qQ e.Idx k (by omega)
   have hxw:=hAt x (qD hx)
   refine zJ<|W<|zP<|B O<|F O<|qH O s (by omega) (X (by assumption))<|zK zJn qB O<|zV O O (qG [none,some 2,none,some 2] O zr67 O) ?_
   rintro _ _ ⟨b5,rfl,rfl⟩
   refine F O<|N 0 sz67 O<|H<|W<|W<|zKu 12 [false,false,false,false,false,false,false,false,false,true,false,false] Mall mixed (by kernel_rfl) O O O<|kH O O (zE O kF O)<|kH O O (zG O wQ O (K 2 O) O)<|kH O O (zQ O O)<|kH O O (zQ O O)<|kH O O (zE O zDd O)<|kH O O (zM O kQ O (K 0 O) O)<|kH O O (wS O O (hf x.Lin (Ex.allF_ix hP (qD hx))) ⟨G,O,T⟩)<|kH O O (qU O O)<|kH O O (yI O O O)<|td2_detA O O (fun _=>yO O O O)<|kH O O (qV 1 O s O O O (by omega) (mid_len (by simp;omega) (by omega)))<|kH O O (zEv O zDd O)<|td2_nil ?_
   refine ⟨_,kX O sz34 O O O (st_vec 1 O (mid_get (by simp;omega) hx) O),fun _ _ _=>T,?_⟩
   rintro _ _ ⟨rfl,rfl⟩
   refine F O<|H<|B O<|F O<|yU O<|H<|g O (fun c3=>?_) (fun c3=>?_)
   ·try simp only [I] at c3
    refine B O<|zX O (yA [none,none,none,none,none,none,none,none,none,none,some 2,some 4,some 13] O u pl38 O O)<|F O<|N 3 D O<|F O<|H<|U<|fin2 (zR Q O (K 3 O) O) (o O) ?_
    rw [mEx_e2 c1 (mIxs_no hx hp (mIx_e1 c3))];rfl
   ·try simp only [I] at c3
    refine zJ<|W<|awp_draw_f 8 [.q,.q,.q,.q,.q,.f,.q,.q] Mall mixed (by kernel_rfl) O O O<|kG O O (zE O kF O)<|kG O O (zG O wQ O (K 2 O) O)<|kG O O (zQ O O)<|kG O O (zE O zAk O)<|kG O O (zG O zBf O (K 0 O) O)<|zLs<|kG O O (qV 1 O s O O O (by omega) (by simp;omega))<|kG O O (zEv O zAk O)<|tdq_nil<|zAs<|zAs<|zAs<|zAs<|zAs<|zIi (fresh_own (zCd O ok164 (zLl x.At (by omega)) ⟨G,O,T⟩))<|zAs<|zAs<|tdf_nil<|zGx ?_
    rintro _ _ ⟨sv6,rfl,rfl⟩
    refine zJl ?_
    refine ⟨_,kX O sz63 O O O (st_vec 2 O (set_get (by simp;omega)) O),(fun _ _ _=>T),?_⟩
    rintro _ _ ⟨rfl,rfl⟩
    refine H<|B O<|zH O zAk<|zL zBf (K 1 O) O<|zZ O t<|F O<|H<|zP<|zW ⟨[(66,.c _),(1,.c _),(2,.c _),(4,.c _),(6,.c _),(8,.c _),(32,.c _),(33,.c _),(34,.c _),(64,.c _),(65,.c _)],[_,_,_,_,_]⟩ (Weak.mk [true,false,true,true,true,true] ⟨G,G,G,G,G,G,G,G,G,G,G,T⟩ O)<|qJ 1 1 O O (Nat×List Lf) (fun ⟨j,lins⟩=>[(66,vI j)]) (fun ⟨j,lins⟩=>[E.vec sv6 34 2 (lins.map Lf.cells++(x.At.drop j).map Lf.cells)]) (fun ⟨j,lins⟩=>j<=x.At.length/\(lins.length=j)/\(mLins f x.At=mapRest lins (mLins f (x.At.drop j)))) (fun ⟨j,lins⟩=>x.At.length-j) ⟨⟨0,[]⟩,⟨by omega,O,(zHv _).symm⟩,Weak.mk [true,true,true,true,true] ⟨G,G,G,G,G,G,G,G,G,G,G,T⟩ O⟩ ?_
    rintro ⟨j,lins⟩ ⟨hj,hlo,hq⟩
    show AWP _ _ _ _ _ ⟨[(66,vI j)]++_,[E.vec sv6 34 2 (lins.map Lf.cells++(x.At.drop j).map Lf.cells)]++_⟩
    refine B O<|yD O<|H<|W<|g O (fun c4=>?_) (fun c4=>?_)
    ·try simp only [I] at c4
     obtain ⟨l,hl⟩:=qQ x.At j (by omega)
     have hlw:=hAt x (qD hx)
     refine zJ<|W<|zP<|B O<|F O<|qH O t (by omega) (X (by assumption))<|zK kQ qB O<|zV O O (qG [none,some 2] O zr34 O) ?_
     rintro _ _ ⟨b7,rfl,rfl⟩
     refine F O<|N 0 sz34 O<|H<|W<|zKu 14 [false,false,false,false,false,false,false,false,false,false,false,false,true,false] Mall mixed (by kernel_rfl) O O O<|kH O O (zE O kF O)<|kH O O (zG O wQ O (K 3 O) O)<|kH O O (zQ O O)<|kH O O (qV 2 O s O O O (by omega) (by simp;omega))<|kH O O (zEv O zAk O)<|kH O O (zG O zBf O (wU 2 O (set_get (by simp;omega))) O)<|kH O O (zQ O O)<|kH O O (zQ O O)<|kH O O (zM O kQ O (K 0 O) O)<|kH O O (wS O O (hf l (Ex.allF_at hP (qD hx) (qD hl))) ⟨G,O,T⟩)<|kH O O (qU O O)<|kH O O (yI O O O)<|td2_detA O O (fun _=>yO O O O)<|kH O O (qV 1 O t O O O (by omega) (mid_len (by simp;omega) (by omega)))<|td2_nil ?_
     refine ⟨_,kX O sz34 O O O (st_vec 1 O (mid_get (by simp;omega) hl) O),fun _ _ _=>T,?_⟩
     rintro _ _ ⟨rfl,rfl⟩
     refine F O<|H<|B O<|F O<|yU O<|H<|g O (fun c5=>?_) (fun c5=>?_)
     ·try simp only [I] at c5
      refine B O<|zX O (yA [none,none,none,none,none,none,none,none,none,none,some 2,some 4,some 13] O u pl38 O O)<|F O<|N 4 D O<|F O<|H<|U<|fin2 (zR Q O (K 4 O) O) (o O) ?_
      rw [mEx_e2 c1 (mIxs_no hx hp (mIx_e2 c3 (mLins_no hl hq c5)))];rfl
     ·try simp only [I] at c5
      refine zJ<|zU O<|qL O ⟨by omega,by omega⟩<|F O<|H ?_
      refine ⟨⟨j+1,lins++[(f l).1]⟩,⟨by omega,by simp;omega,mLins_next hl hq c5⟩,(by show x.At.length-(j+1)<x.At.length-j;omega),Weak.mk [false,true,true,true,true,true] ⟨G,G,G,G,G,G,G,G,G,G,G,T⟩ (by simp only [Int.toNat_natCast];rw [mid_set (by simp;omega) hl];simp only [List.map_append,List.map_cons,List.map_nil];rfl)⟩
    ·try simp only [I] at c4
     have hml:=mLins_end hq (by omega)
     rw [kC (l:=x.At) (k:=j) (by omega)]
     simp only [List.map_nil,List.append_nil]
     refine zW _ (kJ 0 O (regs':=[]) (μ':=[_,_,_,_]) T ⟨EFle.vec (r':=[_,_,_,_]) (set_get (by simp;omega)) ⟨.inl O,.inl O,.inl O,.inr ⟨O,O⟩,T⟩,EFle.refl _,EFle.refl _,EFle.refl _,T⟩)<|qN<|zU O<|qL O ⟨by omega,by omega⟩<|F O<|H ?_
     refine ⟨⟨k+1,outs++[⟨(f x.Lin).1,x.From,lins⟩]⟩,⟨by omega,by simp;omega,mIxs_next hx hp (mIx_ok c3 hml)⟩,(by show e.Idx.length-(k+1)<e.Idx.length-k;omega),Weak.mk [true,true,true,true] ⟨G,G,G,G,G,G,G,T⟩ (by simp only [Int.toNat_natCast,List.set_set];rw [mid_set (by simp;omega) hx];simp only [List.map_append,List.map_cons,List.map_nil];rfl)⟩
  ·try simp only [I] at c2
   have hmi:=mIxs_end hp (by omega)
   rw [kC (l:=e.Idx) (k:=k) (by omega)]
   simp only [List.map_nil,List.append_nil]
   refine zW _ (kJ 0 O (regs':=[]) (μ':=[_,_,_]) T ⟨EFle.row (ds:=[_,_,_,_,_,_,_,_,_,_,_,_,_]) ⟨.inl O,.inl O,.inl O,.inl O,.inl O,.inl O,.inl O,.inl O,.inl O,.inl O,.inl O,.inr ⟨O,O⟩,.inl O,T⟩,EFle.refl _,EFle.refl _,T⟩)<|qN<|B O<|zH O kA<|zL wA (K 2 O) O<|zV O O (zCd O ok165 (zMr e.Args hA) ⟨G,O,T⟩) ?_
   rintro _ _ ⟨sv8,rfl,rfl⟩
   refine zH O kA<|N 1 sz36 O<|H<|W<|B O<|zH O kA<|zL wA (K 3 O) O<|zZ O A<|F O<|H<|zP<|zW ⟨[(98,.c _),(1,.c _),(4,.c _),(6,.c _),(96,.c _),(97,.c _)],[_,_,_]⟩ (Weak.mk [true,true,true,false] ⟨G,G,G,G,G,G,T⟩ O)<|qJ 1 1 O O (Nat×List Ex) (fun ⟨n,exs⟩=>[(98,vI n)]) (fun ⟨n,exs⟩=>[E.vec sv8 38 13 (exs.map Ex.cells++(e.Args.drop n).map Ex.cells)]) (fun ⟨n,exs⟩=>n<=e.Args.length/\(exs.length=n)/\(mExs f e.Args=mapRest exs (mExs f (e.Args.drop n)))) (fun ⟨n,exs⟩=>e.Args.length-n) ⟨⟨0,[]⟩,⟨by omega,O,(zHv _).symm⟩,Weak.mk [true,true,true] ⟨G,G,G,G,G,G,T⟩ O⟩ ?_
   rintro ⟨n,exs⟩ ⟨hn,hno,hr⟩
   show AWP _ _ _ _ _ ⟨[(98,vI n)]++_,[E.vec sv8 38 13 (exs.map Ex.cells++(e.Args.drop n).map Ex.cells)]++_⟩
   refine B O<|yD O<|H<|W<|g O (fun c6=>?_) (fun c6=>?_)
   ·try simp only [I] at c6
    obtain ⟨a,ha⟩:=qQ e.Args n (by omega)
    refine zJ<|W<|zP<|B O<|F O<|qH O A (by omega) (yR (by assumption))<|zK Q qB O<|zV O O (qG [none,none,none,none,none,none,none,none,none,none,some 2,some 4,some 13] O u O) ?_
    rintro _ _ ⟨b9,rfl,rfl⟩
    refine F O<|N 0 D O<|H<|W<|zKu 10 [false,false,false,false,false,false,false,false,true,false] Mall mixed (by kernel_rfl) O O O<|kH O O (zE O kA O)<|kH O O (zG O wA O (K 2 O) O)<|kH O O (zQ O O)<|kH O O (zM O Q O (K 0 O) O)<|kH O O (zQ O O)<|kH O O (qF O ok84 (ih a (qD ha) (Ex.allF_arg hP (qD ha)) (by have:=Ex.arg_cnt (qD ha);omega)) ⟨G,O,G,O,T⟩)<|kH O O (qU O O)<|kH O O (yI O O O)<|td2_detA O O (fun _=>yO O O O)<|kH O O (qV 1 O A O O O (by omega) (mid_len (by simp;omega) (by omega)))<|td2_nil ?_
    refine ⟨_,kX O D O O O (st_vec 1 O (mid_getE (by simp;omega) ha) O),fun _ _ _=>T,?_⟩
    rintro _ _ ⟨rfl,rfl⟩
    refine F O<|H<|B O<|F O<|yU O<|H<|g O (fun c7=>?_) (fun c7=>?_)
    ·try simp only [I] at c7
     refine B O<|zX O (yA [none,none,none,none,none,none,none,none,none,none,some 2,some 4,some 13] O u pl38 O O)<|F O<|N 3 D O<|F O<|H<|U<|fin2 (zR Q O (K 3 O) O) (o O) ?_
     rw [mEx_e3 c1 hmi (mExs_no ha hr c7)];rfl
    ·try simp only [I] at c7
     refine zJ<|zU O<|qL O ⟨by omega,by omega⟩<|F O<|H ?_
     refine ⟨⟨n+1,exs++[outE (mEx f a)]⟩,⟨by omega,by simp;omega,mExs_next ha hr c7⟩,(by show e.Args.length-(n+1)<e.Args.length-n;omega),Weak.mk [false,true,true,true] ⟨G,G,G,G,G,G,T⟩ (by simp only [Int.toNat_natCast];rw [mid_set (by simp;omega) ha];simp only [List.map_append,List.map_cons,List.map_nil,Ex.cells_eq (outE (mEx f a))];rfl)⟩
   ·try simp only [I] at c6
    have hme:=mExs_end hr (by omega)
    rw [kC (l:=e.Args) (k:=n) (by omega)]
    simp only [List.map_nil,List.append_nil]
    refine zW _ (kJ 0 O (regs':=[]) (μ':=[_,_]) T ⟨EFle.row (ds:=[_,_,_,_,_,_,_,_,_,_,_,_,_]) ⟨.inl O,.inl O,.inl O,.inl O,.inl O,.inl O,.inl O,.inl O,.inl O,.inl O,.inl O,.inl O,.inr ⟨O,O⟩,T⟩,EFle.refl _,T⟩)<|qN<|B O<|zK Q (K 0 O) O<|N 1 D O<|F O<|H<|U<|fin2 (zR Q O (K 1 O) O) (o O) ?_
    rw [mEx_ok c1 hmi hme];rfl
theorem mapForms_conW (f:Lf->Lf×Int) (c:C) (P:Lf->Prop) (hf:∀l,P l->FnPur cfg c [vLin l] (.tup [vLin (f l).1,vI (f l).2])) (e:Ex) (hP:e.allF P) (he:e.cnt<=4294967296):Pur cfg 84 [vE e,.c c] (.tup [vE (outE (mEx f e)),vI (errE (mEx f e))]):=by
  induction e using Ex.ind with
  |_ e ih=>exact mapForms_step f c P hf e hP ih he
theorem zKo (e:Ex) (hl:e.allF (fun l=>l.L.length<=5864062014805)) (he:e.cnt<=4294967296):
    Pur cfg 32 [vE e] (vE e):=by
 refine zT Tryz.func32 O Tryz.ntmps32 Tryz.results32 O ?_
 intro z hz
 refine B O<|zV O O (qI O O) ?_
 rintro _ _ ⟨b1,rfl,rfl⟩
 refine zV O O (qG [none,none,none,none,none,none,none,none,none,none,some 2,some 4,some 13] O u O) ?_
 rintro _ _ ⟨b2,rfl,rfl⟩
 refine H<|B O<|zK Q (K 1 O) O<|qK O ok84 (mapForms_conW idF _ (fun l=>l.L.length<=5864062014805) (fun l hl=>FnPur.of_pur (first:=[]) (cap:=[]) ok85 (expr_Copy_1 l hl)) e hl he) ⟨G,O,G,O,T⟩<|zX O (qU O O)<|zX O (yI O O O)<|zX O (yO O O O)<|zV O O (qG [none,none,none,none,none,none,none,none,none,none,some 2,some 4,some 13] O u O) ?_
 rintro _ _ ⟨b3,rfl,rfl⟩
 refine N 0 D O<|F O<|H<|B O<|zK Q (K 0 O) O<|N 1 D O<|H<|U<|j (zR Q O (K 1 O) O) ?_
 rw [mEx_id];rfl
theorem expr_Copy (e:Ex) (he:e.wt<=4294967296):Pur cfg 32 [vE e] (vE e):=
  zKo e (fun x hx l hl=>by have:=forms_wt (Nat.le_trans (zCy e x hx) he) hl;omega) (Nat.le_trans e.cnt_le he)
end Go.W
