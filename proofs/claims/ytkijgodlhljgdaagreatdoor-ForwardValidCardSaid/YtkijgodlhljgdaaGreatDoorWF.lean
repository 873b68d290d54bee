/-
  Walks: what functions of the program compute. Printed by wip/gen/mk2.py.
  Conditions: none.
-/
import Derived.Test.YtkijgodlhljgdaaGreatDoorWE
set_option linter.unusedSimpArgs false
set_option linter.unusedVariables false
set_option maxRecDepth 10000
namespace Go.W
open Go Go.Eng Go.Proofs Go.L41 Go.Br
attribute [local irreducible] AWP RWP TD finQ
theorem ok84:callOk Tryz.prog 84=true:=by kernel_rfl
theorem ok85:callOk Tryz.prog 85=true:=by kernel_rfl
theorem ok163:callOk Tryz.prog 163=true:=by kernel_rfl
theorem ok164:callOk Tryz.prog 164=true:=by kernel_rfl
theorem ok165:callOk Tryz.prog 165=true:=by kernel_rfl
theorem pl38:placesT Tryz.prog 38=some [(0,1),(1,1),(2,2),(4,5),(9,2),(11,1),(12,1)]:=by kernel_rfl
theorem sz35:(Tryz.prog.info? 35).map (·.size)=some 1:=by kernel_rfl
theorem sz36:(Tryz.prog.info? 36).map (·.size)=some 1:=by kernel_rfl
theorem sz63:(Tryz.prog.info? 63).map (·.size)=some 1:=by kernel_rfl
theorem mapForms_step (f:Lf->Lf×Int) (c:C) (P:Lf->Prop) (hf:∀l,P l->FnPur cfg c [vLin l] (.tup [vLin (f l).1,vI (f l).2])) (e:Ex) (hP:e.allF P) (ih:∀a,a∈e.Args->a.allF P->a.cnt<=4294967296->Pur cfg 84 [vE a,.c c] (.tup [vE (outE (mEx f a)),vI (errE (mEx f a))])) (he:e.cnt<=4294967296):
    Pur cfg 84 [vE e,.c c] (.tup [vE (outE (mEx f e)),vI (errE (mEx f e))]):=by
 refine zT Tryz.func84 O Tryz.ntmps84 Tryz.results84 O ?_
 intro z hz
 obtain ⟨hI,hA,hAt⟩:=e.cparts he
 refine B O<|zZ O O (qI O O) ?_
 rintro _ _ ⟨b1,rfl,rfl⟩
 refine zZ O O (qH [none,none,none,none,none,none,none,none,none,none,some 2,some 4,some 13] O zr38 O) ?_
 rintro _ _ ⟨b2,rfl,rfl⟩
 refine G O<|U<|B O<|zL qN (J 1 O) O<|zZ O O (qH [none,none,none,none,none,none,none,none,none,none,some 2,some 4,some 13] O zr38 O) ?_
 rintro _ _ ⟨b3,rfl,rfl⟩
 refine N 0 sz38 O<|U<|B O<|G O<|U<|zI<|B O<|G O<|zG O zDw<|zL kK (J 2 O) O<|zX O (wO O O (hf e.Lin (Ex.allF_lin hP)) ⟨Y,O,T⟩)<|zX O (qV O O)<|zX O (yJ O O O)<|zX O (yI O O O)<|zG O zDw<|N 0 sz34 O<|G O<|U<|B O<|G O<|yN O<|U<|zE O (fun c1=>?_) (fun c1=>?_)
 ·try simp only [W] at c1
  refine B O<|zX O (yK [none,none,none,none,none,none,none,none,none,none,some 2,some 4,some 13] O zr38 pl38 O O)<|G O<|N 1 sz38 O<|G O<|U<|zH<|fin2 (zV qN O (J 1 O) O) (v O) ?_
  rw [mEx_e1 c1];rfl
 ·try simp only [W] at c1
  refine zJ<|B O<|zG O kL<|zK zAd (J 2 O) O<|zZ O O (zCj O ok163 (zMk e.Idx hI) ⟨Y,O,T⟩) ?_
  rintro _ _ ⟨sv4,rfl,rfl⟩
  refine zG O kL<|N 1 sz35 O<|U<|zI<|B O<|zG O kL<|zK zAd (J 3 O) O<|zY O el35<|G O<|U<|zP<|zU ⟨[(34,.c _),(1,.c _),(2,.c _),(4,.c _),(6,.c _),(32,.c _),(33,.c _)],[_,_,_,_]⟩ (Weak.mk [true,true,true,true] ⟨Y,Y,Y,Y,Y,Y,Y,T⟩ O)<|qF 1 1 O O (Nat×List Ix) (fun ⟨k,outs⟩=>[(34,vI k)]) (fun ⟨k,outs⟩=>[E.vec sv4 67 4 (outs.map Ix.cells++(e.Idx.drop k).map Ix.cells)]) (fun ⟨k,outs⟩=>k<=e.Idx.length/\(outs.length=k)/\(mIxs f e.Idx=mapRest outs (mIxs f (e.Idx.drop k)))) (fun ⟨k,outs⟩=>e.Idx.length-k) ⟨⟨0,[]⟩,⟨by omega,O,(zHl _).symm⟩,Weak.mk [true,true,true,true] ⟨Y,Y,Y,Y,Y,Y,Y,T⟩ O⟩ ?_
  rintro ⟨k,outs⟩ ⟨hk,ho,hp⟩
  show AWP _ _ _ _ _ ⟨[(34,vI k)]++_,[E.vec sv4 67 4 (outs.map Ix.cells++(e.Idx.drop k).map Ix.cells)]++_⟩
  refine B O<|yA O<|U<|zI<|zE O (fun c2=>?_) (fun c2=>?_)
  ·try simp only [W] at c2
   obtain ⟨x,hx⟩:=qQ e.Idx k (by omega)
   have hxw:=hAt x (qD hx)
   refine zJ<|zI<|zP<|B O<|G O<|qE O el35 (by omega) (getm (by assumption))<|zL zJe qB O<|zZ O O (qH [none,some 2,none,some 2] O zr67 O) ?_
   rintro _ _ ⟨b5,rfl,rfl⟩
   refine G O<|N 0 sz67 O<|U<|zI<|zI<|zKl 12 [false,false,false,false,false,false,false,false,false,true,false,false] Mall mixed (by kernel_rfl) O O O<|kG O O (zD O kL O)<|kG O O (zF O zAd O (J 2 O) O)<|kG O O (zR O O)<|kG O O (zR O O)<|kG O O (zD O zDv O)<|kG O O (zN O kK O (J 0 O) O)<|kG O O (wO O O (hf x.Lin (Ex.allF_ix hP (qD hx))) ⟨Y,O,T⟩)<|kG O O (qV O O)<|kG O O (yJ O O O)<|td2_detA O O (fun _=>yI O O O)<|kG O O (qW 1 O el35 O O O (by omega) (mid_len (by simp;omega) (by omega)))<|kG O O (zEw O zDv O)<|td2_nil ?_
   refine ⟨_,kW O sz34 O O O (st_vec 1 O (mid_get (by simp;omega) hx) O),fun _ _ _=>T,?_⟩
   rintro _ _ ⟨rfl,rfl⟩
   refine G O<|U<|B O<|G O<|yN O<|U<|zE O (fun c3=>?_) (fun c3=>?_)
   ·try simp only [W] at c3
    refine B O<|zX O (yK [none,none,none,none,none,none,none,none,none,none,some 2,some 4,some 13] O zr38 pl38 O O)<|G O<|N 3 sz38 O<|G O<|U<|zH<|fin2 (zV qN O (J 3 O) O) (v O) ?_
    rw [mEx_e2 c1 (mIxs_no hx hp (mIx_e1 c3))];rfl
   ·try simp only [W] at c3
    refine zJ<|zI<|awp_draw_f 8 [.q,.q,.q,.q,.q,.f,.q,.q] Mall mixed (by kernel_rfl) O O O<|kF O O (zD O kL O)<|kF O O (zF O zAd O (J 2 O) O)<|kF O O (zR O O)<|kF O O (zD O zAu O)<|kF O O (zF O zBa O (J 0 O) O)<|zLi<|kF O O (qW 1 O el35 O O O (by omega) (by simp;omega))<|kF O O (zEw O zAu O)<|tdq_nil<|zAx<|zAx<|zAx<|zAx<|zAx<|zHy (fresh_own (zCj O ok164 (zLa x.At (by omega)) ⟨Y,O,T⟩))<|zAx<|zAx<|tdf_nil<|zGr ?_
    rintro _ _ ⟨sv6,rfl,rfl⟩
    refine zJc ?_
    refine ⟨_,kW O sz63 O O O (st_vec 2 O (set_get (by simp;omega)) O),(fun _ _ _=>T),?_⟩
    rintro _ _ ⟨rfl,rfl⟩
    refine U<|B O<|zG O zAu<|zK zBa (J 1 O) O<|zY O el63<|G O<|U<|zP<|zU ⟨[(66,.c _),(1,.c _),(2,.c _),(4,.c _),(6,.c _),(8,.c _),(32,.c _),(33,.c _),(34,.c _),(64,.c _),(65,.c _)],[_,_,_,_,_]⟩ (Weak.mk [true,false,true,true,true,true] ⟨Y,Y,Y,Y,Y,Y,Y,Y,Y,Y,Y,T⟩ O)<|qF 1 1 O O (Nat×List Lf) (fun ⟨j,lins⟩=>[(66,vI j)]) (fun ⟨j,lins⟩=>[E.vec sv6 34 2 (lins.map Lf.cells++(x.At.drop j).map Lf.cells)]) (fun ⟨j,lins⟩=>j<=x.At.length/\(lins.length=j)/\(mLins f x.At=mapRest lins (mLins f (x.At.drop j)))) (fun ⟨j,lins⟩=>x.At.length-j) ⟨⟨0,[]⟩,⟨by omega,O,(zHl _).symm⟩,Weak.mk [true,true,true,true,true] ⟨Y,Y,Y,Y,Y,Y,Y,Y,Y,Y,Y,T⟩ O⟩ ?_
    rintro ⟨j,lins⟩ ⟨hj,hlo,hq⟩
    show AWP _ _ _ _ _ ⟨[(66,vI j)]++_,[E.vec sv6 34 2 (lins.map Lf.cells++(x.At.drop j).map Lf.cells)]++_⟩
    refine B O<|yA O<|U<|zI<|zE O (fun c4=>?_) (fun c4=>?_)
    ·try simp only [W] at c4
     obtain ⟨l,hl⟩:=qQ x.At j (by omega)
     have hlw:=hAt x (qD hx)
     refine zJ<|zI<|zP<|B O<|G O<|qE O el63 (by omega) (getm (by assumption))<|zL kK qB O<|zZ O O (qH [none,some 2] O zr34 O) ?_
     rintro _ _ ⟨b7,rfl,rfl⟩
     refine G O<|N 0 sz34 O<|U<|zI<|zKl 14 [false,false,false,false,false,false,false,false,false,false,false,false,true,false] Mall mixed (by kernel_rfl) O O O<|kG O O (zD O kL O)<|kG O O (zF O zAd O (J 3 O) O)<|kG O O (zR O O)<|kG O O (qW 2 O el35 O O O (by omega) (by simp;omega))<|kG O O (zEw O zAu O)<|kG O O (zF O zBa O (wQ 2 O (set_get (by simp;omega))) O)<|kG O O (zR O O)<|kG O O (zR O O)<|kG O O (zN O kK O (J 0 O) O)<|kG O O (wO O O (hf l (Ex.allF_at hP (qD hx) (qD hl))) ⟨Y,O,T⟩)<|kG O O (qV O O)<|kG O O (yJ O O O)<|td2_detA O O (fun _=>yI O O O)<|kG O O (qW 1 O el63 O O O (by omega) (mid_len (by simp;omega) (by omega)))<|td2_nil ?_
     refine ⟨_,kW O sz34 O O O (st_vec 1 O (mid_get (by simp;omega) hl) O),fun _ _ _=>T,?_⟩
     rintro _ _ ⟨rfl,rfl⟩
     refine G O<|U<|B O<|G O<|yN O<|U<|zE O (fun c5=>?_) (fun c5=>?_)
     ·try simp only [W] at c5
      refine B O<|zX O (yK [none,none,none,none,none,none,none,none,none,none,some 2,some 4,some 13] O zr38 pl38 O O)<|G O<|N 4 sz38 O<|G O<|U<|zH<|fin2 (zV qN O (J 4 O) O) (v O) ?_
      rw [mEx_e2 c1 (mIxs_no hx hp (mIx_e2 c3 (mLins_no hl hq c5)))];rfl
     ·try simp only [W] at c5
      refine zJ<|zS O<|qJ O ⟨by omega,by omega⟩<|G O<|U ?_
      refine ⟨⟨j+1,lins++[(f l).1]⟩,⟨by omega,by simp;omega,mLins_next hl hq c5⟩,(by show x.At.length-(j+1)<x.At.length-j;omega),Weak.mk [false,true,true,true,true,true] ⟨Y,Y,Y,Y,Y,Y,Y,Y,Y,Y,Y,T⟩ (by simp only [Int.toNat_natCast];rw [mid_set (by simp;omega) hl];simp only [List.map_append,List.map_cons,List.map_nil];rfl)⟩
    ·try simp only [W] at c4
     have hml:=mLins_end hq (by omega)
     rw [kB (l:=x.At) (k:=j) (by omega)]
     simp only [List.map_nil,List.append_nil]
     refine zU _ (kJ 0 O (regs':=[]) (μ':=[_,_,_,_]) T ⟨EFle.vec (r':=[_,_,_,_]) (set_get (by simp;omega)) ⟨.inl O,.inl O,.inl O,.inr ⟨O,O⟩,T⟩,EFle.refl _,EFle.refl _,EFle.refl _,T⟩)<|qO<|zS O<|qJ O ⟨by omega,by omega⟩<|G O<|U ?_
     refine ⟨⟨k+1,outs++[⟨(f x.Lin).1,x.From,lins⟩]⟩,⟨by omega,by simp;omega,mIxs_next hx hp (mIx_ok c3 hml)⟩,(by show e.Idx.length-(k+1)<e.Idx.length-k;omega),Weak.mk [true,true,true,true] ⟨Y,Y,Y,Y,Y,Y,Y,T⟩ (by simp only [Int.toNat_natCast,List.set_set];rw [mid_set (by simp;omega) hx];simp only [List.map_append,List.map_cons,List.map_nil];rfl)⟩
  ·try simp only [W] at c2
   have hmi:=mIxs_end hp (by omega)
   rw [kB (l:=e.Idx) (k:=k) (by omega)]
   simp only [List.map_nil,List.append_nil]
   refine zU _ (kJ 0 O (regs':=[]) (μ':=[_,_,_]) T ⟨EFle.row (ds:=[_,_,_,_,_,_,_,_,_,_,_,_,_]) ⟨.inl O,.inl O,.inl O,.inl O,.inl O,.inl O,.inl O,.inl O,.inl O,.inl O,.inl O,.inr ⟨O,O⟩,.inl O,T⟩,EFle.refl _,EFle.refl _,T⟩)<|qO<|B O<|zG O kZ<|zK zAy (J 2 O) O<|zZ O O (zCj O ok165 (zMl e.Args hA) ⟨Y,O,T⟩) ?_
   rintro _ _ ⟨sv8,rfl,rfl⟩
   refine zG O kZ<|N 1 sz36 O<|U<|zI<|B O<|zG O kZ<|zK zAy (J 3 O) O<|zY O D<|G O<|U<|zP<|zU ⟨[(98,.c _),(1,.c _),(4,.c _),(6,.c _),(96,.c _),(97,.c _)],[_,_,_]⟩ (Weak.mk [true,true,true,false] ⟨Y,Y,Y,Y,Y,Y,T⟩ O)<|qF 1 1 O O (Nat×List Ex) (fun ⟨n,exs⟩=>[(98,vI n)]) (fun ⟨n,exs⟩=>[E.vec sv8 38 13 (exs.map Ex.cells++(e.Args.drop n).map Ex.cells)]) (fun ⟨n,exs⟩=>n<=e.Args.length/\(exs.length=n)/\(mExs f e.Args=mapRest exs (mExs f (e.Args.drop n)))) (fun ⟨n,exs⟩=>e.Args.length-n) ⟨⟨0,[]⟩,⟨by omega,O,(zHl _).symm⟩,Weak.mk [true,true,true] ⟨Y,Y,Y,Y,Y,Y,T⟩ O⟩ ?_
   rintro ⟨n,exs⟩ ⟨hn,hno,hr⟩
   show AWP _ _ _ _ _ ⟨[(98,vI n)]++_,[E.vec sv8 38 13 (exs.map Ex.cells++(e.Args.drop n).map Ex.cells)]++_⟩
   refine B O<|yA O<|U<|zI<|zE O (fun c6=>?_) (fun c6=>?_)
   ·try simp only [W] at c6
    obtain ⟨a,ha⟩:=qQ e.Args n (by omega)
    refine zJ<|zI<|zP<|B O<|G O<|qE O D (by omega) (yZ (by assumption))<|zL qN qB O<|zZ O O (qH [none,none,none,none,none,none,none,none,none,none,some 2,some 4,some 13] O zr38 O) ?_
    rintro _ _ ⟨b9,rfl,rfl⟩
    refine G O<|N 0 sz38 O<|U<|zI<|zKl 10 [false,false,false,false,false,false,false,false,true,false] Mall mixed (by kernel_rfl) O O O<|kG O O (zD O kZ O)<|kG O O (zF O zAy O (J 2 O) O)<|kG O O (zR O O)<|kG O O (zN O qN O (J 0 O) O)<|kG O O (zR O O)<|kG O O (qG O ok84 (ih a (qD ha) (Ex.allF_arg hP (qD ha)) (by have:=Ex.arg_cnt (qD ha);omega)) ⟨Y,O,Y,O,T⟩)<|kG O O (qV O O)<|kG O O (yJ O O O)<|td2_detA O O (fun _=>yI O O O)<|kG O O (qW 1 O D O O O (by omega) (mid_len (by simp;omega) (by omega)))<|td2_nil ?_
    refine ⟨_,kW O sz38 O O O (st_vec 1 O (mid_getE (by simp;omega) ha) O),fun _ _ _=>T,?_⟩
    rintro _ _ ⟨rfl,rfl⟩
    refine G O<|U<|B O<|G O<|yN O<|U<|zE O (fun c7=>?_) (fun c7=>?_)
    ·try simp only [W] at c7
     refine B O<|zX O (yK [none,none,none,none,none,none,none,none,none,none,some 2,some 4,some 13] O zr38 pl38 O O)<|G O<|N 3 sz38 O<|G O<|U<|zH<|fin2 (zV qN O (J 3 O) O) (v O) ?_
     rw [mEx_e3 c1 hmi (mExs_no ha hr c7)];rfl
    ·try simp only [W] at c7
     refine zJ<|zS O<|qJ O ⟨by omega,by omega⟩<|G O<|U ?_
     refine ⟨⟨n+1,exs++[outE (mEx f a)]⟩,⟨by omega,by simp;omega,mExs_next ha hr c7⟩,(by show e.Args.length-(n+1)<e.Args.length-n;omega),Weak.mk [false,true,true,true] ⟨Y,Y,Y,Y,Y,Y,T⟩ (by simp only [Int.toNat_natCast];rw [mid_set (by simp;omega) ha];simp only [List.map_append,List.map_cons,List.map_nil,Ex.cells_eq (outE (mEx f a))];rfl)⟩
   ·try simp only [W] at c6
    have hme:=mExs_end hr (by omega)
    rw [kB (l:=e.Args) (k:=n) (by omega)]
    simp only [List.map_nil,List.append_nil]
    refine zU _ (kJ 0 O (regs':=[]) (μ':=[_,_]) T ⟨EFle.row (ds:=[_,_,_,_,_,_,_,_,_,_,_,_,_]) ⟨.inl O,.inl O,.inl O,.inl O,.inl O,.inl O,.inl O,.inl O,.inl O,.inl O,.inl O,.inl O,.inr ⟨O,O⟩,T⟩,EFle.refl _,T⟩)<|qO<|B O<|zL qN (J 0 O) O<|N 1 sz38 O<|G O<|U<|zH<|fin2 (zV qN O (J 1 O) O) (v O) ?_
    rw [mEx_ok c1 hmi hme];rfl
theorem mapForms_conW (f:Lf->Lf×Int) (c:C) (P:Lf->Prop) (hf:∀l,P l->FnPur cfg c [vLin l] (.tup [vLin (f l).1,vI (f l).2])) (e:Ex) (hP:e.allF P) (he:e.cnt<=4294967296):Pur cfg 84 [vE e,.c c] (.tup [vE (outE (mEx f e)),vI (errE (mEx f e))]):=by
  induction e using Ex.ind with
  |_ e ih=>exact mapForms_step f c P hf e hP ih he
theorem zKf (e:Ex) (hl:e.allF (fun l=>l.L.length<=5864062014805)) (he:e.cnt<=4294967296):
    Pur cfg 32 [vE e] (vE e):=by
 refine zT Tryz.func32 O Tryz.ntmps32 Tryz.results32 O ?_
 intro z hz
 refine B O<|zZ O O (qI O O) ?_
 rintro _ _ ⟨b1,rfl,rfl⟩
 refine zZ O O (qH [none,none,none,none,none,none,none,none,none,none,some 2,some 4,some 13] O zr38 O) ?_
 rintro _ _ ⟨b2,rfl,rfl⟩
 refine U<|B O<|zL qN (J 1 O) O<|qK O ok84 (mapForms_conW idF _ (fun l=>l.L.length<=5864062014805) (fun l hl=>FnPur.of_pur (first:=[]) (cap:=[]) ok85 (expr_Copy_1 l hl)) e hl he) ⟨Y,O,Y,O,T⟩<|zX O (qV O O)<|zX O (yJ O O O)<|zX O (yI O O O)<|zZ O O (qH [none,none,none,none,none,none,none,none,none,none,some 2,some 4,some 13] O zr38 O) ?_
 rintro _ _ ⟨b3,rfl,rfl⟩
 refine N 0 sz38 O<|G O<|U<|B O<|zL qN (J 0 O) O<|N 1 sz38 O<|U<|zH<|fin1 (zV qN O (J 1 O) O) ?_
 rw [mEx_id];rfl
theorem expr_Copy (e:Ex) (he:e.wt<=4294967296):Pur cfg 32 [vE e] (vE e):=
  zKf e (fun x hx l hl=>by have:=forms_wt (Nat.le_trans (zEr e x hx) he) hl;omega) (Nat.le_trans e.cnt_le he)
end Go.W
