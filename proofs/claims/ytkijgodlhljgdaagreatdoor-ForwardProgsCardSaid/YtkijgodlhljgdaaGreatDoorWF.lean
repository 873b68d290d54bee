/-
  Walks: what functions of the program compute. Printed by wip/gen/mk2.py.
  Conditions: none.
-/
import Derived.Test.YtkijgodlhljgdaaGreatDoorWE
set_option linter.unusedSimpArgs false
set_option linter.unusedVariables false
set_option maxRecDepth 10000
namespace Go.W
open Go Go.Eng Go.Proofs Go.L41 Go.Br
attribute [local irreducible] AWP RWP TD finQ
theorem ok84:callOk Tryz.prog 84=true:=by kernel_rfl
theorem ok85:callOk Tryz.prog 85=true:=by kernel_rfl
theorem ok163:callOk Tryz.prog 163=true:=by kernel_rfl
theorem ok164:callOk Tryz.prog 164=true:=by kernel_rfl
theorem ok165:callOk Tryz.prog 165=true:=by kernel_rfl
theorem pl38:placesT Tryz.prog 38=some [(0,1),(1,1),(2,2),(4,5),(9,2),(11,1),(12,1)]:=by kernel_rfl
theorem sz35:(Tryz.prog.info? 35).map (·.size)=some 1:=by kernel_rfl
theorem sz36:(Tryz.prog.info? 36).map (·.size)=some 1:=by kernel_rfl
theorem sz63:(Tryz.prog.info? 63).map (·.size)=some 1:=by kernel_rfl
theorem mapForms_step (f:Lf->Lf×Int) (c:C) (P:Lf->Prop) (hf:∀l,P l->FnPur cfg c [vLin l] (.tup [vLin (f l).1,vI (f l).2])) (e:Ex) (hP:e.allF P) (ih:∀a,a∈e.Args->a.allF P->a.cnt<=4294967296->Pur cfg 84 [vE a,.c c] (.tup [vE (outE (mEx f a)),vI (errE (mEx f a))])) (he:e.cnt<=4294967296):
    Pur cfg 84 [vE e,.c c] (.tup [vE (outE (mEx f e)),vI (errE (mEx f e))]):=by
 refine zV Tryz.func84 O Tryz.ntmps84 Tryz.results84 O ?_
 intro z hz
 obtain ⟨hI,hA,hAt⟩:=e.cparts he
 refine B O<|zW O O (qJ O O) ?_
 rintro _ _ ⟨b1,rfl,rfl⟩
 refine zW O O (qI [none,none,none,none,none,none,none,none,none,none,some 2,some 4,some 13] O zr38 O) ?_
 rintro _ _ ⟨b2,rfl,rfl⟩
 refine F O<|H<|B O<|zL qH (K 1 O) O<|zW O O (qI [none,none,none,none,none,none,none,none,none,none,some 2,some 4,some 13] O zr38 O) ?_
 rintro _ _ ⟨b3,rfl,rfl⟩
 refine N 0 v O<|H<|B O<|F O<|H<|U<|B O<|F O<|zG O zDy<|zL kP (K 2 O) O<|qB O (wZ O O (hf e.Lin (Ex.allF_lin hP)) ⟨G,O,T⟩)<|qB O (qU O O)<|qB O (yN O O O)<|qB O (yG O O O)<|zG O zDy<|N 0 sz34 O<|F O<|H<|B O<|F O<|yP O<|H<|g O (fun c1=>?_) (fun c1=>?_)
 ·try simp only [I] at c1
  refine B O<|yR [none,none,none,none,none,none,none,none,none,none,some 2,some 4,some 13] O zr38 pl38<|F O<|N 1 v O<|F O<|H<|W<|fin2 (zS qH O (K 1 O) O) (o O) ?_
  rw [mEx_e1 c1];rfl
 ·try simp only [I] at c1
  refine zJ<|B O<|zG O kL<|zK wX (K 2 O) O<|zW O O (zCu O ok163 (zNr e.Idx hI) ⟨G,O,T⟩) ?_
  rintro _ _ ⟨sv4,rfl,rfl⟩
  refine zG O kL<|N 1 sz35 O<|H<|U<|B O<|zG O kL<|zK wX (K 3 O) O<|zZ O d<|F O<|H<|zP<|zT ⟨[(34,.c _),(1,.c _),(2,.c _),(4,.c _),(6,.c _),(32,.c _),(33,.c _)],[_,_,_,_]⟩ (Weak.mk [true,true,true,true] ⟨G,G,G,G,G,G,G,T⟩ O)<|qG 1 1 O O (Nat×List Ix) (fun ⟨k,outs⟩=>[(34,vI k)]) (fun ⟨k,outs⟩=>[E.vec sv4 67 4 (outs.map Ix.cells++(e.Idx.drop k).map Ix.cells)]) (fun ⟨k,outs⟩=>k<=e.Idx.length/\(outs.length=k)/\(mIxs f e.Idx=mapRest outs (mIxs f (e.Idx.drop k)))) (fun ⟨k,outs⟩=>e.Idx.length-k) ⟨⟨0,[]⟩,⟨by omega,O,(zIp _).symm⟩,Weak.mk [true,true,true,true] ⟨G,G,G,G,G,G,G,T⟩ O⟩ ?_
  rintro ⟨k,outs⟩ ⟨hk,ho,hp⟩
  show AWP _ _ _ _ _ ⟨[(34,vI k)]++_,[E.vec sv4 67 4 (outs.map Ix.cells++(e.Idx.drop k).map Ix.cells)]++_⟩
  refine B O<|yB O<|H<|U<|g O (fun c2=>?_) (fun c2=>?_)
  ·try simp only [I] at c2
   obtain ⟨x,hx⟩:=qP e.Idx k (by omega)
   have hxw:=hAt x (qD hx)
   refine zJ<|U<|zP<|B O<|F O<|qE O d (by omega) (Q (by assumption))<|zL zKg qA O<|zW O O (qI [none,some 2,none,some 2] O zr67 O) ?_
   rintro _ _ ⟨b5,rfl,rfl⟩
   refine F O<|N 0 sz67 O<|H<|U<|U<|zLt 12 [false,false,false,false,false,false,false,false,false,true,false,false] Mall mixed (by kernel_rfl) O O O<|kO O O (zD O kL O)<|kO O O (zF O wX O (K 2 O) O)<|kO O O (zQ O O)<|kO O O (zQ O O)<|kO O O (zD O zDw O)<|kO O O (zN O kP O (K 0 O) O)<|kO O O (wZ O O (hf x.Lin (Ex.allF_ix hP (qD hx))) ⟨G,O,T⟩)<|kO O O (qU O O)<|kO O O (yN O O O)<|td2_detA O O (fun _=>yG O O O)<|kO O O (yC 1 O d O O O (by omega) (mid_len (by simp;omega) (by omega)))<|kO O O (zFp O zDw O)<|td2_nil ?_
   refine ⟨_,kT O sz34 O O O (st_vec 1 O (mid_get (by simp;omega) hx) O),fun _ _ _=>T,?_⟩
   rintro _ _ ⟨rfl,rfl⟩
   refine F O<|H<|B O<|F O<|yP O<|H<|g O (fun c3=>?_) (fun c3=>?_)
   ·try simp only [I] at c3
    refine B O<|yR [none,none,none,none,none,none,none,none,none,none,some 2,some 4,some 13] O zr38 pl38<|F O<|N 3 v O<|F O<|H<|W<|fin2 (zS qH O (K 3 O) O) (o O) ?_
    rw [mEx_e2 c1 (mIxs_no hx hp (mIx_e1 c3))];rfl
   ·try simp only [I] at c3
    refine zJ<|U<|awp_draw_f 8 [.q,.q,.q,.q,.q,.f,.q,.q] Mall mixed (by kernel_rfl) O O O<|kN O O (zD O kL O)<|kN O O (zF O wX O (K 2 O) O)<|kN O O (zQ O O)<|kN O O (zD O zAw O)<|kN O O (zF O zAv O (K 0 O) O)<|zMq<|kN O O (yC 1 O d O O O (by omega) (by simp;omega))<|kN O O (zFp O zAw O)<|tdq_nil<|zBj<|zBj<|zBj<|zBj<|zBj<|zJd (fresh_own (zCu O ok164 (zMj x.At (by omega)) ⟨G,O,T⟩))<|zBj<|zBj<|tdf_nil<|zHp ?_
    rintro _ _ ⟨sv6,rfl,rfl⟩
    refine zKe ?_
    refine ⟨_,kT O sz63 O O O (st_vec 2 O (set_get (by simp;omega)) O),(fun _ _ _=>T),?_⟩
    rintro _ _ ⟨rfl,rfl⟩
    refine H<|B O<|zG O zAw<|zK zAv (K 1 O) O<|zZ O el63<|F O<|H<|zP<|zT ⟨[(66,.c _),(1,.c _),(2,.c _),(4,.c _),(6,.c _),(8,.c _),(32,.c _),(33,.c _),(34,.c _),(64,.c _),(65,.c _)],[_,_,_,_,_]⟩ (Weak.mk [true,false,true,true,true,true] ⟨G,G,G,G,G,G,G,G,G,G,G,T⟩ O)<|qG 1 1 O O (Nat×List Lf) (fun ⟨j,lins⟩=>[(66,vI j)]) (fun ⟨j,lins⟩=>[E.vec sv6 34 2 (lins.map Lf.cells++(x.At.drop j).map Lf.cells)]) (fun ⟨j,lins⟩=>j<=x.At.length/\(lins.length=j)/\(mLins f x.At=mapRest lins (mLins f (x.At.drop j)))) (fun ⟨j,lins⟩=>x.At.length-j) ⟨⟨0,[]⟩,⟨by omega,O,(zIp _).symm⟩,Weak.mk [true,true,true,true,true] ⟨G,G,G,G,G,G,G,G,G,G,G,T⟩ O⟩ ?_
    rintro ⟨j,lins⟩ ⟨hj,hlo,hq⟩
    show AWP _ _ _ _ _ ⟨[(66,vI j)]++_,[E.vec sv6 34 2 (lins.map Lf.cells++(x.At.drop j).map Lf.cells)]++_⟩
    refine B O<|yB O<|H<|U<|g O (fun c4=>?_) (fun c4=>?_)
    ·try simp only [I] at c4
     obtain ⟨l,hl⟩:=qP x.At j (by omega)
     have hlw:=hAt x (qD hx)
     refine zJ<|U<|zP<|B O<|F O<|qE O el63 (by omega) (Q (by assumption))<|zL kP qA O<|zW O O (qI [none,some 2] O zr34 O) ?_
     rintro _ _ ⟨b7,rfl,rfl⟩
     refine F O<|N 0 sz34 O<|H<|U<|zLt 14 [false,false,false,false,false,false,false,false,false,false,false,false,true,false] Mall mixed (by kernel_rfl) O O O<|kO O O (zD O kL O)<|kO O O (zF O wX O (K 3 O) O)<|kO O O (zQ O O)<|kO O O (yC 2 O d O O O (by omega) (by simp;omega))<|kO O O (zFp O zAw O)<|kO O O (zF O zAv O (zAb 2 O (set_get (by simp;omega))) O)<|kO O O (zQ O O)<|kO O O (zQ O O)<|kO O O (zN O kP O (K 0 O) O)<|kO O O (wZ O O (hf l (Ex.allF_at hP (qD hx) (qD hl))) ⟨G,O,T⟩)<|kO O O (qU O O)<|kO O O (yN O O O)<|td2_detA O O (fun _=>yG O O O)<|kO O O (yC 1 O el63 O O O (by omega) (mid_len (by simp;omega) (by omega)))<|td2_nil ?_
     refine ⟨_,kT O sz34 O O O (st_vec 1 O (mid_get (by simp;omega) hl) O),fun _ _ _=>T,?_⟩
     rintro _ _ ⟨rfl,rfl⟩
     refine F O<|H<|B O<|F O<|yP O<|H<|g O (fun c5=>?_) (fun c5=>?_)
     ·try simp only [I] at c5
      refine B O<|yR [none,none,none,none,none,none,none,none,none,none,some 2,some 4,some 13] O zr38 pl38<|F O<|N 4 v O<|F O<|H<|W<|fin2 (zS qH O (K 4 O) O) (o O) ?_
      rw [mEx_e2 c1 (mIxs_no hx hp (mIx_e2 c3 (mLins_no hl hq c5)))];rfl
     ·try simp only [I] at c5
      refine zJ<|zU O<|qL O ⟨by omega,by omega⟩<|F O<|H ?_
      refine ⟨⟨j+1,lins++[(f l).1]⟩,⟨by omega,by simp;omega,mLins_next hl hq c5⟩,(by show x.At.length-(j+1)<x.At.length-j;omega),Weak.mk [false,true,true,true,true,true] ⟨G,G,G,G,G,G,G,G,G,G,G,T⟩ (by simp only [Int.toNat_natCast];rw [mid_set (by simp;omega) hl];simp only [List.map_append,List.map_cons,List.map_nil];rfl)⟩
    ·try simp only [I] at c4
     have hml:=mLins_end hq (by omega)
     rw [kI (l:=x.At) (k:=j) (by omega)]
     simp only [List.map_nil,List.append_nil]
     refine zT _ (kB 0 O (regs':=[]) (μ':=[_,_,_,_]) T ⟨EFle.vec (r':=[_,_,_,_]) (set_get (by simp;omega)) ⟨.inl O,.inl O,.inl O,.inr ⟨O,O⟩,T⟩,EFle.refl _,EFle.refl _,EFle.refl _,T⟩)<|qM<|zU O<|qL O ⟨by omega,by omega⟩<|F O<|H ?_
     refine ⟨⟨k+1,outs++[⟨(f x.Lin).1,x.From,lins⟩]⟩,⟨by omega,by simp;omega,mIxs_next hx hp (mIx_ok c3 hml)⟩,(by show e.Idx.length-(k+1)<e.Idx.length-k;omega),Weak.mk [true,true,true,true] ⟨G,G,G,G,G,G,G,T⟩ (by simp only [Int.toNat_natCast,List.set_set];rw [mid_set (by simp;omega) hx];simp only [List.map_append,List.map_cons,List.map_nil];rfl)⟩
  ·try simp only [I] at c2
   have hmi:=mIxs_end hp (by omega)
   rw [kI (l:=e.Idx) (k:=k) (by omega)]
   simp only [List.map_nil,List.append_nil]
   refine zT _ (kB 0 O (regs':=[]) (μ':=[_,_,_]) T ⟨EFle.row (ds:=[_,_,_,_,_,_,_,_,_,_,_,_,_]) ⟨.inl O,.inl O,.inl O,.inl O,.inl O,.inl O,.inl O,.inl O,.inl O,.inl O,.inl O,.inr ⟨O,O⟩,.inl O,T⟩,EFle.refl _,EFle.refl _,T⟩)<|qM<|B O<|zG O kF<|zK wJ (K 2 O) O<|zW O O (zCu O ok165 (zNs e.Args hA) ⟨G,O,T⟩) ?_
   rintro _ _ ⟨sv8,rfl,rfl⟩
   refine zG O kF<|N 1 sz36 O<|H<|U<|B O<|zG O kF<|zK wJ (K 3 O) O<|zZ O A<|F O<|H<|zP<|zT ⟨[(98,.c _),(1,.c _),(4,.c _),(6,.c _),(96,.c _),(97,.c _)],[_,_,_]⟩ (Weak.mk [true,true,true,false] ⟨G,G,G,G,G,G,T⟩ O)<|qG 1 1 O O (Nat×List Ex) (fun ⟨n,exs⟩=>[(98,vI n)]) (fun ⟨n,exs⟩=>[E.vec sv8 38 13 (exs.map Ex.cells++(e.Args.drop n).map Ex.cells)]) (fun ⟨n,exs⟩=>n<=e.Args.length/\(exs.length=n)/\(mExs f e.Args=mapRest exs (mExs f (e.Args.drop n)))) (fun ⟨n,exs⟩=>e.Args.length-n) ⟨⟨0,[]⟩,⟨by omega,O,(zIp _).symm⟩,Weak.mk [true,true,true] ⟨G,G,G,G,G,G,T⟩ O⟩ ?_
   rintro ⟨n,exs⟩ ⟨hn,hno,hr⟩
   show AWP _ _ _ _ _ ⟨[(98,vI n)]++_,[E.vec sv8 38 13 (exs.map Ex.cells++(e.Args.drop n).map Ex.cells)]++_⟩
   refine B O<|yB O<|H<|U<|g O (fun c6=>?_) (fun c6=>?_)
   ·try simp only [I] at c6
    obtain ⟨a,ha⟩:=qP e.Args n (by omega)
    refine zJ<|U<|zP<|B O<|F O<|qE O A (by omega) (yU (by assumption))<|zL qH qA O<|zW O O (qI [none,none,none,none,none,none,none,none,none,none,some 2,some 4,some 13] O zr38 O) ?_
    rintro _ _ ⟨b9,rfl,rfl⟩
    refine F O<|N 0 v O<|H<|U<|zLt 10 [false,false,false,false,false,false,false,false,true,false] Mall mixed (by kernel_rfl) O O O<|kO O O (zD O kF O)<|kO O O (zF O wJ O (K 2 O) O)<|kO O O (zQ O O)<|kO O O (zN O qH O (K 0 O) O)<|kO O O (zQ O O)<|kO O O (qF O ok84 (ih a (qD ha) (Ex.allF_arg hP (qD ha)) (by have:=Ex.arg_cnt (qD ha);omega)) ⟨G,O,G,O,T⟩)<|kO O O (qU O O)<|kO O O (yN O O O)<|td2_detA O O (fun _=>yG O O O)<|kO O O (yC 1 O A O O O (by omega) (mid_len (by simp;omega) (by omega)))<|td2_nil ?_
    refine ⟨_,kT O v O O O (st_vec 1 O (mid_getE (by simp;omega) ha) O),fun _ _ _=>T,?_⟩
    rintro _ _ ⟨rfl,rfl⟩
    refine F O<|H<|B O<|F O<|yP O<|H<|g O (fun c7=>?_) (fun c7=>?_)
    ·try simp only [I] at c7
     refine B O<|yR [none,none,none,none,none,none,none,none,none,none,some 2,some 4,some 13] O zr38 pl38<|F O<|N 3 v O<|F O<|H<|W<|fin2 (zS qH O (K 3 O) O) (o O) ?_
     rw [mEx_e3 c1 hmi (mExs_no ha hr c7)];rfl
    ·try simp only [I] at c7
     refine zJ<|zU O<|qL O ⟨by omega,by omega⟩<|F O<|H ?_
     refine ⟨⟨n+1,exs++[outE (mEx f a)]⟩,⟨by omega,by simp;omega,mExs_next ha hr c7⟩,(by show e.Args.length-(n+1)<e.Args.length-n;omega),Weak.mk [false,true,true,true] ⟨G,G,G,G,G,G,T⟩ (by simp only [Int.toNat_natCast];rw [mid_set (by simp;omega) ha];simp only [List.map_append,List.map_cons,List.map_nil,Ex.cells_eq (outE (mEx f a))];rfl)⟩
   ·try simp only [I] at c6
    have hme:=mExs_end hr (by omega)
    rw [kI (l:=e.Args) (k:=n) (by omega)]
    simp only [List.map_nil,List.append_nil]
    refine zT _ (kB 0 O (regs':=[]) (μ':=[_,_]) T ⟨EFle.row (ds:=[_,_,_,_,_,_,_,_,_,_,_,_,_]) ⟨.inl O,.inl O,.inl O,.inl O,.inl O,.inl O,.inl O,.inl O,.inl O,.inl O,.inl O,.inl O,.inr ⟨O,O⟩,T⟩,EFle.refl _,T⟩)<|qM<|B O<|zL qH (K 0 O) O<|N 1 v O<|F O<|H<|W<|fin2 (zS qH O (K 1 O) O) (o O) ?_
    rw [mEx_ok c1 hmi hme];rfl
theorem mapForms_conW (f:Lf->Lf×Int) (c:C) (P:Lf->Prop) (hf:∀l,P l->FnPur cfg c [vLin l] (.tup [vLin (f l).1,vI (f l).2])) (e:Ex) (hP:e.allF P) (he:e.cnt<=4294967296):Pur cfg 84 [vE e,.c c] (.tup [vE (outE (mEx f e)),vI (errE (mEx f e))]):=by
  induction e using Ex.ind with
  |_ e ih=>exact mapForms_step f c P hf e hP ih he
theorem zLk (e:Ex) (hl:e.allF (fun l=>l.L.length<=5864062014805)) (he:e.cnt<=4294967296):
    Pur cfg 32 [vE e] (vE e):=by
 refine zV Tryz.func32 O Tryz.ntmps32 Tryz.results32 O ?_
 intro z hz
 refine B O<|zW O O (qJ O O) ?_
 rintro _ _ ⟨b1,rfl,rfl⟩
 refine zW O O (qI [none,none,none,none,none,none,none,none,none,none,some 2,some 4,some 13] O zr38 O) ?_
 rintro _ _ ⟨b2,rfl,rfl⟩
 refine H<|B O<|zL qH (K 1 O) O<|qK O ok84 (mapForms_conW idF _ (fun l=>l.L.length<=5864062014805) (fun l hl=>FnPur.of_pur (first:=[]) (cap:=[]) ok85 (expr_Copy_1 l hl)) e hl he) ⟨G,O,G,O,T⟩<|qB O (qU O O)<|qB O (yN O O O)<|qB O (yG O O O)<|zW O O (qI [none,none,none,none,none,none,none,none,none,none,some 2,some 4,some 13] O zr38 O) ?_
 rintro _ _ ⟨b3,rfl,rfl⟩
 refine N 0 v O<|F O<|H<|B O<|zL qH (K 0 O) O<|N 1 v O<|H<|W<|X (zS qH O (K 1 O) O) ?_
 rw [mEx_id];rfl
theorem expr_Copy (e:Ex) (he:e.wt<=4294967296):Pur cfg 32 [vE e] (vE e):=
  zLk e (fun x hx l hl=>by have:=forms_wt (Nat.le_trans (zDr e x hx) he) hl;omega) (Nat.le_trans e.cnt_le he)
end Go.W
