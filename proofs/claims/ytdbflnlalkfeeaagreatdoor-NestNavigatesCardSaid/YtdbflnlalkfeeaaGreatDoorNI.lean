/-
  Walks: what functions of the program compute. Printed by wip/gen/mk2.py.
  Conditions: none.
-/
import Derived.Test.YtdbflnlalkfeeaaGreatDoorNG
import Derived.Test.YtdbflnlalkfeeaaGreatDoorPlain2
set_option maxRecDepth 10000
namespace Go.W
open Go Go.Eng Go.Proofs Go.L41 Go.Br
attribute [local irreducible] AWP RWP TD finQ
theorem ok77 : callOk Tryz.prog 77 = true:= by kernel_rfl
theorem ok86 : callOk Tryz.prog 86 = true:= by kernel_rfl
theorem ok93 : callOk Tryz.prog 93 = true:= by kernel_rfl
theorem ok96 : callOk Tryz.prog 96 = true:= by kernel_rfl
theorem ok99 : callOk Tryz.prog 99 = true:= by kernel_rfl
theorem ok126 : callOk Tryz.prog 126 = true:= by kernel_rfl
theorem ok133 : callOk Tryz.prog 133 = true:= by kernel_rfl
theorem ok134 : callOk Tryz.prog 134 = true:= by kernel_rfl
theorem ok138 : callOk Tryz.prog 138 = true:= by kernel_rfl
theorem ok139 : callOk Tryz.prog 139 = true:= by kernel_rfl
theorem ok146 : callOk Tryz.prog 146 = true:= by kernel_rfl
theorem ok175 : callOk Tryz.prog 175 = true:= by kernel_rfl
theorem sz9 : (Tryz.prog.info? 9).map (·.size) = some 1:= by kernel_rfl
theorem zMp (l : List St) (hl : l.length ≤ 4294967296) :
    OwnR cfg 138 [vSts l] 54 20 (l.map St.cells):= by
 refine zU Tryz.func138 rfl Tryz.ntmps138 Tryz.results138 rfl ?_
 intro z hz
 refine sReg rfl<|zA rfl rfl (qO 20 rfl rfl)<|zB<|zJ<|sReg rfl<|rMv rfl<|zZ rfl rfl (zCy rfl el23 rfl rfl) ?_
 rintro _ _ ⟨nb1,rfl,hnil1,rfl⟩
 refine zB<|zG rfl (fun c1 => ?_) (fun c1 => ?_)
 ·try simp only [sx] at c1
  refine sReg rfl<|rMv rfl<|yE _ (kB 54 20)<|zB<|zH<|fin1 (rs_c rfl) ?_
  exact ⟨_,rfl,by rw [hnil1 c1]⟩
 ·try simp only [sx] at c1
  refine zK<|sReg rfl<|zZ rfl rfl (zAp rfl el23 zr54 rfl rfl rfl rfl) ?_
  rintro _ _ ⟨sv3,rfl,rfl⟩
  refine rMv rfl<|zZ rfl rfl (qU 0 rfl el23 rfl rfl rfl (by simp only [List.length_map,List.length_nil,Nat.zero_add]; omega) (by simp only [List.length_map,List.length_nil,Nat.zero_add]; omega)) ?_
  rintro _ _ ⟨sv4,rfl,rfl⟩
  refine rMv rfl<|zB<|zH<|fin1 (rs_c rfl) ?_
  exact ⟨_,rfl,rfl⟩
theorem zAo (f : Lf → Lf × Int) (c : C) (P : Lf → Prop) (hf : ∀ l,P l → FnPur cfg c [vLin l] (.tup [vLin (f l).1,vI (f l).2])) (i : List Ix) (hi : i.length ≤ 4294967296) (hA : ∀ x,x ∈ i → x.At.length ≤ 4294967296) (hP : ixsAll P i) :
    Pur cfg 86 [vIndices i,.c c] (.tup [vIndices (outIs (mIxs f i)),vI (errE (mIxs f i))]):= by
 refine zU Tryz.func86 rfl Tryz.ntmps86 Tryz.results86 rfl ?_
 intro z hz
 refine sReg rfl<|zA rfl rfl (qO 4 rfl rfl)<|rMv rfl<|zB<|sReg rfl<|rMv rfl<|zZ rfl rfl (wC rfl ok133 (zEv i hi) ⟨VLe.refl _,rfl,trivial⟩) ?_
 rintro _ _ ⟨sv1,rfl,rfl⟩
 refine rMv rfl<|zB<|sReg rfl<|rMv rfl<|zB<|zJ<|sReg rfl<|rMv rfl<|zA rfl rfl (zP rfl el44 rfl)<|rMv rfl<|zB<|zQ<|zV ⟨[(14,.c _),(0,.c _),(1,.c _),(6,.c _),(13,.c _)],[_]⟩ (Weak.mk [true] ⟨VLe.of_eq rfl,VLe.of_eq rfl,VLe.of_eq rfl,VLe.of_eq rfl,VLe.of_eq rfl,trivial⟩ rfl)<|qE 1 1 rfl rfl (Nat × List Ix) (fun ⟨k,outs⟩ => [(14,vI k)]) (fun ⟨k,outs⟩ => [E.vec sv1 114 4 (outs.map Ix.cells ++ (i.drop k).map Ix.cells)]) (fun ⟨k,outs⟩ => k ≤ i.length ∧ (outs.length = k) ∧ (mIxs f i = mapRest outs (mIxs f (i.drop k)))) (fun ⟨k,outs⟩ => i.length - k) ⟨⟨0,[]⟩,⟨by omega,rfl,(zDr _).symm⟩,Weak.mk [true] ⟨VLe.refl _,VLe.refl _,VLe.refl _,VLe.refl _,VLe.refl _,trivial⟩ rfl⟩ ?_
 rintro ⟨k,outs⟩ ⟨hk,ho,hp⟩
 show AWP _ _ _ _ _ ⟨[(14,vI k)] ++ _,[E.vec sv1 114 4 (outs.map Ix.cells ++ (i.drop k).map Ix.cells)] ++ _⟩
 refine sReg rfl<|zA rfl rfl (qJ rfl rfl rfl)<|zB<|zJ<|zG rfl (fun c1 => ?_) (fun c1 => ?_)
 ·try simp only [sx] at c1
  obtain ⟨x,hx⟩ := qT i k (by omega)
  have hAx := hA x (qC hx)
  refine zK<|zJ<|zQ<|sReg rfl<|rMv rfl<|rMv rfl<|zB<|zJ<|sReg rfl<|rMv rfl<|rMv rfl<|rMv rfl<|rMv rfl<|rMv rfl<|zA rfl rfl (zN rfl el44 rfl rfl (by omega) (getm (by assumption)))<|zA rfl rfl (zX rfl zAx rfl)<|zA rfl rfl (zE rfl kX rfl qB rfl)<|zA rfl rfl (kQ rfl rfl (hf x.Lin (hP x (qC hx)).1) ⟨VLe.refl _,rfl,trivial⟩)<|zA rfl rfl (qS rfl rfl)<|zA rfl rfl (yJ rfl rfl rfl)<|zA rfl rfl (qW rfl rfl rfl)<|zA rfl rfl (qM 0 rfl el44 rfl rfl rfl (by omega) (zHg (by simp; omega) (by omega)))<|zA rfl rfl (yU rfl zAx rfl)<|zY rfl rfl (zT rfl sz49 rfl rfl rfl (zBr 0 rfl (zJv (by simp; omega) hx) rfl))<|rMv rfl<|zB<|sReg rfl<|rMv rfl<|zA rfl rfl (qV rfl rfl rfl)<|zB<|zG rfl (fun c2 => ?_) (fun c2 => ?_)
  ·try simp only [sx] at c2
   refine sReg rfl<|rMv rfl<|zA rfl rfl (qO 4 rfl rfl)<|rMv rfl<|zB<|zH<|fin2 (rs_c rfl) (rs_c rfl) ?_
   rw [mIxs_no hx hp (mIx_e1 c2)]; rfl
  ·try simp only [sx] at c2
   refine zK<|sReg rfl<|rMv rfl<|rMv rfl<|rMv rfl<|rMv rfl<|zA rfl rfl (zN rfl el44 rfl rfl (by omega) (getm (by assumption)))<|zA rfl rfl (zX rfl kH rfl)<|zA rfl rfl (zC rfl wH rfl qB rfl)<|zZ rfl rfl (wC rfl ok134 (zEd x.At (hA x (qC hx))) ⟨VLe.refl _,rfl,trivial⟩) ?_
   rintro _ _ ⟨sv2,rfl,rfl⟩
   refine zA rfl rfl (qM 1 rfl el44 rfl rfl rfl (by omega) (by simp; omega))<|zA rfl rfl (yU rfl kH rfl)<|zY rfl rfl (zT rfl sz112 rfl rfl rfl (zBr 1 rfl (zBs (by simp; omega)) rfl))<|zB<|sReg rfl<|rMv rfl<|rMv rfl<|zA rfl rfl (zN rfl el44 rfl rfl (by omega) (getm (by assumption)))<|zA rfl rfl (zX rfl kH rfl)<|zA rfl rfl (zC rfl wH rfl qB rfl)<|zA rfl rfl (zP rfl wJ rfl)<|rMv rfl<|zB<|zQ<|zV ⟨[(50,.c _),(0,.c _),(1,.c _),(6,.c _),(8,.c _),(13,.c _),(14,.c _),(49,.c _)],[_,_]⟩ (Weak.mk [true,true] ⟨VLe.of_eq rfl,VLe.of_eq rfl,VLe.of_eq rfl,VLe.of_eq rfl,VLe.of_eq rfl,VLe.of_eq rfl,VLe.of_eq rfl,VLe.of_eq rfl,trivial⟩ rfl)<|qE 1 1 rfl rfl (Nat × List Lf) (fun ⟨j,lins⟩ => [(50,vI j)]) (fun ⟨j,lins⟩ => [E.vec sv2 49 2 (lins.map Lf.cells ++ (x.At.drop j).map Lf.cells)]) (fun ⟨j,lins⟩ => j ≤ x.At.length ∧ (lins.length = j) ∧ (mLins f x.At = mapRest lins (mLins f (x.At.drop j)))) (fun ⟨j,lins⟩ => x.At.length - j) ⟨⟨0,[]⟩,⟨by omega,rfl,(zDr _).symm⟩,Weak.mk [true,true] ⟨VLe.refl _,VLe.refl _,VLe.refl _,VLe.refl _,VLe.refl _,VLe.refl _,VLe.refl _,VLe.refl _,trivial⟩ rfl⟩ ?_
   rintro ⟨j,lins⟩ ⟨hj,hlo,hq⟩
   show AWP _ _ _ _ _ ⟨[(50,vI j)] ++ _,[E.vec sv2 49 2 (lins.map Lf.cells ++ (x.At.drop j).map Lf.cells)] ++ _⟩
   refine sReg rfl<|zA rfl rfl (qJ rfl rfl rfl)<|zB<|zJ<|zG rfl (fun c3 => ?_) (fun c3 => ?_)
   ·try simp only [sx] at c3
    obtain ⟨l,hl⟩ := qT x.At j (by omega)
    refine zK<|zJ<|zQ<|sReg rfl<|rMv rfl<|rMv rfl<|zB<|zJ<|kG 21 0 [⟨0,.q []⟩,⟨1,.q []⟩,⟨2,.q [1]⟩,⟨3,.q []⟩,⟨4,.q [1]⟩,⟨5,.q []⟩,⟨6,.q []⟩,⟨7,.q []⟩,⟨8,.q []⟩,⟨9,.q []⟩,⟨10,.q []⟩,⟨11,.q []⟩,⟨12,.q []⟩,⟨13,.q []⟩,⟨14,.q []⟩,⟨15,.q []⟩,⟨16,.q []⟩,⟨17,.q []⟩,⟨18,.q []⟩,⟨19,.q [0]⟩,⟨20,.e 0 []⟩] mixed (by kernel_rfl) (by kernel_rfl) rfl rfl rfl<|zW rfl<|zW rfl<|zW rfl<|zW rfl<|zW rfl<|zW rfl<|zW rfl<|zW rfl<|zW rfl<|zW rfl<|zW rfl<|zW rfl<|zW rfl<|zW rfl<|zW rfl<|zW rfl<|zW rfl<|zW rfl<|zW rfl<|zW rfl<|zW rfl<|zBl<|qD rfl (by decide) rfl rfl (zO rfl rfl)<|qD rfl (by decide) rfl rfl (zO rfl rfl)<|qD rfl (by decide) rfl rfl (qM 0 rfl el44 rfl rfl rfl (by omega) (by simp; omega))<|qD rfl (by decide) rfl rfl (yU rfl kH rfl)<|qD rfl (by decide) rfl rfl (zC rfl wH rfl (kT 0 rfl (zBs (by simp; omega))) rfl)<|qD rfl (by decide) rfl rfl (zO rfl rfl)<|qD rfl (by decide) rfl rfl (zO rfl rfl)<|qD rfl (by decide) rfl rfl (zO rfl rfl)<|qD rfl (by decide) rfl rfl (zO rfl rfl)<|qD rfl (by decide) rfl rfl (zN rfl el44 rfl rfl (by omega) (getm (by assumption)))<|qD rfl (by decide) rfl rfl (zX rfl kH rfl)<|qD rfl (by decide) rfl rfl (zC rfl wH rfl qB rfl)<|qD rfl (by decide) rfl rfl (zO rfl rfl)<|qD rfl (by decide) rfl rfl (zN rfl wJ rfl rfl (by omega) (getm (by assumption)))<|qD rfl (by decide) rfl rfl (zE rfl kX rfl qB rfl)<|qD rfl (by decide) rfl rfl (kQ rfl rfl (hf l ((hP x (qC hx)).2 l (qC hl))) ⟨VLe.refl _,rfl,trivial⟩)<|qD rfl (by decide) rfl rfl (qS rfl rfl)<|qD rfl (by decide) rfl rfl (yJ rfl rfl rfl)<|qD rfl (by decide) rfl rfl (qW rfl rfl rfl)<|qD rfl (by decide) rfl rfl (qM 0 rfl wJ rfl rfl rfl (by omega) (zHg (by simp; omega) (by omega)))<|zGj rfl rfl (by decide) rfl rfl (zT rfl sz49 rfl rfl rfl (zBr 0 rfl (zJv (by simp; omega) hl) rfl)) ?_
    rintro _ _ ⟨rfl,rfl⟩
    refine ⟨_,rfl,?_⟩
    refine zBj rfl<|rMv rfl<|zB<|sReg rfl<|rMv rfl<|zA rfl rfl (qV rfl rfl rfl)<|zB<|zG rfl (fun c4 => ?_) (fun c4 => ?_)
    ·try simp only [sx] at c4
     refine sReg rfl<|rMv rfl<|zA rfl rfl (qO 4 rfl rfl)<|rMv rfl<|zB<|zH<|fin2 (rs_c rfl) (rs_c rfl) ?_
     rw [mIxs_no hx hp (mIx_e2 c2 (mLins_no hl hq c4))]; rfl
    ·try simp only [sx] at c4
     refine zK<|zS rfl<|zA rfl rfl (qA rfl rfl rfl ⟨by omega,by omega⟩)<|rMv rfl<|zB ?_
     refine ⟨⟨j + 1,lins ++ [(f l).1]⟩,⟨by omega,by simp; omega,mLins_next hl hq c4⟩,(by show x.At.length - (j + 1) < x.At.length - j; omega),Weak.mk [true,true] ⟨VLe.refl _,VLe.refl _,VLe.refl _,VLe.refl _,VLe.refl _,VLe.refl _,VLe.refl _,VLe.refl _,trivial⟩ (by simp only [Int.toNat_natCast]; rw [zHf (by simp; omega) hl]; simp only [List.map_append,List.map_cons,List.map_nil]; rfl)⟩
   ·try simp only [sx] at c3
    have hml := mLins_end hq (by omega)
    rw [yR (l := x.At) (k := j) (by omega)]
    simp only [List.map_nil,List.append_nil]
    refine zV _ (yF 0 rfl (regs' := []) (μ' := [_]) trivial ⟨EFle.vec (r' := [_,_,_,_]) (zBs (by simp; omega)) ⟨.inl rfl,.inl rfl,.inl rfl,.inr ⟨rfl,rfl⟩,trivial⟩,trivial⟩)<|qI<|zS rfl<|zA rfl rfl (qA rfl rfl rfl ⟨by omega,by omega⟩)<|rMv rfl<|zB ?_
    refine ⟨⟨k + 1,outs ++ [⟨(f x.Lin).1,x.From,lins⟩]⟩,⟨by omega,by simp; omega,mIxs_next hx hp (mIx_ok c2 hml)⟩,(by show i.length - (k + 1) < i.length - k; omega),Weak.mk [true] ⟨VLe.refl _,VLe.refl _,VLe.refl _,VLe.refl _,VLe.refl _,trivial⟩ (by simp only [Int.toNat_natCast,List.set_set]; rw [zHf (by simp; omega) hx]; simp only [List.map_append,List.map_cons,List.map_nil]; rfl)⟩
 ·try simp only [sx] at c1
  have hmi := mIxs_end hp (by omega)
  rw [yR (l := i) (k := k) (by omega)]
  simp only [List.map_nil,List.append_nil]
  refine zV _ (yF 0 rfl (regs' := [(6,_)]) (μ' := []) ⟨FLe.sl,trivial⟩ trivial)<|qI<|sReg rfl<|rMv rfl<|rMv rfl<|rMv rfl<|zB<|zH<|fin2 (rs_c rfl) (rs_c rfl) ?_
  rw [hmi]; rfl
theorem zFg (f : Lf → Lf × Int) (c : C) (P : Lf → Prop) (hf : ∀ l,P l → FnPur cfg c [vLin l] (.tup [vLin (f l).1,vI (f l).2])) (e : Ex) (hP : e.allF P) (ih : ∀ a,a ∈ e.Args → a.allF P → a.cnt ≤ 4294967296 → Pur cfg 139 [vE a,.c c] (.tup [vE (outE (mEx f a)),vI (errE (mEx f a))])) (he : e.cnt ≤ 4294967296) :
    Pur cfg 139 [vE e,.c c] (.tup [vE (outE (mEx f e)),vI (errE (mEx f e))]):= by
 refine zU Tryz.func139 rfl Tryz.ntmps139 Tryz.results139 rfl ?_
 intro z hz
 obtain ⟨hI,hA,hAt⟩ := e.cparts he
 have hPI := ixsAll_of hP
 refine sReg rfl<|zZ rfl rfl (qL rfl rfl) ?_
 rintro _ _ ⟨b1,rfl,rfl⟩
 refine zZ rfl rfl (qK [none,none,none,none,none,none,none,none,none,none,some 2,some 4,some 13] rfl zr52 rfl) ?_
 rintro _ _ ⟨b2,rfl,rfl⟩
 refine rMv rfl<|zB<|sReg rfl<|zA rfl rfl (zE rfl yX rfl (zF 1 rfl) rfl)<|zZ rfl rfl (qK [none,none,none,none,none,none,none,none,none,none,some 2,some 4,some 13] rfl zr52 rfl) ?_
 rintro _ _ ⟨b3,rfl,rfl⟩
 refine zY rfl rfl (zT rfl sz52 rfl rfl rfl (qF 0 rfl rfl))<|zB<|sReg rfl<|rMv rfl<|zB<|zJ<|sReg rfl<|rMv rfl<|zA rfl rfl (zD rfl zEk rfl)<|zA rfl rfl (zE rfl kX rfl (zF 2 rfl) rfl)<|zA rfl rfl (kQ rfl rfl (hf e.Lin (Ex.allF_lin hP)) ⟨VLe.refl _,rfl,trivial⟩)<|zA rfl rfl (qS rfl rfl)<|zA rfl rfl (yJ rfl rfl rfl)<|zA rfl rfl (qW rfl rfl rfl)<|zA rfl rfl (zD rfl zEk rfl)<|zY rfl rfl (zT rfl sz49 rfl rfl rfl (qF 0 rfl rfl))<|rMv rfl<|zB<|sReg rfl<|rMv rfl<|zA rfl rfl (qV rfl rfl rfl)<|zB<|zG rfl (fun c1 => ?_) (fun c1 => ?_)
 ·try simp only [sx] at c1
  refine sReg rfl<|zA rfl rfl (yY [none,none,none,none,none,none,none,none,none,none,some 2,some 4,some 13] rfl zr52 pl52 rfl rfl)<|rMv rfl<|zY rfl rfl (zT rfl sz52 rfl rfl rfl (qF 1 rfl rfl))<|rMv rfl<|zB<|zH<|fin2 (qG yX rfl (zF 1 rfl) rfl) (rs_c rfl) ?_
  rw [mEx_e1 c1]; rfl
 ·try simp only [sx] at c1
  refine zK<|zJ<|sReg rfl<|zA rfl rfl (zD rfl kO rfl)<|zA rfl rfl (zC rfl kU rfl (zF 2 rfl) rfl)<|rMv rfl<|zA rfl rfl (zR rfl ok86 (zAo f c P hf e.Idx hI hAt hPI) ⟨VLe.refl _,rfl,VLe.refl _,rfl,trivial⟩)<|zA rfl rfl (qS rfl rfl)<|zA rfl rfl (qW rfl rfl rfl)<|zA rfl rfl (qW rfl rfl rfl)<|zA rfl rfl (zD rfl kO rfl)<|zY rfl rfl (zT rfl sz44 rfl rfl rfl (qF 0 rfl rfl))<|rMv rfl<|zB<|sReg rfl<|rMv rfl<|zA rfl rfl (qV rfl rfl rfl)<|zB<|zG rfl (fun c2 => ?_) (fun c2 => ?_)
  ·try simp only [sx] at c2
   refine sReg rfl<|zA rfl rfl (yY [none,none,none,none,none,none,none,none,none,none,some 2,some 4,some 13] rfl zr52 pl52 rfl rfl)<|rMv rfl<|zY rfl rfl (zT rfl sz52 rfl rfl rfl (qF 1 rfl rfl))<|rMv rfl<|zB<|zH<|fin2 (qG yX rfl (zF 1 rfl) rfl) (rs_c rfl) ?_
   rw [mEx_e2 c1 (mIxs_err c2)]; rfl
  ·try simp only [sx] at c2
   obtain ⟨di,hmi⟩ := mIxs_0 c2
   rw [hmi]
   refine zK<|sReg rfl<|zA rfl rfl (zD rfl wX rfl)<|zA rfl rfl (zC rfl zCz rfl (zF 2 rfl) rfl)<|zZ rfl rfl (wC rfl ok175 (zMq e.Args hA) ⟨VLe.refl _,rfl,trivial⟩) ?_
   rintro _ _ ⟨sv4,rfl,rfl⟩
   refine zA rfl rfl (zD rfl wX rfl)<|zY rfl rfl (zT rfl sz50 rfl rfl rfl (qF 1 rfl rfl))<|zB<|zJ<|sReg rfl<|zA rfl rfl (zD rfl wX rfl)<|zA rfl rfl (zC rfl zCz rfl (zF 3 rfl) rfl)<|zA rfl rfl (zP rfl el50 rfl)<|rMv rfl<|zB<|zQ<|zV ⟨[(41,.c _),(1,.c _),(2,.c _),(4,.c _),(6,.c _),(40,.c _)],[_,_,_,_]⟩ (Weak.mk [true,true,true,true] ⟨VLe.of_eq rfl,VLe.of_eq rfl,VLe.of_eq rfl,VLe.of_eq rfl,VLe.of_eq rfl,VLe.of_eq rfl,trivial⟩ rfl)<|qE 1 1 rfl rfl (Nat × List Ex) (fun ⟨n,exs⟩ => [(41,vI n)]) (fun ⟨n,exs⟩ => [E.vec sv4 52 13 (exs.map Ex.cells ++ (e.Args.drop n).map Ex.cells)]) (fun ⟨n,exs⟩ => n ≤ e.Args.length ∧ (exs.length = n) ∧ (mExs f e.Args = mapRest exs (mExs f (e.Args.drop n)))) (fun ⟨n,exs⟩ => e.Args.length - n) ⟨⟨0,[]⟩,⟨by omega,rfl,(zDr _).symm⟩,Weak.mk [true,true,true,true] ⟨VLe.refl _,VLe.refl _,VLe.refl _,VLe.refl _,VLe.refl _,VLe.refl _,trivial⟩ rfl⟩ ?_
   rintro ⟨n,exs⟩ ⟨hn,hno,hr⟩
   show AWP _ _ _ _ _ ⟨[(41,vI n)] ++ _,[E.vec sv4 52 13 (exs.map Ex.cells ++ (e.Args.drop n).map Ex.cells)] ++ _⟩
   refine sReg rfl<|zA rfl rfl (qJ rfl rfl rfl)<|zB<|zJ<|zG rfl (fun c3 => ?_) (fun c3 => ?_)
   ·try simp only [sx] at c3
    obtain ⟨a,ha⟩ := qT e.Args n (by omega)
    refine zK<|zJ<|zQ<|sReg rfl<|rMv rfl<|rMv rfl<|zB<|zJ<|kG 15 0 [⟨0,.q []⟩,⟨1,.q [1]⟩,⟨2,.q []⟩,⟨3,.q []⟩,⟨4,.q [3]⟩,⟨5,.q []⟩,⟨6,.q []⟩,⟨7,.q []⟩,⟨8,.q []⟩,⟨9,.q []⟩,⟨10,.q []⟩,⟨11,.q []⟩,⟨12,.q []⟩,⟨13,.q [0]⟩,⟨14,.e 0 []⟩] mixed (by kernel_rfl) (by kernel_rfl) rfl rfl rfl<|zW rfl<|zW rfl<|zW rfl<|zW rfl<|zW rfl<|zW rfl<|zW rfl<|zW rfl<|zW rfl<|zW rfl<|zW rfl<|zW rfl<|zW rfl<|zW rfl<|zW rfl<|zBl<|qD rfl (by decide) rfl rfl (zD rfl wX rfl)<|qD rfl (by decide) rfl rfl (zC rfl zCz rfl (zF 0 rfl) rfl)<|qD rfl (by decide) rfl rfl (zO rfl rfl)<|qD rfl (by decide) rfl rfl (zD rfl wX rfl)<|qD rfl (by decide) rfl rfl (zC rfl zCz rfl (zF 0 rfl) rfl)<|qD rfl (by decide) rfl rfl (zO rfl rfl)<|qD rfl (by decide) rfl rfl (zN rfl el50 rfl rfl (by omega) (zFi (by assumption)))<|qD rfl (by decide) rfl rfl (zE rfl yX rfl qB rfl)<|qD rfl (by decide) rfl rfl (zO rfl rfl)<|qD rfl (by decide) rfl rfl (zR rfl ok139 (ih a (qC ha) (Ex.allF_arg hP (qC ha)) (by have := Ex.arg_cnt (qC ha); omega)) ⟨VLe.refl _,rfl,VLe.refl _,rfl,trivial⟩)<|qD rfl (by decide) rfl rfl (qS rfl rfl)<|qD rfl (by decide) rfl rfl (yJ rfl rfl rfl)<|qD rfl (by decide) rfl rfl (qW rfl rfl rfl)<|qD rfl (by decide) rfl rfl (qM 0 rfl el50 rfl rfl rfl (by omega) (zHg (by simp; omega) (by omega)))<|zGj rfl rfl (by decide) rfl rfl (zT rfl sz52 rfl rfl rfl (zBr 0 rfl (mid_getE (by simp; omega) ha) rfl)) ?_
    rintro _ _ ⟨rfl,rfl⟩
    refine ⟨_,rfl,?_⟩
    refine zBj rfl<|rMv rfl<|zB<|sReg rfl<|rMv rfl<|zA rfl rfl (qV rfl rfl rfl)<|zB<|zG rfl (fun c4 => ?_) (fun c4 => ?_)
    ·try simp only [sx] at c4
     refine sReg rfl<|zA rfl rfl (yY [none,none,none,none,none,none,none,none,none,none,some 2,some 4,some 13] rfl zr52 pl52 rfl rfl)<|rMv rfl<|zY rfl rfl (zT rfl sz52 rfl rfl rfl (qF 2 rfl rfl))<|rMv rfl<|zB<|zH<|fin2 (qG yX rfl (zF 2 rfl) rfl) (rs_c rfl) ?_
     rw [mEx_e3 c1 hmi (mExs_no ha hr c4)]; rfl
    ·try simp only [sx] at c4
     refine zK<|zS rfl<|zA rfl rfl (qA rfl rfl rfl ⟨by omega,by omega⟩)<|rMv rfl<|zB ?_
     refine ⟨⟨n + 1,exs ++ [outE (mEx f a)]⟩,⟨by omega,by simp; omega,mExs_next ha hr c4⟩,(by show e.Args.length - (n + 1) < e.Args.length - n; omega),Weak.mk [true,true,true,true] ⟨VLe.refl _,VLe.refl _,VLe.refl _,VLe.refl _,VLe.refl _,VLe.refl _,trivial⟩ (by simp only [Int.toNat_natCast]; rw [zHf (by simp; omega) ha]; simp only [List.map_append,List.map_cons,List.map_nil,Ex.cells_eq (outE (mEx f a))]; rfl)⟩
   ·try simp only [sx] at c3
    have hme := mExs_end hr (by omega)
    rw [yR (l := e.Args) (k := n) (by omega)]
    simp only [List.map_nil,List.append_nil]
    refine zV _ (yF 0 rfl (regs' := []) (μ' := [_,_,_]) trivial ⟨EFle.row (ds := [_,_,_,_,_,_,_,_,_,_,_,_,_]) ⟨.inl rfl,.inl rfl,.inl rfl,.inl rfl,.inl rfl,.inl rfl,.inl rfl,.inl rfl,.inl rfl,.inl rfl,.inl rfl,.inl rfl,.inr ⟨rfl,rfl⟩,trivial⟩,EFle.refl _,EFle.refl _,trivial⟩)<|qI<|sReg rfl<|zA rfl rfl (zE rfl yX rfl (zF 0 rfl) rfl)<|zY rfl rfl (zT rfl sz52 rfl rfl rfl (qF 1 rfl rfl))<|rMv rfl<|zB<|zH<|fin2 (qG yX rfl (zF 1 rfl) rfl) (rs_c rfl) ?_
    rw [mEx_ok c1 hmi hme]; rfl
theorem zEi (f : Lf → Lf × Int) (c : C) (P : Lf → Prop) (hf : ∀ l,P l → FnPur cfg c [vLin l] (.tup [vLin (f l).1,vI (f l).2])) (e : Ex) (hP : e.allF P) (he : e.cnt ≤ 4294967296) : Pur cfg 139 [vE e,.c c] (.tup [vE (outE (mEx f e)),vI (errE (mEx f e))]):= by
  induction e using Ex.ind with
  | _ e ih => exact zFg f c P hf e hP ih he
theorem zAz (f : Lf → Lf × Int) (c : C) (P : Lf → Prop) (hf : ∀ l,P l → FnPur cfg c [vLin l] (.tup [vLin (f l).1,vI (f l).2])) (g : ByteArray → ByteArray) (c9 : C) (hg : ∀ s,FnPur cfg c9 [vS s] (vS (g s))) (l : List St) (hP : allSs P l) (ih : ∀ s,s ∈ l → Pur cfg 93 [vSts s.Body,.c c,.c c9] (.tup [vSts (outS (mSts f g s.Body)),vI (errE (mSts f g s.Body))])) (hl : stsWt l ≤ 1073741824) :
    Pur cfg 93 [vSts l,.c c,.c c9] (.tup [vSts (outS (mSts f g l)),vI (errE (mSts f g l))]):= by
 refine zU Tryz.func93 rfl Tryz.ntmps93 Tryz.results93 rfl ?_
 intro z hz
 have hll := kN l
 refine sReg rfl<|zA rfl rfl (qO 20 rfl rfl)<|rMv rfl<|zB<|sReg rfl<|rMv rfl<|zZ rfl rfl (wC rfl ok138 (zMp l (by omega)) ⟨VLe.refl _,rfl,trivial⟩) ?_
 rintro _ _ ⟨sv1,rfl,rfl⟩
 refine rMv rfl<|zB<|sReg rfl<|rMv rfl<|zB<|zJ<|sReg rfl<|rMv rfl<|zA rfl rfl (zP rfl el23 rfl)<|rMv rfl<|zB<|zQ<|zV ⟨[(15,.c _),(0,.c _),(1,.c _),(2,.c _),(8,.c _),(14,.c _)],[_]⟩ (Weak.mk [true] ⟨VLe.of_eq rfl,VLe.of_eq rfl,VLe.of_eq rfl,VLe.of_eq rfl,VLe.of_eq rfl,VLe.of_eq rfl,trivial⟩ rfl)<|qE 1 1 rfl rfl (Nat × List St) (fun ⟨k,outs⟩ => [(15,vI k)]) (fun ⟨k,outs⟩ => [E.vec sv1 54 20 (outs.map St.cells ++ (l.drop k).map St.cells)]) (fun ⟨k,outs⟩ => k ≤ l.length ∧ (outs.length = k) ∧ (mSts f g l = mapRest outs (mSts f g (l.drop k)))) (fun ⟨k,outs⟩ => l.length - k) ⟨⟨0,[]⟩,⟨by omega,rfl,(zDr _).symm⟩,Weak.mk [true] ⟨VLe.refl _,VLe.refl _,VLe.refl _,VLe.refl _,VLe.refl _,VLe.refl _,trivial⟩ rfl⟩ ?_
 rintro ⟨k,outs⟩ ⟨hk,ho,hp⟩
 show AWP _ _ _ _ _ ⟨[(15,vI k)] ++ _,[E.vec sv1 54 20 (outs.map St.cells ++ (l.drop k).map St.cells)] ++ _⟩
 refine sReg rfl<|zA rfl rfl (qJ rfl rfl rfl)<|zB<|zJ<|zG rfl (fun c1 => ?_) (fun c1 => ?_)
 ·try simp only [sx] at c1
  obtain ⟨s,hs⟩ := qT l k (by omega)
  have hsw := yK (qC hs)
  have hse := St.wt_eq s
  have hPs := St.allF_eq (zJc hP s (qC hs))
  refine zK<|zJ<|zQ<|sReg rfl<|rMv rfl<|rMv rfl<|zB<|zJ<|sReg rfl<|rMv rfl<|rMv rfl<|zA rfl rfl (zN rfl el23 rfl rfl (by omega) (kW hs))<|zA rfl rfl (zX rfl zAw rfl)<|zA rfl rfl (zC rfl one3 rfl qB rfl)<|zA rfl rfl (qH rfl rfl rfl)<|zB<|zG rfl (fun c2 => ?_) (fun c2 => ?_)
  ·try simp only [sx] at c2
   refine zS rfl<|rMv rfl<|rMv rfl<|rMv rfl<|rMv rfl<|rMv rfl<|zA rfl rfl (zN rfl el23 rfl rfl (by omega) (kW hs))<|zA rfl rfl (zX rfl zAh rfl)<|zA rfl rfl (zC rfl one9 rfl qB rfl)<|zA rfl rfl (kQ rfl rfl (hg s.Name) ⟨VLe.refl _,rfl,trivial⟩)<|zA rfl rfl (qM 0 rfl el23 rfl rfl rfl (by omega) (zHg (by simp; omega) (by omega)))<|zA rfl rfl (yU rfl zAh rfl)<|zY rfl rfl (zT rfl sz9 rfl rfl rfl (zBr 0 rfl (mid_getS (by simp; omega) hs) rfl))<|zB<|zJ<|sReg rfl<|rMv rfl<|rMv rfl<|rMv rfl<|rMv rfl<|zA rfl rfl (zN rfl el23 rfl rfl (by omega) (kW hs))<|zA rfl rfl (zX rfl zBm rfl)<|zA rfl rfl (zC rfl kU rfl qB rfl)<|rMv rfl<|zA rfl rfl (zR rfl ok86 (zAo f c P hf s.Idx (by omega) (fun x hx => by have := zAt hx; rw [Ix.wt] at this; omega) hPs.1) ⟨VLe.refl _,rfl,VLe.refl _,rfl,trivial⟩)<|zA rfl rfl (qS rfl rfl)<|zA rfl rfl (qW rfl rfl rfl)<|zA rfl rfl (qW rfl rfl rfl)<|zA rfl rfl (qM 0 rfl el23 rfl rfl rfl (by omega) (by simp; omega))<|zA rfl rfl (yU rfl zBm rfl)<|zY rfl rfl (zT rfl sz44 rfl rfl rfl (zBr 0 rfl (zBs (by simp; omega)) rfl))<|rMv rfl<|zB<|sReg rfl<|rMv rfl<|zA rfl rfl (qV rfl rfl rfl)<|zB<|zG rfl (fun c3 => ?_) (fun c3 => ?_)
   ·try simp only [sx] at c3
    refine sReg rfl<|rMv rfl<|zA rfl rfl (qO 20 rfl rfl)<|rMv rfl<|zB<|zH<|fin2 (rs_c rfl) (rs_c rfl) ?_
    rw [zJw hs hp (mSt_e1 (mIxs_err c3))]; rfl
   ·try simp only [sx] at c3
    obtain ⟨di,hmi⟩ := mIxs_0 c3
    rw [hmi]
    refine zK<|zJ<|sReg rfl<|rMv rfl<|rMv rfl<|rMv rfl<|rMv rfl<|zA rfl rfl (zN rfl el23 rfl rfl (by omega) (kW hs))<|zA rfl rfl (zX rfl zBa rfl)<|zA rfl rfl (zE rfl yX rfl qB rfl)<|rMv rfl<|zA rfl rfl (zR rfl ok139 (zEi f c P hf s.E hPs.2.1 (by have := s.E.cnt_le; omega)) ⟨VLe.refl _,rfl,VLe.refl _,rfl,trivial⟩)<|zA rfl rfl (qS rfl rfl)<|zA rfl rfl (yJ rfl rfl rfl)<|zA rfl rfl (qW rfl rfl rfl)<|zA rfl rfl (qM 0 rfl el23 rfl rfl rfl (by omega) (by simp; omega))<|zA rfl rfl (yU rfl zBa rfl)<|zY rfl rfl (zT rfl sz52 rfl rfl rfl (zBr 0 rfl (zBs (by simp; omega)) rfl))<|rMv rfl<|zB<|sReg rfl<|rMv rfl<|zA rfl rfl (qV rfl rfl rfl)<|zB<|zG rfl (fun c4 => ?_) (fun c4 => ?_)
    ·try simp only [sx] at c4
     refine sReg rfl<|rMv rfl<|zA rfl rfl (qO 20 rfl rfl)<|rMv rfl<|zB<|zH<|fin2 (rs_c rfl) (rs_c rfl) ?_
     rw [zJw hs hp (mSt_e2 hmi (mEx_err c4))]; rfl
    ·try simp only [sx] at c4
     obtain ⟨de,hmE⟩ := mEx_0 c4
     rw [hmE]
     refine zK<|sReg rfl<|rMv rfl<|rMv rfl<|rMv rfl<|rMv rfl<|zA rfl rfl (zN rfl el23 rfl rfl (by omega) (kW hs))<|zA rfl rfl (zX rfl wN rfl)<|zA rfl rfl (zC rfl wL rfl qB rfl)<|rMv rfl<|rMv rfl<|zA rfl rfl (zR rfl ok93 (ih s (qC hs)) ⟨VLe.refl _,rfl,VLe.refl _,rfl,VLe.refl _,rfl,trivial⟩)<|zA rfl rfl (qS rfl rfl)<|zA rfl rfl (qW rfl rfl rfl)<|zA rfl rfl (qW rfl rfl rfl)<|zA rfl rfl (qM 0 rfl el23 rfl rfl rfl (by omega) (by simp; omega))<|zA rfl rfl (yU rfl wN rfl)<|zY rfl rfl (zT rfl sz23 rfl rfl rfl (zBr 0 rfl (zBs (by simp; omega)) rfl))<|rMv rfl<|zB<|sReg rfl<|rMv rfl<|zA rfl rfl (qV rfl rfl rfl)<|zB<|zG rfl (fun c5 => ?_) (fun c5 => ?_)
     ·try simp only [sx] at c5
      refine sReg rfl<|rMv rfl<|zA rfl rfl (qO 20 rfl rfl)<|rMv rfl<|zB<|zH<|fin2 (rs_c rfl) (rs_c rfl) ?_
      rw [zJw hs hp (mSt_e3 hmi hmE (mSts_err c5))]; rfl
     ·try simp only [sx] at c5
      obtain ⟨db,hmb⟩ := mSts_0 c5
      rw [hmb]
      have hms := mSt_ok hmi hmE hmb
      have hset : ∀ r,(outs.map St.cells ++ (l.drop k).map St.cells).set k r = (outs.map St.cells ++ [r]) ++ (l.drop (k + 1)).map St.cells := fun r => zHf (by simp; omega) hs
      have hset2 : ∀ r r',((outs.map St.cells ++ [r]) ++ (l.drop (k + 1)).map St.cells).set k r' = (outs.map St.cells ++ [r']) ++ (l.drop (k + 1)).map St.cells := fun r r' => mid_set' (α := St) (f := St.cells) (l := l) (by simp; omega)
      refine zK<|zS rfl<|zA rfl rfl (qA rfl rfl rfl ⟨by omega,by omega⟩)<|rMv rfl<|zB ?_
      refine ⟨⟨k + 1,outs ++ [.mk s.Op (if s.Op = 1 then g s.Name else s.Name) s.Many s.Mark s.Fold di de db]⟩,⟨by omega,by simp; omega,mSts_next hs hp hms⟩,(by show l.length - (k + 1) < l.length - k; omega),Weak.mk [true] ⟨VLe.refl _,VLe.refl _,VLe.refl _,VLe.refl _,VLe.refl _,VLe.refl _,trivial⟩ (by simp only [Int.toNat_natCast,List.set_set,hset,hset2]; simp only [List.map_append,List.map_cons,List.map_nil,St.cells_eq (.mk _ _ _ _ _ _ _ _)]; first | (rw [if_pos c2]; rfl) | (rw [if_neg c2]; rfl))⟩
  ·try simp only [sx] at c2
   refine zK<|zJ<|sReg rfl<|rMv rfl<|rMv rfl<|rMv rfl<|rMv rfl<|zA rfl rfl (zN rfl el23 rfl rfl (by omega) (kW hs))<|zA rfl rfl (zX rfl zBm rfl)<|zA rfl rfl (zC rfl kU rfl qB rfl)<|rMv rfl<|zA rfl rfl (zR rfl ok86 (zAo f c P hf s.Idx (by omega) (fun x hx => by have := zAt hx; rw [Ix.wt] at this; omega) hPs.1) ⟨VLe.refl _,rfl,VLe.refl _,rfl,trivial⟩)<|zA rfl rfl (qS rfl rfl)<|zA rfl rfl (qW rfl rfl rfl)<|zA rfl rfl (qW rfl rfl rfl)<|zA rfl rfl (qM 0 rfl el23 rfl rfl rfl (by omega) (zHg (by simp; omega) (by omega)))<|zA rfl rfl (yU rfl zBm rfl)<|zY rfl rfl (zT rfl sz44 rfl rfl rfl (zBr 0 rfl (mid_getS (by simp; omega) hs) rfl))<|rMv rfl<|zB<|sReg rfl<|rMv rfl<|zA rfl rfl (qV rfl rfl rfl)<|zB<|zG rfl (fun c3 => ?_) (fun c3 => ?_)
   ·try simp only [sx] at c3
    refine sReg rfl<|rMv rfl<|zA rfl rfl (qO 20 rfl rfl)<|rMv rfl<|zB<|zH<|fin2 (rs_c rfl) (rs_c rfl) ?_
    rw [zJw hs hp (mSt_e1 (mIxs_err c3))]; rfl
   ·try simp only [sx] at c3
    obtain ⟨di,hmi⟩ := mIxs_0 c3
    rw [hmi]
    refine zK<|zJ<|sReg rfl<|rMv rfl<|rMv rfl<|rMv rfl<|rMv rfl<|zA rfl rfl (zN rfl el23 rfl rfl (by omega) (kW hs))<|zA rfl rfl (zX rfl zBa rfl)<|zA rfl rfl (zE rfl yX rfl qB rfl)<|rMv rfl<|zA rfl rfl (zR rfl ok139 (zEi f c P hf s.E hPs.2.1 (by have := s.E.cnt_le; omega)) ⟨VLe.refl _,rfl,VLe.refl _,rfl,trivial⟩)<|zA rfl rfl (qS rfl rfl)<|zA rfl rfl (yJ rfl rfl rfl)<|zA rfl rfl (qW rfl rfl rfl)<|zA rfl rfl (qM 0 rfl el23 rfl rfl rfl (by omega) (by simp; omega))<|zA rfl rfl (yU rfl zBa rfl)<|zY rfl rfl (zT rfl sz52 rfl rfl rfl (zBr 0 rfl (zBs (by simp; omega)) rfl))<|rMv rfl<|zB<|sReg rfl<|rMv rfl<|zA rfl rfl (qV rfl rfl rfl)<|zB<|zG rfl (fun c4 => ?_) (fun c4 => ?_)
    ·try simp only [sx] at c4
     refine sReg rfl<|rMv rfl<|zA rfl rfl (qO 20 rfl rfl)<|rMv rfl<|zB<|zH<|fin2 (rs_c rfl) (rs_c rfl) ?_
     rw [zJw hs hp (mSt_e2 hmi (mEx_err c4))]; rfl
    ·try simp only [sx] at c4
     obtain ⟨de,hmE⟩ := mEx_0 c4
     rw [hmE]
     refine zK<|sReg rfl<|rMv rfl<|rMv rfl<|rMv rfl<|rMv rfl<|zA rfl rfl (zN rfl el23 rfl rfl (by omega) (kW hs))<|zA rfl rfl (zX rfl wN rfl)<|zA rfl rfl (zC rfl wL rfl qB rfl)<|rMv rfl<|rMv rfl<|zA rfl rfl (zR rfl ok93 (ih s (qC hs)) ⟨VLe.refl _,rfl,VLe.refl _,rfl,VLe.refl _,rfl,trivial⟩)<|zA rfl rfl (qS rfl rfl)<|zA rfl rfl (qW rfl rfl rfl)<|zA rfl rfl (qW rfl rfl rfl)<|zA rfl rfl (qM 0 rfl el23 rfl rfl rfl (by omega) (by simp; omega))<|zA rfl rfl (yU rfl wN rfl)<|zY rfl rfl (zT rfl sz23 rfl rfl rfl (zBr 0 rfl (zBs (by simp; omega)) rfl))<|rMv rfl<|zB<|sReg rfl<|rMv rfl<|zA rfl rfl (qV rfl rfl rfl)<|zB<|zG rfl (fun c5 => ?_) (fun c5 => ?_)
     ·try simp only [sx] at c5
      refine sReg rfl<|rMv rfl<|zA rfl rfl (qO 20 rfl rfl)<|rMv rfl<|zB<|zH<|fin2 (rs_c rfl) (rs_c rfl) ?_
      rw [zJw hs hp (mSt_e3 hmi hmE (mSts_err c5))]; rfl
     ·try simp only [sx] at c5
      obtain ⟨db,hmb⟩ := mSts_0 c5
      rw [hmb]
      have hms := mSt_ok hmi hmE hmb
      have hset : ∀ r,(outs.map St.cells ++ (l.drop k).map St.cells).set k r = (outs.map St.cells ++ [r]) ++ (l.drop (k + 1)).map St.cells := fun r => zHf (by simp; omega) hs
      have hset2 : ∀ r r',((outs.map St.cells ++ [r]) ++ (l.drop (k + 1)).map St.cells).set k r' = (outs.map St.cells ++ [r']) ++ (l.drop (k + 1)).map St.cells := fun r r' => mid_set' (α := St) (f := St.cells) (l := l) (by simp; omega)
      refine zK<|zS rfl<|zA rfl rfl (qA rfl rfl rfl ⟨by omega,by omega⟩)<|rMv rfl<|zB ?_
      refine ⟨⟨k + 1,outs ++ [.mk s.Op (if s.Op = 1 then g s.Name else s.Name) s.Many s.Mark s.Fold di de db]⟩,⟨by omega,by simp; omega,mSts_next hs hp hms⟩,(by show l.length - (k + 1) < l.length - k; omega),Weak.mk [true] ⟨VLe.refl _,VLe.refl _,VLe.refl _,VLe.refl _,VLe.refl _,VLe.refl _,trivial⟩ (by simp only [Int.toNat_natCast,List.set_set,hset,hset2]; simp only [List.map_append,List.map_cons,List.map_nil,St.cells_eq (.mk _ _ _ _ _ _ _ _)]; first | (rw [if_pos c2]; rfl) | (rw [if_neg c2]; rfl))⟩
 ·try simp only [sx] at c1
  have hme := mSts_end hp (by omega)
  rw [yR (l := l) (k := k) (by omega)]
  simp only [List.map_nil,List.append_nil]
  refine zV _ (yF 0 rfl (regs' := [(8,_)]) (μ' := []) ⟨FLe.sl,trivial⟩ trivial)<|qI<|sReg rfl<|rMv rfl<|rMv rfl<|rMv rfl<|zB<|zH<|fin2 (rs_c rfl) (rs_c rfl) ?_
  rw [hme]; rfl
theorem zEo (f : Lf → Lf × Int) (c : C) (P : Lf → Prop) (hf : ∀ l,P l → FnPur cfg c [vLin l] (.tup [vLin (f l).1,vI (f l).2])) (g : ByteArray → ByteArray) (c9 : C) (hg : ∀ s,FnPur cfg c9 [vS s] (vS (g s))) (s : St) (hP : allSs P s.Body) (hl : stsWt s.Body ≤ 1073741824) : Pur cfg 93 [vSts s.Body,.c c,.c c9] (.tup [vSts (outS (mSts f g s.Body)),vI (errE (mSts f g s.Body))]):= by
  induction s using St.ind with
  | _ s ih => exact zAz f c P hf g c9 hg s.Body hP (fun a ha => ih a ha (St.allF_eq (zJc hP a ha)).2.2 (by have := yK ha; have := St.body_wt a; omega)) hl
theorem zJx (f : Lf → Lf × Int) (c : C) (P : Lf → Prop) (hf : ∀ l,P l → FnPur cfg c [vLin l] (.tup [vLin (f l).1,vI (f l).2])) (g : ByteArray → ByteArray) (c9 : C) (hg : ∀ s,FnPur cfg c9 [vS s] (vS (g s))) (l : List St) (hP : allSs P l) (hl : stsWt l ≤ 1073741824) : Pur cfg 93 [vSts l,.c c,.c c9] (.tup [vSts (outS (mSts f g l)),vI (errE (mSts f g l))]) :=
  zAz f c P hf g c9 hg l hP (fun s hs => zEo f c P hf g c9 hg s (St.allF_eq (zJc hP s hs)).2.2 (by have := yK hs; have := St.body_wt s; omega)) hl
theorem zLc (l : Lf) (hl : l.L.length ≤ 1073741824) :
    Pur cfg 99 [vLin l] (vLin l):= by
 refine zU Tryz.func99 rfl Tryz.ntmps99 Tryz.results99 rfl ?_
 intro z hz
 refine sReg rfl<|zZ rfl rfl (qL rfl rfl) ?_
 rintro _ _ ⟨b1,rfl,rfl⟩
 refine zZ rfl rfl (qK [none,some 2] rfl zr49 rfl) ?_
 rintro _ _ ⟨b2,rfl,rfl⟩
 refine zB<|zJ<|yI 6 mixed (by kernel_rfl) rfl rfl<|zM rfl rfl (zD rfl zOf rfl)<|zM rfl rfl (zC rfl one2 rfl (zF 1 rfl) rfl)<|zM rfl rfl (zD rfl wZ rfl)<|zM rfl rfl (zC rfl zCq rfl (zF 1 rfl) rfl)<|zM rfl rfl (zR rfl ok146 (OwnR.pur (zJk l.L (by omega))) ⟨VLe.refl _,rfl,trivial⟩)<|zM rfl rfl (qX rfl zr49 pl49 rfl)<|kI<|zY rfl rfl (zT rfl sz49 rfl rfl rfl (qF 0 rfl rfl))<|zB<|zH<|fin1 (qG kX rfl (zF 0 rfl) rfl) ?_
 exact rfl
theorem copyStmts_1 (l : Lf) (hl : l.L.length ≤ 1073741824) :
    Pur cfg 126 [vLin l] (.tup [vLin (idF l).1,vI (idF l).2]):= by
 refine zU Tryz.func126 rfl Tryz.ntmps126 Tryz.results126 rfl ?_
 intro z hz
 refine sReg rfl<|zZ rfl rfl (qL rfl rfl) ?_
 rintro _ _ ⟨b1,rfl,rfl⟩
 refine zZ rfl rfl (qK [none,some 2] rfl zr49 rfl) ?_
 rintro _ _ ⟨b2,rfl,rfl⟩
 refine rMv rfl<|zB<|sReg rfl<|zA rfl rfl (zE rfl kX rfl (zF 1 rfl) rfl)<|zA rfl rfl (zR rfl ok99 (zLc l hl) ⟨VLe.refl _,rfl,trivial⟩)<|zY rfl rfl (zT rfl sz49 rfl rfl rfl (qF 0 rfl rfl))<|rMv rfl<|zB<|zH<|fin2 (qG kX rfl (zF 0 rfl) rfl) (rs_c rfl) ?_
 exact rfl
theorem loopnest_same (s : ByteArray) :
    Pur cfg 96 [vS s] (vS s):= by
 refine zU Tryz.func96 rfl Tryz.ntmps96 Tryz.results96 rfl ?_
 intro z hz
 refine sReg rfl<|rMv rfl<|zB<|sReg rfl<|rMv rfl<|rMv rfl<|zB<|zH<|fin1 (rs_c rfl) ?_
 exact rfl
theorem zIg (l : List St) (hl : stsWt l ≤ 1073741824) :
    Pur cfg 77 [vSts l] (vSts l):= by
 refine zU Tryz.func77 rfl Tryz.ntmps77 Tryz.results77 rfl ?_
 intro z hz
 refine sReg rfl<|zA rfl rfl (qO 20 rfl rfl)<|zB<|sReg rfl<|rMv rfl<|zA rfl rfl (zR rfl ok93 (zJx idF _ (fun l => l.L.length ≤ 1073741824) (fun l hl => FnPur.of_pur (first := []) (cap := []) ok126 (copyStmts_1 l hl)) (fun x => x) _ (fun s => FnPur.of_pur (first := []) (cap := []) ok96 (loopnest_same s)) l (sts_short hl) hl) ⟨VLe.refl _,rfl,VLe.refl _,rfl,VLe.refl _,rfl,trivial⟩)<|zA rfl rfl (qS rfl rfl)<|zA rfl rfl (qW rfl rfl rfl)<|zA rfl rfl (qW rfl rfl rfl)<|rMv rfl<|rMv rfl<|zB<|sReg rfl<|rMv rfl<|rMv rfl<|zB<|zH<|fin1 (rs_c rfl) ?_
 rw [mSts_id]; rfl
theorem loopnest_At (n : Ns) (way : List Int) (hw : way.length ≤ 1073741824) (hl : stsWt n.Body ≤ 1000000000) :
    Pur cfg 27 [vNs n,vIs way] (.tup [vSt (atT n.Body way).1,vB (atT n.Body way).2]):= by
 refine zU Tryz.func27 rfl Tryz.ntmps27 Tryz.results27 rfl ?_
 intro z hz
 have htl := trl_len way n.Body []
 have htl2 : (trailT n.Body way).length ≤ way.length:= by unfold trailT; simpa using htl
 refine sReg rfl<|zZ rfl rfl (qL rfl rfl) ?_
 rintro _ _ ⟨b1,rfl,rfl⟩
 refine zZ rfl rfl (qK [none,none,none,none,none,some 4,none,none,none,none,none,none,none,none,none,none,some 2,some 4,some 13,some 20] rfl zr54 rfl) ?_
 rintro _ _ ⟨b2,rfl,rfl⟩
 refine rMv rfl<|zB<|sReg rfl<|zA rfl rfl (zD rfl zBn rfl)<|zA rfl rfl (zC rfl wL rfl (zF 1 rfl) rfl)<|rMv rfl<|zA rfl rfl (zR rfl ok76 (zGm n.Body way hw) ⟨VLe.refl _,rfl,VLe.refl _,rfl,trivial⟩)<|rMv rfl<|zB<|zJ<|sReg rfl<|rMv rfl<|zA rfl rfl (zP rfl el23 rfl)<|zA rfl rfl (qH rfl rfl rfl)<|zB<|zG rfl (fun c1 => ?_) (fun c1 => ?_)
 ·try simp only [sx] at c1
  have he : trailT n.Body way = [] := List.eq_nil_of_length_eq_zero (by omega)
  have ha := at_none he
  refine sReg rfl<|zA rfl rfl (yY [none,none,none,none,none,some 4,none,none,none,none,none,none,none,none,none,none,some 2,some 4,some 13,some 20] rfl zr54 pl54 rfl rfl)<|zY rfl rfl (zT rfl sz54 rfl rfl rfl (qF 0 rfl rfl))<|rMv rfl<|zB<|zH<|fin2 (qG zCt rfl (zF 0 rfl) rfl) (rs_c rfl) ?_
  rw [ha]; rfl
 ·try simp only [sx] at c1
  have hne : trailT n.Body way ≠ [] := fun h => c1 (by rw [h]; rfl)
  have hlast := at_last hne
  have hok := at_some hne
  refine zK<|sReg rfl<|rMv rfl<|rMv rfl<|zA rfl rfl (zP rfl el23 rfl)<|zA rfl rfl (yA rfl rfl rfl ⟨by omega,by omega⟩)<|zA rfl rfl (zKu (k := (trailT n.Body way).length - 1) rfl el23 rfl (congrArg (fun n => V.c (C.lit (.int .i64 n))) (by have := List.length_pos_iff.2 hne; omega)) (by omega))<|zA rfl rfl (zR rfl ok77 (show Pur cfg 77 [vSts ((trailT n.Body way).drop ((trailT n.Body way).length - 1))] (vSts [(atT n.Body way).1]) by rw [hlast]; exact zIg [(atT n.Body way).1] (by have := atT_wt (l := n.Body) (way := way); simp only [stsWt]; omega)) ⟨VLe.refl _,rfl,trivial⟩)<|zA rfl rfl (zN rfl el23 rfl rfl (by omega) (show ([(atT n.Body way).1].map St.cells)[0]? = some (atT n.Body way).1.cs by rw [← St.cells_eq]; rfl))<|zA rfl rfl (zE rfl zCt rfl qB rfl)<|zY rfl rfl (zT rfl sz54 rfl rfl rfl (qF 0 rfl rfl))<|rMv rfl<|zB<|zH<|fin2 (qG zCt rfl (zF 0 rfl) rfl) (rs_c rfl) ?_
  rw [hok]; rfl
end Go.W
