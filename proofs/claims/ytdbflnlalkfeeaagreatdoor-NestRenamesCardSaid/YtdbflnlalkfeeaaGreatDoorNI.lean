/-
  Walks: what functions of the program compute. Printed by wip/gen/mk2.py.
  Conditions: none.
-/
import Derived.Test.YtdbflnlalkfeeaaGreatDoorNG
import Derived.Test.YtdbflnlalkfeeaaGreatDoorPlain2
set_option maxRecDepth 10000
namespace Go.W
open Go Go.Eng Go.Proofs Go.L41 Go.Br
attribute [local irreducible] AWP RWP TD finQ
theorem ok86 : callOk Tryz.prog 86 = true:= by kernel_rfl
theorem ok93 : callOk Tryz.prog 93 = true:= by kernel_rfl
theorem ok96 : callOk Tryz.prog 96 = true:= by kernel_rfl
theorem ok99 : callOk Tryz.prog 99 = true:= by kernel_rfl
theorem ok133 : callOk Tryz.prog 133 = true:= by kernel_rfl
theorem ok134 : callOk Tryz.prog 134 = true:= by kernel_rfl
theorem ok138 : callOk Tryz.prog 138 = true:= by kernel_rfl
theorem ok139 : callOk Tryz.prog 139 = true:= by kernel_rfl
theorem ok146 : callOk Tryz.prog 146 = true:= by kernel_rfl
theorem ok175 : callOk Tryz.prog 175 = true:= by kernel_rfl
theorem sz9 : (Tryz.prog.info? 9).map (·.size) = some 1:= by kernel_rfl
theorem zOg (l : List St) (hl : l.length ≤ 4294967296) :
    OwnR cfg 138 [vSts l] 54 20 (l.map St.cells):= by
 refine zV Tryz.func138 rfl Tryz.ntmps138 Tryz.results138 rfl ?_
 intro z hz
 refine sReg rfl<|zA rfl rfl (qW 20 rfl rfl)<|zB<|zJ<|sReg rfl<|rMv rfl<|zY rfl rfl (zDp rfl el23 rfl rfl) ?_
 rintro _ _ ⟨nb1,rfl,hnil1,rfl⟩
 refine zB<|zG rfl (fun c1 => ?_) (fun c1 => ?_)
 ·try simp only [sx] at c1
  refine sReg rfl<|rMv rfl<|qY _ (yR 54 20)<|zB<|zH<|fin1 (rs_c rfl) ?_
  exact ⟨_,rfl,by rw [hnil1 c1]⟩
 ·try simp only [sx] at c1
  refine zK<|sReg rfl<|zY rfl rfl (zCm rfl el23 zr54 rfl rfl rfl rfl) ?_
  rintro _ _ ⟨sv3,rfl,rfl⟩
  refine rMv rfl<|zY rfl rfl (yB 0 rfl el23 rfl rfl rfl (by simp only [List.length_map,List.length_nil,Nat.zero_add]; omega) (by simp only [List.length_map,List.length_nil,Nat.zero_add]; omega)) ?_
  rintro _ _ ⟨sv4,rfl,rfl⟩
  refine rMv rfl<|zB<|zH<|fin1 (rs_c rfl) ?_
  exact ⟨_,rfl,rfl⟩
theorem zAx (f : Lf → Lf × Int) (c : C) (P : Lf → Prop) (hf : ∀ l,P l → FnPur cfg c [vLin l] (.tup [vLin (f l).1,vI (f l).2])) (i : List Ix) (hi : i.length ≤ 4294967296) (hA : ∀ x,x ∈ i → x.At.length ≤ 4294967296) (hP : ixsAll P i) :
    Pur cfg 86 [vIndices i,.c c] (.tup [vIndices (outIs (mIxs f i)),vI (errE (mIxs f i))]):= by
 refine zV Tryz.func86 rfl Tryz.ntmps86 Tryz.results86 rfl ?_
 intro z hz
 refine sReg rfl<|zA rfl rfl (qW 4 rfl rfl)<|rMv rfl<|zB<|sReg rfl<|rMv rfl<|zY rfl rfl (wX rfl ok133 (zFr i hi) ⟨VLe.refl _,rfl,trivial⟩) ?_
 rintro _ _ ⟨sv1,rfl,rfl⟩
 refine rMv rfl<|zB<|sReg rfl<|rMv rfl<|zB<|zJ<|sReg rfl<|rMv rfl<|zA rfl rfl (zT rfl el44 rfl)<|rMv rfl<|zB<|zU<|zX ⟨[(14,.c _),(0,.c _),(1,.c _),(6,.c _),(13,.c _)],[_]⟩ (Weak.mk [true] ⟨VLe.of_eq rfl,VLe.of_eq rfl,VLe.of_eq rfl,VLe.of_eq rfl,VLe.of_eq rfl,trivial⟩ rfl)<|qI 1 1 rfl rfl (Nat × List Ix) (fun ⟨k,outs⟩ => [(14,vI k)]) (fun ⟨k,outs⟩ => [E.vec sv1 114 4 (outs.map Ix.cells ++ (i.drop k).map Ix.cells)]) (fun ⟨k,outs⟩ => k ≤ i.length ∧ (outs.length = k) ∧ (mIxs f i = mapRest outs (mIxs f (i.drop k)))) (fun ⟨k,outs⟩ => i.length - k) ⟨⟨0,[]⟩,⟨by omega,rfl,(wY _).symm⟩,Weak.mk [true] ⟨VLe.refl _,VLe.refl _,VLe.refl _,VLe.refl _,VLe.refl _,trivial⟩ rfl⟩ ?_
 rintro ⟨k,outs⟩ ⟨hk,ho,hp⟩
 show AWP _ _ _ _ _ ⟨[(14,vI k)] ++ _,[E.vec sv1 114 4 (outs.map Ix.cells ++ (i.drop k).map Ix.cells)] ++ _⟩
 refine sReg rfl<|zA rfl rfl (qL rfl rfl rfl)<|zB<|zJ<|zG rfl (fun c1 => ?_) (fun c1 => ?_)
 ·try simp only [sx] at c1
  obtain ⟨x,hx⟩ := qZ i k (by omega)
  have hAx := hA x (qB hx)
  refine zK<|zJ<|zU<|sReg rfl<|rMv rfl<|rMv rfl<|zB<|zJ<|sReg rfl<|rMv rfl<|rMv rfl<|rMv rfl<|rMv rfl<|rMv rfl<|zA rfl rfl (zP rfl el44 rfl rfl (by omega) (getm (by assumption)))<|zA rfl rfl (zZ rfl zAy rfl)<|zA rfl rfl (zF rfl yI rfl qA rfl)<|zA rfl rfl (wC rfl rfl (hf x.Lin (hP x (qB hx)).1) ⟨VLe.refl _,rfl,trivial⟩)<|zA rfl rfl (qK rfl rfl)<|zA rfl rfl (yE rfl rfl rfl)<|zA rfl rfl (qN rfl rfl rfl)<|zA rfl rfl (qQ 0 rfl el44 rfl rfl rfl (by omega) (zIj (by simp; omega) (by omega)))<|zA rfl rfl (kD rfl zAy rfl)<|zS rfl rfl (zO rfl sz49 rfl rfl rfl (zCq 0 rfl (zLe (by simp; omega) hx) rfl))<|rMv rfl<|zB<|sReg rfl<|rMv rfl<|zA rfl rfl (qS rfl rfl rfl)<|zB<|zG rfl (fun c2 => ?_) (fun c2 => ?_)
  ·try simp only [sx] at c2
   refine sReg rfl<|rMv rfl<|zA rfl rfl (qW 4 rfl rfl)<|rMv rfl<|zB<|zH<|fin2 (rs_c rfl) (rs_c rfl) ?_
   rw [mIxs_no hx hp (mIx_e1 c2)]; rfl
  ·try simp only [sx] at c2
   refine zK<|sReg rfl<|rMv rfl<|rMv rfl<|rMv rfl<|rMv rfl<|zA rfl rfl (zP rfl el44 rfl rfl (by omega) (getm (by assumption)))<|zA rfl rfl (zZ rfl kG rfl)<|zA rfl rfl (zD rfl wI rfl qA rfl)<|zY rfl rfl (wX rfl ok134 (zEz x.At (hA x (qB hx))) ⟨VLe.refl _,rfl,trivial⟩) ?_
   rintro _ _ ⟨sv2,rfl,rfl⟩
   refine zA rfl rfl (qQ 1 rfl el44 rfl rfl rfl (by omega) (by simp; omega))<|zA rfl rfl (kD rfl kG rfl)<|zS rfl rfl (zO rfl sz112 rfl rfl rfl (zCq 1 rfl (zCr (by simp; omega)) rfl))<|zB<|sReg rfl<|rMv rfl<|rMv rfl<|zA rfl rfl (zP rfl el44 rfl rfl (by omega) (getm (by assumption)))<|zA rfl rfl (zZ rfl kG rfl)<|zA rfl rfl (zD rfl wI rfl qA rfl)<|zA rfl rfl (zT rfl wK rfl)<|rMv rfl<|zB<|zU<|zX ⟨[(50,.c _),(0,.c _),(1,.c _),(6,.c _),(8,.c _),(13,.c _),(14,.c _),(49,.c _)],[_,_]⟩ (Weak.mk [true,true] ⟨VLe.of_eq rfl,VLe.of_eq rfl,VLe.of_eq rfl,VLe.of_eq rfl,VLe.of_eq rfl,VLe.of_eq rfl,VLe.of_eq rfl,VLe.of_eq rfl,trivial⟩ rfl)<|qI 1 1 rfl rfl (Nat × List Lf) (fun ⟨j,lins⟩ => [(50,vI j)]) (fun ⟨j,lins⟩ => [E.vec sv2 49 2 (lins.map Lf.cells ++ (x.At.drop j).map Lf.cells)]) (fun ⟨j,lins⟩ => j ≤ x.At.length ∧ (lins.length = j) ∧ (mLins f x.At = mapRest lins (mLins f (x.At.drop j)))) (fun ⟨j,lins⟩ => x.At.length - j) ⟨⟨0,[]⟩,⟨by omega,rfl,(wY _).symm⟩,Weak.mk [true,true] ⟨VLe.refl _,VLe.refl _,VLe.refl _,VLe.refl _,VLe.refl _,VLe.refl _,VLe.refl _,VLe.refl _,trivial⟩ rfl⟩ ?_
   rintro ⟨j,lins⟩ ⟨hj,hlo,hq⟩
   show AWP _ _ _ _ _ ⟨[(50,vI j)] ++ _,[E.vec sv2 49 2 (lins.map Lf.cells ++ (x.At.drop j).map Lf.cells)] ++ _⟩
   refine sReg rfl<|zA rfl rfl (qL rfl rfl rfl)<|zB<|zJ<|zG rfl (fun c3 => ?_) (fun c3 => ?_)
   ·try simp only [sx] at c3
    obtain ⟨l,hl⟩ := qZ x.At j (by omega)
    refine zK<|zJ<|zU<|sReg rfl<|rMv rfl<|rMv rfl<|zB<|zJ<|kH 21 0 [⟨0,.q []⟩,⟨1,.q []⟩,⟨2,.q [1]⟩,⟨3,.q []⟩,⟨4,.q [1]⟩,⟨5,.q []⟩,⟨6,.q []⟩,⟨7,.q []⟩,⟨8,.q []⟩,⟨9,.q []⟩,⟨10,.q []⟩,⟨11,.q []⟩,⟨12,.q []⟩,⟨13,.q []⟩,⟨14,.q []⟩,⟨15,.q []⟩,⟨16,.q []⟩,⟨17,.q []⟩,⟨18,.q []⟩,⟨19,.q [0]⟩,⟨20,.e 0 []⟩] mixed (by kernel_rfl) (by kernel_rfl) rfl rfl rfl<|zW rfl<|zW rfl<|zW rfl<|zW rfl<|zW rfl<|zW rfl<|zW rfl<|zW rfl<|zW rfl<|zW rfl<|zW rfl<|zW rfl<|zW rfl<|zW rfl<|zW rfl<|zW rfl<|zW rfl<|zW rfl<|zW rfl<|zW rfl<|zW rfl<|zBl<|qD rfl (by decide) rfl rfl (zN rfl rfl)<|qD rfl (by decide) rfl rfl (zN rfl rfl)<|qD rfl (by decide) rfl rfl (qQ 0 rfl el44 rfl rfl rfl (by omega) (by simp; omega))<|qD rfl (by decide) rfl rfl (kD rfl kG rfl)<|qD rfl (by decide) rfl rfl (zD rfl wI rfl (wG 0 rfl (zCr (by simp; omega))) rfl)<|qD rfl (by decide) rfl rfl (zN rfl rfl)<|qD rfl (by decide) rfl rfl (zN rfl rfl)<|qD rfl (by decide) rfl rfl (zN rfl rfl)<|qD rfl (by decide) rfl rfl (zN rfl rfl)<|qD rfl (by decide) rfl rfl (zP rfl el44 rfl rfl (by omega) (getm (by assumption)))<|qD rfl (by decide) rfl rfl (zZ rfl kG rfl)<|qD rfl (by decide) rfl rfl (zD rfl wI rfl qA rfl)<|qD rfl (by decide) rfl rfl (zN rfl rfl)<|qD rfl (by decide) rfl rfl (zP rfl wK rfl rfl (by omega) (getm (by assumption)))<|qD rfl (by decide) rfl rfl (zF rfl yI rfl qA rfl)<|qD rfl (by decide) rfl rfl (wC rfl rfl (hf l ((hP x (qB hx)).2 l (qB hl))) ⟨VLe.refl _,rfl,trivial⟩)<|qD rfl (by decide) rfl rfl (qK rfl rfl)<|qD rfl (by decide) rfl rfl (yE rfl rfl rfl)<|qD rfl (by decide) rfl rfl (qN rfl rfl rfl)<|qD rfl (by decide) rfl rfl (qQ 0 rfl wK rfl rfl rfl (by omega) (zIj (by simp; omega) (by omega)))<|zEy rfl rfl (by decide) rfl rfl (zO rfl sz49 rfl rfl rfl (zCq 0 rfl (zLe (by simp; omega) hl) rfl)) ?_
    rintro _ _ ⟨rfl,rfl⟩
    refine ⟨_,rfl,?_⟩
    refine zBi rfl<|rMv rfl<|zB<|sReg rfl<|rMv rfl<|zA rfl rfl (qS rfl rfl rfl)<|zB<|zG rfl (fun c4 => ?_) (fun c4 => ?_)
    ·try simp only [sx] at c4
     refine sReg rfl<|rMv rfl<|zA rfl rfl (qW 4 rfl rfl)<|rMv rfl<|zB<|zH<|fin2 (rs_c rfl) (rs_c rfl) ?_
     rw [mIxs_no hx hp (mIx_e2 c2 (mLins_no hl hq c4))]; rfl
    ·try simp only [sx] at c4
     refine zK<|zR rfl<|zA rfl rfl (qC rfl rfl rfl ⟨by omega,by omega⟩)<|rMv rfl<|zB ?_
     refine ⟨⟨j + 1,lins ++ [(f l).1]⟩,⟨by omega,by simp; omega,mLins_next hl hq c4⟩,(by show x.At.length - (j + 1) < x.At.length - j; omega),Weak.mk [true,true] ⟨VLe.refl _,VLe.refl _,VLe.refl _,VLe.refl _,VLe.refl _,VLe.refl _,VLe.refl _,VLe.refl _,trivial⟩ (by simp only [Int.toNat_natCast]; rw [zIi (by simp; omega) hl]; simp only [List.map_append,List.map_cons,List.map_nil]; rfl)⟩
   ·try simp only [sx] at c3
    have hml := mLins_end hq (by omega)
    rw [yX (l := x.At) (k := j) (by omega)]
    simp only [List.map_nil,List.append_nil]
    refine zX _ (qX 0 rfl (regs' := []) (μ' := [_]) trivial ⟨EFle.vec (r' := [_,_,_,_]) (zCr (by simp; omega)) ⟨.inl rfl,.inl rfl,.inl rfl,.inr ⟨rfl,rfl⟩,trivial⟩,trivial⟩)<|qO<|zR rfl<|zA rfl rfl (qC rfl rfl rfl ⟨by omega,by omega⟩)<|rMv rfl<|zB ?_
    refine ⟨⟨k + 1,outs ++ [⟨(f x.Lin).1,x.From,lins⟩]⟩,⟨by omega,by simp; omega,mIxs_next hx hp (mIx_ok c2 hml)⟩,(by show i.length - (k + 1) < i.length - k; omega),Weak.mk [true] ⟨VLe.refl _,VLe.refl _,VLe.refl _,VLe.refl _,VLe.refl _,trivial⟩ (by simp only [Int.toNat_natCast,List.set_set]; rw [zIi (by simp; omega) hx]; simp only [List.map_append,List.map_cons,List.map_nil]; rfl)⟩
 ·try simp only [sx] at c1
  have hmi := mIxs_end hp (by omega)
  rw [yX (l := i) (k := k) (by omega)]
  simp only [List.map_nil,List.append_nil]
  refine zX _ (qX 0 rfl (regs' := [(6,_)]) (μ' := []) ⟨FLe.sl,trivial⟩ trivial)<|qO<|sReg rfl<|rMv rfl<|rMv rfl<|rMv rfl<|zB<|zH<|fin2 (rs_c rfl) (rs_c rfl) ?_
  rw [hmi]; rfl
theorem zGe (f : Lf → Lf × Int) (c : C) (P : Lf → Prop) (hf : ∀ l,P l → FnPur cfg c [vLin l] (.tup [vLin (f l).1,vI (f l).2])) (e : Ex) (hP : e.allF P) (ih : ∀ a,a ∈ e.Args → a.allF P → a.cnt ≤ 4294967296 → Pur cfg 139 [vE a,.c c] (.tup [vE (outE (mEx f a)),vI (errE (mEx f a))])) (he : e.cnt ≤ 4294967296) :
    Pur cfg 139 [vE e,.c c] (.tup [vE (outE (mEx f e)),vI (errE (mEx f e))]):= by
 refine zV Tryz.func139 rfl Tryz.ntmps139 Tryz.results139 rfl ?_
 intro z hz
 obtain ⟨hI,hA,hAt⟩ := e.cparts he
 have hPI := ixsAll_of hP
 refine sReg rfl<|zY rfl rfl (qM rfl rfl) ?_
 rintro _ _ ⟨b1,rfl,rfl⟩
 refine zY rfl rfl (qH [none,none,none,none,none,none,none,none,none,none,some 2,some 4,some 13] rfl zr52 rfl) ?_
 rintro _ _ ⟨b2,rfl,rfl⟩
 refine rMv rfl<|zB<|sReg rfl<|zA rfl rfl (zF rfl yY rfl (zE 1 rfl) rfl)<|zY rfl rfl (qH [none,none,none,none,none,none,none,none,none,none,some 2,some 4,some 13] rfl zr52 rfl) ?_
 rintro _ _ ⟨b3,rfl,rfl⟩
 refine zS rfl rfl (zO rfl sz52 rfl rfl rfl (qE 0 rfl rfl))<|zB<|sReg rfl<|rMv rfl<|zB<|zJ<|sReg rfl<|rMv rfl<|zA rfl rfl (zC rfl zCy rfl)<|zA rfl rfl (zF rfl yI rfl (zE 2 rfl) rfl)<|zA rfl rfl (wC rfl rfl (hf e.Lin (Ex.allF_lin hP)) ⟨VLe.refl _,rfl,trivial⟩)<|zA rfl rfl (qK rfl rfl)<|zA rfl rfl (yE rfl rfl rfl)<|zA rfl rfl (qN rfl rfl rfl)<|zA rfl rfl (zC rfl zCy rfl)<|zS rfl rfl (zO rfl sz49 rfl rfl rfl (qE 0 rfl rfl))<|rMv rfl<|zB<|sReg rfl<|rMv rfl<|zA rfl rfl (qS rfl rfl rfl)<|zB<|zG rfl (fun c1 => ?_) (fun c1 => ?_)
 ·try simp only [sx] at c1
  refine sReg rfl<|zA rfl rfl (yK [none,none,none,none,none,none,none,none,none,none,some 2,some 4,some 13] rfl zr52 pl52 rfl rfl)<|rMv rfl<|zS rfl rfl (zO rfl sz52 rfl rfl rfl (qE 1 rfl rfl))<|rMv rfl<|zB<|zH<|fin2 (qF yY rfl (zE 1 rfl) rfl) (rs_c rfl) ?_
  rw [mEx_e1 c1]; rfl
 ·try simp only [sx] at c1
  refine zK<|zJ<|sReg rfl<|zA rfl rfl (zC rfl kR rfl)<|zA rfl rfl (zD rfl wF rfl (zE 2 rfl) rfl)<|rMv rfl<|zA rfl rfl (zQ rfl ok86 (zAx f c P hf e.Idx hI hAt hPI) ⟨VLe.refl _,rfl,VLe.refl _,rfl,trivial⟩)<|zA rfl rfl (qK rfl rfl)<|zA rfl rfl (qN rfl rfl rfl)<|zA rfl rfl (qN rfl rfl rfl)<|zA rfl rfl (zC rfl kR rfl)<|zS rfl rfl (zO rfl sz44 rfl rfl rfl (qE 0 rfl rfl))<|rMv rfl<|zB<|sReg rfl<|rMv rfl<|zA rfl rfl (qS rfl rfl rfl)<|zB<|zG rfl (fun c2 => ?_) (fun c2 => ?_)
  ·try simp only [sx] at c2
   refine sReg rfl<|zA rfl rfl (yK [none,none,none,none,none,none,none,none,none,none,some 2,some 4,some 13] rfl zr52 pl52 rfl rfl)<|rMv rfl<|zS rfl rfl (zO rfl sz52 rfl rfl rfl (qE 1 rfl rfl))<|rMv rfl<|zB<|zH<|fin2 (qF yY rfl (zE 1 rfl) rfl) (rs_c rfl) ?_
   rw [mEx_e2 c1 (mIxs_err c2)]; rfl
  ·try simp only [sx] at c2
   obtain ⟨di,hmi⟩ := mIxs_0 c2
   rw [hmi]
   refine zK<|sReg rfl<|zA rfl rfl (zC rfl wM rfl)<|zA rfl rfl (zD rfl zCu rfl (zE 2 rfl) rfl)<|zY rfl rfl (wX rfl ok175 (zOh e.Args hA) ⟨VLe.refl _,rfl,trivial⟩) ?_
   rintro _ _ ⟨sv4,rfl,rfl⟩
   refine zA rfl rfl (zC rfl wM rfl)<|zS rfl rfl (zO rfl sz50 rfl rfl rfl (qE 1 rfl rfl))<|zB<|zJ<|sReg rfl<|zA rfl rfl (zC rfl wM rfl)<|zA rfl rfl (zD rfl zCu rfl (zE 3 rfl) rfl)<|zA rfl rfl (zT rfl el50 rfl)<|rMv rfl<|zB<|zU<|zX ⟨[(41,.c _),(1,.c _),(2,.c _),(4,.c _),(6,.c _),(40,.c _)],[_,_,_,_]⟩ (Weak.mk [true,true,true,true] ⟨VLe.of_eq rfl,VLe.of_eq rfl,VLe.of_eq rfl,VLe.of_eq rfl,VLe.of_eq rfl,VLe.of_eq rfl,trivial⟩ rfl)<|qI 1 1 rfl rfl (Nat × List Ex) (fun ⟨n,exs⟩ => [(41,vI n)]) (fun ⟨n,exs⟩ => [E.vec sv4 52 13 (exs.map Ex.cells ++ (e.Args.drop n).map Ex.cells)]) (fun ⟨n,exs⟩ => n ≤ e.Args.length ∧ (exs.length = n) ∧ (mExs f e.Args = mapRest exs (mExs f (e.Args.drop n)))) (fun ⟨n,exs⟩ => e.Args.length - n) ⟨⟨0,[]⟩,⟨by omega,rfl,(wY _).symm⟩,Weak.mk [true,true,true,true] ⟨VLe.refl _,VLe.refl _,VLe.refl _,VLe.refl _,VLe.refl _,VLe.refl _,trivial⟩ rfl⟩ ?_
   rintro ⟨n,exs⟩ ⟨hn,hno,hr⟩
   show AWP _ _ _ _ _ ⟨[(41,vI n)] ++ _,[E.vec sv4 52 13 (exs.map Ex.cells ++ (e.Args.drop n).map Ex.cells)] ++ _⟩
   refine sReg rfl<|zA rfl rfl (qL rfl rfl rfl)<|zB<|zJ<|zG rfl (fun c3 => ?_) (fun c3 => ?_)
   ·try simp only [sx] at c3
    obtain ⟨a,ha⟩ := qZ e.Args n (by omega)
    refine zK<|zJ<|zU<|sReg rfl<|rMv rfl<|rMv rfl<|zB<|zJ<|kH 15 0 [⟨0,.q []⟩,⟨1,.q [1]⟩,⟨2,.q []⟩,⟨3,.q []⟩,⟨4,.q [3]⟩,⟨5,.q []⟩,⟨6,.q []⟩,⟨7,.q []⟩,⟨8,.q []⟩,⟨9,.q []⟩,⟨10,.q []⟩,⟨11,.q []⟩,⟨12,.q []⟩,⟨13,.q [0]⟩,⟨14,.e 0 []⟩] mixed (by kernel_rfl) (by kernel_rfl) rfl rfl rfl<|zW rfl<|zW rfl<|zW rfl<|zW rfl<|zW rfl<|zW rfl<|zW rfl<|zW rfl<|zW rfl<|zW rfl<|zW rfl<|zW rfl<|zW rfl<|zW rfl<|zW rfl<|zBl<|qD rfl (by decide) rfl rfl (zC rfl wM rfl)<|qD rfl (by decide) rfl rfl (zD rfl zCu rfl (zE 0 rfl) rfl)<|qD rfl (by decide) rfl rfl (zN rfl rfl)<|qD rfl (by decide) rfl rfl (zC rfl wM rfl)<|qD rfl (by decide) rfl rfl (zD rfl zCu rfl (zE 0 rfl) rfl)<|qD rfl (by decide) rfl rfl (zN rfl rfl)<|qD rfl (by decide) rfl rfl (zP rfl el50 rfl rfl (by omega) (zLm (by assumption)))<|qD rfl (by decide) rfl rfl (zF rfl yY rfl qA rfl)<|qD rfl (by decide) rfl rfl (zN rfl rfl)<|qD rfl (by decide) rfl rfl (zQ rfl ok139 (ih a (qB ha) (Ex.allF_arg hP (qB ha)) (by have := Ex.arg_cnt (qB ha); omega)) ⟨VLe.refl _,rfl,VLe.refl _,rfl,trivial⟩)<|qD rfl (by decide) rfl rfl (qK rfl rfl)<|qD rfl (by decide) rfl rfl (yE rfl rfl rfl)<|qD rfl (by decide) rfl rfl (qN rfl rfl rfl)<|qD rfl (by decide) rfl rfl (qQ 0 rfl el50 rfl rfl rfl (by omega) (zIj (by simp; omega) (by omega)))<|zEy rfl rfl (by decide) rfl rfl (zO rfl sz52 rfl rfl rfl (zCq 0 rfl (mid_getE (by simp; omega) ha) rfl)) ?_
    rintro _ _ ⟨rfl,rfl⟩
    refine ⟨_,rfl,?_⟩
    refine zBi rfl<|rMv rfl<|zB<|sReg rfl<|rMv rfl<|zA rfl rfl (qS rfl rfl rfl)<|zB<|zG rfl (fun c4 => ?_) (fun c4 => ?_)
    ·try simp only [sx] at c4
     refine sReg rfl<|zA rfl rfl (yK [none,none,none,none,none,none,none,none,none,none,some 2,some 4,some 13] rfl zr52 pl52 rfl rfl)<|rMv rfl<|zS rfl rfl (zO rfl sz52 rfl rfl rfl (qE 2 rfl rfl))<|rMv rfl<|zB<|zH<|fin2 (qF yY rfl (zE 2 rfl) rfl) (rs_c rfl) ?_
     rw [mEx_e3 c1 hmi (mExs_no ha hr c4)]; rfl
    ·try simp only [sx] at c4
     refine zK<|zR rfl<|zA rfl rfl (qC rfl rfl rfl ⟨by omega,by omega⟩)<|rMv rfl<|zB ?_
     refine ⟨⟨n + 1,exs ++ [outE (mEx f a)]⟩,⟨by omega,by simp; omega,mExs_next ha hr c4⟩,(by show e.Args.length - (n + 1) < e.Args.length - n; omega),Weak.mk [true,true,true,true] ⟨VLe.refl _,VLe.refl _,VLe.refl _,VLe.refl _,VLe.refl _,VLe.refl _,trivial⟩ (by simp only [Int.toNat_natCast]; rw [zIi (by simp; omega) ha]; simp only [List.map_append,List.map_cons,List.map_nil,Ex.cells_eq (outE (mEx f a))]; rfl)⟩
   ·try simp only [sx] at c3
    have hme := mExs_end hr (by omega)
    rw [yX (l := e.Args) (k := n) (by omega)]
    simp only [List.map_nil,List.append_nil]
    refine zX _ (qX 0 rfl (regs' := []) (μ' := [_,_,_]) trivial ⟨EFle.row (ds := [_,_,_,_,_,_,_,_,_,_,_,_,_]) ⟨.inl rfl,.inl rfl,.inl rfl,.inl rfl,.inl rfl,.inl rfl,.inl rfl,.inl rfl,.inl rfl,.inl rfl,.inl rfl,.inl rfl,.inr ⟨rfl,rfl⟩,trivial⟩,EFle.refl _,EFle.refl _,trivial⟩)<|qO<|sReg rfl<|zA rfl rfl (zF rfl yY rfl (zE 0 rfl) rfl)<|zS rfl rfl (zO rfl sz52 rfl rfl rfl (qE 1 rfl rfl))<|rMv rfl<|zB<|zH<|fin2 (qF yY rfl (zE 1 rfl) rfl) (rs_c rfl) ?_
    rw [mEx_ok c1 hmi hme]; rfl
theorem zFd (f : Lf → Lf × Int) (c : C) (P : Lf → Prop) (hf : ∀ l,P l → FnPur cfg c [vLin l] (.tup [vLin (f l).1,vI (f l).2])) (e : Ex) (hP : e.allF P) (he : e.cnt ≤ 4294967296) : Pur cfg 139 [vE e,.c c] (.tup [vE (outE (mEx f e)),vI (errE (mEx f e))]):= by
  induction e using Ex.ind with
  | _ e ih => exact zGe f c P hf e hP ih he
theorem zBo (f : Lf → Lf × Int) (c : C) (P : Lf → Prop) (hf : ∀ l,P l → FnPur cfg c [vLin l] (.tup [vLin (f l).1,vI (f l).2])) (g : ByteArray → ByteArray) (c9 : C) (hg : ∀ s,FnPur cfg c9 [vS s] (vS (g s))) (l : List St) (hP : allSs P l) (ih : ∀ s,s ∈ l → Pur cfg 93 [vSts s.Body,.c c,.c c9] (.tup [vSts (outS (mSts f g s.Body)),vI (errE (mSts f g s.Body))])) (hl : stsWt l ≤ 1073741824) :
    Pur cfg 93 [vSts l,.c c,.c c9] (.tup [vSts (outS (mSts f g l)),vI (errE (mSts f g l))]):= by
 refine zV Tryz.func93 rfl Tryz.ntmps93 Tryz.results93 rfl ?_
 intro z hz
 have hll := wD l
 refine sReg rfl<|zA rfl rfl (qW 20 rfl rfl)<|rMv rfl<|zB<|sReg rfl<|rMv rfl<|zY rfl rfl (wX rfl ok138 (zOg l (by omega)) ⟨VLe.refl _,rfl,trivial⟩) ?_
 rintro _ _ ⟨sv1,rfl,rfl⟩
 refine rMv rfl<|zB<|sReg rfl<|rMv rfl<|zB<|zJ<|sReg rfl<|rMv rfl<|zA rfl rfl (zT rfl el23 rfl)<|rMv rfl<|zB<|zU<|zX ⟨[(15,.c _),(0,.c _),(1,.c _),(2,.c _),(8,.c _),(14,.c _)],[_]⟩ (Weak.mk [true] ⟨VLe.of_eq rfl,VLe.of_eq rfl,VLe.of_eq rfl,VLe.of_eq rfl,VLe.of_eq rfl,VLe.of_eq rfl,trivial⟩ rfl)<|qI 1 1 rfl rfl (Nat × List St) (fun ⟨k,outs⟩ => [(15,vI k)]) (fun ⟨k,outs⟩ => [E.vec sv1 54 20 (outs.map St.cells ++ (l.drop k).map St.cells)]) (fun ⟨k,outs⟩ => k ≤ l.length ∧ (outs.length = k) ∧ (mSts f g l = mapRest outs (mSts f g (l.drop k)))) (fun ⟨k,outs⟩ => l.length - k) ⟨⟨0,[]⟩,⟨by omega,rfl,(wY _).symm⟩,Weak.mk [true] ⟨VLe.refl _,VLe.refl _,VLe.refl _,VLe.refl _,VLe.refl _,VLe.refl _,trivial⟩ rfl⟩ ?_
 rintro ⟨k,outs⟩ ⟨hk,ho,hp⟩
 show AWP _ _ _ _ _ ⟨[(15,vI k)] ++ _,[E.vec sv1 54 20 (outs.map St.cells ++ (l.drop k).map St.cells)] ++ _⟩
 refine sReg rfl<|zA rfl rfl (qL rfl rfl rfl)<|zB<|zJ<|zG rfl (fun c1 => ?_) (fun c1 => ?_)
 ·try simp only [sx] at c1
  obtain ⟨s,hs⟩ := qZ l k (by omega)
  have hsw := kA (qB hs)
  have hse := St.wt_eq s
  have hPs := St.allF_eq (zAp hP s (qB hs))
  refine zK<|zJ<|zU<|sReg rfl<|rMv rfl<|rMv rfl<|zB<|zJ<|sReg rfl<|rMv rfl<|rMv rfl<|zA rfl rfl (zP rfl el23 rfl rfl (by omega) (zBk hs))<|zA rfl rfl (zZ rfl zCx rfl)<|zA rfl rfl (zD rfl one3 rfl qA rfl)<|zA rfl rfl (qJ rfl rfl rfl)<|zB<|zG rfl (fun c2 => ?_) (fun c2 => ?_)
  ·try simp only [sx] at c2
   refine zR rfl<|rMv rfl<|rMv rfl<|rMv rfl<|rMv rfl<|rMv rfl<|zA rfl rfl (zP rfl el23 rfl rfl (by omega) (zBk hs))<|zA rfl rfl (zZ rfl zBp rfl)<|zA rfl rfl (zD rfl one9 rfl qA rfl)<|zA rfl rfl (wC rfl rfl (hg s.Name) ⟨VLe.refl _,rfl,trivial⟩)<|zA rfl rfl (qQ 0 rfl el23 rfl rfl rfl (by omega) (zIj (by simp; omega) (by omega)))<|zA rfl rfl (kD rfl zBp rfl)<|zS rfl rfl (zO rfl sz9 rfl rfl rfl (zCq 0 rfl (mid_getS (by simp; omega) hs) rfl))<|zB<|zJ<|sReg rfl<|rMv rfl<|rMv rfl<|rMv rfl<|rMv rfl<|zA rfl rfl (zP rfl el23 rfl rfl (by omega) (zBk hs))<|zA rfl rfl (zZ rfl zBe rfl)<|zA rfl rfl (zD rfl wF rfl qA rfl)<|rMv rfl<|zA rfl rfl (zQ rfl ok86 (zAx f c P hf s.Idx (by omega) (fun x hx => by have := zAn hx; rw [Ix.wt] at this; omega) hPs.1) ⟨VLe.refl _,rfl,VLe.refl _,rfl,trivial⟩)<|zA rfl rfl (qK rfl rfl)<|zA rfl rfl (qN rfl rfl rfl)<|zA rfl rfl (qN rfl rfl rfl)<|zA rfl rfl (qQ 0 rfl el23 rfl rfl rfl (by omega) (by simp; omega))<|zA rfl rfl (kD rfl zBe rfl)<|zS rfl rfl (zO rfl sz44 rfl rfl rfl (zCq 0 rfl (zCr (by simp; omega)) rfl))<|rMv rfl<|zB<|sReg rfl<|rMv rfl<|zA rfl rfl (qS rfl rfl rfl)<|zB<|zG rfl (fun c3 => ?_) (fun c3 => ?_)
   ·try simp only [sx] at c3
    refine sReg rfl<|rMv rfl<|zA rfl rfl (qW 20 rfl rfl)<|rMv rfl<|zB<|zH<|fin2 (rs_c rfl) (rs_c rfl) ?_
    rw [zEn hs hp (mSt_e1 (mIxs_err c3))]; rfl
   ·try simp only [sx] at c3
    obtain ⟨di,hmi⟩ := mIxs_0 c3
    rw [hmi]
    refine zK<|zJ<|sReg rfl<|rMv rfl<|rMv rfl<|rMv rfl<|rMv rfl<|zA rfl rfl (zP rfl el23 rfl rfl (by omega) (zBk hs))<|zA rfl rfl (zZ rfl zAh rfl)<|zA rfl rfl (zF rfl yY rfl qA rfl)<|rMv rfl<|zA rfl rfl (zQ rfl ok139 (zFd f c P hf s.E hPs.2.1 (by have := s.E.cnt_le; omega)) ⟨VLe.refl _,rfl,VLe.refl _,rfl,trivial⟩)<|zA rfl rfl (qK rfl rfl)<|zA rfl rfl (yE rfl rfl rfl)<|zA rfl rfl (qN rfl rfl rfl)<|zA rfl rfl (qQ 0 rfl el23 rfl rfl rfl (by omega) (by simp; omega))<|zA rfl rfl (kD rfl zAh rfl)<|zS rfl rfl (zO rfl sz52 rfl rfl rfl (zCq 0 rfl (zCr (by simp; omega)) rfl))<|rMv rfl<|zB<|sReg rfl<|rMv rfl<|zA rfl rfl (qS rfl rfl rfl)<|zB<|zG rfl (fun c4 => ?_) (fun c4 => ?_)
    ·try simp only [sx] at c4
     refine sReg rfl<|rMv rfl<|zA rfl rfl (qW 20 rfl rfl)<|rMv rfl<|zB<|zH<|fin2 (rs_c rfl) (rs_c rfl) ?_
     rw [zEn hs hp (mSt_e2 hmi (mEx_err c4))]; rfl
    ·try simp only [sx] at c4
     obtain ⟨de,hmE⟩ := mEx_0 c4
     rw [hmE]
     refine zK<|sReg rfl<|rMv rfl<|rMv rfl<|rMv rfl<|rMv rfl<|zA rfl rfl (zP rfl el23 rfl rfl (by omega) (zBk hs))<|zA rfl rfl (zZ rfl zAa rfl)<|zA rfl rfl (zD rfl zCh rfl qA rfl)<|rMv rfl<|rMv rfl<|zA rfl rfl (zQ rfl ok93 (ih s (qB hs)) ⟨VLe.refl _,rfl,VLe.refl _,rfl,VLe.refl _,rfl,trivial⟩)<|zA rfl rfl (qK rfl rfl)<|zA rfl rfl (qN rfl rfl rfl)<|zA rfl rfl (qN rfl rfl rfl)<|zA rfl rfl (qQ 0 rfl el23 rfl rfl rfl (by omega) (by simp; omega))<|zA rfl rfl (kD rfl zAa rfl)<|zS rfl rfl (zO rfl sz23 rfl rfl rfl (zCq 0 rfl (zCr (by simp; omega)) rfl))<|rMv rfl<|zB<|sReg rfl<|rMv rfl<|zA rfl rfl (qS rfl rfl rfl)<|zB<|zG rfl (fun c5 => ?_) (fun c5 => ?_)
     ·try simp only [sx] at c5
      refine sReg rfl<|rMv rfl<|zA rfl rfl (qW 20 rfl rfl)<|rMv rfl<|zB<|zH<|fin2 (rs_c rfl) (rs_c rfl) ?_
      rw [zEn hs hp (mSt_e3 hmi hmE (mSts_err c5))]; rfl
     ·try simp only [sx] at c5
      obtain ⟨db,hmb⟩ := mSts_0 c5
      rw [hmb]
      have hms := mSt_ok hmi hmE hmb
      have hset : ∀ r,(outs.map St.cells ++ (l.drop k).map St.cells).set k r = (outs.map St.cells ++ [r]) ++ (l.drop (k + 1)).map St.cells := fun r => zIi (by simp; omega) hs
      have hset2 : ∀ r r',((outs.map St.cells ++ [r]) ++ (l.drop (k + 1)).map St.cells).set k r' = (outs.map St.cells ++ [r']) ++ (l.drop (k + 1)).map St.cells := fun r r' => mid_set' (α := St) (f := St.cells) (l := l) (by simp; omega)
      refine zK<|zR rfl<|zA rfl rfl (qC rfl rfl rfl ⟨by omega,by omega⟩)<|rMv rfl<|zB ?_
      refine ⟨⟨k + 1,outs ++ [.mk s.Op (if s.Op = 1 then g s.Name else s.Name) s.Many s.Mark s.Fold di de db]⟩,⟨by omega,by simp; omega,zPd hs hp hms⟩,(by show l.length - (k + 1) < l.length - k; omega),Weak.mk [true] ⟨VLe.refl _,VLe.refl _,VLe.refl _,VLe.refl _,VLe.refl _,VLe.refl _,trivial⟩ (by simp only [Int.toNat_natCast,List.set_set,hset,hset2]; simp only [List.map_append,List.map_cons,List.map_nil,St.cells_eq (.mk _ _ _ _ _ _ _ _)]; first | (rw [if_pos c2]; rfl) | (rw [if_neg c2]; rfl))⟩
  ·try simp only [sx] at c2
   refine zK<|zJ<|sReg rfl<|rMv rfl<|rMv rfl<|rMv rfl<|rMv rfl<|zA rfl rfl (zP rfl el23 rfl rfl (by omega) (zBk hs))<|zA rfl rfl (zZ rfl zBe rfl)<|zA rfl rfl (zD rfl wF rfl qA rfl)<|rMv rfl<|zA rfl rfl (zQ rfl ok86 (zAx f c P hf s.Idx (by omega) (fun x hx => by have := zAn hx; rw [Ix.wt] at this; omega) hPs.1) ⟨VLe.refl _,rfl,VLe.refl _,rfl,trivial⟩)<|zA rfl rfl (qK rfl rfl)<|zA rfl rfl (qN rfl rfl rfl)<|zA rfl rfl (qN rfl rfl rfl)<|zA rfl rfl (qQ 0 rfl el23 rfl rfl rfl (by omega) (zIj (by simp; omega) (by omega)))<|zA rfl rfl (kD rfl zBe rfl)<|zS rfl rfl (zO rfl sz44 rfl rfl rfl (zCq 0 rfl (mid_getS (by simp; omega) hs) rfl))<|rMv rfl<|zB<|sReg rfl<|rMv rfl<|zA rfl rfl (qS rfl rfl rfl)<|zB<|zG rfl (fun c3 => ?_) (fun c3 => ?_)
   ·try simp only [sx] at c3
    refine sReg rfl<|rMv rfl<|zA rfl rfl (qW 20 rfl rfl)<|rMv rfl<|zB<|zH<|fin2 (rs_c rfl) (rs_c rfl) ?_
    rw [zEn hs hp (mSt_e1 (mIxs_err c3))]; rfl
   ·try simp only [sx] at c3
    obtain ⟨di,hmi⟩ := mIxs_0 c3
    rw [hmi]
    refine zK<|zJ<|sReg rfl<|rMv rfl<|rMv rfl<|rMv rfl<|rMv rfl<|zA rfl rfl (zP rfl el23 rfl rfl (by omega) (zBk hs))<|zA rfl rfl (zZ rfl zAh rfl)<|zA rfl rfl (zF rfl yY rfl qA rfl)<|rMv rfl<|zA rfl rfl (zQ rfl ok139 (zFd f c P hf s.E hPs.2.1 (by have := s.E.cnt_le; omega)) ⟨VLe.refl _,rfl,VLe.refl _,rfl,trivial⟩)<|zA rfl rfl (qK rfl rfl)<|zA rfl rfl (yE rfl rfl rfl)<|zA rfl rfl (qN rfl rfl rfl)<|zA rfl rfl (qQ 0 rfl el23 rfl rfl rfl (by omega) (by simp; omega))<|zA rfl rfl (kD rfl zAh rfl)<|zS rfl rfl (zO rfl sz52 rfl rfl rfl (zCq 0 rfl (zCr (by simp; omega)) rfl))<|rMv rfl<|zB<|sReg rfl<|rMv rfl<|zA rfl rfl (qS rfl rfl rfl)<|zB<|zG rfl (fun c4 => ?_) (fun c4 => ?_)
    ·try simp only [sx] at c4
     refine sReg rfl<|rMv rfl<|zA rfl rfl (qW 20 rfl rfl)<|rMv rfl<|zB<|zH<|fin2 (rs_c rfl) (rs_c rfl) ?_
     rw [zEn hs hp (mSt_e2 hmi (mEx_err c4))]; rfl
    ·try simp only [sx] at c4
     obtain ⟨de,hmE⟩ := mEx_0 c4
     rw [hmE]
     refine zK<|sReg rfl<|rMv rfl<|rMv rfl<|rMv rfl<|rMv rfl<|zA rfl rfl (zP rfl el23 rfl rfl (by omega) (zBk hs))<|zA rfl rfl (zZ rfl zAa rfl)<|zA rfl rfl (zD rfl zCh rfl qA rfl)<|rMv rfl<|rMv rfl<|zA rfl rfl (zQ rfl ok93 (ih s (qB hs)) ⟨VLe.refl _,rfl,VLe.refl _,rfl,VLe.refl _,rfl,trivial⟩)<|zA rfl rfl (qK rfl rfl)<|zA rfl rfl (qN rfl rfl rfl)<|zA rfl rfl (qN rfl rfl rfl)<|zA rfl rfl (qQ 0 rfl el23 rfl rfl rfl (by omega) (by simp; omega))<|zA rfl rfl (kD rfl zAa rfl)<|zS rfl rfl (zO rfl sz23 rfl rfl rfl (zCq 0 rfl (zCr (by simp; omega)) rfl))<|rMv rfl<|zB<|sReg rfl<|rMv rfl<|zA rfl rfl (qS rfl rfl rfl)<|zB<|zG rfl (fun c5 => ?_) (fun c5 => ?_)
     ·try simp only [sx] at c5
      refine sReg rfl<|rMv rfl<|zA rfl rfl (qW 20 rfl rfl)<|rMv rfl<|zB<|zH<|fin2 (rs_c rfl) (rs_c rfl) ?_
      rw [zEn hs hp (mSt_e3 hmi hmE (mSts_err c5))]; rfl
     ·try simp only [sx] at c5
      obtain ⟨db,hmb⟩ := mSts_0 c5
      rw [hmb]
      have hms := mSt_ok hmi hmE hmb
      have hset : ∀ r,(outs.map St.cells ++ (l.drop k).map St.cells).set k r = (outs.map St.cells ++ [r]) ++ (l.drop (k + 1)).map St.cells := fun r => zIi (by simp; omega) hs
      have hset2 : ∀ r r',((outs.map St.cells ++ [r]) ++ (l.drop (k + 1)).map St.cells).set k r' = (outs.map St.cells ++ [r']) ++ (l.drop (k + 1)).map St.cells := fun r r' => mid_set' (α := St) (f := St.cells) (l := l) (by simp; omega)
      refine zK<|zR rfl<|zA rfl rfl (qC rfl rfl rfl ⟨by omega,by omega⟩)<|rMv rfl<|zB ?_
      refine ⟨⟨k + 1,outs ++ [.mk s.Op (if s.Op = 1 then g s.Name else s.Name) s.Many s.Mark s.Fold di de db]⟩,⟨by omega,by simp; omega,zPd hs hp hms⟩,(by show l.length - (k + 1) < l.length - k; omega),Weak.mk [true] ⟨VLe.refl _,VLe.refl _,VLe.refl _,VLe.refl _,VLe.refl _,VLe.refl _,trivial⟩ (by simp only [Int.toNat_natCast,List.set_set,hset,hset2]; simp only [List.map_append,List.map_cons,List.map_nil,St.cells_eq (.mk _ _ _ _ _ _ _ _)]; first | (rw [if_pos c2]; rfl) | (rw [if_neg c2]; rfl))⟩
 ·try simp only [sx] at c1
  have hme := mSts_end hp (by omega)
  rw [yX (l := l) (k := k) (by omega)]
  simp only [List.map_nil,List.append_nil]
  refine zX _ (qX 0 rfl (regs' := [(8,_)]) (μ' := []) ⟨FLe.sl,trivial⟩ trivial)<|qO<|sReg rfl<|rMv rfl<|rMv rfl<|rMv rfl<|zB<|zH<|fin2 (rs_c rfl) (rs_c rfl) ?_
  rw [hme]; rfl
theorem zFk (f : Lf → Lf × Int) (c : C) (P : Lf → Prop) (hf : ∀ l,P l → FnPur cfg c [vLin l] (.tup [vLin (f l).1,vI (f l).2])) (g : ByteArray → ByteArray) (c9 : C) (hg : ∀ s,FnPur cfg c9 [vS s] (vS (g s))) (s : St) (hP : allSs P s.Body) (hl : stsWt s.Body ≤ 1073741824) : Pur cfg 93 [vSts s.Body,.c c,.c c9] (.tup [vSts (outS (mSts f g s.Body)),vI (errE (mSts f g s.Body))]):= by
  induction s using St.ind with
  | _ s ih => exact zBo f c P hf g c9 hg s.Body hP (fun a ha => ih a ha (St.allF_eq (zAp hP a ha)).2.2 (by have := kA ha; have := St.body_wt a; omega)) hl
theorem zDu (f : Lf → Lf × Int) (c : C) (P : Lf → Prop) (hf : ∀ l,P l → FnPur cfg c [vLin l] (.tup [vLin (f l).1,vI (f l).2])) (g : ByteArray → ByteArray) (c9 : C) (hg : ∀ s,FnPur cfg c9 [vS s] (vS (g s))) (l : List St) (hP : allSs P l) (hl : stsWt l ≤ 1073741824) : Pur cfg 93 [vSts l,.c c,.c c9] (.tup [vSts (outS (mSts f g l)),vI (errE (mSts f g l))]) :=
  zBo f c P hf g c9 hg l hP (fun s hs => zFk f c P hf g c9 hg s (St.allF_eq (zAp hP s hs)).2.2 (by have := kA hs; have := St.body_wt s; omega)) hl
theorem zMk (l : Lf) (hl : l.L.length ≤ 1073741824) :
    Pur cfg 99 [vLin l] (vLin l):= by
 refine zV Tryz.func99 rfl Tryz.ntmps99 Tryz.results99 rfl ?_
 intro z hz
 refine sReg rfl<|zY rfl rfl (qM rfl rfl) ?_
 rintro _ _ ⟨b1,rfl,rfl⟩
 refine zY rfl rfl (qH [none,some 2] rfl zr49 rfl) ?_
 rintro _ _ ⟨b2,rfl,rfl⟩
 refine zB<|zJ<|yG 6 mixed (by kernel_rfl) rfl rfl<|zM rfl rfl (zC rfl zCj rfl)<|zM rfl rfl (zD rfl one2 rfl (zE 1 rfl) rfl)<|zM rfl rfl (zC rfl yM rfl)<|zM rfl rfl (zD rfl kQ rfl (zE 1 rfl) rfl)<|zM rfl rfl (zQ rfl ok146 (OwnR.pur (zKv l.L (by omega))) ⟨VLe.refl _,rfl,trivial⟩)<|zM rfl rfl (qU rfl zr49 pl49 rfl)<|kI<|zS rfl rfl (zO rfl sz49 rfl rfl rfl (qE 0 rfl rfl))<|zB<|zH<|fin1 (qF yI rfl (zE 0 rfl) rfl) ?_
 exact rfl
theorem loopnest_same (s : ByteArray) :
    Pur cfg 96 [vS s] (vS s):= by
 refine zV Tryz.func96 rfl Tryz.ntmps96 Tryz.results96 rfl ?_
 intro z hz
 refine sReg rfl<|rMv rfl<|zB<|sReg rfl<|rMv rfl<|rMv rfl<|zB<|zH<|fin1 (rs_c rfl) ?_
 exact rfl
end Go.W
