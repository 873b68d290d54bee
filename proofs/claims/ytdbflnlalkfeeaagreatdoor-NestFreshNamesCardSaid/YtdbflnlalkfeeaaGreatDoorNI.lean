/-
  Walks: what functions of the program compute. Printed by wip/gen/mk2.py.
  Conditions: none.
-/
import Derived.Test.YtdbflnlalkfeeaaGreatDoorNG
import Derived.Test.YtdbflnlalkfeeaaGreatDoorPlain2
set_option maxRecDepth 10000
namespace Go.W
open Go Go.Eng Go.Proofs Go.L41 Go.Br
attribute [local irreducible] AWP RWP TD finQ
theorem ok86 : callOk Tryz.prog 86 = true:= by kernel_rfl
theorem ok93 : callOk Tryz.prog 93 = true:= by kernel_rfl
theorem ok99 : callOk Tryz.prog 99 = true:= by kernel_rfl
theorem ok133 : callOk Tryz.prog 133 = true:= by kernel_rfl
theorem ok134 : callOk Tryz.prog 134 = true:= by kernel_rfl
theorem ok138 : callOk Tryz.prog 138 = true:= by kernel_rfl
theorem ok139 : callOk Tryz.prog 139 = true:= by kernel_rfl
theorem ok146 : callOk Tryz.prog 146 = true:= by kernel_rfl
theorem ok175 : callOk Tryz.prog 175 = true:= by kernel_rfl
theorem sz9 : (Tryz.prog.info? 9).map (·.size) = some 1:= by kernel_rfl
theorem zPg (l : List St) (hl : l.length ≤ 4294967296) :
    OwnR cfg 138 [vSts l] 54 20 (l.map St.cells):= by
 refine zV Tryz.func138 rfl Tryz.ntmps138 Tryz.results138 rfl ?_
 intro z hz
 refine sReg rfl<|zA rfl (qY 20 rfl rfl)<|zB<|zK<|sReg rfl<|rMv rfl<|qA rfl rfl (zDo rfl el23 rfl rfl) ?_
 rintro _ _ ⟨nb1,rfl,hnil1,rfl⟩
 refine zB<|zH rfl (fun c1 => ?_) (fun c1 => ?_)
 ·try simp only [sx] at c1
  refine sReg rfl<|rMv rfl<|yK _ (kI 54 20)<|zB<|zI<|zQ rfl ?_
  exact ⟨_,rfl,by rw [hnil1 c1]⟩
 ·try simp only [sx] at c1
  refine zJ<|sReg rfl<|qA rfl rfl (zBn rfl el23 zr54 rfl rfl rfl rfl) ?_
  rintro _ _ ⟨sv3,rfl,rfl⟩
  refine rMv rfl<|qA rfl rfl (yI 0 rfl el23 rfl rfl rfl (by simp only [List.length_map,List.length_nil,Nat.zero_add]; omega) (by simp only [List.length_map,List.length_nil,Nat.zero_add]; omega)) ?_
  rintro _ _ ⟨sv4,rfl,rfl⟩
  refine rMv rfl<|zB<|zI<|zQ rfl ?_
  exact ⟨_,rfl,rfl⟩
theorem zBb (f : Lf → Lf × Int) (c : C) (P : Lf → Prop) (hf : ∀ l,P l → FnPur cfg c [vLin l] (.tup [vLin (f l).1,vI (f l).2])) (i : List Ix) (hi : i.length ≤ 4294967296) (hA : ∀ x,x ∈ i → x.At.length ≤ 4294967296) (hP : ixsAll P i) :
    Pur cfg 86 [vIndices i,.c c] (.tup [vIndices (outIs (mIxs f i)),vI (errE (mIxs f i))]):= by
 refine zV Tryz.func86 rfl Tryz.ntmps86 Tryz.results86 rfl ?_
 intro z hz
 refine sReg rfl<|zA rfl (qY 4 rfl rfl)<|rMv rfl<|zB<|sReg rfl<|rMv rfl<|qA rfl rfl (wY rfl ok133 (zGc i hi) ⟨zE,rfl,trivial⟩) ?_
 rintro _ _ ⟨sv1,rfl,rfl⟩
 refine rMv rfl<|zB<|sReg rfl<|rMv rfl<|zB<|zK<|sReg rfl<|rMv rfl<|zA rfl (zR rfl el44 rfl)<|rMv rfl<|zB<|zS<|zY ⟨[(14,.c _),(0,.c _),(1,.c _),(6,.c _),(13,.c _)],[_]⟩ (Weak.mk [true] ⟨zE,zE,zE,zE,zE,trivial⟩ rfl)<|qI 1 1 rfl rfl (Nat × List Ix) (fun ⟨k,outs⟩ => [(14,vI k)]) (fun ⟨k,outs⟩ => [E.vec sv1 114 4 (outs.map Ix.cells ++ (i.drop k).map Ix.cells)]) (fun ⟨k,outs⟩ => k ≤ i.length ∧ (outs.length = k) ∧ (mIxs f i = mapRest outs (mIxs f (i.drop k)))) (fun ⟨k,outs⟩ => i.length - k) ⟨⟨0,[]⟩,⟨by omega,rfl,(zEt _).symm⟩,Weak.mk [true] ⟨zE,zE,zE,zE,zE,trivial⟩ rfl⟩ ?_
 rintro ⟨k,outs⟩ ⟨hk,ho,hp⟩
 show AWP _ _ _ _ _ ⟨[(14,vI k)] ++ _,[E.vec sv1 114 4 (outs.map Ix.cells ++ (i.drop k).map Ix.cells)] ++ _⟩
 refine sReg rfl<|zA rfl (qM rfl rfl rfl)<|zB<|zK<|zH rfl (fun c1 => ?_) (fun c1 => ?_)
 ·try simp only [sx] at c1
  obtain ⟨x,hx⟩ := qX i k (by omega)
  have hAx := hA x (qE hx)
  refine zJ<|zK<|zS<|sReg rfl<|rMv rfl<|rMv rfl<|zB<|zK<|sReg rfl<|rMv rfl<|rMv rfl<|rMv rfl<|rMv rfl<|rMv rfl<|zA rfl (zO rfl el44 rfl rfl (by omega) (getm (by assumption)))<|zA rfl (zZ rfl zAd rfl)<|zA rfl (zG rfl kG rfl qC rfl)<|zA rfl (wD rfl rfl (hf x.Lin (hP x (qE hx)).1) ⟨zE,rfl,trivial⟩)<|zA rfl (qP rfl rfl)<|zA rfl (yF rfl rfl rfl)<|zA rfl (qU rfl rfl rfl)<|zA rfl (qQ 0 rfl el44 rfl rfl rfl (by omega) (zIw (by simp; omega) (by omega)))<|zA rfl (kC rfl zAd rfl)<|zX rfl rfl (zT rfl sz49 rfl rfl rfl (zCi 0 rfl (zLs (by simp; omega) hx) rfl))<|rMv rfl<|zB<|sReg rfl<|rMv rfl<|zA rfl (qR rfl rfl rfl)<|zB<|zH rfl (fun c2 => ?_) (fun c2 => ?_)
  ·try simp only [sx] at c2
   refine sReg rfl<|rMv rfl<|zA rfl (qY 4 rfl rfl)<|rMv rfl<|zB<|zI<|fin2 (rs_c rfl) (rs_c rfl) ?_
   rw [mIxs_no hx hp (mIx_e1 c2)]; rfl
  ·try simp only [sx] at c2
   refine zJ<|sReg rfl<|rMv rfl<|rMv rfl<|rMv rfl<|rMv rfl<|zA rfl (zO rfl el44 rfl rfl (by omega) (getm (by assumption)))<|zA rfl (zZ rfl kH rfl)<|zA rfl (zD rfl wJ rfl qC rfl)<|qA rfl rfl (wY rfl ok134 (zFi x.At (hA x (qE hx))) ⟨zE,rfl,trivial⟩) ?_
   rintro _ _ ⟨sv2,rfl,rfl⟩
   refine zA rfl (qQ 1 rfl el44 rfl rfl rfl (by omega) (by simp; omega))<|zA rfl (kC rfl kH rfl)<|zX rfl rfl (zT rfl sz112 rfl rfl rfl (zCi 1 rfl (zCj (by simp; omega)) rfl))<|zB<|sReg rfl<|rMv rfl<|rMv rfl<|zA rfl (zO rfl el44 rfl rfl (by omega) (getm (by assumption)))<|zA rfl (zZ rfl kH rfl)<|zA rfl (zD rfl wJ rfl qC rfl)<|zA rfl (zR rfl wE rfl)<|rMv rfl<|zB<|zS<|zY ⟨[(50,.c _),(0,.c _),(1,.c _),(6,.c _),(8,.c _),(13,.c _),(14,.c _),(49,.c _)],[_,_]⟩ (Weak.mk [true,true] ⟨zE,zE,zE,zE,zE,zE,zE,zE,trivial⟩ rfl)<|qI 1 1 rfl rfl (Nat × List Lf) (fun ⟨j,lins⟩ => [(50,vI j)]) (fun ⟨j,lins⟩ => [E.vec sv2 49 2 (lins.map Lf.cells ++ (x.At.drop j).map Lf.cells)]) (fun ⟨j,lins⟩ => j ≤ x.At.length ∧ (lins.length = j) ∧ (mLins f x.At = mapRest lins (mLins f (x.At.drop j)))) (fun ⟨j,lins⟩ => x.At.length - j) ⟨⟨0,[]⟩,⟨by omega,rfl,(zEt _).symm⟩,Weak.mk [true,true] ⟨zE,zE,zE,zE,zE,zE,zE,zE,trivial⟩ rfl⟩ ?_
   rintro ⟨j,lins⟩ ⟨hj,hlo,hq⟩
   show AWP _ _ _ _ _ ⟨[(50,vI j)] ++ _,[E.vec sv2 49 2 (lins.map Lf.cells ++ (x.At.drop j).map Lf.cells)] ++ _⟩
   refine sReg rfl<|zA rfl (qM rfl rfl rfl)<|zB<|zK<|zH rfl (fun c3 => ?_) (fun c3 => ?_)
   ·try simp only [sx] at c3
    obtain ⟨l,hl⟩ := qX x.At j (by omega)
    refine zJ<|zK<|zS<|sReg rfl<|rMv rfl<|rMv rfl<|zB<|zK<|yZ 21 0 [⟨0,.q []⟩,⟨1,.q []⟩,⟨2,.q [1]⟩,⟨3,.q []⟩,⟨4,.q [1]⟩,⟨5,.q []⟩,⟨6,.q []⟩,⟨7,.q []⟩,⟨8,.q []⟩,⟨9,.q []⟩,⟨10,.q []⟩,⟨11,.q []⟩,⟨12,.q []⟩,⟨13,.q []⟩,⟨14,.q []⟩,⟨15,.q []⟩,⟨16,.q []⟩,⟨17,.q []⟩,⟨18,.q []⟩,⟨19,.q [0]⟩,⟨20,.e 0 []⟩] mixed (by kernel_rfl) (by kernel_rfl) rfl rfl rfl<|zW rfl<|zW rfl<|zW rfl<|zW rfl<|zW rfl<|zW rfl<|zW rfl<|zW rfl<|zW rfl<|zW rfl<|zW rfl<|zW rfl<|zW rfl<|zW rfl<|zW rfl<|zW rfl<|zW rfl<|zW rfl<|zW rfl<|zW rfl<|zW rfl<|zAl<|qD rfl (by decide) rfl rfl (zN rfl rfl)<|qD rfl (by decide) rfl rfl (zN rfl rfl)<|qD rfl (by decide) rfl rfl (qQ 0 rfl el44 rfl rfl rfl (by omega) (by simp; omega))<|qD rfl (by decide) rfl rfl (kC rfl kH rfl)<|qD rfl (by decide) rfl rfl (zD rfl wJ rfl (kS 0 rfl (zCj (by simp; omega))) rfl)<|qD rfl (by decide) rfl rfl (zN rfl rfl)<|qD rfl (by decide) rfl rfl (zN rfl rfl)<|qD rfl (by decide) rfl rfl (zN rfl rfl)<|qD rfl (by decide) rfl rfl (zN rfl rfl)<|qD rfl (by decide) rfl rfl (zO rfl el44 rfl rfl (by omega) (getm (by assumption)))<|qD rfl (by decide) rfl rfl (zZ rfl kH rfl)<|qD rfl (by decide) rfl rfl (zD rfl wJ rfl qC rfl)<|qD rfl (by decide) rfl rfl (zN rfl rfl)<|qD rfl (by decide) rfl rfl (zO rfl wE rfl rfl (by omega) (getm (by assumption)))<|qD rfl (by decide) rfl rfl (zG rfl kG rfl qC rfl)<|qD rfl (by decide) rfl rfl (wD rfl rfl (hf l ((hP x (qE hx)).2 l (qE hl))) ⟨zE,rfl,trivial⟩)<|qD rfl (by decide) rfl rfl (qP rfl rfl)<|qD rfl (by decide) rfl rfl (yF rfl rfl rfl)<|qD rfl (by decide) rfl rfl (qU rfl rfl rfl)<|qD rfl (by decide) rfl rfl (qQ 0 rfl wE rfl rfl rfl (by omega) (zIw (by simp; omega) (by omega)))<|zFy rfl rfl (by decide) rfl rfl (zT rfl sz49 rfl rfl rfl (zCi 0 rfl (zLs (by simp; omega) hl) rfl)) ?_
    rintro _ _ ⟨rfl,rfl⟩
    refine ⟨_,rfl,?_⟩
    refine zAk rfl<|rMv rfl<|zB<|sReg rfl<|rMv rfl<|zA rfl (qR rfl rfl rfl)<|zB<|zH rfl (fun c4 => ?_) (fun c4 => ?_)
    ·try simp only [sx] at c4
     refine sReg rfl<|rMv rfl<|zA rfl (qY 4 rfl rfl)<|rMv rfl<|zB<|zI<|fin2 (rs_c rfl) (rs_c rfl) ?_
     rw [mIxs_no hx hp (mIx_e2 c2 (mLins_no hl hq c4))]; rfl
    ·try simp only [sx] at c4
     refine zJ<|zU rfl<|zA rfl (qB rfl rfl rfl ⟨by omega,by omega⟩)<|rMv rfl<|zB ?_
     refine ⟨⟨j + 1,lins ++ [(f l).1]⟩,⟨by omega,by simp; omega,mLins_next hl hq c4⟩,(by show x.At.length - (j + 1) < x.At.length - j; omega),Weak.mk [true,true] ⟨zE,zE,zE,zE,zE,zE,zE,zE,trivial⟩ (by simp only [Int.toNat_natCast]; rw [zIv (by simp; omega) hl]; simp only [List.map_append,List.map_cons,List.map_nil]; rfl)⟩
   ·try simp only [sx] at c3
    have hml := mLins_end hq (by omega)
    rw [yT (l := x.At) (k := j) (by omega)]
    simp only [List.map_nil,List.append_nil]
    refine zY _ (yL 0 rfl (regs' := []) (μ' := [_]) trivial ⟨EFle.vec (r' := [_,_,_,_]) (zCj (by simp; omega)) ⟨.inl rfl,.inl rfl,.inl rfl,.inr ⟨rfl,rfl⟩,trivial⟩,trivial⟩)<|qN<|zU rfl<|zA rfl (qB rfl rfl rfl ⟨by omega,by omega⟩)<|rMv rfl<|zB ?_
    refine ⟨⟨k + 1,outs ++ [⟨(f x.Lin).1,x.From,lins⟩]⟩,⟨by omega,by simp; omega,mIxs_next hx hp (mIx_ok c2 hml)⟩,(by show i.length - (k + 1) < i.length - k; omega),Weak.mk [true] ⟨zE,zE,zE,zE,zE,trivial⟩ (by simp only [Int.toNat_natCast,List.set_set]; rw [zIv (by simp; omega) hx]; simp only [List.map_append,List.map_cons,List.map_nil]; rfl)⟩
 ·try simp only [sx] at c1
  have hmi := mIxs_end hp (by omega)
  rw [yT (l := i) (k := k) (by omega)]
  simp only [List.map_nil,List.append_nil]
  refine zY _ (yL 0 rfl (regs' := [(6,_)]) (μ' := []) ⟨FLe.sl,trivial⟩ trivial)<|qN<|sReg rfl<|rMv rfl<|rMv rfl<|rMv rfl<|zB<|zI<|fin2 (rs_c rfl) (rs_c rfl) ?_
  rw [hmi]; rfl
theorem zGr (f : Lf → Lf × Int) (c : C) (P : Lf → Prop) (hf : ∀ l,P l → FnPur cfg c [vLin l] (.tup [vLin (f l).1,vI (f l).2])) (e : Ex) (hP : e.allF P) (ih : ∀ a,a ∈ e.Args → a.allF P → a.cnt ≤ 4294967296 → Pur cfg 139 [vE a,.c c] (.tup [vE (outE (mEx f a)),vI (errE (mEx f a))])) (he : e.cnt ≤ 4294967296) :
    Pur cfg 139 [vE e,.c c] (.tup [vE (outE (mEx f e)),vI (errE (mEx f e))]):= by
 refine zV Tryz.func139 rfl Tryz.ntmps139 Tryz.results139 rfl ?_
 intro z hz
 obtain ⟨hI,hA,hAt⟩ := e.cparts he
 have hPI := ixsAll_of hP
 refine sReg rfl<|qA rfl rfl (qL rfl rfl) ?_
 rintro _ _ ⟨b1,rfl,rfl⟩
 refine qA rfl rfl (qO [none,none,none,none,none,none,none,none,none,none,some 2,some 4,some 13] rfl zr52 rfl) ?_
 rintro _ _ ⟨b2,rfl,rfl⟩
 refine rMv rfl<|zB<|sReg rfl<|zA rfl (zG rfl yS rfl (zF 1 rfl) rfl)<|qA rfl rfl (qO [none,none,none,none,none,none,none,none,none,none,some 2,some 4,some 13] rfl zr52 rfl) ?_
 rintro _ _ ⟨b3,rfl,rfl⟩
 refine zX rfl rfl (zT rfl sz52 rfl rfl rfl (qH 0 rfl rfl))<|zB<|sReg rfl<|rMv rfl<|zB<|zK<|sReg rfl<|rMv rfl<|zA rfl (zC rfl zCq rfl)<|zA rfl (zG rfl kG rfl (zF 2 rfl) rfl)<|zA rfl (wD rfl rfl (hf e.Lin (Ex.allF_lin hP)) ⟨zE,rfl,trivial⟩)<|zA rfl (qP rfl rfl)<|zA rfl (yF rfl rfl rfl)<|zA rfl (qU rfl rfl rfl)<|zA rfl (zC rfl zCq rfl)<|zX rfl rfl (zT rfl sz49 rfl rfl rfl (qH 0 rfl rfl))<|rMv rfl<|zB<|sReg rfl<|rMv rfl<|zA rfl (qR rfl rfl rfl)<|zB<|zH rfl (fun c1 => ?_) (fun c1 => ?_)
 ·try simp only [sx] at c1
  refine sReg rfl<|zA rfl (yW [none,none,none,none,none,none,none,none,none,none,some 2,some 4,some 13] rfl zr52 pl52 rfl rfl)<|rMv rfl<|zX rfl rfl (zT rfl sz52 rfl rfl rfl (qH 1 rfl rfl))<|rMv rfl<|zB<|zI<|fin2 (qG yS rfl (zF 1 rfl) rfl) (rs_c rfl) ?_
  rw [mEx_e1 c1]; rfl
 ·try simp only [sx] at c1
  refine zJ<|zK<|sReg rfl<|zA rfl (zC rfl kE rfl)<|zA rfl (zD rfl kM rfl (zF 2 rfl) rfl)<|rMv rfl<|zA rfl (zP rfl ok86 (zBb f c P hf e.Idx hI hAt hPI) ⟨zE,rfl,zE,rfl,trivial⟩)<|zA rfl (qP rfl rfl)<|zA rfl (qU rfl rfl rfl)<|zA rfl (qU rfl rfl rfl)<|zA rfl (zC rfl kE rfl)<|zX rfl rfl (zT rfl sz44 rfl rfl rfl (qH 0 rfl rfl))<|rMv rfl<|zB<|sReg rfl<|rMv rfl<|zA rfl (qR rfl rfl rfl)<|zB<|zH rfl (fun c2 => ?_) (fun c2 => ?_)
  ·try simp only [sx] at c2
   refine sReg rfl<|zA rfl (yW [none,none,none,none,none,none,none,none,none,none,some 2,some 4,some 13] rfl zr52 pl52 rfl rfl)<|rMv rfl<|zX rfl rfl (zT rfl sz52 rfl rfl rfl (qH 1 rfl rfl))<|rMv rfl<|zB<|zI<|fin2 (qG yS rfl (zF 1 rfl) rfl) (rs_c rfl) ?_
   rw [mEx_e2 c1 (mIxs_err c2)]; rfl
  ·try simp only [sx] at c2
   obtain ⟨di,hmi⟩ := mIxs_0 c2
   rw [hmi]
   refine zJ<|sReg rfl<|zA rfl (zC rfl kW rfl)<|zA rfl (zD rfl zAt rfl (zF 2 rfl) rfl)<|qA rfl rfl (wY rfl ok175 (zPh e.Args hA) ⟨zE,rfl,trivial⟩) ?_
   rintro _ _ ⟨sv4,rfl,rfl⟩
   refine zA rfl (zC rfl kW rfl)<|zX rfl rfl (zT rfl sz50 rfl rfl rfl (qH 1 rfl rfl))<|zB<|zK<|sReg rfl<|zA rfl (zC rfl kW rfl)<|zA rfl (zD rfl zAt rfl (zF 3 rfl) rfl)<|zA rfl (zR rfl el50 rfl)<|rMv rfl<|zB<|zS<|zY ⟨[(41,.c _),(1,.c _),(2,.c _),(4,.c _),(6,.c _),(40,.c _)],[_,_,_,_]⟩ (Weak.mk [true,true,true,true] ⟨zE,zE,zE,zE,zE,zE,trivial⟩ rfl)<|qI 1 1 rfl rfl (Nat × List Ex) (fun ⟨n,exs⟩ => [(41,vI n)]) (fun ⟨n,exs⟩ => [E.vec sv4 52 13 (exs.map Ex.cells ++ (e.Args.drop n).map Ex.cells)]) (fun ⟨n,exs⟩ => n ≤ e.Args.length ∧ (exs.length = n) ∧ (mExs f e.Args = mapRest exs (mExs f (e.Args.drop n)))) (fun ⟨n,exs⟩ => e.Args.length - n) ⟨⟨0,[]⟩,⟨by omega,rfl,(zEt _).symm⟩,Weak.mk [true,true,true,true] ⟨zE,zE,zE,zE,zE,zE,trivial⟩ rfl⟩ ?_
   rintro ⟨n,exs⟩ ⟨hn,hno,hr⟩
   show AWP _ _ _ _ _ ⟨[(41,vI n)] ++ _,[E.vec sv4 52 13 (exs.map Ex.cells ++ (e.Args.drop n).map Ex.cells)] ++ _⟩
   refine sReg rfl<|zA rfl (qM rfl rfl rfl)<|zB<|zK<|zH rfl (fun c3 => ?_) (fun c3 => ?_)
   ·try simp only [sx] at c3
    obtain ⟨a,ha⟩ := qX e.Args n (by omega)
    refine zJ<|zK<|zS<|sReg rfl<|rMv rfl<|rMv rfl<|zB<|zK<|yZ 15 0 [⟨0,.q []⟩,⟨1,.q [1]⟩,⟨2,.q []⟩,⟨3,.q []⟩,⟨4,.q [3]⟩,⟨5,.q []⟩,⟨6,.q []⟩,⟨7,.q []⟩,⟨8,.q []⟩,⟨9,.q []⟩,⟨10,.q []⟩,⟨11,.q []⟩,⟨12,.q []⟩,⟨13,.q [0]⟩,⟨14,.e 0 []⟩] mixed (by kernel_rfl) (by kernel_rfl) rfl rfl rfl<|zW rfl<|zW rfl<|zW rfl<|zW rfl<|zW rfl<|zW rfl<|zW rfl<|zW rfl<|zW rfl<|zW rfl<|zW rfl<|zW rfl<|zW rfl<|zW rfl<|zW rfl<|zAl<|qD rfl (by decide) rfl rfl (zC rfl kW rfl)<|qD rfl (by decide) rfl rfl (zD rfl zAt rfl (zF 0 rfl) rfl)<|qD rfl (by decide) rfl rfl (zN rfl rfl)<|qD rfl (by decide) rfl rfl (zC rfl kW rfl)<|qD rfl (by decide) rfl rfl (zD rfl zAt rfl (zF 0 rfl) rfl)<|qD rfl (by decide) rfl rfl (zN rfl rfl)<|qD rfl (by decide) rfl rfl (zO rfl el50 rfl rfl (by omega) (zEy (by assumption)))<|qD rfl (by decide) rfl rfl (zG rfl yS rfl qC rfl)<|qD rfl (by decide) rfl rfl (zN rfl rfl)<|qD rfl (by decide) rfl rfl (zP rfl ok139 (ih a (qE ha) (Ex.allF_arg hP (qE ha)) (by have := Ex.arg_cnt (qE ha); omega)) ⟨zE,rfl,zE,rfl,trivial⟩)<|qD rfl (by decide) rfl rfl (qP rfl rfl)<|qD rfl (by decide) rfl rfl (yF rfl rfl rfl)<|qD rfl (by decide) rfl rfl (qU rfl rfl rfl)<|qD rfl (by decide) rfl rfl (qQ 0 rfl el50 rfl rfl rfl (by omega) (zIw (by simp; omega) (by omega)))<|zFy rfl rfl (by decide) rfl rfl (zT rfl sz52 rfl rfl rfl (zCi 0 rfl (mid_getE (by simp; omega) ha) rfl)) ?_
    rintro _ _ ⟨rfl,rfl⟩
    refine ⟨_,rfl,?_⟩
    refine zAk rfl<|rMv rfl<|zB<|sReg rfl<|rMv rfl<|zA rfl (qR rfl rfl rfl)<|zB<|zH rfl (fun c4 => ?_) (fun c4 => ?_)
    ·try simp only [sx] at c4
     refine sReg rfl<|zA rfl (yW [none,none,none,none,none,none,none,none,none,none,some 2,some 4,some 13] rfl zr52 pl52 rfl rfl)<|rMv rfl<|zX rfl rfl (zT rfl sz52 rfl rfl rfl (qH 2 rfl rfl))<|rMv rfl<|zB<|zI<|fin2 (qG yS rfl (zF 2 rfl) rfl) (rs_c rfl) ?_
     rw [mEx_e3 c1 hmi (mExs_no ha hr c4)]; rfl
    ·try simp only [sx] at c4
     refine zJ<|zU rfl<|zA rfl (qB rfl rfl rfl ⟨by omega,by omega⟩)<|rMv rfl<|zB ?_
     refine ⟨⟨n + 1,exs ++ [outE (mEx f a)]⟩,⟨by omega,by simp; omega,mExs_next ha hr c4⟩,(by show e.Args.length - (n + 1) < e.Args.length - n; omega),Weak.mk [true,true,true,true] ⟨zE,zE,zE,zE,zE,zE,trivial⟩ (by simp only [Int.toNat_natCast]; rw [zIv (by simp; omega) ha]; simp only [List.map_append,List.map_cons,List.map_nil,Ex.cells_eq (outE (mEx f a))]; rfl)⟩
   ·try simp only [sx] at c3
    have hme := mExs_end hr (by omega)
    rw [yT (l := e.Args) (k := n) (by omega)]
    simp only [List.map_nil,List.append_nil]
    refine zY _ (yL 0 rfl (regs' := []) (μ' := [_,_,_]) trivial ⟨EFle.row (ds := [_,_,_,_,_,_,_,_,_,_,_,_,_]) ⟨.inl rfl,.inl rfl,.inl rfl,.inl rfl,.inl rfl,.inl rfl,.inl rfl,.inl rfl,.inl rfl,.inl rfl,.inl rfl,.inl rfl,.inr ⟨rfl,rfl⟩,trivial⟩,EFle.refl _,EFle.refl _,trivial⟩)<|qN<|sReg rfl<|zA rfl (zG rfl yS rfl (zF 0 rfl) rfl)<|zX rfl rfl (zT rfl sz52 rfl rfl rfl (qH 1 rfl rfl))<|rMv rfl<|zB<|zI<|fin2 (qG yS rfl (zF 1 rfl) rfl) (rs_c rfl) ?_
    rw [mEx_ok c1 hmi hme]; rfl
theorem zFn (f : Lf → Lf × Int) (c : C) (P : Lf → Prop) (hf : ∀ l,P l → FnPur cfg c [vLin l] (.tup [vLin (f l).1,vI (f l).2])) (e : Ex) (hP : e.allF P) (he : e.cnt ≤ 4294967296) : Pur cfg 139 [vE e,.c c] (.tup [vE (outE (mEx f e)),vI (errE (mEx f e))]):= by
  induction e using Ex.ind with
  | _ e ih => exact zGr f c P hf e hP ih he
theorem zBm (f : Lf → Lf × Int) (c : C) (P : Lf → Prop) (hf : ∀ l,P l → FnPur cfg c [vLin l] (.tup [vLin (f l).1,vI (f l).2])) (g : ByteArray → ByteArray) (c9 : C) (hg : ∀ s,FnPur cfg c9 [vS s] (vS (g s))) (l : List St) (hP : allSs P l) (ih : ∀ s,s ∈ l → Pur cfg 93 [vSts s.Body,.c c,.c c9] (.tup [vSts (outS (mSts f g s.Body)),vI (errE (mSts f g s.Body))])) (hl : stsWt l ≤ 1073741824) :
    Pur cfg 93 [vSts l,.c c,.c c9] (.tup [vSts (outS (mSts f g l)),vI (errE (mSts f g l))]):= by
 refine zV Tryz.func93 rfl Tryz.ntmps93 Tryz.results93 rfl ?_
 intro z hz
 have hll := wA l
 refine sReg rfl<|zA rfl (qY 20 rfl rfl)<|rMv rfl<|zB<|sReg rfl<|rMv rfl<|qA rfl rfl (wY rfl ok138 (zPg l (by omega)) ⟨zE,rfl,trivial⟩) ?_
 rintro _ _ ⟨sv1,rfl,rfl⟩
 refine rMv rfl<|zB<|sReg rfl<|rMv rfl<|zB<|zK<|sReg rfl<|rMv rfl<|zA rfl (zR rfl el23 rfl)<|rMv rfl<|zB<|zS<|zY ⟨[(15,.c _),(0,.c _),(1,.c _),(2,.c _),(8,.c _),(14,.c _)],[_]⟩ (Weak.mk [true] ⟨zE,zE,zE,zE,zE,zE,trivial⟩ rfl)<|qI 1 1 rfl rfl (Nat × List St) (fun ⟨k,outs⟩ => [(15,vI k)]) (fun ⟨k,outs⟩ => [E.vec sv1 54 20 (outs.map St.cells ++ (l.drop k).map St.cells)]) (fun ⟨k,outs⟩ => k ≤ l.length ∧ (outs.length = k) ∧ (mSts f g l = mapRest outs (mSts f g (l.drop k)))) (fun ⟨k,outs⟩ => l.length - k) ⟨⟨0,[]⟩,⟨by omega,rfl,(zEt _).symm⟩,Weak.mk [true] ⟨zE,zE,zE,zE,zE,zE,trivial⟩ rfl⟩ ?_
 rintro ⟨k,outs⟩ ⟨hk,ho,hp⟩
 show AWP _ _ _ _ _ ⟨[(15,vI k)] ++ _,[E.vec sv1 54 20 (outs.map St.cells ++ (l.drop k).map St.cells)] ++ _⟩
 refine sReg rfl<|zA rfl (qM rfl rfl rfl)<|zB<|zK<|zH rfl (fun c1 => ?_) (fun c1 => ?_)
 ·try simp only [sx] at c1
  obtain ⟨s,hs⟩ := qX l k (by omega)
  have hsw := yY (qE hs)
  have hse := St.wt_eq s
  have hPs := St.allF_eq (zLd hP s (qE hs))
  refine zJ<|zK<|zS<|sReg rfl<|rMv rfl<|rMv rfl<|zB<|zK<|sReg rfl<|rMv rfl<|rMv rfl<|zA rfl (zO rfl el23 rfl rfl (by omega) (wW hs))<|zA rfl (zZ rfl zAc rfl)<|zA rfl (zD rfl one3 rfl qC rfl)<|zA rfl (qF rfl rfl rfl)<|zB<|zH rfl (fun c2 => ?_) (fun c2 => ?_)
  ·try simp only [sx] at c2
   refine zU rfl<|rMv rfl<|rMv rfl<|rMv rfl<|rMv rfl<|rMv rfl<|zA rfl (zO rfl el23 rfl rfl (by omega) (wW hs))<|zA rfl (zZ rfl wQ rfl)<|zA rfl (zD rfl one9 rfl qC rfl)<|zA rfl (wD rfl rfl (hg s.Name) ⟨zE,rfl,trivial⟩)<|zA rfl (qQ 0 rfl el23 rfl rfl rfl (by omega) (zIw (by simp; omega) (by omega)))<|zA rfl (kC rfl wQ rfl)<|zX rfl rfl (zT rfl sz9 rfl rfl rfl (zCi 0 rfl (mid_getS (by simp; omega) hs) rfl))<|zB<|zK<|sReg rfl<|rMv rfl<|rMv rfl<|rMv rfl<|rMv rfl<|zA rfl (zO rfl el23 rfl rfl (by omega) (wW hs))<|zA rfl (zZ rfl zBz rfl)<|zA rfl (zD rfl kM rfl qC rfl)<|rMv rfl<|zA rfl (zP rfl ok86 (zBb f c P hf s.Idx (by omega) (fun x hx => by have := zBj hx; rw [Ix.wt] at this; omega) hPs.1) ⟨zE,rfl,zE,rfl,trivial⟩)<|zA rfl (qP rfl rfl)<|zA rfl (qU rfl rfl rfl)<|zA rfl (qU rfl rfl rfl)<|zA rfl (qQ 0 rfl el23 rfl rfl rfl (by omega) (by simp; omega))<|zA rfl (kC rfl zBz rfl)<|zX rfl rfl (zT rfl sz44 rfl rfl rfl (zCi 0 rfl (zCj (by simp; omega)) rfl))<|rMv rfl<|zB<|sReg rfl<|rMv rfl<|zA rfl (qR rfl rfl rfl)<|zB<|zH rfl (fun c3 => ?_) (fun c3 => ?_)
   ·try simp only [sx] at c3
    refine sReg rfl<|rMv rfl<|zA rfl (qY 20 rfl rfl)<|rMv rfl<|zB<|zI<|fin2 (rs_c rfl) (rs_c rfl) ?_
    rw [zLt hs hp (mSt_e1 (mIxs_err c3))]; rfl
   ·try simp only [sx] at c3
    obtain ⟨di,hmi⟩ := mIxs_0 c3
    rw [hmi]
    refine zJ<|zK<|sReg rfl<|rMv rfl<|rMv rfl<|rMv rfl<|rMv rfl<|zA rfl (zO rfl el23 rfl rfl (by omega) (wW hs))<|zA rfl (zZ rfl zAv rfl)<|zA rfl (zG rfl yS rfl qC rfl)<|rMv rfl<|zA rfl (zP rfl ok139 (zFn f c P hf s.E hPs.2.1 (by have := s.E.cnt_le; omega)) ⟨zE,rfl,zE,rfl,trivial⟩)<|zA rfl (qP rfl rfl)<|zA rfl (yF rfl rfl rfl)<|zA rfl (qU rfl rfl rfl)<|zA rfl (qQ 0 rfl el23 rfl rfl rfl (by omega) (by simp; omega))<|zA rfl (kC rfl zAv rfl)<|zX rfl rfl (zT rfl sz52 rfl rfl rfl (zCi 0 rfl (zCj (by simp; omega)) rfl))<|rMv rfl<|zB<|sReg rfl<|rMv rfl<|zA rfl (qR rfl rfl rfl)<|zB<|zH rfl (fun c4 => ?_) (fun c4 => ?_)
    ·try simp only [sx] at c4
     refine sReg rfl<|rMv rfl<|zA rfl (qY 20 rfl rfl)<|rMv rfl<|zB<|zI<|fin2 (rs_c rfl) (rs_c rfl) ?_
     rw [zLt hs hp (mSt_e2 hmi (mEx_err c4))]; rfl
    ·try simp only [sx] at c4
     obtain ⟨de,hmE⟩ := mEx_0 c4
     rw [hmE]
     refine zJ<|sReg rfl<|rMv rfl<|rMv rfl<|rMv rfl<|rMv rfl<|zA rfl (zO rfl el23 rfl rfl (by omega) (wW hs))<|zA rfl (zZ rfl zAn rfl)<|zA rfl (zD rfl zAa rfl qC rfl)<|rMv rfl<|rMv rfl<|zA rfl (zP rfl ok93 (ih s (qE hs)) ⟨zE,rfl,zE,rfl,zE,rfl,trivial⟩)<|zA rfl (qP rfl rfl)<|zA rfl (qU rfl rfl rfl)<|zA rfl (qU rfl rfl rfl)<|zA rfl (qQ 0 rfl el23 rfl rfl rfl (by omega) (by simp; omega))<|zA rfl (kC rfl zAn rfl)<|zX rfl rfl (zT rfl sz23 rfl rfl rfl (zCi 0 rfl (zCj (by simp; omega)) rfl))<|rMv rfl<|zB<|sReg rfl<|rMv rfl<|zA rfl (qR rfl rfl rfl)<|zB<|zH rfl (fun c5 => ?_) (fun c5 => ?_)
     ·try simp only [sx] at c5
      refine sReg rfl<|rMv rfl<|zA rfl (qY 20 rfl rfl)<|rMv rfl<|zB<|zI<|fin2 (rs_c rfl) (rs_c rfl) ?_
      rw [zLt hs hp (mSt_e3 hmi hmE (mSts_err c5))]; rfl
     ·try simp only [sx] at c5
      obtain ⟨db,hmb⟩ := mSts_0 c5
      rw [hmb]
      have hms := mSt_ok hmi hmE hmb
      have hset : ∀ r,(outs.map St.cells ++ (l.drop k).map St.cells).set k r = (outs.map St.cells ++ [r]) ++ (l.drop (k + 1)).map St.cells := fun r => zIv (by simp; omega) hs
      have hset2 : ∀ r r',((outs.map St.cells ++ [r]) ++ (l.drop (k + 1)).map St.cells).set k r' = (outs.map St.cells ++ [r']) ++ (l.drop (k + 1)).map St.cells := fun r r' => mid_set' (α := St) (f := St.cells) (l := l) (by simp; omega)
      refine zJ<|zU rfl<|zA rfl (qB rfl rfl rfl ⟨by omega,by omega⟩)<|rMv rfl<|zB ?_
      refine ⟨⟨k + 1,outs ++ [.mk s.Op (if s.Op = 1 then g s.Name else s.Name) s.Many s.Mark s.Fold di de db]⟩,⟨by omega,by simp; omega,mSts_next hs hp hms⟩,(by show l.length - (k + 1) < l.length - k; omega),Weak.mk [true] ⟨zE,zE,zE,zE,zE,zE,trivial⟩ (by simp only [Int.toNat_natCast,List.set_set,hset,hset2]; simp only [List.map_append,List.map_cons,List.map_nil,St.cells_eq (.mk _ _ _ _ _ _ _ _)]; first | (rw [if_pos c2]; rfl) | (rw [if_neg c2]; rfl))⟩
  ·try simp only [sx] at c2
   refine zJ<|zK<|sReg rfl<|rMv rfl<|rMv rfl<|rMv rfl<|rMv rfl<|zA rfl (zO rfl el23 rfl rfl (by omega) (wW hs))<|zA rfl (zZ rfl zBz rfl)<|zA rfl (zD rfl kM rfl qC rfl)<|rMv rfl<|zA rfl (zP rfl ok86 (zBb f c P hf s.Idx (by omega) (fun x hx => by have := zBj hx; rw [Ix.wt] at this; omega) hPs.1) ⟨zE,rfl,zE,rfl,trivial⟩)<|zA rfl (qP rfl rfl)<|zA rfl (qU rfl rfl rfl)<|zA rfl (qU rfl rfl rfl)<|zA rfl (qQ 0 rfl el23 rfl rfl rfl (by omega) (zIw (by simp; omega) (by omega)))<|zA rfl (kC rfl zBz rfl)<|zX rfl rfl (zT rfl sz44 rfl rfl rfl (zCi 0 rfl (mid_getS (by simp; omega) hs) rfl))<|rMv rfl<|zB<|sReg rfl<|rMv rfl<|zA rfl (qR rfl rfl rfl)<|zB<|zH rfl (fun c3 => ?_) (fun c3 => ?_)
   ·try simp only [sx] at c3
    refine sReg rfl<|rMv rfl<|zA rfl (qY 20 rfl rfl)<|rMv rfl<|zB<|zI<|fin2 (rs_c rfl) (rs_c rfl) ?_
    rw [zLt hs hp (mSt_e1 (mIxs_err c3))]; rfl
   ·try simp only [sx] at c3
    obtain ⟨di,hmi⟩ := mIxs_0 c3
    rw [hmi]
    refine zJ<|zK<|sReg rfl<|rMv rfl<|rMv rfl<|rMv rfl<|rMv rfl<|zA rfl (zO rfl el23 rfl rfl (by omega) (wW hs))<|zA rfl (zZ rfl zAv rfl)<|zA rfl (zG rfl yS rfl qC rfl)<|rMv rfl<|zA rfl (zP rfl ok139 (zFn f c P hf s.E hPs.2.1 (by have := s.E.cnt_le; omega)) ⟨zE,rfl,zE,rfl,trivial⟩)<|zA rfl (qP rfl rfl)<|zA rfl (yF rfl rfl rfl)<|zA rfl (qU rfl rfl rfl)<|zA rfl (qQ 0 rfl el23 rfl rfl rfl (by omega) (by simp; omega))<|zA rfl (kC rfl zAv rfl)<|zX rfl rfl (zT rfl sz52 rfl rfl rfl (zCi 0 rfl (zCj (by simp; omega)) rfl))<|rMv rfl<|zB<|sReg rfl<|rMv rfl<|zA rfl (qR rfl rfl rfl)<|zB<|zH rfl (fun c4 => ?_) (fun c4 => ?_)
    ·try simp only [sx] at c4
     refine sReg rfl<|rMv rfl<|zA rfl (qY 20 rfl rfl)<|rMv rfl<|zB<|zI<|fin2 (rs_c rfl) (rs_c rfl) ?_
     rw [zLt hs hp (mSt_e2 hmi (mEx_err c4))]; rfl
    ·try simp only [sx] at c4
     obtain ⟨de,hmE⟩ := mEx_0 c4
     rw [hmE]
     refine zJ<|sReg rfl<|rMv rfl<|rMv rfl<|rMv rfl<|rMv rfl<|zA rfl (zO rfl el23 rfl rfl (by omega) (wW hs))<|zA rfl (zZ rfl zAn rfl)<|zA rfl (zD rfl zAa rfl qC rfl)<|rMv rfl<|rMv rfl<|zA rfl (zP rfl ok93 (ih s (qE hs)) ⟨zE,rfl,zE,rfl,zE,rfl,trivial⟩)<|zA rfl (qP rfl rfl)<|zA rfl (qU rfl rfl rfl)<|zA rfl (qU rfl rfl rfl)<|zA rfl (qQ 0 rfl el23 rfl rfl rfl (by omega) (by simp; omega))<|zA rfl (kC rfl zAn rfl)<|zX rfl rfl (zT rfl sz23 rfl rfl rfl (zCi 0 rfl (zCj (by simp; omega)) rfl))<|rMv rfl<|zB<|sReg rfl<|rMv rfl<|zA rfl (qR rfl rfl rfl)<|zB<|zH rfl (fun c5 => ?_) (fun c5 => ?_)
     ·try simp only [sx] at c5
      refine sReg rfl<|rMv rfl<|zA rfl (qY 20 rfl rfl)<|rMv rfl<|zB<|zI<|fin2 (rs_c rfl) (rs_c rfl) ?_
      rw [zLt hs hp (mSt_e3 hmi hmE (mSts_err c5))]; rfl
     ·try simp only [sx] at c5
      obtain ⟨db,hmb⟩ := mSts_0 c5
      rw [hmb]
      have hms := mSt_ok hmi hmE hmb
      have hset : ∀ r,(outs.map St.cells ++ (l.drop k).map St.cells).set k r = (outs.map St.cells ++ [r]) ++ (l.drop (k + 1)).map St.cells := fun r => zIv (by simp; omega) hs
      have hset2 : ∀ r r',((outs.map St.cells ++ [r]) ++ (l.drop (k + 1)).map St.cells).set k r' = (outs.map St.cells ++ [r']) ++ (l.drop (k + 1)).map St.cells := fun r r' => mid_set' (α := St) (f := St.cells) (l := l) (by simp; omega)
      refine zJ<|zU rfl<|zA rfl (qB rfl rfl rfl ⟨by omega,by omega⟩)<|rMv rfl<|zB ?_
      refine ⟨⟨k + 1,outs ++ [.mk s.Op (if s.Op = 1 then g s.Name else s.Name) s.Many s.Mark s.Fold di de db]⟩,⟨by omega,by simp; omega,mSts_next hs hp hms⟩,(by show l.length - (k + 1) < l.length - k; omega),Weak.mk [true] ⟨zE,zE,zE,zE,zE,zE,trivial⟩ (by simp only [Int.toNat_natCast,List.set_set,hset,hset2]; simp only [List.map_append,List.map_cons,List.map_nil,St.cells_eq (.mk _ _ _ _ _ _ _ _)]; first | (rw [if_pos c2]; rfl) | (rw [if_neg c2]; rfl))⟩
 ·try simp only [sx] at c1
  have hme := mSts_end hp (by omega)
  rw [yT (l := l) (k := k) (by omega)]
  simp only [List.map_nil,List.append_nil]
  refine zY _ (yL 0 rfl (regs' := [(8,_)]) (μ' := []) ⟨FLe.sl,trivial⟩ trivial)<|qN<|sReg rfl<|rMv rfl<|rMv rfl<|rMv rfl<|zB<|zI<|fin2 (rs_c rfl) (rs_c rfl) ?_
  rw [hme]; rfl
theorem zFs (f : Lf → Lf × Int) (c : C) (P : Lf → Prop) (hf : ∀ l,P l → FnPur cfg c [vLin l] (.tup [vLin (f l).1,vI (f l).2])) (g : ByteArray → ByteArray) (c9 : C) (hg : ∀ s,FnPur cfg c9 [vS s] (vS (g s))) (s : St) (hP : allSs P s.Body) (hl : stsWt s.Body ≤ 1073741824) : Pur cfg 93 [vSts s.Body,.c c,.c c9] (.tup [vSts (outS (mSts f g s.Body)),vI (errE (mSts f g s.Body))]):= by
  induction s using St.ind with
  | _ s ih => exact zBm f c P hf g c9 hg s.Body hP (fun a ha => ih a ha (St.allF_eq (zLd hP a ha)).2.2 (by have := yY ha; have := St.body_wt a; omega)) hl
theorem zLv (f : Lf → Lf × Int) (c : C) (P : Lf → Prop) (hf : ∀ l,P l → FnPur cfg c [vLin l] (.tup [vLin (f l).1,vI (f l).2])) (g : ByteArray → ByteArray) (c9 : C) (hg : ∀ s,FnPur cfg c9 [vS s] (vS (g s))) (l : List St) (hP : allSs P l) (hl : stsWt l ≤ 1073741824) : Pur cfg 93 [vSts l,.c c,.c c9] (.tup [vSts (outS (mSts f g l)),vI (errE (mSts f g l))]) :=
  zBm f c P hf g c9 hg l hP (fun s hs => zFs f c P hf g c9 hg s (St.allF_eq (zLd hP s hs)).2.2 (by have := yY hs; have := St.body_wt s; omega)) hl
theorem zNf (l : Lf) (hl : l.L.length ≤ 1073741824) :
    Pur cfg 99 [vLin l] (vLin l):= by
 refine zV Tryz.func99 rfl Tryz.ntmps99 Tryz.results99 rfl ?_
 intro z hz
 refine sReg rfl<|qA rfl rfl (qL rfl rfl) ?_
 rintro _ _ ⟨b1,rfl,rfl⟩
 refine qA rfl rfl (qO [none,some 2] rfl zr49 rfl) ?_
 rintro _ _ ⟨b2,rfl,rfl⟩
 refine zB<|zK<|yC 6 mixed (by kernel_rfl) rfl rfl<|zM rfl rfl (zC rfl zDc rfl)<|zM rfl rfl (zD rfl one2 rfl (zF 1 rfl) rfl)<|zM rfl rfl (zC rfl kO rfl)<|zM rfl rfl (zD rfl wZ rfl (zF 1 rfl) rfl)<|zM rfl rfl (zP rfl ok146 (OwnR.pur (zLj l.L (by omega))) ⟨zE,rfl,trivial⟩)<|zM rfl rfl (qV rfl zr49 pl49 rfl)<|kA<|zX rfl rfl (zT rfl sz49 rfl rfl rfl (qH 0 rfl rfl))<|zB<|zI<|fin1 (qG kG rfl (zF 0 rfl) rfl) ?_
 exact rfl
end Go.W
