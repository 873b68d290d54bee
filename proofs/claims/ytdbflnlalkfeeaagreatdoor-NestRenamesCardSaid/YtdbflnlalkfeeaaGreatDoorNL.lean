/-
  Walks: what functions of the program compute. Printed by wip/gen/mk2.py.
  Conditions: none.
-/
import Derived.Test.YtdbflnlalkfeeaaGreatDoorNK
import Derived.Test.YtdbflnlalkfeeaaGreatDoorPlain2
import Derived.Test.YtdbflnlalkfeeaaGreatDoorEngZ
set_option maxRecDepth 10000
namespace Go.W
open Go Go.Eng Go.Proofs Go.L41 Go.Br
attribute [local irreducible] AWP RWP TD finQ
theorem ar83 : arrT Tryz.prog 83 = some (2,9,1):= by kernel_rfl
theorem ok44 : callOk Tryz.prog 44 = true:= by kernel_rfl
theorem ok45 : callOk Tryz.prog 45 = true:= by kernel_rfl
theorem ok48 : callOk Tryz.prog 48 = true:= by kernel_rfl
theorem ok94 : callOk Tryz.prog 94 = true:= by kernel_rfl
theorem ok101 : callOk Tryz.prog 101 = true:= by kernel_rfl
theorem ok102 : callOk Tryz.prog 102 = true:= by kernel_rfl
theorem ok147 : callOk Tryz.prog 147 = true:= by kernel_rfl
theorem zKy (l : Lf) (f t : ByteArray) (hl : l.L.length ≤ 4294967296) (hr : l.rng) :
    Pur cfg 147 [vLin l,vS f,vS t] (vLin (softR f t l)):= by
 refine zV Tryz.func147 rfl Tryz.ntmps147 Tryz.results147 rfl ?_
 intro z hz
 refine sReg rfl<|zY rfl rfl (qM rfl rfl) ?_
 rintro _ _ ⟨b1,rfl,rfl⟩
 refine zY rfl rfl (qH [none,some 2] rfl zr49 rfl) ?_
 rintro _ _ ⟨b2,rfl,rfl⟩
 refine zB<|sReg rfl<|zA rfl rfl (zF rfl yI rfl (zE 1 rfl) rfl)<|rMv rfl<|rMv rfl<|zA rfl rfl (qU rfl zCc pl111 rfl)<|zA rfl rfl (qV rfl el47 zCc rfl rfl rfl rfl)<|zA rfl rfl (qU rfl zr49 pl49 rfl)<|zA rfl rfl (zQ rfl ok144 (wO l f (vrL t) hl (by show 1 ≤ 4294967296; omega) hr (vrL_rng t)) ⟨VLe.refl _,rfl,VLe.refl _,rfl,VLe.refl _,rfl,trivial⟩)<|zA rfl rfl (qK rfl rfl)<|zA rfl rfl (yE rfl rfl rfl)<|zA rfl rfl (qN rfl rfl rfl)<|zY rfl rfl (qH [none,some 2] rfl zr49 rfl) ?_
 rintro _ _ ⟨b3,rfl,rfl⟩
 refine zS rfl rfl (zO rfl sz49 rfl rfl rfl (qE 0 rfl rfl))<|rMv rfl<|zB<|zJ<|sReg rfl<|rMv rfl<|zA rfl rfl (qS rfl rfl rfl)<|zB<|zG rfl (fun c1 => ?_) (fun c1 => ?_)
 ·try simp only [sx] at c1
  refine sReg rfl<|zA rfl rfl (zF rfl yI rfl (zE 2 rfl) rfl)<|zS rfl rfl (zO rfl sz49 rfl rfl rfl (qE 1 rfl rfl))<|zB<|zH<|fin1 (qF yI rfl (zE 1 rfl) rfl) ?_
  rw [show softR f t l = l from if_neg c1]; rfl
 ·try simp only [sx] at c1
  refine zK<|sReg rfl<|zA rfl rfl (zF rfl yI rfl (zE 0 rfl) rfl)<|zS rfl rfl (zO rfl sz49 rfl rfl rfl (qE 1 rfl rfl))<|zB<|zH<|fin1 (qF yI rfl (zE 1 rfl) rfl) ?_
  rw [show softR f t l = (substR l f (vrL t)).1 from if_pos c1]; rfl
theorem zEh (i : List Ix) (f t : ByteArray) (hi : i.length ≤ 1000000000) (hw : idxWt i ≤ 1000000000) (hr : ixsAll Lf.rng i) :
    Pur cfg 101 [vIndices i,vS f,vS t] (vIndices (i.map (gIx (softR f t)))):= by
 refine zV Tryz.func101 rfl Tryz.ntmps101 Tryz.results101 rfl ?_
 intro z hz
 refine sReg rfl<|zA rfl rfl (qW 4 rfl rfl)<|zB<|sReg rfl<|rMv rfl<|qY _ (yR 114 4)<|zB<|zJ<|sReg rfl<|rMv rfl<|zB<|zU<|zX ⟨[(8,.c _),(7,.c _),(0,.c _),(1,.c _),(2,.c _)],[_]⟩ (Weak.mk [true] ⟨VLe.of_eq rfl,VLe.of_eq rfl,VLe.of_eq rfl,VLe.of_eq rfl,VLe.of_eq rfl,trivial⟩ rfl)<|qI 2 1 rfl rfl (Nat × Value) (fun ⟨k,sv⟩ => [(8,vI k),(7,.c (.lit sv))]) (fun ⟨k,sv⟩ => [E.vec sv 114 4 (((i.take k).map (gIx (softR f t))).map Ix.cells)]) (fun ⟨k,sv⟩ => k ≤ i.length) (fun ⟨k,sv⟩ => i.length - k) ⟨⟨0,(.slice none 0 0)⟩,(by omega),Weak.mk [true] ⟨VLe.refl _,VLe.refl _,VLe.refl _,VLe.refl _,VLe.refl _,trivial⟩ rfl⟩ ?_
 rintro ⟨k,sv⟩ hk
 show AWP _ _ _ _ _ ⟨[(8,vI k),(7,.c (.lit sv))] ++ _,[E.vec sv 114 4 (((i.take k).map (gIx (softR f t))).map Ix.cells)] ++ _⟩
 refine zJ<|sReg rfl<|rMv rfl<|rMv rfl<|zA rfl rfl (zT rfl el44 rfl)<|zA rfl rfl (qL rfl rfl rfl)<|zB<|zG rfl (fun c1 => ?_) (fun c1 => ?_)
 ·try simp only [sx] at c1
  obtain ⟨x,hx⟩ := qZ i k (by omega)
  have hxw := zAn (qB hx)
  rw [Ix.wt] at hxw
  refine zK<|zJ<|zU<|zJ<|kH 15 1 [⟨0,.q []⟩,⟨1,.q []⟩,⟨2,.q []⟩,⟨3,.q []⟩,⟨4,.q []⟩,⟨5,.q []⟩,⟨6,.q []⟩,⟨7,.q []⟩,⟨8,.q []⟩,⟨9,.q []⟩,⟨10,.q []⟩,⟨11,.q []⟩,⟨12,.q []⟩,⟨13,.q []⟩,⟨14,.f 0⟩] mixed (by kernel_rfl) (by kernel_rfl) rfl rfl rfl<|zW rfl<|zW rfl<|zW rfl<|zW rfl<|zW rfl<|zW rfl<|zW rfl<|zW rfl<|zW rfl<|zW rfl<|zW rfl<|zW rfl<|zW rfl<|zW rfl<|fx_fresh rfl rfl (zGj (qH [none,some 2,none,some 2] rfl zCp rfl))<|zBl<|qD rfl (by decide) rfl rfl (zN rfl rfl)<|qD rfl (by decide) rfl rfl (zN rfl rfl)<|qD rfl (by decide) rfl rfl (zP rfl el44 rfl rfl (by omega) (getm (by assumption)))<|qD rfl (by decide) rfl rfl (zZ rfl zAy rfl)<|qD rfl (by decide) rfl rfl (zF rfl yI rfl qA rfl)<|qD rfl (by decide) rfl rfl (zN rfl rfl)<|qD rfl (by decide) rfl rfl (zN rfl rfl)<|qD rfl (by decide) rfl rfl (zQ rfl ok147 (zKy x.Lin f t (by omega) (hr x (qB hx)).1) ⟨VLe.refl _,rfl,VLe.refl _,rfl,VLe.refl _,rfl,trivial⟩)<|qD rfl (by decide) rfl rfl (zN rfl rfl)<|qD rfl (by decide) rfl rfl (zN rfl rfl)<|qD rfl (by decide) rfl rfl (zP rfl el44 rfl rfl (by omega) (getm (by assumption)))<|qD rfl (by decide) rfl rfl (zZ rfl zCi rfl)<|qD rfl (by decide) rfl rfl (zD rfl one9 rfl qA rfl)<|qD rfl (by decide) rfl rfl (qU rfl zCp pl114 rfl)<|sq_fresh rfl rfl ?_
  rintro _ _ ⟨b2,rfl,rfl⟩
  refine zBi rfl<|zS rfl rfl (zO rfl zKs rfl rfl rfl (qE 0 rfl rfl))<|zB<|zJ<|sReg rfl<|qY _ (yR 49 2)<|rMv rfl<|zB<|zU<|zX ⟨[(10,.c _),(0,.c _),(1,.c _),(2,.c _),(7,.c _),(8,.c _),(9,.c _)],[_,_,_]⟩ (Weak.mk [true,true,true] ⟨VLe.of_eq rfl,VLe.of_eq rfl,VLe.of_eq rfl,VLe.of_eq rfl,VLe.of_eq rfl,VLe.of_eq rfl,VLe.of_eq rfl,trivial⟩ rfl)<|qI 1 2 rfl rfl (Nat × Value) (fun ⟨j,sw⟩ => [(10,vI j)]) (fun ⟨j,sw⟩ => [E.vec sw 49 2 (((x.At.take j).map (softR f t)).map Lf.cells),E.row b2 114 [cI (softR f t x.Lin).K,.sl 2 ((softR f t x.Lin).L.map Mono.cells),cS x.From,.lit sw]]) (fun ⟨j,sw⟩ => j ≤ x.At.length) (fun ⟨j,sw⟩ => x.At.length - j) ⟨⟨0,(.slice none 0 0)⟩,(by omega),Weak.mk [true,true,true] ⟨VLe.refl _,VLe.refl _,VLe.refl _,VLe.refl _,VLe.refl _,VLe.refl _,VLe.refl _,trivial⟩ rfl⟩ ?_
  rintro ⟨j,sw⟩ hj
  show AWP _ _ _ _ _ ⟨[(10,vI j)] ++ _,[E.vec sw 49 2 (((x.At.take j).map (softR f t)).map Lf.cells),E.row b2 114 [cI (softR f t x.Lin).K,.sl 2 ((softR f t x.Lin).L.map Mono.cells),cS x.From,.lit sw]] ++ _⟩
  refine zJ<|sReg rfl<|rMv rfl<|rMv rfl<|rMv rfl<|zA rfl rfl (zP rfl el44 rfl rfl (by omega) (getm (by assumption)))<|zA rfl rfl (zZ rfl kG rfl)<|zA rfl rfl (zD rfl wI rfl qA rfl)<|zA rfl rfl (zT rfl wK rfl)<|zA rfl rfl (qL rfl rfl rfl)<|zB<|zG rfl (fun c2 => ?_) (fun c2 => ?_)
  ·try simp only [sx] at c2
   obtain ⟨l,hl⟩ := qZ x.At j (by omega)
   refine zK<|zJ<|zU<|yG 14 mixed (by kernel_rfl) rfl rfl<|zM rfl rfl (zC rfl kG rfl)<|zM rfl rfl (zD rfl wI rfl (zE 1 rfl) rfl)<|zM rfl rfl (zN rfl rfl)<|zM rfl rfl (zN rfl rfl)<|zM rfl rfl (zP rfl el44 rfl rfl (by omega) (getm (by assumption)))<|zM rfl rfl (zZ rfl kG rfl)<|zM rfl rfl (zD rfl wI rfl qA rfl)<|zM rfl rfl (zN rfl rfl)<|zM rfl rfl (zP rfl wK rfl rfl (by omega) (getm (by assumption)))<|zM rfl rfl (zF rfl yI rfl qA rfl)<|zM rfl rfl (zN rfl rfl)<|zM rfl rfl (zN rfl rfl)<|zM rfl rfl (zQ rfl ok147 (zKy l f t (by have := wT (qB hl); omega) ((hr x (qB hx)).2 l (qB hl))) ⟨VLe.refl _,rfl,VLe.refl _,rfl,VLe.refl _,rfl,trivial⟩)<|zM rfl rfl (qV rfl wK zr49 rfl rfl rfl rfl)<|kI<|zY rfl rfl (yB 0 rfl wK rfl rfl rfl (by simp only [List.length_map,List.length_append,List.length_cons,List.length_nil,List.length_take,List.length_drop]; omega) (by simp only [List.length_map,List.length_append,List.length_cons,List.length_nil,List.length_take,List.length_drop]; omega)) ?_
   rintro _ _ ⟨sv3,rfl,rfl⟩
   refine zA rfl rfl (zC rfl kG rfl)<|zS rfl rfl (zO rfl sz112 rfl rfl rfl (qE 1 rfl rfl))<|zB<|zR rfl<|rMv rfl<|zA rfl rfl (qC rfl rfl rfl ⟨by omega,by omega⟩)<|rMv rfl<|zB ?_
   refine ⟨⟨j + 1,sv3⟩,(by omega),(by show x.At.length - (j + 1) < x.At.length - j; omega),Weak.mk [true,true,true] ⟨VLe.refl _,VLe.refl _,VLe.refl _,VLe.refl _,VLe.refl _,VLe.refl _,VLe.refl _,trivial⟩ (by exact zHf (by rw [yC hl,List.map_append,List.map_append]; rfl))⟩
  ·try simp only [sx] at c2
   rw [yN (l := x.At) (k := j) (by omega)]
   refine zX _ (qX 0 rfl (regs' := []) (μ' := [_,_]) trivial ⟨EFle.row (ds := [_,_,_,_]) ⟨.inl rfl,.inl rfl,.inl rfl,.inr ⟨rfl,rfl⟩,trivial⟩,EFle.refl _,trivial⟩)<|qO<|zR rfl<|rMv rfl<|zA rfl rfl (zF rfl zAq rfl (zE 0 rfl) rfl)<|zA rfl rfl (qV rfl el44 zCp rfl rfl rfl rfl)<|zY rfl rfl (yB 1 rfl el44 rfl rfl rfl (by simp only [List.length_map,List.length_append,List.length_cons,List.length_nil,List.length_take,List.length_drop]; omega) (by simp only [List.length_map,List.length_append,List.length_cons,List.length_nil,List.length_take,List.length_drop]; omega)) ?_
   rintro _ _ ⟨sv4,rfl,rfl⟩
   refine rMv rfl<|zB<|zR rfl<|rMv rfl<|zA rfl rfl (qC rfl rfl rfl ⟨by omega,by omega⟩)<|rMv rfl<|zB ?_
   refine ⟨⟨k + 1,sv4⟩,(by omega),(by show i.length - (k + 1) < i.length - k; omega),Weak.mk [false,true] ⟨VLe.refl _,VLe.refl _,VLe.refl _,VLe.refl _,VLe.refl _,trivial⟩ (by exact zEm (by rw [yC hx,List.map_append,List.map_append]; rfl))⟩
 ·try simp only [sx] at c1
  rw [yN (l := i) (k := k) (by omega)]
  refine qO<|zJ<|zX _ (qX 0 rfl (regs' := [(7,_)]) (μ' := []) ⟨FLe.sl,trivial⟩ trivial)<|zR rfl<|rMv rfl<|rMv rfl<|zB<|zH<|fin1 (rs_c rfl) ?_
  exact rfl
theorem zIe (e : Ex) (f t : ByteArray) (ih : ∀ a,a ∈ e.Args → a.allF Lf.rng → a.wt ≤ 1000000000 → Pur cfg 102 [vE a,vS f,vS t] (vE (gEx (softR f t) a))) (hP : e.allF Lf.rng) (he : e.wt ≤ 1000000000) :
    Pur cfg 102 [vE e,vS f,vS t] (vE (gEx (softR f t) e)):= by
 refine zV Tryz.func102 rfl Tryz.ntmps102 Tryz.results102 rfl ?_
 intro z hz
 have hew := Ex.wt_eq e
 have hEP := e.parts (by omega)
 obtain ⟨hL,hI,hA⟩ := hEP
 refine sReg rfl<|zY rfl rfl (qM rfl rfl) ?_
 rintro _ _ ⟨b1,rfl,rfl⟩
 refine zY rfl rfl (qH [none,none,none,none,none,none,none,none,none,none,some 2,some 4,some 13] rfl zr52 rfl) ?_
 rintro _ _ ⟨b2,rfl,rfl⟩
 refine zB<|sReg rfl<|zA rfl rfl (zC rfl zCy rfl)<|zA rfl rfl (zF rfl yI rfl (zE 1 rfl) rfl)<|rMv rfl<|rMv rfl<|zA rfl rfl (zQ rfl ok147 (zKy e.Lin f t (by omega) (Ex.allF_lin hP)) ⟨VLe.refl _,rfl,VLe.refl _,rfl,VLe.refl _,rfl,trivial⟩)<|zA rfl rfl (zC rfl zCy rfl)<|zS rfl rfl (zO rfl sz49 rfl rfl rfl (qE 1 rfl rfl))<|zB<|sReg rfl<|zA rfl rfl (zC rfl kR rfl)<|zA rfl rfl (zD rfl wF rfl (zE 1 rfl) rfl)<|rMv rfl<|rMv rfl<|zA rfl rfl (zQ rfl ok101 (zEh e.Idx f t (by omega) (by omega) (ixsAll_of hP)) ⟨VLe.refl _,rfl,VLe.refl _,rfl,VLe.refl _,rfl,trivial⟩)<|zA rfl rfl (zC rfl kR rfl)<|zS rfl rfl (zO rfl sz44 rfl rfl rfl (qE 1 rfl rfl))<|zB<|sReg rfl<|rMv rfl<|qY _ (yR 52 13)<|zB<|zJ<|sReg rfl<|rMv rfl<|zB<|zU<|zX ⟨[(8,.c _),(7,.c _),(1,.c _),(2,.c _),(3,.c _),(6,.c _)],[_,_,_]⟩ (Weak.mk [true,true,true] ⟨VLe.of_eq rfl,VLe.of_eq rfl,VLe.of_eq rfl,VLe.of_eq rfl,VLe.of_eq rfl,VLe.of_eq rfl,trivial⟩ rfl)<|qI 2 1 rfl rfl (Nat × Value) (fun ⟨k,sv⟩ => [(8,vI k),(7,.c (.lit sv))]) (fun ⟨k,sv⟩ => [E.vec sv 52 13 (((e.Args.take k).map (gEx (softR f t))).map Ex.cells)]) (fun ⟨k,sv⟩ => k ≤ e.Args.length) (fun ⟨k,sv⟩ => e.Args.length - k) ⟨⟨0,(.slice none 0 0)⟩,(by omega),Weak.mk [true,true,true] ⟨VLe.refl _,VLe.refl _,VLe.refl _,VLe.refl _,VLe.refl _,VLe.refl _,trivial⟩ rfl⟩ ?_
 rintro ⟨k,sv⟩ hk
 show AWP _ _ _ _ _ ⟨[(8,vI k),(7,.c (.lit sv))] ++ _,[E.vec sv 52 13 (((e.Args.take k).map (gEx (softR f t))).map Ex.cells)] ++ _⟩
 refine zJ<|sReg rfl<|rMv rfl<|zA rfl rfl (zC rfl wM rfl)<|zA rfl rfl (zD rfl zCu rfl (zE 2 rfl) rfl)<|zA rfl rfl (zT rfl el50 rfl)<|zA rfl rfl (qL rfl rfl rfl)<|zB<|zG rfl (fun c1 => ?_) (fun c1 => ?_)
 ·try simp only [sx] at c1
  obtain ⟨a,ha⟩ := qZ e.Args k (by omega)
  refine zK<|zJ<|zU<|zR rfl<|rMv rfl<|zA rfl rfl (zC rfl wM rfl)<|zA rfl rfl (zD rfl zCu rfl (zE 2 rfl) rfl)<|rMv rfl<|zA rfl rfl (zP rfl el50 rfl rfl (by omega) (zLm (by assumption)))<|zA rfl rfl (zF rfl yY rfl qA rfl)<|rMv rfl<|rMv rfl<|zA rfl rfl (zQ rfl ok102 (ih a (qB ha) (Ex.allF_arg hP (qB ha)) (by have := Ex.arg_wt (qB ha); omega)) ⟨VLe.refl _,rfl,VLe.refl _,rfl,VLe.refl _,rfl,trivial⟩)<|zA rfl rfl (qV rfl el50 zr52 rfl rfl rfl rfl)<|zY rfl rfl (yB 0 rfl el50 rfl rfl rfl (by simp only [List.length_map,List.length_append,List.length_cons,List.length_nil,List.length_take,List.length_drop]; omega) (by simp only [List.length_map,List.length_append,List.length_cons,List.length_nil,List.length_take,List.length_drop]; omega)) ?_
  rintro _ _ ⟨sv4,rfl,rfl⟩
  refine rMv rfl<|zB<|zR rfl<|rMv rfl<|zA rfl rfl (qC rfl rfl rfl ⟨by omega,by omega⟩)<|rMv rfl<|zB ?_
  refine ⟨⟨k + 1,sv4⟩,(by omega),(by show e.Args.length - (k + 1) < e.Args.length - k; omega),Weak.mk [true,true,true] ⟨VLe.refl _,VLe.refl _,VLe.refl _,VLe.refl _,VLe.refl _,VLe.refl _,trivial⟩ (by exact zEm (by rw [yC ha,List.map_append,List.map_append,List.map_singleton,List.map_singleton,Ex.cells_eq (gEx (softR f t) a)]))⟩
 ·try simp only [sx] at c1
  rw [yN (l := e.Args) (k := k) (by omega)]
  refine zX _ (qX 0 rfl (regs' := [(7,_)]) (μ' := [_,_]) ⟨FLe.sl,trivial⟩ ⟨EFle.refl _,EFle.refl _,trivial⟩)<|qO<|sReg rfl<|rMv rfl<|zA rfl rfl (zC rfl wM rfl)<|zS rfl rfl (zO rfl sz50 rfl rfl rfl (qE 1 rfl rfl))<|zB<|sReg rfl<|zA rfl rfl (zF rfl yY rfl (zE 1 rfl) rfl)<|zS rfl rfl (zO rfl sz52 rfl rfl rfl (qE 0 rfl rfl))<|zB<|zH<|fin1 (qF yY rfl (zE 0 rfl) rfl) ?_
  rw [zCg]; rfl
theorem zHt (e : Ex) (f t : ByteArray) (hP : e.allF Lf.rng) (he : e.wt ≤ 1000000000) : Pur cfg 102 [vE e,vS f,vS t] (vE (gEx (softR f t) e)):= by
  induction e using Ex.ind with
  | _ e ih => exact zIe e f t ih hP he
theorem zDm (l : List St) (f t : ByteArray) (hl : stsWt l ≤ 1000000) (hr : allSs Lf.rng l) (ih : ∀ s,s ∈ l → Pur cfg 48 [vSts s.Body,vS f,vS t] (vSts (renT f t s.Body))) :
    Pur cfg 48 [vSts l,vS f,vS t] (vSts (renT f t l)):= by
 refine zV Tryz.func48 rfl Tryz.ntmps48 Tryz.results48 rfl ?_
 intro z hz
 have hll := wD l
 refine sReg rfl<|zA rfl rfl (qW 20 rfl rfl)<|zB<|sReg rfl<|rMv rfl<|qY _ (yR 54 20)<|zB<|zJ<|sReg rfl<|rMv rfl<|zB<|zU<|zX ⟨[(8,.c _),(7,.c _),(0,.c _),(1,.c _),(2,.c _)],[_]⟩ (Weak.mk [true] ⟨VLe.of_eq rfl,VLe.of_eq rfl,VLe.of_eq rfl,VLe.of_eq rfl,VLe.of_eq rfl,trivial⟩ rfl)<|qI 2 1 rfl rfl (Nat × Value) (fun ⟨k,sv⟩ => [(8,vI k),(7,.c (.lit sv))]) (fun ⟨k,sv⟩ => [E.vec sv 54 20 ((renT f t (l.take k)).map St.cells)]) (fun ⟨k,sv⟩ => k ≤ l.length) (fun ⟨k,sv⟩ => l.length - k) ⟨⟨0,(.slice none 0 0)⟩,(by omega),Weak.mk [true] ⟨VLe.refl _,VLe.refl _,VLe.refl _,VLe.refl _,VLe.refl _,trivial⟩ rfl⟩ ?_
 rintro ⟨k,sv⟩ hk
 show AWP _ _ _ _ _ ⟨[(8,vI k),(7,.c (.lit sv))] ++ _,[E.vec sv 54 20 ((renT f t (l.take k)).map St.cells)] ++ _⟩
 refine zJ<|sReg rfl<|rMv rfl<|rMv rfl<|zA rfl rfl (zT rfl el23 rfl)<|zA rfl rfl (qL rfl rfl rfl)<|zB<|zG rfl (fun c1 => ?_) (fun c1 => ?_)
 ·try simp only [sx] at c1
  obtain ⟨s,hs⟩ := qZ l k (by omega)
  have hsw := kA (qB hs)
  have hse := St.wt_eq s
  obtain ⟨hp1,hp2,hp3⟩ := St.all_parts (zAp hr s (qB hs))
  have hrn : (renT f t (l.take k)).length = k:= by rw [renT_map,List.length_map,List.length_take]; omega
  refine zK<|zJ<|zU<|sReg rfl<|rMv rfl<|rMv rfl<|zA rfl rfl (zP rfl el23 rfl rfl (by omega) (zBk hs))<|zA rfl rfl (zF rfl zGu rfl qA rfl)<|zY rfl rfl (qH [none,none,none,none,none,some 4,none,none,none,none,none,none,none,none,none,none,some 2,some 4,some 13,some 20] rfl zr54 rfl) ?_
  rintro _ _ ⟨b2,rfl,rfl⟩
  refine zS rfl rfl (zO rfl sz54 rfl rfl rfl (qE 0 rfl rfl))<|zB<|zJ<|sReg rfl<|zA rfl rfl (zC rfl zCx rfl)<|zA rfl rfl (zD rfl one3 rfl (zE 0 rfl) rfl)<|zA rfl rfl (qJ rfl rfl rfl)<|rMv rfl<|rLz [] rfl gv1 trivial (fun g6_3 => zC rfl zBp rfl) rfl<|rLz [(24,_)] rfl gv1 ⟨rfl,rfl,trivial⟩ (fun g6_3 => zD rfl one9 rfl (zE 0 rfl) rfl) rfl<|rLz [] rfl gv1 trivial (fun g6_3 => zN rfl rfl) rfl<|rLz [(25,_),(26,_)] rfl gv1 ⟨rfl,rfl,rfl,rfl,trivial⟩ (fun g6_3 => yL rfl rfl rfl) rfl<|zA rfl rfl (qP rfl rfl rfl (fun h => h) rfl)<|zB<|zG rfl (fun c2 => ?_) (fun c2 => ?_)
  ·have c2 : s.Op = 1 ∧ s.Name = f:= by simpa using c2
   refine zR rfl<|rMv rfl<|zA rfl rfl (zC rfl zBp rfl)<|zS rfl rfl (zO rfl sz9 rfl rfl rfl (qE 0 rfl rfl))<|zB<|sReg rfl<|zA rfl rfl (zC rfl zBe rfl)<|zA rfl rfl (zD rfl wF rfl (zE 0 rfl) rfl)<|rMv rfl<|rMv rfl<|zA rfl rfl (zQ rfl ok101 (zEh s.Idx f t (by omega) (by omega) hp1) ⟨VLe.refl _,rfl,VLe.refl _,rfl,VLe.refl _,rfl,trivial⟩)<|zA rfl rfl (zC rfl zBe rfl)<|zS rfl rfl (zO rfl sz44 rfl rfl rfl (qE 0 rfl rfl))<|zB<|sReg rfl<|zA rfl rfl (zC rfl zAh rfl)<|zA rfl rfl (zF rfl yY rfl (zE 0 rfl) rfl)<|rMv rfl<|rMv rfl<|zA rfl rfl (zQ rfl ok102 (zHt s.E f t hp2 (by omega)) ⟨VLe.refl _,rfl,VLe.refl _,rfl,VLe.refl _,rfl,trivial⟩)<|zA rfl rfl (zC rfl zAh rfl)<|zS rfl rfl (zO rfl sz52 rfl rfl rfl (qE 0 rfl rfl))<|zB<|sReg rfl<|zA rfl rfl (zC rfl zAa rfl)<|zA rfl rfl (zD rfl zCh rfl (zE 0 rfl) rfl)<|rMv rfl<|rMv rfl<|zA rfl rfl (zQ rfl ok48 (ih s (qB hs)) ⟨VLe.refl _,rfl,VLe.refl _,rfl,VLe.refl _,rfl,trivial⟩)<|zA rfl rfl (zC rfl zAa rfl)<|zS rfl rfl (zO rfl sz23 rfl rfl rfl (qE 0 rfl rfl))<|zB<|zR rfl<|rMv rfl<|zA rfl rfl (zF rfl zGu rfl (zE 0 rfl) rfl)<|zA rfl rfl (qV rfl el23 zr54 rfl rfl rfl rfl)<|zY rfl rfl (yB 1 rfl el23 rfl rfl rfl (by simp only [List.length_map,List.length_append,List.length_cons,List.length_nil,List.length_take,List.length_drop]; omega) (by simp only [List.length_map,List.length_append,List.length_cons,List.length_nil,List.length_take,List.length_drop]; omega)) ?_
   rintro _ _ ⟨sv3,rfl,rfl⟩
   refine rMv rfl<|zB<|zR rfl<|rMv rfl<|zA rfl rfl (qC rfl rfl rfl ⟨by omega,by omega⟩)<|rMv rfl<|zB ?_
   refine ⟨⟨k + 1,sv3⟩,(by omega),(by show l.length - (k + 1) < l.length - k; omega),Weak.mk [false,true] ⟨VLe.refl _,VLe.refl _,VLe.refl _,VLe.refl _,VLe.refl _,trivial⟩ (by exact zEm (by rw [ren_at hs,ren_y c2,List.map_append,List.map_singleton,St.cells_eq]; rfl))⟩
  ·have c2 : ¬ (s.Op = 1 ∧ s.Name = f):= by simpa using c2
   refine zK<|sReg rfl<|zA rfl rfl (zC rfl zBe rfl)<|zA rfl rfl (zD rfl wF rfl (zE 0 rfl) rfl)<|rMv rfl<|rMv rfl<|zA rfl rfl (zQ rfl ok101 (zEh s.Idx f t (by omega) (by omega) hp1) ⟨VLe.refl _,rfl,VLe.refl _,rfl,VLe.refl _,rfl,trivial⟩)<|zA rfl rfl (zC rfl zBe rfl)<|zS rfl rfl (zO rfl sz44 rfl rfl rfl (qE 0 rfl rfl))<|zB<|sReg rfl<|zA rfl rfl (zC rfl zAh rfl)<|zA rfl rfl (zF rfl yY rfl (zE 0 rfl) rfl)<|rMv rfl<|rMv rfl<|zA rfl rfl (zQ rfl ok102 (zHt s.E f t hp2 (by omega)) ⟨VLe.refl _,rfl,VLe.refl _,rfl,VLe.refl _,rfl,trivial⟩)<|zA rfl rfl (zC rfl zAh rfl)<|zS rfl rfl (zO rfl sz52 rfl rfl rfl (qE 0 rfl rfl))<|zB<|sReg rfl<|zA rfl rfl (zC rfl zAa rfl)<|zA rfl rfl (zD rfl zCh rfl (zE 0 rfl) rfl)<|rMv rfl<|rMv rfl<|zA rfl rfl (zQ rfl ok48 (ih s (qB hs)) ⟨VLe.refl _,rfl,VLe.refl _,rfl,VLe.refl _,rfl,trivial⟩)<|zA rfl rfl (zC rfl zAa rfl)<|zS rfl rfl (zO rfl sz23 rfl rfl rfl (qE 0 rfl rfl))<|zB<|zR rfl<|rMv rfl<|zA rfl rfl (zF rfl zGu rfl (zE 0 rfl) rfl)<|zA rfl rfl (qV rfl el23 zr54 rfl rfl rfl rfl)<|zY rfl rfl (yB 1 rfl el23 rfl rfl rfl (by simp only [List.length_map,List.length_append,List.length_cons,List.length_nil,List.length_take,List.length_drop]; omega) (by simp only [List.length_map,List.length_append,List.length_cons,List.length_nil,List.length_take,List.length_drop]; omega)) ?_
   rintro _ _ ⟨sv4,rfl,rfl⟩
   refine rMv rfl<|zB<|zR rfl<|rMv rfl<|zA rfl rfl (qC rfl rfl rfl ⟨by omega,by omega⟩)<|rMv rfl<|zB ?_
   refine ⟨⟨k + 1,sv4⟩,(by omega),(by show l.length - (k + 1) < l.length - k; omega),Weak.mk [false,true] ⟨VLe.refl _,VLe.refl _,VLe.refl _,VLe.refl _,VLe.refl _,trivial⟩ (by exact zEm (by rw [ren_at hs,ren_n c2,List.map_append,List.map_singleton,St.cells_eq]; rfl))⟩
 ·try simp only [sx] at c1
  rw [yN (l := l) (k := k) (by omega)]
  refine qO<|zJ<|zX _ (qX 0 rfl (regs' := [(7,_)]) (μ' := []) ⟨FLe.sl,trivial⟩ trivial)<|zR rfl<|rMv rfl<|rMv rfl<|zB<|zH<|fin1 (rs_c rfl) ?_
  exact rfl
theorem zKz (s : St) (f t : ByteArray) (hl : stsWt s.Body ≤ 1000000) (hr : allSs Lf.rng s.Body) : Pur cfg 48 [vSts s.Body,vS f,vS t] (vSts (renT f t s.Body)):= by
  induction s using St.ind with
  | _ s ih => exact zDm s.Body f t hl hr fun a ha => ih a ha (by have := kA ha; have := St.body_wt a; omega) (St.all_parts (zAp hr a ha)).2.2
theorem ref30_Rename (l : List St) (f t : ByteArray) (hl : stsWt l ≤ 1000000) (hr : allSs Lf.rng l) : Pur cfg 48 [vSts l,vS f,vS t] (vSts (renT f t l)) :=
  zDm l f t hl hr fun s hs => zKz s f t (by have := kA hs; have := St.body_wt s; omega) (St.all_parts (zAp hr s hs)).2.2
theorem zCe (l : List St) (n : ByteArray) (u : Lf) (hu : u.L.length ≤ 4294967296) (hru : u.rng) (hl : stsWt l ≤ 1000000) (hr : allSs Lf.rng l) (ih : ∀ s,s ∈ l → Pur cfg 45 [vSts s.Body,vS n,vLin u] (.tup [vSts (outS (sbT n u s.Body)),vI (errE (sbT n u s.Body))])) :
    Pur cfg 45 [vSts l,vS n,vLin u] (.tup [vSts (outS (sbT n u l)),vI (errE (sbT n u l))]):= by
 refine zV Tryz.func45 rfl Tryz.ntmps45 Tryz.results45 rfl ?_
 intro z hz
 have hll := wD l
 refine sReg rfl<|zY rfl rfl (qM rfl rfl) ?_
 rintro _ _ ⟨b1,rfl,rfl⟩
 refine zA rfl rfl (qW 20 rfl rfl)<|rMv rfl<|zB<|sReg rfl<|rMv rfl<|qY _ (yR 54 20)<|zB<|zJ<|sReg rfl<|rMv rfl<|zB<|zU<|zX ⟨[(9,.c _),(8,.c _),(0,.c _),(1,.c _),(5,.c _)],[_,_]⟩ (Weak.mk [true,true] ⟨VLe.of_eq rfl,VLe.of_eq rfl,VLe.of_eq rfl,VLe.of_eq rfl,VLe.of_eq rfl,trivial⟩ rfl)<|qI 2 1 rfl rfl (Nat × List St × Value) (fun ⟨k,outs,sv⟩ => [(9,vI k),(8,.c (.lit sv))]) (fun ⟨k,outs,sv⟩ => [E.vec sv 54 20 (outs.map St.cells)]) (fun ⟨k,outs,sv⟩ => k ≤ l.length ∧ (outs.length = k) ∧ (sbT n u l = mapRest outs (sbT n u (l.drop k)))) (fun ⟨k,outs,sv⟩ => l.length - k) ⟨⟨0,[],.slice none 0 0⟩,⟨by omega,rfl,(wY _).symm⟩,Weak.mk [true,true] ⟨VLe.refl _,VLe.refl _,VLe.refl _,VLe.refl _,VLe.refl _,trivial⟩ rfl⟩ ?_
 rintro ⟨k,outs,sv⟩ ⟨hk,ho,hp⟩
 show AWP _ _ _ _ _ ⟨[(9,vI k),(8,.c (.lit sv))] ++ _,[E.vec sv 54 20 (outs.map St.cells)] ++ _⟩
 refine zJ<|sReg rfl<|rMv rfl<|rMv rfl<|zA rfl rfl (zT rfl el23 rfl)<|zA rfl rfl (qL rfl rfl rfl)<|zB<|zG rfl (fun c1 => ?_) (fun c1 => ?_)
 ·try simp only [sx] at c1
  obtain ⟨s,hs⟩ := qZ l k (by omega)
  have hsw := kA (qB hs)
  have hse := St.wt_eq s
  obtain ⟨hp1,hp2,hp3⟩ := St.all_parts (zAp hr s (qB hs))
  refine zK<|zJ<|zU<|sReg rfl<|rMv rfl<|rMv rfl<|zA rfl rfl (zP rfl el23 rfl rfl (by omega) (zBk hs))<|zA rfl rfl (zF rfl zGu rfl qA rfl)<|zY rfl rfl (qH [none,none,none,none,none,some 4,none,none,none,none,none,none,none,none,none,none,some 2,some 4,some 13,some 20] rfl zr54 rfl) ?_
  rintro _ _ ⟨b3,rfl,rfl⟩
  refine zS rfl rfl (zO rfl sz54 rfl rfl rfl (qE 0 rfl rfl))<|zB<|sReg rfl<|zA rfl rfl (zC rfl zBe rfl)<|zA rfl rfl (zD rfl wF rfl (zE 0 rfl) rfl)<|zA rfl rfl (yK [none,none,none,none,none,none,none,none,none,none,some 2,none,some 13] rfl zr52 pl52 rfl rfl)<|rMv rfl<|zA rfl rfl (zF rfl yI rfl (zE 2 rfl) rfl)<|zA rfl rfl (zQ rfl ok97 (zFc (rdX s.Idx) n u hu hru (rdX_all zrng hp1) (by rw [rdX_wt]; omega)) ⟨VLe.refl _,rfl,VLe.refl _,rfl,VLe.refl _,rfl,trivial⟩)<|zA rfl rfl (qK rfl rfl)<|zA rfl rfl (yE rfl rfl rfl)<|zA rfl rfl (qN rfl rfl rfl)<|zY rfl rfl (qH [none,none,none,none,none,none,none,none,none,none,some 2,some 4,some 13] rfl zr52 rfl) ?_
  rintro _ _ ⟨b4,rfl,rfl⟩
  refine zS rfl rfl (zO rfl sz52 rfl rfl rfl (qE 0 rfl rfl))<|rMv rfl<|zB<|zJ<|sReg rfl<|rMv rfl<|zA rfl rfl (qS rfl rfl rfl)<|zB<|zG rfl (fun c2 => ?_) (fun c2 => ?_)
  ·try simp only [sx] at c2
   refine sReg rfl<|rMv rfl<|zA rfl rfl (qW 20 rfl rfl)<|rMv rfl<|zB<|zH<|fin2 (rs_c rfl) (rs_c rfl) ?_
   rw [show sbT n u l = _ from zEn hs hp (sub_1 c2)]; rfl
  ·try simp only [sx] at c2
   refine zK<|sReg rfl<|zA rfl rfl (zC rfl zAh rfl)<|zA rfl rfl (zF rfl yY rfl (zE 1 rfl) rfl)<|rMv rfl<|zA rfl rfl (zF rfl yI rfl (zE 3 rfl) rfl)<|zA rfl rfl (zQ rfl ok97 (zFc s.E n u hu hru hp2 (by omega)) ⟨VLe.refl _,rfl,VLe.refl _,rfl,VLe.refl _,rfl,trivial⟩)<|zA rfl rfl (qK rfl rfl)<|zA rfl rfl (yE rfl rfl rfl)<|zA rfl rfl (qN rfl rfl rfl)<|zY rfl rfl (qH [none,none,none,none,none,none,none,none,none,none,some 2,some 4,some 13] rfl zr52 rfl) ?_
   rintro _ _ ⟨b5,rfl,rfl⟩
   refine zS rfl rfl (zO rfl sz52 rfl rfl rfl (qE 0 rfl rfl))<|rMv rfl<|zB<|zJ<|sReg rfl<|rMv rfl<|zA rfl rfl (qS rfl rfl rfl)<|zB<|zG rfl (fun c3 => ?_) (fun c3 => ?_)
   ·try simp only [sx] at c3
    refine sReg rfl<|rMv rfl<|zA rfl rfl (qW 20 rfl rfl)<|rMv rfl<|zB<|zH<|fin2 (rs_c rfl) (rs_c rfl) ?_
    rw [show sbT n u l = _ from zEn hs hp (sub_2 c2 c3)]; rfl
   ·try simp only [sx] at c3
    refine zK<|sReg rfl<|zA rfl rfl (zC rfl zAa rfl)<|zA rfl rfl (zD rfl zCh rfl (zE 2 rfl) rfl)<|rMv rfl<|zA rfl rfl (zF rfl yI rfl (zE 4 rfl) rfl)<|zA rfl rfl (zQ rfl ok45 (ih s (qB hs)) ⟨VLe.refl _,rfl,VLe.refl _,rfl,VLe.refl _,rfl,trivial⟩)<|zA rfl rfl (qK rfl rfl)<|zA rfl rfl (qN rfl rfl rfl)<|zA rfl rfl (qN rfl rfl rfl)<|rMv rfl<|rMv rfl<|zB<|zJ<|sReg rfl<|rMv rfl<|zA rfl rfl (qS rfl rfl rfl)<|zB<|zG rfl (fun c4 => ?_) (fun c4 => ?_)
    ·try simp only [sx] at c4
     refine sReg rfl<|rMv rfl<|zA rfl rfl (qW 20 rfl rfl)<|rMv rfl<|zB<|zH<|fin2 (rs_c rfl) (rs_c rfl) ?_
     rw [show sbT n u l = _ from zEn hs hp (sub_3 c2 c3 c4)]; rfl
    ·try simp only [sx] at c4
     refine zK<|sReg rfl<|zA rfl rfl (zC rfl kR rfl)<|zA rfl rfl (zD rfl wF rfl (zE 1 rfl) rfl)<|zA rfl rfl (zC rfl zBe rfl)<|zS rfl rfl (zO rfl sz44 rfl rfl rfl (qE 2 rfl rfl))<|zB<|sReg rfl<|zA rfl rfl (zF rfl yY rfl (zE 0 rfl) rfl)<|zA rfl rfl (zC rfl zAh rfl)<|zS rfl rfl (zO rfl sz52 rfl rfl rfl (qE 2 rfl rfl))<|zB<|sReg rfl<|rMv rfl<|zA rfl rfl (zC rfl zAa rfl)<|zS rfl rfl (zO rfl sz23 rfl rfl rfl (qE 2 rfl rfl))<|zB<|zR rfl<|rMv rfl<|zA rfl rfl (zF rfl zGu rfl (zE 2 rfl) rfl)<|zA rfl rfl (qV rfl el23 zr54 rfl rfl rfl rfl)<|zY rfl rfl (yB 3 rfl el23 rfl rfl rfl (by simp only [List.length_map,List.length_append,List.length_cons,List.length_nil,List.length_take,List.length_drop]; omega) (by simp only [List.length_map,List.length_append,List.length_cons,List.length_nil,List.length_take,List.length_drop]; omega)) ?_
     rintro _ _ ⟨sv6,rfl,rfl⟩
     refine rMv rfl<|zB<|zR rfl<|rMv rfl<|zA rfl rfl (qC rfl rfl rfl ⟨by omega,by omega⟩)<|rMv rfl<|zB ?_
     refine ⟨⟨k + 1,outs ++ [.mk s.Op s.Name s.Many s.Mark s.Fold (outE (mEx (sbF n u) (rdX s.Idx))).Idx (outE (mEx (sbF n u) s.E)) (outS (sbT n u s.Body))],sv6⟩,⟨by omega,by simp; omega,zPd hs hp (sub_4 c2 c3 c4)⟩,(by show l.length - (k + 1) < l.length - k; omega),Weak.mk [false,false,false,true,true] ⟨VLe.refl _,VLe.refl _,VLe.refl _,VLe.refl _,VLe.refl _,trivial⟩ (by exact zEm (by rw [List.map_append,List.map_singleton,St.cells_eq]; rfl))⟩
 ·try simp only [sx] at c1
  have hfe := mSts_end hp (by omega)
  refine qO<|zJ<|zX _ (qX 0 rfl (regs' := [(8,_)]) (μ' := [_]) ⟨FLe.sl,trivial⟩ ⟨EFle.refl _,trivial⟩)<|zR rfl<|rMv rfl<|rMv rfl<|rMv rfl<|zB<|zH<|fin2 (rs_c rfl) (rs_c rfl) ?_
  rw [show sbT n u l = _ from hfe]; rfl
theorem zFu (s : St) (n : ByteArray) (u : Lf) (hu : u.L.length ≤ 4294967296) (hru : u.rng) (hl : stsWt s.Body ≤ 1000000) (hr : allSs Lf.rng s.Body) : Pur cfg 45 [vSts s.Body,vS n,vLin u] (.tup [vSts (outS (sbT n u s.Body)),vI (errE (sbT n u s.Body))]):= by
  induction s using St.ind with
  | _ s ih => exact zCe s.Body n u hu hru hl hr fun a ha => ih a ha (by have := kA ha; have := St.body_wt a; omega) (St.all_parts (zAp hr a ha)).2.2
theorem zMj (l : List St) (n : ByteArray) (u : Lf) (hu : u.L.length ≤ 4294967296) (hru : u.rng) (hl : stsWt l ≤ 1000000) (hr : allSs Lf.rng l) : Pur cfg 45 [vSts l,vS n,vLin u] (.tup [vSts (outS (sbT n u l)),vI (errE (sbT n u l))]) :=
  zCe l n u hu hru hl hr fun s hs => zFu s n u hu hru (by have := kA hs; have := St.body_wt s; omega) (St.all_parts (zAp hr s hs)).2.2
theorem substitute_1 (n : ByteArray) (u : Lf) (hu : u.L.length ≤ 4294967296) (hru : u.rng) (l : Lf) (hl : l.L.length ≤ 1073741824) (hr : l.rng) :
    Pur cfg 94 [vLin l,.c (.iptr [cS n]),.c (.iptr u.cells)] (.tup [vLin (sbF n u l).1,vI (sbF n u l).2]):= by
 refine zV Tryz.func94 rfl Tryz.ntmps94 Tryz.results94 rfl ?_
 intro z hz
 refine sReg rfl<|zY rfl rfl (qM rfl rfl) ?_
 rintro _ _ ⟨b1,rfl,rfl⟩
 refine zY rfl rfl (qH [none,some 2] rfl zr49 rfl) ?_
 rintro _ _ ⟨b2,rfl,rfl⟩
 refine rMv rfl<|zB<|sReg rfl<|zA rfl rfl (zF rfl yI rfl (zE 1 rfl) rfl)<|zA rfl rfl (zD rfl one9 rfl qA rfl)<|zA rfl rfl (zF rfl yI rfl qA rfl)<|zA rfl rfl (zQ rfl ok95 (lin_SubstR l n u (by omega) hu hr hru) ⟨VLe.refl _,rfl,VLe.refl _,rfl,VLe.refl _,rfl,trivial⟩)<|zA rfl rfl (yE rfl rfl rfl)<|zA rfl rfl (qN rfl rfl rfl)<|zS rfl rfl (zO rfl sz49 rfl rfl rfl (qE 0 rfl rfl))<|rMv rfl<|zB<|zH<|fin2 (qF yI rfl (zE 0 rfl) rfl) (rs_c rfl) ?_
 exact rfl
theorem zIm (l : List St) (n : ByteArray) (u : Lf) (hu : u.L.length ≤ 4294967296) (hru : u.rng) (hl : stsWt l ≤ 1000000000) (hr : allSs Lf.rng l) :
    Pur cfg 44 [vSts l,vS n,vLin u] (.tup [vSts (outS (sbT n u l)),vI (errE (sbT n u l))]):= by
 refine zV Tryz.func44 rfl Tryz.ntmps44 Tryz.results44 rfl ?_
 intro z hz
 refine sReg rfl<|zY rfl rfl (qM rfl rfl) ?_
 rintro _ _ ⟨b1,rfl,rfl⟩
 refine qY _ (yF 0 rfl 4 _ PLe.ptr)<|zY rfl rfl (qM rfl rfl) ?_
 rintro _ _ ⟨b2,rfl,rfl⟩
 refine qY _ (yF 0 rfl 5 _ PLe.ptr)<|zA rfl rfl (qW 20 rfl rfl)<|rMv rfl<|zB<|sReg rfl<|rMv rfl<|zA rfl rfl (zAg rfl rfl rfl rfl rfl)<|zA rfl rfl (zQ rfl ok93 (zDu (sbF n u) _ (fun l => l.rng ∧ l.L.length ≤ 1073741824) (fun l hl => FnPur.of_pur (first := []) (cap := [.iptr [cS n],.iptr u.cells]) ok94 (substitute_1 n u hu hru l hl.2 hl.1)) (fun x => x) _ (fun s => FnPur.of_pur (first := []) (cap := []) ok96 (loopnest_same s)) l (zKn l hr (sts_short (by omega))) (by omega)) ⟨VLe.refl _,rfl,VLe.refl _,rfl,VLe.refl _,rfl,trivial⟩)<|zA rfl rfl (qN rfl rfl rfl)<|zA rfl rfl (qN rfl rfl rfl)<|rMv rfl<|rMv rfl<|zB<|zH<|fin2 (rs_c rfl) (rs_c rfl) ?_
 exact rfl
theorem law_NestRenames (l : List St) (s0 s1 : ByteArray) (u : Lf) (hf : fitS l) (hl : l.length ≤ 140737488355328) (hr : allSs Lf.rng l) (hu : u.L.length ≤ 140737488355328) (hru : u.rng) :
    Pur cfgI 9 [vSts l,.agg [cS s0,cS s1],vLin u] (vB true):= by
 refine zV Tryz.func9 rfl Tryz.ntmps9 Tryz.results9 rfl ?_
 intro z hz
 refine sReg rfl<|zY rfl rfl (qM rfl rfl) ?_
 rintro _ _ ⟨b1,rfl,rfl⟩
 refine zY rfl rfl (qM rfl rfl) ?_
 rintro _ _ ⟨b2,rfl,rfl⟩
 refine rMv rfl<|zB<|zJ<|sReg rfl<|rMv rfl<|zA rfl rfl (zQ rfl ok40 (upI (law30_FewStmts l 300 300 hf hl (by omega) rfl)) ⟨VLe.refl _,rfl,VLe.refl _,rfl,trivial⟩)<|zA rfl rfl (yA rfl rfl)<|rMv rfl<|rLz [] rfl gv1 trivial (fun g1_3 => zAc rfl ar83 rfl rfl (by decide) (by decide)) rfl<|rLz [(15,_)] rfl gv1 ⟨rfl,rfl,trivial⟩ (fun g1_3 => zD rfl one9 rfl (zE 1 rfl) rfl) rfl<|rLz [(16,_)] rfl gv1 ⟨rfl,rfl,trivial⟩ (fun g1_3 => kY rfl un9 rfl) rfl<|rLz [(17,_)] rfl gv1 ⟨rfl,rfl,trivial⟩ (fun g1_3 => yV rfl rfl rfl) rfl<|zA rfl rfl (yP rfl rfl rfl rfl (fun h => (lzf h)))<|rMv rfl<|rLz [] rfl gv1 trivial (fun g1_9 => zAc rfl ar83 rfl rfl (by decide) (by decide)) rfl<|rLz [(21,_)] rfl gv1 ⟨rfl,rfl,trivial⟩ (fun g1_9 => zD rfl one9 rfl (zE 1 rfl) rfl) rfl<|rLz [(22,_)] rfl gv1 ⟨rfl,rfl,trivial⟩ (fun g1_9 => kY rfl un9 rfl) rfl<|rLz [(23,_)] rfl gv1 ⟨rfl,rfl,trivial⟩ (fun g1_9 => yV rfl rfl rfl) rfl<|zA rfl rfl (yP rfl rfl rfl rfl (fun h => (lzf h)))<|rMv rfl<|rLz [] rfl gv1 trivial (fun g1_15 => zC rfl yM rfl) rfl<|rLz [(27,_)] rfl gv1 ⟨rfl,rfl,trivial⟩ (fun g1_15 => zD rfl kQ rfl (zE 0 rfl) rfl) rfl<|rLz [(28,_)] rfl gv1 ⟨rfl,rfl,trivial⟩ (fun g1_15 => zT rfl el47 rfl) rfl<|rLz [(29,_)] rfl gv1 ⟨rfl,rfl,trivial⟩ (fun g1_15 => yV rfl rfl rfl) rfl<|zA rfl rfl (yP rfl rfl rfl rfl (fun h => (lzf h)))<|zB<|zG rfl (fun c1 => ?_) (fun c1 => ?_)
 ·try simp only [sx] at c1
  refine sReg rfl<|zA rfl rfl (zQ rfl ok21 law30_live trivial)<|rMv rfl<|zB<|zH<|fin1 (rs_c rfl) ?_
  rfl
 ·try simp only [sx] at c1
  obtain ⟨⟨⟨c1,cn0⟩,cn1⟩,cu⟩ := c1
  obtain ⟨k3,k4⟩ := fewS_parts c1
  have hw := zNs k3
  have hwr := ren_wt s0 s1 l
  have hsw := sbT_wt (s := s0) (u := u) (l := l) (by omega)
  refine zK<|sReg rfl<|rMv rfl<|zA rfl rfl (zAc rfl ar83 rfl rfl (by decide) (by decide))<|zA rfl rfl (zD rfl one9 rfl (zE 1 rfl) rfl)<|zA rfl rfl (zF rfl yI rfl (zE 0 rfl) rfl)<|zA rfl rfl (zQ rfl ok44 (upI (zIm l s0 u (by omega) hru (by omega) hr)) ⟨VLe.refl _,rfl,VLe.refl _,rfl,VLe.refl _,rfl,trivial⟩)<|zA rfl rfl (qK rfl rfl)<|zA rfl rfl (qN rfl rfl rfl)<|zA rfl rfl (qN rfl rfl rfl)<|rMv rfl<|rMv rfl<|zB<|sReg rfl<|rMv rfl<|zA rfl rfl (zAc rfl ar83 rfl rfl (by decide) (by decide))<|zA rfl rfl (zD rfl one9 rfl (zE 1 rfl) rfl)<|zA rfl rfl (zF rfl yI rfl (zE 0 rfl) rfl)<|zA rfl rfl (zQ rfl ok45 (upI (zMj l s0 u (by omega) hru (by omega) hr)) ⟨VLe.refl _,rfl,VLe.refl _,rfl,VLe.refl _,rfl,trivial⟩)<|zA rfl rfl (qK rfl rfl)<|zA rfl rfl (qN rfl rfl rfl)<|zA rfl rfl (qN rfl rfl rfl)<|rMv rfl<|rMv rfl<|zB<|zJ<|yG 27 mixed (by kernel_rfl) rfl rfl<|zM rfl rfl (zN rfl rfl)<|zM rfl rfl (zAc rfl ar83 rfl rfl (by decide) (by decide))<|zM rfl rfl (zD rfl one9 rfl (zE 1 rfl) rfl)<|zM rfl rfl (zAc rfl ar83 rfl rfl (by decide) (by decide))<|zM rfl rfl (zD rfl one9 rfl (zE 1 rfl) rfl)<|zM rfl rfl (zQ rfl ok47 (upI (zPi l s0 s1 (by omega) hr)) ⟨VLe.refl _,rfl,VLe.refl _,rfl,VLe.refl _,rfl,trivial⟩)<|zM rfl rfl (zN rfl rfl)<|zM rfl rfl (zAc rfl ar83 rfl rfl (by decide) (by decide))<|zM rfl rfl (zD rfl one9 rfl (zE 1 rfl) rfl)<|zM rfl rfl (zAc rfl ar83 rfl rfl (by decide) (by decide))<|zM rfl rfl (zD rfl one9 rfl (zE 1 rfl) rfl)<|zM rfl rfl (zQ rfl ok48 (upI (ref30_Rename l s0 s1 (by omega) hr)) ⟨VLe.refl _,rfl,VLe.refl _,rfl,VLe.refl _,rfl,trivial⟩)<|zM rfl rfl (zQ rfl ok46 (upI (base_Stmts (renT s0 s1 l) (renT s0 s1 l) (by omega))) ⟨VLe.refl _,rfl,VLe.refl _,rfl,trivial⟩)<|zM rfl rfl (zN rfl rfl)<|qG [] rfl rfl rfl rfl gv1 trivial (fun g5_13 => zN rfl rfl) rfl<|qG [] rfl rfl rfl rfl gv1 trivial (fun g5_13 => zN rfl rfl) rfl<|qG [(63,_),(64,_)] rfl rfl rfl rfl gv1 ⟨rfl,rfl,rfl,rfl,trivial⟩ (fun g5_13 => zQ rfl ok46 (upI (base_Stmts (outS (sbT s0 u l)) (outS (sbT s0 u l)) (by omega))) ⟨VLe.refl _,rfl,VLe.refl _,rfl,trivial⟩) rfl<|zM rfl rfl (qP rfl rfl rfl (fun h => h) rfl)<|zM rfl rfl (zN rfl rfl)<|qG [] rfl rfl rfl rfl gv1 trivial (fun g5_18 => zN rfl rfl) rfl<|qG [] rfl rfl rfl rfl gv1 trivial (fun g5_18 => zN rfl rfl) rfl<|qG [(68,_),(69,_)] rfl rfl rfl rfl gv1 ⟨rfl,rfl,rfl,rfl,trivial⟩ (fun g5_18 => qJ rfl rfl rfl) rfl<|zM rfl rfl (qP rfl rfl rfl (fun h => h) rfl)<|zM rfl rfl (zN rfl rfl)<|qG [] rfl rfl rfl rfl gv1 trivial (fun g5_23 => zQ rfl ok21 law30_live trivial) rfl<|zM rfl rfl (qP rfl rfl rfl (fun h => h) rfl)<|zM rfl rfl (yS rfl rfl)<|kI<|zB<|zH<|fin1 (rs_c rfl) ?_
  exact congrArg vB (by simp)
end Go.W
