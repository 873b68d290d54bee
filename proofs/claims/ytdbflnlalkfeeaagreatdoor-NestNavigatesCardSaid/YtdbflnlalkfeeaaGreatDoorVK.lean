/-
  Walks: what functions of the program compute. Printed by wip/gen/mk2.py.
  Conditions: none.
-/
import Derived.Test.YtdbflnlalkfeeaaGreatDoorVC
import Derived.Test.YtdbflnlalkfeeaaGreatDoorEngZ
set_option maxRecDepth 10000
namespace Go.W
open Go Go.Eng Go.Proofs Go.L41 Go.Br
attribute [local irreducible] AWP RWP TD finQ
theorem ok148 : callOk Tryz.prog 148 = true:= by kernel_rfl
theorem ok184 : callOk Tryz.prog 184 = true:= by kernel_rfl
theorem zJn (l : Lf) (hl : l.L.length ≤ 4294967296) :
    Pur cfg 184 [vLin l] (vLin l):= by
 refine zU Tryz.func184 rfl Tryz.ntmps184 Tryz.results184 rfl ?_
 intro z hz
 refine sReg rfl<|zZ rfl rfl (qL rfl rfl) ?_
 rintro _ _ ⟨b1,rfl,rfl⟩
 refine zZ rfl rfl (qK [none,some 2] rfl zr49 rfl) ?_
 rintro _ _ ⟨b2,rfl,rfl⟩
 refine zB<|sReg rfl<|zA rfl rfl (zD rfl zOf rfl)<|zA rfl rfl (zC rfl one2 rfl (zF 1 rfl) rfl)<|zA rfl rfl (qX rfl zr49 pl49 rfl)<|zZ rfl rfl (yS rfl zr49) ?_
 rintro _ _ ⟨b3,rfl,rfl⟩
 refine yE _ (kB 111 2)<|zY rfl rfl (zT rfl sz49 rfl rfl rfl (qF 1 rfl rfl))<|zB<|sReg rfl<|zA rfl rfl (zD rfl wZ rfl)<|zA rfl rfl (zC rfl zCq rfl (zF 1 rfl) rfl)<|zA rfl rfl (zD rfl wZ rfl)<|zA rfl rfl (zC rfl zCq rfl (zF 3 rfl) rfl)<|zZ rfl rfl (qU 0 rfl el47 rfl rfl rfl (by simp; omega) (by simp; omega)) ?_
 rintro _ _ ⟨sv5,rfl,rfl⟩
 refine zA rfl rfl (zD rfl wZ rfl)<|zY rfl rfl (zT rfl sz47 rfl rfl rfl (qF 1 rfl rfl))<|zB<|sReg rfl<|yE _ (yF 0 rfl (regs' := [(11,_)]) (μ' := [_,_,_]) ⟨FLe.sl,trivial⟩ ⟨EFle.row (ds := [_,_]) ⟨.inl rfl,.inr ⟨rfl,rfl⟩,trivial⟩,EFle.refl _,EFle.refl _,trivial⟩)<|zA rfl rfl (zE rfl kX rfl (zF 0 rfl) rfl)<|zY rfl rfl (zT rfl sz49 rfl rfl rfl (qF 1 rfl rfl))<|zB<|zH<|fin1 (qG kX rfl (zF 1 rfl) rfl) ?_
 rfl
theorem zNa (e : Ex) (ih : ∀ a,a ∈ e.Args → a.wt ≤ 4294967296 → Pur cfg 148 [vE a] (vE a)) (he : e.wt ≤ 4294967296) :
    Pur cfg 148 [vE e] (vE e):= by
 refine zU Tryz.func148 rfl Tryz.ntmps148 Tryz.results148 rfl ?_
 intro z hz
 obtain ⟨hL,hI,hA⟩ := e.parts he
 refine sReg rfl<|zZ rfl rfl (qL rfl rfl) ?_
 rintro _ _ ⟨b1,rfl,rfl⟩
 refine zZ rfl rfl (qK [none,none,none,none,none,none,none,none,none,none,some 2,some 4,some 13] rfl zr52 rfl) ?_
 rintro _ _ ⟨b2,rfl,rfl⟩
 refine zB<|zJ<|kG 13 1 [⟨0,.q []⟩,⟨1,.q [2]⟩,⟨2,.q []⟩,⟨3,.q [2]⟩,⟨4,.q []⟩,⟨5,.q [2]⟩,⟨6,.q []⟩,⟨7,.q [2]⟩,⟨8,.q []⟩,⟨9,.q [2]⟩,⟨10,.q []⟩,⟨11,.q []⟩,⟨12,.f 0⟩] mixed (by kernel_rfl) (by kernel_rfl) rfl rfl rfl<|zW rfl<|zW rfl<|zW rfl<|zW rfl<|zW rfl<|zW rfl<|zW rfl<|zW rfl<|zW rfl<|zW rfl<|zW rfl<|zW rfl<|fx_fresh rfl rfl (zKs (qK [none,none,none,none,none,none,none,none,none,none,some 2,some 4,some 13] rfl zr52 rfl))<|zBl<|qD rfl (by decide) rfl rfl (zD rfl wY rfl)<|qD rfl (by decide) rfl rfl (zC rfl one3 rfl (zF 0 rfl) rfl)<|qD rfl (by decide) rfl rfl (zD rfl zGq rfl)<|qD rfl (by decide) rfl rfl (zC rfl one9 rfl (zF 0 rfl) rfl)<|qD rfl (by decide) rfl rfl (zD rfl zIl rfl)<|qD rfl (by decide) rfl rfl (zE rfl agg46 rfl (zF 0 rfl) rfl)<|qD rfl (by decide) rfl rfl (zD rfl zGp rfl)<|qD rfl (by decide) rfl rfl (zE rfl yN rfl (zF 0 rfl) rfl)<|qD rfl (by decide) rfl rfl (zD rfl zEk rfl)<|qD rfl (by decide) rfl rfl (zE rfl kX rfl (zF 0 rfl) rfl)<|qD rfl (by decide) rfl rfl (zR rfl ok184 (zJn e.Lin hL) ⟨VLe.refl _,rfl,trivial⟩)<|qD rfl (by decide) rfl rfl (qX rfl zr52 pl52 rfl)<|sq_fresh rfl rfl ?_
 rintro _ _ ⟨b3,rfl,rfl⟩
 refine zBj rfl<|zY rfl rfl (zT rfl sz52 rfl rfl rfl (qF 0 rfl rfl))<|zB<|zJ<|sReg rfl<|yE _ (kB 114 4)<|yE _ (kB 52 13)<|rMv rfl<|zB<|zQ<|zV ⟨[(4,.c _),(1,.c _),(2,.c _),(3,.c _)],[_,_,_,_,_]⟩ (Weak.mk [true,true,true,true,true] ⟨VLe.of_eq rfl,VLe.of_eq rfl,VLe.of_eq rfl,VLe.of_eq rfl,trivial⟩ rfl)<|qE 1 3 rfl rfl (Nat × Value) (fun ⟨k,sv⟩ => [(4,vI k)]) (fun ⟨k,sv⟩ => [E.vec (.slice none 0 0) 52 13 [],E.vec sv 114 4 ((e.Idx.take k).map Ix.cells),E.row b3 52 [cI e.Op,cS e.Name,cI e.Val.N,cI e.Val.D,cI e.Ty.Kind,cI e.Ty.Bits,cI e.Ty.Frac,cI e.Ty.Round,cI e.Ty.Over,cI e.Lin.K,.sl 2 (e.Lin.L.map Mono.cells),.lit sv,.lit (.slice none 0 0)]]) (fun ⟨k,sv⟩ => k ≤ e.Idx.length) (fun ⟨k,sv⟩ => e.Idx.length - k) ⟨⟨0,(.slice none 0 0)⟩,(by omega),Weak.mk [true,true,true,true,true] ⟨VLe.refl _,VLe.refl _,VLe.refl _,VLe.refl _,trivial⟩ rfl⟩ ?_
 rintro ⟨k,sv⟩ hk
 show AWP _ _ _ _ _ ⟨[(4,vI k)] ++ _,[E.vec (.slice none 0 0) 52 13 [],E.vec sv 114 4 ((e.Idx.take k).map Ix.cells),E.row b3 52 [cI e.Op,cS e.Name,cI e.Val.N,cI e.Val.D,cI e.Ty.Kind,cI e.Ty.Bits,cI e.Ty.Frac,cI e.Ty.Round,cI e.Ty.Over,cI e.Lin.K,.sl 2 (e.Lin.L.map Mono.cells),.lit sv,.lit (.slice none 0 0)]] ++ _⟩
 refine zJ<|sReg rfl<|rMv rfl<|zA rfl rfl (zD rfl kO rfl)<|zA rfl rfl (zC rfl kU rfl (zF 4 rfl) rfl)<|zA rfl rfl (zP rfl el44 rfl)<|zA rfl rfl (qJ rfl rfl rfl)<|zB<|zG rfl (fun c1 => ?_) (fun c1 => ?_)
 ·try simp only [sx] at c1
  obtain ⟨x,hx⟩ := qT e.Idx k (by omega)
  have hxw := Ex.idx_wt (qC hx)
  refine zK<|zJ<|zQ<|zJ<|kG 15 1 [⟨0,.q []⟩,⟨1,.q [5]⟩,⟨2,.q []⟩,⟨3,.q []⟩,⟨4,.q []⟩,⟨5,.q []⟩,⟨6,.q []⟩,⟨7,.q []⟩,⟨8,.q [5]⟩,⟨9,.q []⟩,⟨10,.q []⟩,⟨11,.q []⟩,⟨12,.q []⟩,⟨13,.q []⟩,⟨14,.f 0⟩] mixed (by kernel_rfl) (by kernel_rfl) rfl rfl rfl<|zW rfl<|zW rfl<|zW rfl<|zW rfl<|zW rfl<|zW rfl<|zW rfl<|zW rfl<|zW rfl<|zW rfl<|zW rfl<|zW rfl<|zW rfl<|zW rfl<|fx_fresh rfl rfl (zKs (qK [none,some 2,none,some 2] rfl zJe rfl))<|zBl<|qD rfl (by decide) rfl rfl (zD rfl kO rfl)<|qD rfl (by decide) rfl rfl (zC rfl kU rfl (zF 0 rfl) rfl)<|qD rfl (by decide) rfl rfl (zO rfl rfl)<|qD rfl (by decide) rfl rfl (zN rfl el44 rfl rfl (by omega) (getm (by assumption)))<|qD rfl (by decide) rfl rfl (zX rfl zAx rfl)<|qD rfl (by decide) rfl rfl (zE rfl kX rfl qB rfl)<|qD rfl (by decide) rfl rfl (zR rfl ok184 (zJn x.Lin (by have := Ex.idx_wt (qC hx); omega)) ⟨VLe.refl _,rfl,trivial⟩)<|qD rfl (by decide) rfl rfl (zD rfl kO rfl)<|qD rfl (by decide) rfl rfl (zC rfl kU rfl (zF 0 rfl) rfl)<|qD rfl (by decide) rfl rfl (zO rfl rfl)<|qD rfl (by decide) rfl rfl (zN rfl el44 rfl rfl (by omega) (getm (by assumption)))<|qD rfl (by decide) rfl rfl (zX rfl zCs rfl)<|qD rfl (by decide) rfl rfl (zC rfl one9 rfl qB rfl)<|qD rfl (by decide) rfl rfl (qX rfl zJe pl114 rfl)<|sq_fresh rfl rfl ?_
  rintro _ _ ⟨b4,rfl,rfl⟩
  refine zBj rfl<|zY rfl rfl (zT rfl sz114 rfl rfl rfl (qF 0 rfl rfl))<|zB<|zJ<|sReg rfl<|yE _ (kB 49 2)<|rMv rfl<|zB<|zQ<|zV ⟨[(6,.c _),(1,.c _),(2,.c _),(3,.c _),(4,.c _),(5,.c _)],[_,_,_,_,_,_,_]⟩ (Weak.mk [true,true,true,true,true,true,true] ⟨VLe.of_eq rfl,VLe.of_eq rfl,VLe.of_eq rfl,VLe.of_eq rfl,VLe.of_eq rfl,VLe.of_eq rfl,trivial⟩ rfl)<|qE 1 2 rfl rfl (Nat × Value) (fun ⟨j,sw⟩ => [(6,vI j)]) (fun ⟨j,sw⟩ => [E.vec sw 49 2 ((x.At.take j).map Lf.cells),E.row b4 114 [cI x.Lin.K,.sl 2 (x.Lin.L.map Mono.cells),cS x.From,.lit sw]]) (fun ⟨j,sw⟩ => j ≤ x.At.length) (fun ⟨j,sw⟩ => x.At.length - j) ⟨⟨0,(.slice none 0 0)⟩,(by omega),Weak.mk [true,true,true,true,true,true,true] ⟨VLe.refl _,VLe.refl _,VLe.refl _,VLe.refl _,VLe.refl _,VLe.refl _,trivial⟩ rfl⟩ ?_
  rintro ⟨j,sw⟩ hj
  show AWP _ _ _ _ _ ⟨[(6,vI j)] ++ _,[E.vec sw 49 2 ((x.At.take j).map Lf.cells),E.row b4 114 [cI x.Lin.K,.sl 2 (x.Lin.L.map Mono.cells),cS x.From,.lit sw]] ++ _⟩
  refine zJ<|sReg rfl<|rMv rfl<|zA rfl rfl (zD rfl kO rfl)<|zA rfl rfl (zC rfl kU rfl (zF 6 rfl) rfl)<|rMv rfl<|zA rfl rfl (zN rfl el44 rfl rfl (by omega) (getm (by assumption)))<|zA rfl rfl (zX rfl kH rfl)<|zA rfl rfl (zC rfl wH rfl qB rfl)<|zA rfl rfl (zP rfl wJ rfl)<|zA rfl rfl (qJ rfl rfl rfl)<|zB<|zG rfl (fun c2 => ?_) (fun c2 => ?_)
  ·try simp only [sx] at c2
   obtain ⟨l,hl⟩ := qT x.At j (by omega)
   refine zK<|zJ<|zQ<|yI 13 mixed (by kernel_rfl) rfl rfl<|zM rfl rfl (zD rfl kH rfl)<|zM rfl rfl (zC rfl wH rfl (zF 1 rfl) rfl)<|zM rfl rfl (zD rfl kO rfl)<|zM rfl rfl (zC rfl kU rfl (zF 6 rfl) rfl)<|zM rfl rfl (zO rfl rfl)<|zM rfl rfl (zN rfl el44 rfl rfl (by omega) (getm (by assumption)))<|zM rfl rfl (zX rfl kH rfl)<|zM rfl rfl (zC rfl wH rfl qB rfl)<|zM rfl rfl (zO rfl rfl)<|zM rfl rfl (zN rfl wJ rfl rfl (by omega) (getm (by assumption)))<|zM rfl rfl (zE rfl kX rfl qB rfl)<|zM rfl rfl (zR rfl ok184 (zJn l (by have := Ex.idx_wt (qC hx); have := wW (qC hl); omega)) ⟨VLe.refl _,rfl,trivial⟩)<|zM rfl rfl (qY rfl wJ zr49 rfl rfl rfl rfl)<|kI<|zZ rfl rfl (qU 0 rfl wJ rfl rfl rfl (by simp only [List.length_take,List.length_map,List.length_append,List.length_cons,List.length_nil]; omega) (by simp only [List.length_take,List.length_map,List.length_append,List.length_cons,List.length_nil]; omega)) ?_
   rintro _ _ ⟨sv5,rfl,rfl⟩
   refine zA rfl rfl (zD rfl kH rfl)<|zY rfl rfl (zT rfl sz112 rfl rfl rfl (qF 1 rfl rfl))<|zB<|zS rfl<|rMv rfl<|zA rfl rfl (qA rfl rfl rfl ⟨by omega,by omega⟩)<|rMv rfl<|zB ?_
   refine ⟨⟨j + 1,sv5⟩,(by omega),(by show x.At.length - (j + 1) < x.At.length - j; omega),Weak.mk [true,true,true,true,true,true,true] ⟨VLe.refl _,VLe.refl _,VLe.refl _,VLe.refl _,VLe.refl _,VLe.refl _,trivial⟩ (by exact mem2_eq' (by rw [qZ hl,List.map_append]; rfl))⟩
  ·try simp only [sx] at c2
   rw [yD (l := x.At) (k := j) (by omega)]
   refine zV _ (yF 0 rfl (regs' := []) (μ' := [_,_,_,_,_,_]) trivial ⟨EFle.row (ds := [_,_,_,_]) ⟨.inl rfl,.inl rfl,.inl rfl,.inr ⟨rfl,rfl⟩,trivial⟩,EFle.refl _,EFle.refl _,EFle.refl _,EFle.refl _,EFle.refl _,trivial⟩)<|qI<|zS rfl<|zA rfl rfl (zD rfl kO rfl)<|zA rfl rfl (zC rfl kU rfl (zF 3 rfl) rfl)<|zA rfl rfl (zE rfl zCo rfl (zF 0 rfl) rfl)<|zA rfl rfl (qY rfl el44 zJe rfl rfl rfl rfl)<|zZ rfl rfl (qU 2 rfl el44 rfl rfl rfl (by simp only [List.length_take,List.length_map,List.length_append,List.length_cons,List.length_nil]; omega) (by simp only [List.length_take,List.length_map,List.length_append,List.length_cons,List.length_nil]; omega)) ?_
   rintro _ _ ⟨sv6,rfl,rfl⟩
   refine zA rfl rfl (zD rfl kO rfl)<|zY rfl rfl (zT rfl sz44 rfl rfl rfl (qF 3 rfl rfl))<|zB<|zS rfl<|rMv rfl<|zA rfl rfl (qA rfl rfl rfl ⟨by omega,by omega⟩)<|rMv rfl<|zB ?_
   refine ⟨⟨k + 1,sv6⟩,(by omega),(by show e.Idx.length - (k + 1) < e.Idx.length - k; omega),Weak.mk [false,true,true,true,true,true] ⟨VLe.refl _,VLe.refl _,VLe.refl _,VLe.refl _,trivial⟩ (by exact mem3_eq (by rw [qZ hx,List.map_append]; rfl))⟩
 ·try simp only [sx] at c1
  rw [yD (l := e.Idx) (k := k) (by omega)]
  refine zV _ (yF 1 rfl (regs' := []) (μ' := [_,_,_,_]) trivial ⟨EFle.refl _,EFle.row (ds := [_,_,_,_,_,_,_,_,_,_,_,_,_]) ⟨.inl rfl,.inl rfl,.inl rfl,.inl rfl,.inl rfl,.inl rfl,.inl rfl,.inl rfl,.inl rfl,.inl rfl,.inl rfl,.inr ⟨rfl,rfl⟩,.inl rfl,trivial⟩,EFle.refl _,EFle.refl _,trivial⟩)<|qI<|zJ<|sReg rfl<|rMv rfl<|zB<|zQ<|zV ⟨[(7,.c _),(1,.c _),(2,.c _),(3,.c _)],[_,_,_,_]⟩ (Weak.mk [true,true,true,true] ⟨VLe.of_eq rfl,VLe.of_eq rfl,VLe.of_eq rfl,VLe.of_eq rfl,trivial⟩ rfl)<|qE 1 2 rfl rfl (Nat × Value) (fun ⟨n,su⟩ => [(7,vI n)]) (fun ⟨n,su⟩ => [E.vec su 52 13 ((e.Args.take n).map Ex.cells),E.row b3 52 [cI e.Op,cS e.Name,cI e.Val.N,cI e.Val.D,cI e.Ty.Kind,cI e.Ty.Bits,cI e.Ty.Frac,cI e.Ty.Round,cI e.Ty.Over,cI e.Lin.K,.sl 2 (e.Lin.L.map Mono.cells),.sl 4 (e.Idx.map Ix.cells),.lit su]]) (fun ⟨n,su⟩ => n ≤ e.Args.length) (fun ⟨n,su⟩ => e.Args.length - n) ⟨⟨0,(.slice none 0 0)⟩,(by omega),Weak.mk [true,true,true,true] ⟨VLe.refl _,VLe.refl _,VLe.refl _,VLe.refl _,trivial⟩ rfl⟩ ?_
  rintro ⟨n,su⟩ hn
  show AWP _ _ _ _ _ ⟨[(7,vI n)] ++ _,[E.vec su 52 13 ((e.Args.take n).map Ex.cells),E.row b3 52 [cI e.Op,cS e.Name,cI e.Val.N,cI e.Val.D,cI e.Ty.Kind,cI e.Ty.Bits,cI e.Ty.Frac,cI e.Ty.Round,cI e.Ty.Over,cI e.Lin.K,.sl 2 (e.Lin.L.map Mono.cells),.sl 4 (e.Idx.map Ix.cells),.lit su]] ++ _⟩
  refine zJ<|sReg rfl<|rMv rfl<|zA rfl rfl (zD rfl wX rfl)<|zA rfl rfl (zC rfl zCz rfl (zF 3 rfl) rfl)<|zA rfl rfl (zP rfl el50 rfl)<|zA rfl rfl (qJ rfl rfl rfl)<|zB<|zG rfl (fun c3 => ?_) (fun c3 => ?_)
  ·try simp only [sx] at c3
   obtain ⟨a,ha⟩ := qT e.Args n (by omega)
   refine zK<|zJ<|zQ<|yI 9 mixed (by kernel_rfl) rfl rfl<|zM rfl rfl (zD rfl wX rfl)<|zM rfl rfl (zC rfl zCz rfl (zF 1 rfl) rfl)<|zM rfl rfl (zD rfl wX rfl)<|zM rfl rfl (zC rfl zCz rfl (zF 3 rfl) rfl)<|zM rfl rfl (zO rfl rfl)<|zM rfl rfl (zN rfl el50 rfl rfl (by omega) (zFi (by assumption)))<|zM rfl rfl (zE rfl yX rfl qB rfl)<|zM rfl rfl (zR rfl ok148 (ih a (qC ha) (by have := Ex.arg_wt (qC ha); omega)) ⟨VLe.refl _,rfl,trivial⟩)<|zM rfl rfl (qY rfl el50 zr52 rfl rfl rfl rfl)<|kI<|zZ rfl rfl (qU 0 rfl el50 rfl rfl rfl (by simp only [List.length_take,List.length_map,List.length_append,List.length_cons,List.length_nil]; omega) (by simp only [List.length_take,List.length_map,List.length_append,List.length_cons,List.length_nil]; omega)) ?_
   rintro _ _ ⟨sv7,rfl,rfl⟩
   refine zA rfl rfl (zD rfl wX rfl)<|zY rfl rfl (zT rfl sz50 rfl rfl rfl (qF 1 rfl rfl))<|zB<|zS rfl<|rMv rfl<|zA rfl rfl (qA rfl rfl rfl ⟨by omega,by omega⟩)<|rMv rfl<|zB ?_
   refine ⟨⟨n + 1,sv7⟩,(by omega),(by show e.Args.length - (n + 1) < e.Args.length - n; omega),Weak.mk [true,true,true,true] ⟨VLe.refl _,VLe.refl _,VLe.refl _,VLe.refl _,trivial⟩ (by exact mem2_eq' (by rw [qZ ha,List.map_append]; simp only [List.map_cons,List.map_nil,Ex.cells_eq]))⟩
  ·try simp only [sx] at c3
   rw [yD (l := e.Args) (k := n) (by omega)]
   refine zV _ (yF 0 rfl (regs' := []) (μ' := [_,_,_]) trivial ⟨EFle.row (ds := [_,_,_,_,_,_,_,_,_,_,_,_,_]) ⟨.inl rfl,.inl rfl,.inl rfl,.inl rfl,.inl rfl,.inl rfl,.inl rfl,.inl rfl,.inl rfl,.inl rfl,.inl rfl,.inl rfl,.inr ⟨rfl,rfl⟩,trivial⟩,EFle.refl _,EFle.refl _,trivial⟩)<|qI<|sReg rfl<|zA rfl rfl (zE rfl yX rfl (zF 0 rfl) rfl)<|zY rfl rfl (zT rfl sz52 rfl rfl rfl (qF 1 rfl rfl))<|zB<|zH<|fin1 (qG yX rfl (zF 1 rfl) rfl) ?_
   rfl
theorem ref14_Twin (e : Ex) (he : e.wt ≤ 4294967296) : Pur cfg 148 [vE e] (vE e):= by
  induction e using Ex.ind with
  | _ e ih => exact zNa e (fun a ha h => ih a ha h) he
end Go.W
