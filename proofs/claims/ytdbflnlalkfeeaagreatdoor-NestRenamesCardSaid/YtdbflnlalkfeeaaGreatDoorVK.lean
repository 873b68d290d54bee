/-
  Walks: what functions of the program compute. Printed by wip/gen/mk2.py.
  Conditions: none.
-/
import Derived.Test.YtdbflnlalkfeeaaGreatDoorVC
import Derived.Test.YtdbflnlalkfeeaaGreatDoorEngZ
set_option maxRecDepth 10000
namespace Go.W
open Go Go.Eng Go.Proofs Go.L41 Go.Br
attribute [local irreducible] AWP RWP TD finQ
theorem ok148 : callOk Tryz.prog 148 = true:= by kernel_rfl
theorem ok184 : callOk Tryz.prog 184 = true:= by kernel_rfl
theorem zLa (l : Lf) (hl : l.L.length ≤ 4294967296) :
    Pur cfg 184 [vLin l] (vLin l):= by
 refine zV Tryz.func184 rfl Tryz.ntmps184 Tryz.results184 rfl ?_
 intro z hz
 refine sReg rfl<|zY rfl rfl (qM rfl rfl) ?_
 rintro _ _ ⟨b1,rfl,rfl⟩
 refine zY rfl rfl (qH [none,some 2] rfl zr49 rfl) ?_
 rintro _ _ ⟨b2,rfl,rfl⟩
 refine zB<|sReg rfl<|zA rfl rfl (zC rfl zCj rfl)<|zA rfl rfl (zD rfl one2 rfl (zE 1 rfl) rfl)<|zA rfl rfl (qU rfl zr49 pl49 rfl)<|zY rfl rfl (yJ rfl zr49) ?_
 rintro _ _ ⟨b3,rfl,rfl⟩
 refine qY _ (yR 111 2)<|zS rfl rfl (zO rfl sz49 rfl rfl rfl (qE 1 rfl rfl))<|zB<|sReg rfl<|zA rfl rfl (zC rfl yM rfl)<|zA rfl rfl (zD rfl kQ rfl (zE 1 rfl) rfl)<|zA rfl rfl (zC rfl yM rfl)<|zA rfl rfl (zD rfl kQ rfl (zE 3 rfl) rfl)<|zY rfl rfl (yB 0 rfl el47 rfl rfl rfl (by simp; omega) (by simp; omega)) ?_
 rintro _ _ ⟨sv5,rfl,rfl⟩
 refine zA rfl rfl (zC rfl yM rfl)<|zS rfl rfl (zO rfl sz47 rfl rfl rfl (qE 1 rfl rfl))<|zB<|sReg rfl<|qY _ (qX 0 rfl (regs' := [(11,_)]) (μ' := [_,_,_]) ⟨FLe.sl,trivial⟩ ⟨EFle.row (ds := [_,_]) ⟨.inl rfl,.inr ⟨rfl,rfl⟩,trivial⟩,EFle.refl _,EFle.refl _,trivial⟩)<|zA rfl rfl (zF rfl yI rfl (zE 0 rfl) rfl)<|zS rfl rfl (zO rfl sz49 rfl rfl rfl (qE 1 rfl rfl))<|zB<|zH<|fin1 (qF yI rfl (zE 1 rfl) rfl) ?_
 rfl
theorem zOn (e : Ex) (ih : ∀ a,a ∈ e.Args → a.wt ≤ 4294967296 → Pur cfg 148 [vE a] (vE a)) (he : e.wt ≤ 4294967296) :
    Pur cfg 148 [vE e] (vE e):= by
 refine zV Tryz.func148 rfl Tryz.ntmps148 Tryz.results148 rfl ?_
 intro z hz
 obtain ⟨hL,hI,hA⟩ := e.parts he
 refine sReg rfl<|zY rfl rfl (qM rfl rfl) ?_
 rintro _ _ ⟨b1,rfl,rfl⟩
 refine zY rfl rfl (qH [none,none,none,none,none,none,none,none,none,none,some 2,some 4,some 13] rfl zr52 rfl) ?_
 rintro _ _ ⟨b2,rfl,rfl⟩
 refine zB<|zJ<|kH 13 1 [⟨0,.q []⟩,⟨1,.q [2]⟩,⟨2,.q []⟩,⟨3,.q [2]⟩,⟨4,.q []⟩,⟨5,.q [2]⟩,⟨6,.q []⟩,⟨7,.q [2]⟩,⟨8,.q []⟩,⟨9,.q [2]⟩,⟨10,.q []⟩,⟨11,.q []⟩,⟨12,.f 0⟩] mixed (by kernel_rfl) (by kernel_rfl) rfl rfl rfl<|zW rfl<|zW rfl<|zW rfl<|zW rfl<|zW rfl<|zW rfl<|zW rfl<|zW rfl<|zW rfl<|zW rfl<|zW rfl<|zW rfl<|fx_fresh rfl rfl (zGj (qH [none,none,none,none,none,none,none,none,none,none,some 2,some 4,some 13] rfl zr52 rfl))<|zBl<|qD rfl (by decide) rfl rfl (zC rfl zAb rfl)<|qD rfl (by decide) rfl rfl (zD rfl one3 rfl (zE 0 rfl) rfl)<|qD rfl (by decide) rfl rfl (zC rfl zGl rfl)<|qD rfl (by decide) rfl rfl (zD rfl one9 rfl (zE 0 rfl) rfl)<|qD rfl (by decide) rfl rfl (zC rfl zHw rfl)<|qD rfl (by decide) rfl rfl (zF rfl agg46 rfl (zE 0 rfl) rfl)<|qD rfl (by decide) rfl rfl (zC rfl zGk rfl)<|qD rfl (by decide) rfl rfl (zF rfl yU rfl (zE 0 rfl) rfl)<|qD rfl (by decide) rfl rfl (zC rfl zCy rfl)<|qD rfl (by decide) rfl rfl (zF rfl yI rfl (zE 0 rfl) rfl)<|qD rfl (by decide) rfl rfl (zQ rfl ok184 (zLa e.Lin hL) ⟨VLe.refl _,rfl,trivial⟩)<|qD rfl (by decide) rfl rfl (qU rfl zr52 pl52 rfl)<|sq_fresh rfl rfl ?_
 rintro _ _ ⟨b3,rfl,rfl⟩
 refine zBi rfl<|zS rfl rfl (zO rfl sz52 rfl rfl rfl (qE 0 rfl rfl))<|zB<|zJ<|sReg rfl<|qY _ (yR 114 4)<|qY _ (yR 52 13)<|rMv rfl<|zB<|zU<|zX ⟨[(4,.c _),(1,.c _),(2,.c _),(3,.c _)],[_,_,_,_,_]⟩ (Weak.mk [true,true,true,true,true] ⟨VLe.of_eq rfl,VLe.of_eq rfl,VLe.of_eq rfl,VLe.of_eq rfl,trivial⟩ rfl)<|qI 1 3 rfl rfl (Nat × Value) (fun ⟨k,sv⟩ => [(4,vI k)]) (fun ⟨k,sv⟩ => [E.vec (.slice none 0 0) 52 13 [],E.vec sv 114 4 ((e.Idx.take k).map Ix.cells),E.row b3 52 [cI e.Op,cS e.Name,cI e.Val.N,cI e.Val.D,cI e.Ty.Kind,cI e.Ty.Bits,cI e.Ty.Frac,cI e.Ty.Round,cI e.Ty.Over,cI e.Lin.K,.sl 2 (e.Lin.L.map Mono.cells),.lit sv,.lit (.slice none 0 0)]]) (fun ⟨k,sv⟩ => k ≤ e.Idx.length) (fun ⟨k,sv⟩ => e.Idx.length - k) ⟨⟨0,(.slice none 0 0)⟩,(by omega),Weak.mk [true,true,true,true,true] ⟨VLe.refl _,VLe.refl _,VLe.refl _,VLe.refl _,trivial⟩ rfl⟩ ?_
 rintro ⟨k,sv⟩ hk
 show AWP _ _ _ _ _ ⟨[(4,vI k)] ++ _,[E.vec (.slice none 0 0) 52 13 [],E.vec sv 114 4 ((e.Idx.take k).map Ix.cells),E.row b3 52 [cI e.Op,cS e.Name,cI e.Val.N,cI e.Val.D,cI e.Ty.Kind,cI e.Ty.Bits,cI e.Ty.Frac,cI e.Ty.Round,cI e.Ty.Over,cI e.Lin.K,.sl 2 (e.Lin.L.map Mono.cells),.lit sv,.lit (.slice none 0 0)]] ++ _⟩
 refine zJ<|sReg rfl<|rMv rfl<|zA rfl rfl (zC rfl kR rfl)<|zA rfl rfl (zD rfl wF rfl (zE 4 rfl) rfl)<|zA rfl rfl (zT rfl el44 rfl)<|zA rfl rfl (qL rfl rfl rfl)<|zB<|zG rfl (fun c1 => ?_) (fun c1 => ?_)
 ·try simp only [sx] at c1
  obtain ⟨x,hx⟩ := qZ e.Idx k (by omega)
  have hxw := Ex.idx_wt (qB hx)
  refine zK<|zJ<|zU<|zJ<|kH 15 1 [⟨0,.q []⟩,⟨1,.q [5]⟩,⟨2,.q []⟩,⟨3,.q []⟩,⟨4,.q []⟩,⟨5,.q []⟩,⟨6,.q []⟩,⟨7,.q []⟩,⟨8,.q [5]⟩,⟨9,.q []⟩,⟨10,.q []⟩,⟨11,.q []⟩,⟨12,.q []⟩,⟨13,.q []⟩,⟨14,.f 0⟩] mixed (by kernel_rfl) (by kernel_rfl) rfl rfl rfl<|zW rfl<|zW rfl<|zW rfl<|zW rfl<|zW rfl<|zW rfl<|zW rfl<|zW rfl<|zW rfl<|zW rfl<|zW rfl<|zW rfl<|zW rfl<|zW rfl<|fx_fresh rfl rfl (zGj (qH [none,some 2,none,some 2] rfl zCp rfl))<|zBl<|qD rfl (by decide) rfl rfl (zC rfl kR rfl)<|qD rfl (by decide) rfl rfl (zD rfl wF rfl (zE 0 rfl) rfl)<|qD rfl (by decide) rfl rfl (zN rfl rfl)<|qD rfl (by decide) rfl rfl (zP rfl el44 rfl rfl (by omega) (getm (by assumption)))<|qD rfl (by decide) rfl rfl (zZ rfl zAy rfl)<|qD rfl (by decide) rfl rfl (zF rfl yI rfl qA rfl)<|qD rfl (by decide) rfl rfl (zQ rfl ok184 (zLa x.Lin (by have := Ex.idx_wt (qB hx); omega)) ⟨VLe.refl _,rfl,trivial⟩)<|qD rfl (by decide) rfl rfl (zC rfl kR rfl)<|qD rfl (by decide) rfl rfl (zD rfl wF rfl (zE 0 rfl) rfl)<|qD rfl (by decide) rfl rfl (zN rfl rfl)<|qD rfl (by decide) rfl rfl (zP rfl el44 rfl rfl (by omega) (getm (by assumption)))<|qD rfl (by decide) rfl rfl (zZ rfl zCi rfl)<|qD rfl (by decide) rfl rfl (zD rfl one9 rfl qA rfl)<|qD rfl (by decide) rfl rfl (qU rfl zCp pl114 rfl)<|sq_fresh rfl rfl ?_
  rintro _ _ ⟨b4,rfl,rfl⟩
  refine zBi rfl<|zS rfl rfl (zO rfl zKs rfl rfl rfl (qE 0 rfl rfl))<|zB<|zJ<|sReg rfl<|qY _ (yR 49 2)<|rMv rfl<|zB<|zU<|zX ⟨[(6,.c _),(1,.c _),(2,.c _),(3,.c _),(4,.c _),(5,.c _)],[_,_,_,_,_,_,_]⟩ (Weak.mk [true,true,true,true,true,true,true] ⟨VLe.of_eq rfl,VLe.of_eq rfl,VLe.of_eq rfl,VLe.of_eq rfl,VLe.of_eq rfl,VLe.of_eq rfl,trivial⟩ rfl)<|qI 1 2 rfl rfl (Nat × Value) (fun ⟨j,sw⟩ => [(6,vI j)]) (fun ⟨j,sw⟩ => [E.vec sw 49 2 ((x.At.take j).map Lf.cells),E.row b4 114 [cI x.Lin.K,.sl 2 (x.Lin.L.map Mono.cells),cS x.From,.lit sw]]) (fun ⟨j,sw⟩ => j ≤ x.At.length) (fun ⟨j,sw⟩ => x.At.length - j) ⟨⟨0,(.slice none 0 0)⟩,(by omega),Weak.mk [true,true,true,true,true,true,true] ⟨VLe.refl _,VLe.refl _,VLe.refl _,VLe.refl _,VLe.refl _,VLe.refl _,trivial⟩ rfl⟩ ?_
  rintro ⟨j,sw⟩ hj
  show AWP _ _ _ _ _ ⟨[(6,vI j)] ++ _,[E.vec sw 49 2 ((x.At.take j).map Lf.cells),E.row b4 114 [cI x.Lin.K,.sl 2 (x.Lin.L.map Mono.cells),cS x.From,.lit sw]] ++ _⟩
  refine zJ<|sReg rfl<|rMv rfl<|zA rfl rfl (zC rfl kR rfl)<|zA rfl rfl (zD rfl wF rfl (zE 6 rfl) rfl)<|rMv rfl<|zA rfl rfl (zP rfl el44 rfl rfl (by omega) (getm (by assumption)))<|zA rfl rfl (zZ rfl kG rfl)<|zA rfl rfl (zD rfl wI rfl qA rfl)<|zA rfl rfl (zT rfl wK rfl)<|zA rfl rfl (qL rfl rfl rfl)<|zB<|zG rfl (fun c2 => ?_) (fun c2 => ?_)
  ·try simp only [sx] at c2
   obtain ⟨l,hl⟩ := qZ x.At j (by omega)
   refine zK<|zJ<|zU<|yG 13 mixed (by kernel_rfl) rfl rfl<|zM rfl rfl (zC rfl kG rfl)<|zM rfl rfl (zD rfl wI rfl (zE 1 rfl) rfl)<|zM rfl rfl (zC rfl kR rfl)<|zM rfl rfl (zD rfl wF rfl (zE 6 rfl) rfl)<|zM rfl rfl (zN rfl rfl)<|zM rfl rfl (zP rfl el44 rfl rfl (by omega) (getm (by assumption)))<|zM rfl rfl (zZ rfl kG rfl)<|zM rfl rfl (zD rfl wI rfl qA rfl)<|zM rfl rfl (zN rfl rfl)<|zM rfl rfl (zP rfl wK rfl rfl (by omega) (getm (by assumption)))<|zM rfl rfl (zF rfl yI rfl qA rfl)<|zM rfl rfl (zQ rfl ok184 (zLa l (by have := Ex.idx_wt (qB hx); have := wT (qB hl); omega)) ⟨VLe.refl _,rfl,trivial⟩)<|zM rfl rfl (qV rfl wK zr49 rfl rfl rfl rfl)<|kI<|zY rfl rfl (yB 0 rfl wK rfl rfl rfl (by simp only [List.length_take,List.length_map,List.length_append,List.length_cons,List.length_nil]; omega) (by simp only [List.length_take,List.length_map,List.length_append,List.length_cons,List.length_nil]; omega)) ?_
   rintro _ _ ⟨sv5,rfl,rfl⟩
   refine zA rfl rfl (zC rfl kG rfl)<|zS rfl rfl (zO rfl sz112 rfl rfl rfl (qE 1 rfl rfl))<|zB<|zR rfl<|rMv rfl<|zA rfl rfl (qC rfl rfl rfl ⟨by omega,by omega⟩)<|rMv rfl<|zB ?_
   refine ⟨⟨j + 1,sv5⟩,(by omega),(by show x.At.length - (j + 1) < x.At.length - j; omega),Weak.mk [true,true,true,true,true,true,true] ⟨VLe.refl _,VLe.refl _,VLe.refl _,VLe.refl _,VLe.refl _,VLe.refl _,trivial⟩ (by exact zHf (by rw [yC hl,List.map_append]; rfl))⟩
  ·try simp only [sx] at c2
   rw [yN (l := x.At) (k := j) (by omega)]
   refine zX _ (qX 0 rfl (regs' := []) (μ' := [_,_,_,_,_,_]) trivial ⟨EFle.row (ds := [_,_,_,_]) ⟨.inl rfl,.inl rfl,.inl rfl,.inr ⟨rfl,rfl⟩,trivial⟩,EFle.refl _,EFle.refl _,EFle.refl _,EFle.refl _,EFle.refl _,trivial⟩)<|qO<|zR rfl<|zA rfl rfl (zC rfl kR rfl)<|zA rfl rfl (zD rfl wF rfl (zE 3 rfl) rfl)<|zA rfl rfl (zF rfl zAq rfl (zE 0 rfl) rfl)<|zA rfl rfl (qV rfl el44 zCp rfl rfl rfl rfl)<|zY rfl rfl (yB 2 rfl el44 rfl rfl rfl (by simp only [List.length_take,List.length_map,List.length_append,List.length_cons,List.length_nil]; omega) (by simp only [List.length_take,List.length_map,List.length_append,List.length_cons,List.length_nil]; omega)) ?_
   rintro _ _ ⟨sv6,rfl,rfl⟩
   refine zA rfl rfl (zC rfl kR rfl)<|zS rfl rfl (zO rfl sz44 rfl rfl rfl (qE 3 rfl rfl))<|zB<|zR rfl<|rMv rfl<|zA rfl rfl (qC rfl rfl rfl ⟨by omega,by omega⟩)<|rMv rfl<|zB ?_
   refine ⟨⟨k + 1,sv6⟩,(by omega),(by show e.Idx.length - (k + 1) < e.Idx.length - k; omega),Weak.mk [false,true,true,true,true,true] ⟨VLe.refl _,VLe.refl _,VLe.refl _,VLe.refl _,trivial⟩ (by exact mem3_eq (by rw [yC hx,List.map_append]; rfl))⟩
 ·try simp only [sx] at c1
  rw [yN (l := e.Idx) (k := k) (by omega)]
  refine zX _ (qX 1 rfl (regs' := []) (μ' := [_,_,_,_]) trivial ⟨EFle.refl _,EFle.row (ds := [_,_,_,_,_,_,_,_,_,_,_,_,_]) ⟨.inl rfl,.inl rfl,.inl rfl,.inl rfl,.inl rfl,.inl rfl,.inl rfl,.inl rfl,.inl rfl,.inl rfl,.inl rfl,.inr ⟨rfl,rfl⟩,.inl rfl,trivial⟩,EFle.refl _,EFle.refl _,trivial⟩)<|qO<|zJ<|sReg rfl<|rMv rfl<|zB<|zU<|zX ⟨[(7,.c _),(1,.c _),(2,.c _),(3,.c _)],[_,_,_,_]⟩ (Weak.mk [true,true,true,true] ⟨VLe.of_eq rfl,VLe.of_eq rfl,VLe.of_eq rfl,VLe.of_eq rfl,trivial⟩ rfl)<|qI 1 2 rfl rfl (Nat × Value) (fun ⟨n,su⟩ => [(7,vI n)]) (fun ⟨n,su⟩ => [E.vec su 52 13 ((e.Args.take n).map Ex.cells),E.row b3 52 [cI e.Op,cS e.Name,cI e.Val.N,cI e.Val.D,cI e.Ty.Kind,cI e.Ty.Bits,cI e.Ty.Frac,cI e.Ty.Round,cI e.Ty.Over,cI e.Lin.K,.sl 2 (e.Lin.L.map Mono.cells),.sl 4 (e.Idx.map Ix.cells),.lit su]]) (fun ⟨n,su⟩ => n ≤ e.Args.length) (fun ⟨n,su⟩ => e.Args.length - n) ⟨⟨0,(.slice none 0 0)⟩,(by omega),Weak.mk [true,true,true,true] ⟨VLe.refl _,VLe.refl _,VLe.refl _,VLe.refl _,trivial⟩ rfl⟩ ?_
  rintro ⟨n,su⟩ hn
  show AWP _ _ _ _ _ ⟨[(7,vI n)] ++ _,[E.vec su 52 13 ((e.Args.take n).map Ex.cells),E.row b3 52 [cI e.Op,cS e.Name,cI e.Val.N,cI e.Val.D,cI e.Ty.Kind,cI e.Ty.Bits,cI e.Ty.Frac,cI e.Ty.Round,cI e.Ty.Over,cI e.Lin.K,.sl 2 (e.Lin.L.map Mono.cells),.sl 4 (e.Idx.map Ix.cells),.lit su]] ++ _⟩
  refine zJ<|sReg rfl<|rMv rfl<|zA rfl rfl (zC rfl wM rfl)<|zA rfl rfl (zD rfl zCu rfl (zE 3 rfl) rfl)<|zA rfl rfl (zT rfl el50 rfl)<|zA rfl rfl (qL rfl rfl rfl)<|zB<|zG rfl (fun c3 => ?_) (fun c3 => ?_)
  ·try simp only [sx] at c3
   obtain ⟨a,ha⟩ := qZ e.Args n (by omega)
   refine zK<|zJ<|zU<|yG 9 mixed (by kernel_rfl) rfl rfl<|zM rfl rfl (zC rfl wM rfl)<|zM rfl rfl (zD rfl zCu rfl (zE 1 rfl) rfl)<|zM rfl rfl (zC rfl wM rfl)<|zM rfl rfl (zD rfl zCu rfl (zE 3 rfl) rfl)<|zM rfl rfl (zN rfl rfl)<|zM rfl rfl (zP rfl el50 rfl rfl (by omega) (zLm (by assumption)))<|zM rfl rfl (zF rfl yY rfl qA rfl)<|zM rfl rfl (zQ rfl ok148 (ih a (qB ha) (by have := Ex.arg_wt (qB ha); omega)) ⟨VLe.refl _,rfl,trivial⟩)<|zM rfl rfl (qV rfl el50 zr52 rfl rfl rfl rfl)<|kI<|zY rfl rfl (yB 0 rfl el50 rfl rfl rfl (by simp only [List.length_take,List.length_map,List.length_append,List.length_cons,List.length_nil]; omega) (by simp only [List.length_take,List.length_map,List.length_append,List.length_cons,List.length_nil]; omega)) ?_
   rintro _ _ ⟨sv7,rfl,rfl⟩
   refine zA rfl rfl (zC rfl wM rfl)<|zS rfl rfl (zO rfl sz50 rfl rfl rfl (qE 1 rfl rfl))<|zB<|zR rfl<|rMv rfl<|zA rfl rfl (qC rfl rfl rfl ⟨by omega,by omega⟩)<|rMv rfl<|zB ?_
   refine ⟨⟨n + 1,sv7⟩,(by omega),(by show e.Args.length - (n + 1) < e.Args.length - n; omega),Weak.mk [true,true,true,true] ⟨VLe.refl _,VLe.refl _,VLe.refl _,VLe.refl _,trivial⟩ (by exact zHf (by rw [yC ha,List.map_append]; simp only [List.map_cons,List.map_nil,Ex.cells_eq]))⟩
  ·try simp only [sx] at c3
   rw [yN (l := e.Args) (k := n) (by omega)]
   refine zX _ (qX 0 rfl (regs' := []) (μ' := [_,_,_]) trivial ⟨EFle.row (ds := [_,_,_,_,_,_,_,_,_,_,_,_,_]) ⟨.inl rfl,.inl rfl,.inl rfl,.inl rfl,.inl rfl,.inl rfl,.inl rfl,.inl rfl,.inl rfl,.inl rfl,.inl rfl,.inl rfl,.inr ⟨rfl,rfl⟩,trivial⟩,EFle.refl _,EFle.refl _,trivial⟩)<|qO<|sReg rfl<|zA rfl rfl (zF rfl yY rfl (zE 0 rfl) rfl)<|zS rfl rfl (zO rfl sz52 rfl rfl rfl (qE 1 rfl rfl))<|zB<|zH<|fin1 (qF yY rfl (zE 1 rfl) rfl) ?_
   rfl
theorem ref14_Twin (e : Ex) (he : e.wt ≤ 4294967296) : Pur cfg 148 [vE e] (vE e):= by
  induction e using Ex.ind with
  | _ e ih => exact zOn e (fun a ha h => ih a ha h) he
end Go.W
