/-
  Walks: what functions of the program compute. Printed by wip/gen/mk2.py.
  Conditions: none.
-/
import Derived.Test.YtdbflnlalkfeeaaGreatDoorVC
import Derived.Test.YtdbflnlalkfeeaaGreatDoorEngZ
set_option maxRecDepth 10000
namespace Go.W
open Go Go.Eng Go.Proofs Go.L41 Go.Br
attribute [local irreducible] AWP RWP TD finQ
theorem ok148 : callOk Tryz.prog 148 = true:= by kernel_rfl
theorem ok184 : callOk Tryz.prog 184 = true:= by kernel_rfl
theorem zLm (l : Lf) (hl : l.L.length ≤ 4294967296) :
    Pur cfg 184 [vLin l] (vLin l):= by
 refine zV Tryz.func184 rfl Tryz.ntmps184 Tryz.results184 rfl ?_
 intro z hz
 refine sReg rfl<|qA rfl rfl (qL rfl rfl) ?_
 rintro _ _ ⟨b1,rfl,rfl⟩
 refine qA rfl rfl (qO [none,some 2] rfl zr49 rfl) ?_
 rintro _ _ ⟨b2,rfl,rfl⟩
 refine zB<|sReg rfl<|zA rfl (zC rfl zDc rfl)<|zA rfl (zD rfl one2 rfl (zF 1 rfl) rfl)<|zA rfl (qV rfl zr49 pl49 rfl)<|qA rfl rfl (yJ rfl zr49) ?_
 rintro _ _ ⟨b3,rfl,rfl⟩
 refine yK _ (kI 111 2)<|zX rfl rfl (zT rfl sz49 rfl rfl rfl (qH 1 rfl rfl))<|zB<|sReg rfl<|zA rfl (zC rfl kO rfl)<|zA rfl (zD rfl wZ rfl (zF 1 rfl) rfl)<|zA rfl (zC rfl kO rfl)<|zA rfl (zD rfl wZ rfl (zF 3 rfl) rfl)<|qA rfl rfl (yI 0 rfl el47 rfl rfl rfl (by simp; omega) (by simp; omega)) ?_
 rintro _ _ ⟨sv5,rfl,rfl⟩
 refine zA rfl (zC rfl kO rfl)<|zX rfl rfl (zT rfl sz47 rfl rfl rfl (qH 1 rfl rfl))<|zB<|sReg rfl<|yK _ (yL 0 rfl (regs' := [(11,_)]) (μ' := [_,_,_]) ⟨FLe.sl,trivial⟩ ⟨EFle.row (ds := [_,_]) ⟨.inl rfl,.inr ⟨rfl,rfl⟩,trivial⟩,EFle.refl _,EFle.refl _,trivial⟩)<|zA rfl (zG rfl kG rfl (zF 0 rfl) rfl)<|zX rfl rfl (zT rfl sz49 rfl rfl rfl (qH 1 rfl rfl))<|zB<|zI<|fin1 (qG kG rfl (zF 1 rfl) rfl) ?_
 rfl
theorem zPu (e : Ex) (ih : ∀ a,a ∈ e.Args → a.wt ≤ 4294967296 → Pur cfg 148 [vE a] (vE a)) (he : e.wt ≤ 4294967296) :
    Pur cfg 148 [vE e] (vE e):= by
 refine zV Tryz.func148 rfl Tryz.ntmps148 Tryz.results148 rfl ?_
 intro z hz
 obtain ⟨hL,hI,hA⟩ := e.parts he
 refine sReg rfl<|qA rfl rfl (qL rfl rfl) ?_
 rintro _ _ ⟨b1,rfl,rfl⟩
 refine qA rfl rfl (qO [none,none,none,none,none,none,none,none,none,none,some 2,some 4,some 13] rfl zr52 rfl) ?_
 rintro _ _ ⟨b2,rfl,rfl⟩
 refine zB<|zK<|yZ 13 1 [⟨0,.q []⟩,⟨1,.q [2]⟩,⟨2,.q []⟩,⟨3,.q [2]⟩,⟨4,.q []⟩,⟨5,.q [2]⟩,⟨6,.q []⟩,⟨7,.q [2]⟩,⟨8,.q []⟩,⟨9,.q [2]⟩,⟨10,.q []⟩,⟨11,.q []⟩,⟨12,.f 0⟩] mixed (by kernel_rfl) (by kernel_rfl) rfl rfl rfl<|zW rfl<|zW rfl<|zW rfl<|zW rfl<|zW rfl<|zW rfl<|zW rfl<|zW rfl<|zW rfl<|zW rfl<|zW rfl<|zW rfl<|zKj rfl rfl (zBw (qO [none,none,none,none,none,none,none,none,none,none,some 2,some 4,some 13] rfl zr52 rfl))<|zAl<|qD rfl (by decide) rfl rfl (zC rfl kN rfl)<|qD rfl (by decide) rfl rfl (zD rfl one3 rfl (zF 0 rfl) rfl)<|qD rfl (by decide) rfl rfl (zC rfl zCs rfl)<|qD rfl (by decide) rfl rfl (zD rfl one9 rfl (zF 0 rfl) rfl)<|qD rfl (by decide) rfl rfl (zC rfl zGz rfl)<|qD rfl (by decide) rfl rfl (zG rfl agg46 rfl (zF 0 rfl) rfl)<|qD rfl (by decide) rfl rfl (zC rfl zCr rfl)<|qD rfl (by decide) rfl rfl (zG rfl yH rfl (zF 0 rfl) rfl)<|qD rfl (by decide) rfl rfl (zC rfl zCq rfl)<|qD rfl (by decide) rfl rfl (zG rfl kG rfl (zF 0 rfl) rfl)<|qD rfl (by decide) rfl rfl (zP rfl ok184 (zLm e.Lin hL) ⟨zE,rfl,trivial⟩)<|qD rfl (by decide) rfl rfl (qV rfl zr52 pl52 rfl)<|zJo rfl rfl ?_
 rintro _ _ ⟨b3,rfl,rfl⟩
 refine zAk rfl<|zX rfl rfl (zT rfl sz52 rfl rfl rfl (qH 0 rfl rfl))<|zB<|zK<|sReg rfl<|yK _ (kI 114 4)<|yK _ (kI 52 13)<|rMv rfl<|zB<|zS<|zY ⟨[(4,.c _),(1,.c _),(2,.c _),(3,.c _)],[_,_,_,_,_]⟩ (Weak.mk [true,true,true,true,true] ⟨zE,zE,zE,zE,trivial⟩ rfl)<|qI 1 3 rfl rfl (Nat × Value) (fun ⟨k,sv⟩ => [(4,vI k)]) (fun ⟨k,sv⟩ => [E.vec (.slice none 0 0) 52 13 [],E.vec sv 114 4 ((e.Idx.take k).map Ix.cells),E.row b3 52 [cI e.Op,cS e.Name,cI e.Val.N,cI e.Val.D,cI e.Ty.Kind,cI e.Ty.Bits,cI e.Ty.Frac,cI e.Ty.Round,cI e.Ty.Over,cI e.Lin.K,.sl 2 (e.Lin.L.map Mono.cells),.lit sv,.lit (.slice none 0 0)]]) (fun ⟨k,sv⟩ => k ≤ e.Idx.length) (fun ⟨k,sv⟩ => e.Idx.length - k) ⟨⟨0,(.slice none 0 0)⟩,(by omega),Weak.mk [true,true,true,true,true] ⟨zE,zE,zE,zE,trivial⟩ rfl⟩ ?_
 rintro ⟨k,sv⟩ hk
 show AWP _ _ _ _ _ ⟨[(4,vI k)] ++ _,[E.vec (.slice none 0 0) 52 13 [],E.vec sv 114 4 ((e.Idx.take k).map Ix.cells),E.row b3 52 [cI e.Op,cS e.Name,cI e.Val.N,cI e.Val.D,cI e.Ty.Kind,cI e.Ty.Bits,cI e.Ty.Frac,cI e.Ty.Round,cI e.Ty.Over,cI e.Lin.K,.sl 2 (e.Lin.L.map Mono.cells),.lit sv,.lit (.slice none 0 0)]] ++ _⟩
 refine zK<|sReg rfl<|rMv rfl<|zA rfl (zC rfl kE rfl)<|zA rfl (zD rfl kM rfl (zF 4 rfl) rfl)<|zA rfl (zR rfl el44 rfl)<|zA rfl (qM rfl rfl rfl)<|zB<|zH rfl (fun c1 => ?_) (fun c1 => ?_)
 ·try simp only [sx] at c1
  obtain ⟨x,hx⟩ := qX e.Idx k (by omega)
  have hxw := Ex.idx_wt (qE hx)
  refine zJ<|zK<|zS<|zK<|yZ 15 1 [⟨0,.q []⟩,⟨1,.q [5]⟩,⟨2,.q []⟩,⟨3,.q []⟩,⟨4,.q []⟩,⟨5,.q []⟩,⟨6,.q []⟩,⟨7,.q []⟩,⟨8,.q [5]⟩,⟨9,.q []⟩,⟨10,.q []⟩,⟨11,.q []⟩,⟨12,.q []⟩,⟨13,.q []⟩,⟨14,.f 0⟩] mixed (by kernel_rfl) (by kernel_rfl) rfl rfl rfl<|zW rfl<|zW rfl<|zW rfl<|zW rfl<|zW rfl<|zW rfl<|zW rfl<|zW rfl<|zW rfl<|zW rfl<|zW rfl<|zW rfl<|zW rfl<|zW rfl<|zKj rfl rfl (zBw (qO [none,some 2,none,some 2] rfl zJe rfl))<|zAl<|qD rfl (by decide) rfl rfl (zC rfl kE rfl)<|qD rfl (by decide) rfl rfl (zD rfl kM rfl (zF 0 rfl) rfl)<|qD rfl (by decide) rfl rfl (zN rfl rfl)<|qD rfl (by decide) rfl rfl (zO rfl el44 rfl rfl (by omega) (getm (by assumption)))<|qD rfl (by decide) rfl rfl (zZ rfl zAd rfl)<|qD rfl (by decide) rfl rfl (zG rfl kG rfl qC rfl)<|qD rfl (by decide) rfl rfl (zP rfl ok184 (zLm x.Lin (by have := Ex.idx_wt (qE hx); omega)) ⟨zE,rfl,trivial⟩)<|qD rfl (by decide) rfl rfl (zC rfl kE rfl)<|qD rfl (by decide) rfl rfl (zD rfl kM rfl (zF 0 rfl) rfl)<|qD rfl (by decide) rfl rfl (zN rfl rfl)<|qD rfl (by decide) rfl rfl (zO rfl el44 rfl rfl (by omega) (getm (by assumption)))<|qD rfl (by decide) rfl rfl (zZ rfl zAr rfl)<|qD rfl (by decide) rfl rfl (zD rfl one9 rfl qC rfl)<|qD rfl (by decide) rfl rfl (qV rfl zJe pl114 rfl)<|zJo rfl rfl ?_
  rintro _ _ ⟨b4,rfl,rfl⟩
  refine zAk rfl<|zX rfl rfl (zT rfl sz114 rfl rfl rfl (qH 0 rfl rfl))<|zB<|zK<|sReg rfl<|yK _ (kI 49 2)<|rMv rfl<|zB<|zS<|zY ⟨[(6,.c _),(1,.c _),(2,.c _),(3,.c _),(4,.c _),(5,.c _)],[_,_,_,_,_,_,_]⟩ (Weak.mk [true,true,true,true,true,true,true] ⟨zE,zE,zE,zE,zE,zE,trivial⟩ rfl)<|qI 1 2 rfl rfl (Nat × Value) (fun ⟨j,sw⟩ => [(6,vI j)]) (fun ⟨j,sw⟩ => [E.vec sw 49 2 ((x.At.take j).map Lf.cells),E.row b4 114 [cI x.Lin.K,.sl 2 (x.Lin.L.map Mono.cells),cS x.From,.lit sw]]) (fun ⟨j,sw⟩ => j ≤ x.At.length) (fun ⟨j,sw⟩ => x.At.length - j) ⟨⟨0,(.slice none 0 0)⟩,(by omega),Weak.mk [true,true,true,true,true,true,true] ⟨zE,zE,zE,zE,zE,zE,trivial⟩ rfl⟩ ?_
  rintro ⟨j,sw⟩ hj
  show AWP _ _ _ _ _ ⟨[(6,vI j)] ++ _,[E.vec sw 49 2 ((x.At.take j).map Lf.cells),E.row b4 114 [cI x.Lin.K,.sl 2 (x.Lin.L.map Mono.cells),cS x.From,.lit sw]] ++ _⟩
  refine zK<|sReg rfl<|rMv rfl<|zA rfl (zC rfl kE rfl)<|zA rfl (zD rfl kM rfl (zF 6 rfl) rfl)<|rMv rfl<|zA rfl (zO rfl el44 rfl rfl (by omega) (getm (by assumption)))<|zA rfl (zZ rfl kH rfl)<|zA rfl (zD rfl wJ rfl qC rfl)<|zA rfl (zR rfl wE rfl)<|zA rfl (qM rfl rfl rfl)<|zB<|zH rfl (fun c2 => ?_) (fun c2 => ?_)
  ·try simp only [sx] at c2
   obtain ⟨l,hl⟩ := qX x.At j (by omega)
   refine zJ<|zK<|zS<|yC 13 mixed (by kernel_rfl) rfl rfl<|zM rfl rfl (zC rfl kH rfl)<|zM rfl rfl (zD rfl wJ rfl (zF 1 rfl) rfl)<|zM rfl rfl (zC rfl kE rfl)<|zM rfl rfl (zD rfl kM rfl (zF 6 rfl) rfl)<|zM rfl rfl (zN rfl rfl)<|zM rfl rfl (zO rfl el44 rfl rfl (by omega) (getm (by assumption)))<|zM rfl rfl (zZ rfl kH rfl)<|zM rfl rfl (zD rfl wJ rfl qC rfl)<|zM rfl rfl (zN rfl rfl)<|zM rfl rfl (zO rfl wE rfl rfl (by omega) (getm (by assumption)))<|zM rfl rfl (zG rfl kG rfl qC rfl)<|zM rfl rfl (zP rfl ok184 (zLm l (by have := Ex.idx_wt (qE hx); have := zAh (qE hl); omega)) ⟨zE,rfl,trivial⟩)<|zM rfl rfl (qZ rfl wE zr49 rfl rfl rfl rfl)<|kA<|qA rfl rfl (yI 0 rfl wE rfl rfl rfl (by simp only [List.length_take,List.length_map,List.length_append,List.length_cons,List.length_nil]; omega) (by simp only [List.length_take,List.length_map,List.length_append,List.length_cons,List.length_nil]; omega)) ?_
   rintro _ _ ⟨sv5,rfl,rfl⟩
   refine zA rfl (zC rfl kH rfl)<|zX rfl rfl (zT rfl sz112 rfl rfl rfl (qH 1 rfl rfl))<|zB<|zU rfl<|rMv rfl<|zA rfl (qB rfl rfl rfl ⟨by omega,by omega⟩)<|rMv rfl<|zB ?_
   refine ⟨⟨j + 1,sv5⟩,(by omega),(by show x.At.length - (j + 1) < x.At.length - j; omega),Weak.mk [true,true,true,true,true,true,true] ⟨zE,zE,zE,zE,zE,zE,trivial⟩ (by exact mem2_eq' (by rw [yE hl,List.map_append]; rfl))⟩
  ·try simp only [sx] at c2
   rw [yO (l := x.At) (k := j) (by omega)]
   refine zY _ (yL 0 rfl (regs' := []) (μ' := [_,_,_,_,_,_]) trivial ⟨EFle.row (ds := [_,_,_,_]) ⟨.inl rfl,.inl rfl,.inl rfl,.inr ⟨rfl,rfl⟩,trivial⟩,EFle.refl _,EFle.refl _,EFle.refl _,EFle.refl _,EFle.refl _,trivial⟩)<|qN<|zU rfl<|zA rfl (zC rfl kE rfl)<|zA rfl (zD rfl kM rfl (zF 3 rfl) rfl)<|zA rfl (zG rfl zCv rfl (zF 0 rfl) rfl)<|zA rfl (qZ rfl el44 zJe rfl rfl rfl rfl)<|qA rfl rfl (yI 2 rfl el44 rfl rfl rfl (by simp only [List.length_take,List.length_map,List.length_append,List.length_cons,List.length_nil]; omega) (by simp only [List.length_take,List.length_map,List.length_append,List.length_cons,List.length_nil]; omega)) ?_
   rintro _ _ ⟨sv6,rfl,rfl⟩
   refine zA rfl (zC rfl kE rfl)<|zX rfl rfl (zT rfl sz44 rfl rfl rfl (qH 3 rfl rfl))<|zB<|zU rfl<|rMv rfl<|zA rfl (qB rfl rfl rfl ⟨by omega,by omega⟩)<|rMv rfl<|zB ?_
   refine ⟨⟨k + 1,sv6⟩,(by omega),(by show e.Idx.length - (k + 1) < e.Idx.length - k; omega),Weak.mk [false,true,true,true,true,true] ⟨zE,zE,zE,zE,trivial⟩ (by exact mem3_eq (by rw [yE hx,List.map_append]; rfl))⟩
 ·try simp only [sx] at c1
  rw [yO (l := e.Idx) (k := k) (by omega)]
  refine zY _ (yL 1 rfl (regs' := []) (μ' := [_,_,_,_]) trivial ⟨EFle.refl _,EFle.row (ds := [_,_,_,_,_,_,_,_,_,_,_,_,_]) ⟨.inl rfl,.inl rfl,.inl rfl,.inl rfl,.inl rfl,.inl rfl,.inl rfl,.inl rfl,.inl rfl,.inl rfl,.inl rfl,.inr ⟨rfl,rfl⟩,.inl rfl,trivial⟩,EFle.refl _,EFle.refl _,trivial⟩)<|qN<|zK<|sReg rfl<|rMv rfl<|zB<|zS<|zY ⟨[(7,.c _),(1,.c _),(2,.c _),(3,.c _)],[_,_,_,_]⟩ (Weak.mk [true,true,true,true] ⟨zE,zE,zE,zE,trivial⟩ rfl)<|qI 1 2 rfl rfl (Nat × Value) (fun ⟨n,su⟩ => [(7,vI n)]) (fun ⟨n,su⟩ => [E.vec su 52 13 ((e.Args.take n).map Ex.cells),E.row b3 52 [cI e.Op,cS e.Name,cI e.Val.N,cI e.Val.D,cI e.Ty.Kind,cI e.Ty.Bits,cI e.Ty.Frac,cI e.Ty.Round,cI e.Ty.Over,cI e.Lin.K,.sl 2 (e.Lin.L.map Mono.cells),.sl 4 (e.Idx.map Ix.cells),.lit su]]) (fun ⟨n,su⟩ => n ≤ e.Args.length) (fun ⟨n,su⟩ => e.Args.length - n) ⟨⟨0,(.slice none 0 0)⟩,(by omega),Weak.mk [true,true,true,true] ⟨zE,zE,zE,zE,trivial⟩ rfl⟩ ?_
  rintro ⟨n,su⟩ hn
  show AWP _ _ _ _ _ ⟨[(7,vI n)] ++ _,[E.vec su 52 13 ((e.Args.take n).map Ex.cells),E.row b3 52 [cI e.Op,cS e.Name,cI e.Val.N,cI e.Val.D,cI e.Ty.Kind,cI e.Ty.Bits,cI e.Ty.Frac,cI e.Ty.Round,cI e.Ty.Over,cI e.Lin.K,.sl 2 (e.Lin.L.map Mono.cells),.sl 4 (e.Idx.map Ix.cells),.lit su]] ++ _⟩
  refine zK<|sReg rfl<|rMv rfl<|zA rfl (zC rfl kW rfl)<|zA rfl (zD rfl zAt rfl (zF 3 rfl) rfl)<|zA rfl (zR rfl el50 rfl)<|zA rfl (qM rfl rfl rfl)<|zB<|zH rfl (fun c3 => ?_) (fun c3 => ?_)
  ·try simp only [sx] at c3
   obtain ⟨a,ha⟩ := qX e.Args n (by omega)
   refine zJ<|zK<|zS<|yC 9 mixed (by kernel_rfl) rfl rfl<|zM rfl rfl (zC rfl kW rfl)<|zM rfl rfl (zD rfl zAt rfl (zF 1 rfl) rfl)<|zM rfl rfl (zC rfl kW rfl)<|zM rfl rfl (zD rfl zAt rfl (zF 3 rfl) rfl)<|zM rfl rfl (zN rfl rfl)<|zM rfl rfl (zO rfl el50 rfl rfl (by omega) (zEy (by assumption)))<|zM rfl rfl (zG rfl yS rfl qC rfl)<|zM rfl rfl (zP rfl ok148 (ih a (qE ha) (by have := Ex.arg_wt (qE ha); omega)) ⟨zE,rfl,trivial⟩)<|zM rfl rfl (qZ rfl el50 zr52 rfl rfl rfl rfl)<|kA<|qA rfl rfl (yI 0 rfl el50 rfl rfl rfl (by simp only [List.length_take,List.length_map,List.length_append,List.length_cons,List.length_nil]; omega) (by simp only [List.length_take,List.length_map,List.length_append,List.length_cons,List.length_nil]; omega)) ?_
   rintro _ _ ⟨sv7,rfl,rfl⟩
   refine zA rfl (zC rfl kW rfl)<|zX rfl rfl (zT rfl sz50 rfl rfl rfl (qH 1 rfl rfl))<|zB<|zU rfl<|rMv rfl<|zA rfl (qB rfl rfl rfl ⟨by omega,by omega⟩)<|rMv rfl<|zB ?_
   refine ⟨⟨n + 1,sv7⟩,(by omega),(by show e.Args.length - (n + 1) < e.Args.length - n; omega),Weak.mk [true,true,true,true] ⟨zE,zE,zE,zE,trivial⟩ (by exact mem2_eq' (by rw [yE ha,List.map_append]; simp only [List.map_cons,List.map_nil,Ex.cells_eq]))⟩
  ·try simp only [sx] at c3
   rw [yO (l := e.Args) (k := n) (by omega)]
   refine zY _ (yL 0 rfl (regs' := []) (μ' := [_,_,_]) trivial ⟨EFle.row (ds := [_,_,_,_,_,_,_,_,_,_,_,_,_]) ⟨.inl rfl,.inl rfl,.inl rfl,.inl rfl,.inl rfl,.inl rfl,.inl rfl,.inl rfl,.inl rfl,.inl rfl,.inl rfl,.inl rfl,.inr ⟨rfl,rfl⟩,trivial⟩,EFle.refl _,EFle.refl _,trivial⟩)<|qN<|sReg rfl<|zA rfl (zG rfl yS rfl (zF 0 rfl) rfl)<|zX rfl rfl (zT rfl sz52 rfl rfl rfl (qH 1 rfl rfl))<|zB<|zI<|fin1 (qG yS rfl (zF 1 rfl) rfl) ?_
   rfl
theorem ref14_Twin (e : Ex) (he : e.wt ≤ 4294967296) : Pur cfg 148 [vE e] (vE e):= by
  induction e using Ex.ind with
  | _ e ih => exact zPu e (fun a ha h => ih a ha h) he
end Go.W
