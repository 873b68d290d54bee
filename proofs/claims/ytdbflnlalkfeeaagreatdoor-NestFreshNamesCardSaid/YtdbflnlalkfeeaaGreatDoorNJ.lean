/-
  Walks: what functions of the program compute. Printed by wip/gen/mk2.py.
  Conditions: none.
-/
import Derived.Test.YtdbflnlalkfeeaaGreatDoorNH
import Derived.Test.YtdbflnlalkfeeaaGreatDoorPlain2
set_option maxRecDepth 10000
namespace Go.W
open Go Go.Eng Go.Proofs Go.L41 Go.Br
attribute [local irreducible] AWP RWP TD finQ
theorem agg70 : aggT Tryz.prog 70 = some 2:= by kernel_rfl
theorem fl70 : flatK Tryz.prog 70 = some [.str,.int]:= by kernel_rfl
theorem ok20 : callOk Tryz.prog 20 = true:= by kernel_rfl
theorem ok21 : callOk Tryz.prog 21 = true:= by kernel_rfl
theorem ok23 : callOk Tryz.prog 23 = true:= by kernel_rfl
theorem ok24 : callOk Tryz.prog 24 = true:= by kernel_rfl
theorem ok25 : callOk Tryz.prog 25 = true:= by kernel_rfl
theorem ok31 : callOk Tryz.prog 31 = true:= by kernel_rfl
theorem ok38 : callOk Tryz.prog 38 = true:= by kernel_rfl
theorem ok51 : callOk Tryz.prog 51 = true:= by kernel_rfl
theorem pl25 : placesT Tryz.prog 25 = some [(0,1),(1,1)]:= by kernel_rfl
theorem sz22 : (Tryz.prog.info? 22).map (·.size) = some 1:= by kernel_rfl
theorem sz25 : (Tryz.prog.info? 25).map (·.size) = some 2:= by kernel_rfl
theorem zr25 : zeroT Tryz.prog 25 = some [(Value.slice none 0 0),(Value.slice none 0 0)]:= by kernel_rfl
theorem ref30_Twin (n : Ns) (hn : n.Ok) (hl : stsWt n.Body ≤ 1000000) :
    Con cfg 51 [vNs n] [] fun r μ' => ∃ sv,r = .agg [.lit sv,.sl 20 (n.Body.map St.cells)] ∧ μ' = [E.vec sv 42 8 (n.Bufs.map Bf.cells)]:= by
 refine Con.dropG<|zV Tryz.func51 rfl Tryz.ntmps51 Tryz.results51 rfl ?_
 intro z hz
 have hnb := hn.bufs
 refine sReg rfl<|qA rfl rfl (qL rfl rfl) ?_
 rintro _ _ ⟨b1,rfl,rfl⟩
 refine qA rfl rfl (qO [some 8,some 20] rfl zr25 rfl) ?_
 rintro _ _ ⟨b2,rfl,rfl⟩
 refine zB<|sReg rfl<|zA rfl (zC rfl zCa rfl)<|zA rfl (zD rfl zAa rfl (zF 1 rfl) rfl)<|zA rfl (zP rfl ok104 (ref30_twins n.Body hl) ⟨zE,rfl,trivial⟩)<|zA rfl (qV rfl zr25 pl25 rfl)<|qA rfl rfl (qO [some 8,some 20] rfl zr25 rfl) ?_
 rintro _ _ ⟨b3,rfl,rfl⟩
 refine zX rfl rfl (zT rfl sz25 rfl rfl rfl (qH 0 rfl rfl))<|zB<|zK<|sReg rfl<|yK _ (kI 42 8)<|rMv rfl<|zB<|zS<|zY ⟨[(4,.c _),(1,.c _),(2,.c _),(3,.c _)],[_,_,_,_]⟩ (Weak.mk [true,true,true,true] ⟨zE,zE,zE,zE,trivial⟩ rfl)<|qI 1 2 rfl rfl (Nat × Value) (fun ⟨k,sv⟩ => [(4,vI k)]) (fun ⟨k,sv⟩ => [E.vec sv 42 8 ((n.Bufs.take k).map Bf.cells),E.row b3 25 [.lit sv,.sl 20 (n.Body.map St.cells)]]) (fun ⟨k,sv⟩ => k ≤ n.Bufs.length) (fun ⟨k,sv⟩ => n.Bufs.length - k) ⟨⟨0,(.slice none 0 0)⟩,(by omega),Weak.mk [true,true,true,true] ⟨zE,zE,zE,zE,trivial⟩ rfl⟩ ?_
 rintro ⟨k,sv⟩ hk
 show AWP _ _ _ _ _ ⟨[(4,vI k)] ++ _,[E.vec sv 42 8 ((n.Bufs.take k).map Bf.cells),E.row b3 25 [.lit sv,.sl 20 (n.Body.map St.cells)]] ++ _⟩
 refine zK<|sReg rfl<|rMv rfl<|zA rfl (zC rfl wU rfl)<|zA rfl (zD rfl zCm rfl (zF 3 rfl) rfl)<|zA rfl (zR rfl el22 rfl)<|zA rfl (qM rfl rfl rfl)<|zB<|zH rfl (fun c1 => ?_) (fun c1 => ?_)
 ·try simp only [sx] at c1
  obtain ⟨b,hb⟩ := qX n.Bufs k (by omega)
  have hbd := hn.dims b (qE hb)
  refine zJ<|zK<|zS<|sReg rfl<|zA rfl (zC rfl wU rfl)<|zA rfl (zD rfl zCm rfl (zF 3 rfl) rfl)<|rMv rfl<|zA rfl (zO rfl el22 rfl rfl (by omega) (getm (by assumption)))<|zA rfl (zG rfl zMm rfl qC rfl)<|qA rfl rfl (qO [none,none,none,none,none,none,some 1,none] rfl zr42 rfl) ?_
  rintro _ _ ⟨b4,rfl,rfl⟩
  refine zX rfl rfl (zT rfl sz42 rfl rfl rfl (qH 0 rfl rfl))<|zB<|sReg rfl<|zA rfl (zFd rfl el33 zr3)<|zA rfl (zC rfl zHa rfl)<|zA rfl (zD rfl zDp rfl (zF 0 rfl) rfl)<|qA rfl rfl (zEo rfl el33 rfl rfl (by simp only [List.length_map,List.length_append,List.length_cons,List.length_nil,List.length_take,List.length_drop]; omega) (by simp only [List.length_map,List.length_append,List.length_cons,List.length_nil,List.length_take,List.length_drop]; omega)) ?_
  rintro _ _ ⟨sv5,rfl,rfl⟩
  refine yK _ (yL 0 rfl (regs' := [(25,_)]) (μ' := [_,_,_,_,_]) ⟨FLe.sl,trivial⟩ ⟨EFle.refl _,EFle.refl _,EFle.refl _,EFle.refl _,EFle.refl _,trivial⟩)<|zA rfl (zC rfl zHa rfl)<|zX rfl rfl (zT rfl sz33 rfl rfl rfl (qH 0 rfl rfl))<|zB<|zU rfl<|zA rfl (zC rfl wU rfl)<|zA rfl (zD rfl zCm rfl (zF 2 rfl) rfl)<|zA rfl (zG rfl zMm rfl (zF 0 rfl) rfl)<|zA rfl (qZ rfl el22 zr42 rfl rfl rfl rfl)<|qA rfl rfl (yI 1 rfl el22 rfl rfl rfl (by simp only [List.length_map,List.length_append,List.length_cons,List.length_nil,List.length_take,List.length_drop]; omega) (by simp only [List.length_map,List.length_append,List.length_cons,List.length_nil,List.length_take,List.length_drop]; omega)) ?_
  rintro _ _ ⟨sv6,rfl,rfl⟩
  refine zA rfl (zC rfl wU rfl)<|zX rfl rfl (zT rfl sz22 rfl rfl rfl (qH 2 rfl rfl))<|zB<|zU rfl<|rMv rfl<|zA rfl (qB rfl rfl rfl ⟨by omega,by omega⟩)<|rMv rfl<|zB ?_
  refine ⟨⟨k + 1,sv6⟩,(by omega),(by show n.Bufs.length - (k + 1) < n.Bufs.length - k; omega),Weak.mk [false,true,true,true,true] ⟨zE,zE,zE,zE,trivial⟩ (by exact mem2_eq' (by rw [yE hb,List.map_append]; rfl))⟩
 ·try simp only [sx] at c1
  rw [yO (l := n.Bufs) (k := k) (by omega)]
  refine qN<|sReg rfl<|zA rfl (zG rfl wM rfl (zF 1 rfl) rfl)<|zX rfl rfl (zT rfl sz25 rfl rfl rfl (qH 2 rfl rfl))<|zB<|zI<|fin1 (qG wM rfl (zF 2 rfl) rfl) ?_
  exact ⟨[E.vec _ _ _ _],⟨[],[_,_,_],rfl⟩,_,rfl,rfl⟩
theorem find_ex : Pur cfgI 25 [vNs lvN,vS (bs [105])] (.tup [vIs [0],vB true]):= by
  have h := zCc lvN (bs [105]) (by have := lvN_wt; omega)
  rw [lvN_find] at h; exact upI h
theorem encl_ex : Pur cfgI 31 [vNs lvN,vIs [0,0]] (vBds [⟨bs [105],2⟩]):= by
  have h := zKd lvN [0,0] (by decide)
  rw [lvN_encl] at h; exact upI h
theorem valid_ex : Pur cfgI 22 [vNs lvN] (.tup [vIs [],vI 0]):= by
  have h := zBo lvN lvN_ok.1
  rw [lvN_valid.1] at h; exact upI h
theorem valid_ex2 : Pur cfgI 22 [vNs lvM] (.tup [vIs [0,0],vI 1]):= by
  have h := zBo lvM lvN_ok.2
  rw [lvN_valid.2] at h; exact upI h
theorem fresh_ex : Pur cfgI 38 [vNs lvN,vS (bs [105])] (vS (bs [105,49])):= by
  have h := zDa lvN (bs [105]) (by have := lvN_wt; omega) (by decide) (by decide)
  rw [lvN_fresh] at h; exact h
theorem size_ex : Pur cfgI 24 [vNs lvN] (vI 2):= by
  have h := loopnest_Size lvN (by have := lvN_wt; omega)
  rw [lvN_size] at h; exact upI h
theorem zHq  :
    Pur cfgI 21 [] (vB true):= by
 refine zV Tryz.func21 rfl Tryz.ntmps21 Tryz.results21 rfl ?_
 intro z hz
 refine sReg rfl<|rMv rfl<|zB<|sReg rfl<|zA rfl (qV rfl zr40 pl40 rfl)<|qA rfl rfl (yJ rfl zr40) ?_
 rintro _ _ ⟨b1,rfl,rfl⟩
 refine zX rfl rfl (zT rfl sz40 rfl rfl rfl (qH 0 rfl rfl))<|zB<|sReg rfl<|zA rfl (qV rfl zFu pl111 rfl)<|zA rfl (qZ rfl el47 zFu rfl rfl rfl rfl)<|zA rfl (qV rfl zr49 pl49 rfl)<|zA rfl (yW [none,none,none,some 2] rfl zJe pl114 rfl rfl)<|qA rfl rfl (qO [none,some 2,none,some 2] rfl zJe rfl) ?_
 rintro _ _ ⟨b2,rfl,rfl⟩
 refine zX rfl rfl (zT rfl sz114 rfl rfl rfl (qH 0 rfl rfl))<|zB<|sReg rfl<|zA rfl (zG rfl zCv rfl (zF 0 rfl) rfl)<|zA rfl (qZ rfl el44 zJe rfl rfl rfl rfl)<|zA rfl (zG rfl zCv rfl (zF 0 rfl) rfl)<|zA rfl (qZ rfl el44 zJe rfl rfl rfl rfl)<|zA rfl (yW [none,none,none,none,none,none,none,none,none,none,some 2,none,some 13] rfl zr52 pl52 rfl rfl)<|zA rfl (yW [none,none,none,none,none,none,none,none,none,none,none,none,none,none,none,none,none,none,none,some 20] rfl zr54 pl54 rfl rfl)<|qA rfl rfl (qO [none,none,none,none,none,some 4,none,none,none,none,none,none,none,none,none,none,some 2,some 4,some 13,some 20] rfl zr54 rfl) ?_
 rintro _ _ ⟨b3,rfl,rfl⟩
 refine zX rfl rfl (zT rfl sz54 rfl rfl rfl (qH 0 rfl rfl))<|zB<|sReg rfl<|zA rfl (zG rfl yH rfl (zF 2 rfl) rfl)<|zA rfl (qZ rfl el33 zr3 rfl rfl rfl rfl)<|zA rfl (qV rfl zr42 pl42 rfl)<|zA rfl (zG rfl yH rfl (zF 2 rfl) rfl)<|zA rfl (qZ rfl el33 zr3 rfl rfl rfl rfl)<|zA rfl (qV rfl zr42 pl42 rfl)<|zA rfl (qZ rfl el22 zr42 rfl rfl rfl rfl)<|zA rfl (zG rfl zJd rfl (zF 0 rfl) rfl)<|zA rfl (qZ rfl el23 zr54 rfl rfl rfl rfl)<|zA rfl (yW [none,none,none,none,none,some 4,none,none,none,none,none,none,none,none,none,none,some 2,some 4,some 13,none] rfl zr54 pl54 rfl rfl)<|zA rfl (qZ rfl el23 zr54 rfl rfl rfl rfl)<|zA rfl (qV rfl zr25 pl25 rfl)<|qA rfl rfl (qO [some 8,some 20] rfl zr25 rfl) ?_
 rintro _ _ ⟨b4,rfl,rfl⟩
 refine zX rfl rfl (zT rfl sz25 rfl rfl rfl (qH 0 rfl rfl))<|zB<|sReg rfl<|zA rfl (zG rfl wM rfl (zF 0 rfl) rfl)<|zA rfl (zP rfl ok25 find_ex ⟨zE,rfl,zE,rfl,trivial⟩)<|zA rfl (qP rfl rfl)<|zA rfl (qU rfl rfl rfl)<|zA rfl (qU rfl rfl rfl)<|rMv rfl<|rMv rfl<|zB<|sReg rfl<|zA rfl (zG rfl wM rfl (zF 0 rfl) rfl)<|zA rfl (qZ rfl el33 zr3 rfl rfl rfl rfl)<|zA rfl (zP rfl ok31 encl_ex ⟨zE,rfl,zE,rfl,trivial⟩)<|rMv rfl<|zB<|sReg rfl<|zA rfl (zG rfl wM rfl (zF 0 rfl) rfl)<|zA rfl (zP rfl ok22 valid_ex ⟨zE,rfl,trivial⟩)<|zA rfl (qP rfl rfl)<|zA rfl (qU rfl rfl rfl)<|zA rfl (qU rfl rfl rfl)<|rMv rfl<|rMv rfl<|zB<|sReg rfl<|zA rfl (zG rfl wM rfl (zF 0 rfl) rfl)<|qA rfl rfl (wT rfl ok51 (Con.frame (upI (ref30_Twin lvN lvN_ok.1 (by have := lvN_wt; omega))) _) ⟨zE,rfl,trivial⟩) ?_
 rintro _ _ ⟨_,⟨svT,rfl,rfl⟩,rfl⟩
 refine qA rfl rfl (qO [some 8,some 20] rfl zr25 rfl) ?_
 rintro _ _ ⟨b6,rfl,rfl⟩
 refine zX rfl rfl (zT rfl sz25 rfl rfl rfl (qH 0 rfl rfl))<|zB<|sReg rfl<|zA rfl (zC rfl wU rfl)<|zA rfl (zD rfl zCm rfl (zF 0 rfl) rfl)<|zA rfl (qQ 1 rfl el22 rfl rfl rfl (by decide) (by decide))<|zA rfl (kC rfl zRb rfl)<|zX rfl rfl (zT rfl sz3 rfl rfl rfl (zCi 1 rfl rfl rfl))<|zB<|zK<|zY _ (yL 1 rfl (regs' := [(50,.agg [_,_]),(52,_)]) (μ' := [_,_,_,_,_]) ⟨FLe.agg ⟨.inr ⟨rfl,rfl⟩,.inl rfl,trivial⟩,FLe.sl,trivial⟩ ⟨EFle.row (ds := [_,_]) ⟨.inr ⟨rfl,rfl⟩,.inl rfl,trivial⟩,EFle.refl _,EFle.refl _,EFle.refl _,EFle.refl _,trivial⟩)<|zU rfl<|zA rfl (zG rfl wM rfl (zF 0 rfl) rfl)<|zA rfl (zP rfl ok22 valid_ex2 ⟨zE,rfl,trivial⟩)<|zA rfl (qP rfl rfl)<|zA rfl (qU rfl rfl rfl)<|zA rfl (qU rfl rfl rfl)<|rMv rfl<|rMv rfl<|zB<|sReg rfl<|rMv rfl<|rMv rfl<|rLz [] rfl gv1 trivial (fun g11_1 => zN rfl rfl) rfl<|rLz [] rfl gv1 trivial (fun g11_1 => qZ rfl el33 zr3 rfl rfl rfl rfl) rfl<|rLz [(62,_),(63,_)] rfl gv1 ⟨rfl,rfl,rfl,rfl,trivial⟩ (fun g11_1 => zP rfl ok23 (upI (zRx [0] [0] (by decide))) ⟨zE,rfl,zE,rfl,trivial⟩) rfl<|zA rfl (qK rfl rfl rfl (fun h => h) rfl)<|rMv rfl<|rLz [] rfl gv1 trivial (fun g11_6 => zN rfl rfl) rfl<|rLz [(67,_)] rfl gv1 ⟨rfl,rfl,trivial⟩ (fun g11_6 => zR rfl el67 rfl) rfl<|rLz [(68,_)] rfl gv1 ⟨rfl,rfl,trivial⟩ (fun g11_6 => qF rfl rfl rfl) rfl<|zA rfl (qK rfl rfl rfl (fun h => h) rfl)<|rMv rfl<|rLz [] rfl gv1 trivial (fun g11_11 => zN rfl rfl) rfl<|rLz [(72,_)] rfl gv1 ⟨rfl,rfl,trivial⟩ (fun g11_11 => zO rfl el67 rfl rfl (by decide) rfl) rfl<|rLz [(73,_)] rfl gv1 ⟨rfl,rfl,trivial⟩ (fun g11_11 => zG rfl agg70 rfl qC rfl) rfl<|rLz [] rfl gv1 trivial (fun g11_11 => qV rfl zr70 pl70 rfl) rfl<|rLz [(74,_),(75,_)] rfl gv1 ⟨rfl,rfl,rfl,rfl,trivial⟩ (fun g11_11 => zOc rfl fl70 rfl rfl rfl) rfl<|zA rfl (qK rfl rfl rfl (fun h => h) rfl)<|rMv rfl<|rLz [] rfl gv1 trivial (fun g11_18 => zN rfl rfl) rfl<|rLz [(79,_)] rfl gv1 ⟨rfl,rfl,trivial⟩ (fun g11_18 => qF rfl rfl rfl) rfl<|zA rfl (qK rfl rfl rfl (fun h => h) rfl)<|rMv rfl<|rLz [] rfl gv1 trivial (fun g11_22 => zN rfl rfl) rfl<|rLz [(83,_)] rfl gv1 ⟨rfl,rfl,trivial⟩ (fun g11_22 => qF rfl rfl rfl) rfl<|zA rfl (qK rfl rfl rfl (fun h => h) rfl)<|rMv rfl<|rLz [] rfl gv1 trivial (fun g11_26 => zN rfl rfl) rfl<|rLz [] rfl gv1 trivial (fun g11_26 => qZ rfl el33 zr3 rfl rfl rfl rfl) rfl<|rLz [(87,_),(88,_)] rfl gv1 ⟨rfl,rfl,rfl,rfl,trivial⟩ (fun g11_26 => zP rfl ok23 (upI (zRx [0,0] [0,0] (by decide))) ⟨zE,rfl,zE,rfl,trivial⟩) rfl<|zA rfl (qK rfl rfl rfl (fun h => h) rfl)<|rMv rfl<|rLz [] rfl gv1 trivial (fun g11_31 => zG rfl wM rfl (zF 1 rfl) rfl) rfl<|rLz [(92,_)] rfl gv1 ⟨rfl,rfl,trivial⟩ (fun g11_31 => zP rfl ok38 fresh_ex ⟨zE,rfl,zE,rfl,trivial⟩) rfl<|rLz [(93,_)] rfl gv1 ⟨rfl,rfl,trivial⟩ (fun g11_31 => yP rfl rfl rfl) rfl<|zA rfl (qK rfl rfl rfl (fun h => h) rfl)<|rMv rfl<|rLz [] rfl gv1 trivial (fun g11_36 => zG rfl wM rfl (zF 1 rfl) rfl) rfl<|rLz [(97,_)] rfl gv1 ⟨rfl,rfl,trivial⟩ (fun g11_36 => zP rfl ok24 size_ex ⟨zE,rfl,trivial⟩) rfl<|rLz [(98,_)] rfl gv1 ⟨rfl,rfl,trivial⟩ (fun g11_36 => qF rfl rfl rfl) rfl ?_
 refine zA rfl (qK rfl rfl rfl (fun h => h) rfl)<|rMv rfl<|zB<|zI<|zQ rfl ?_
 exact congrArg vB (by decide)
end Go.W
