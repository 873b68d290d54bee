/-
  Walks: what functions of the program compute. Printed by wip/gen/mk2.py.
  Conditions: none.
-/
import Derived.Test.YtdbflnlalkfeeaaGreatDoorNF
import Derived.Test.YtdbflnlalkfeeaaGreatDoorPlain2
import Derived.Test.YtdbflnlalkfeeaaGreatDoorVK
import Derived.Test.YtdbflnlalkfeeaaGreatDoorNE
set_option maxRecDepth 10000
namespace Go.W
open Go Go.Eng Go.Proofs Go.L41 Go.Br
attribute [local irreducible] AWP RWP TD finQ
theorem ok40 : callOk Tryz.prog 40 = true:= by kernel_rfl
theorem ok90 : callOk Tryz.prog 90 = true:= by kernel_rfl
theorem ok104 : callOk Tryz.prog 104 = true:= by kernel_rfl
theorem pl54 : placesT Tryz.prog 54 = some [(0,1),(1,1),(2,1),(3,1),(4,1),(5,1),(6,13),(19,1)]:= by kernel_rfl
theorem sz23 : (Tryz.prog.info? 23).map (·.size) = some 1:= by kernel_rfl
theorem base_Ints (a b : List Int) (ha : a.length ≤ 17592186044416) :
    Pur cfg 23 [vIs a,vIs b] (vB (decide (a = b))):= by
 refine zV Tryz.func23 rfl Tryz.ntmps23 Tryz.results23 rfl ?_
 intro z hz
 refine sReg rfl<|rMv rfl<|zB<|zJ<|sReg rfl<|rMv rfl<|zA rfl rfl (zT rfl el33 rfl)<|rMv rfl<|zA rfl rfl (zT rfl el33 rfl)<|zA rfl rfl (qS rfl rfl rfl)<|zB<|zG rfl (fun c1 => ?_) (fun c1 => ?_)
 ·try simp only [sx] at c1
  refine sReg rfl<|rMv rfl<|zB<|zH<|fin1 (rs_c rfl) ?_
  rw [yW (fun h => c1 (by rw [h]))]
 ·try simp only [sx] at c1
  refine zK<|zJ<|sReg rfl<|rMv rfl<|zB<|zU<|zX ⟨[(5,.c _),(0,.c _),(1,.c _)],[]⟩ (Weak.mk [] ⟨VLe.of_eq rfl,VLe.of_eq rfl,VLe.of_eq rfl,trivial⟩ rfl)<|qI 1 0 rfl rfl (Nat) (fun k => [(5,vI k)]) (fun k => []) (fun k => k ≤ a.length ∧ (a.take k = b.take k)) (fun k => a.length - k) ⟨0,⟨by omega,rfl⟩,Weak.mk [] ⟨VLe.refl _,VLe.refl _,VLe.refl _,trivial⟩ rfl⟩ ?_
  rintro k ⟨hk,hp⟩
  refine zJ<|sReg rfl<|rMv rfl<|rMv rfl<|zA rfl rfl (zT rfl el33 rfl)<|zA rfl rfl (qL rfl rfl rfl)<|zB<|zG rfl (fun c2 => ?_) (fun c2 => ?_)
  ·try simp only [sx] at c2
   obtain ⟨x,hx⟩ := qZ a k (by omega)
   obtain ⟨y,hy⟩ := qZ b k (by omega)
   refine zK<|zJ<|zU<|zJ<|yG 9 mixed (by kernel_rfl) rfl rfl<|zM rfl rfl (zN rfl rfl)<|zM rfl rfl (zN rfl rfl)<|zM rfl rfl (zP rfl el33 rfl rfl (by omega) (getm (by assumption)))<|zM rfl rfl (zD rfl one3 rfl qA rfl)<|zM rfl rfl (zN rfl rfl)<|zM rfl rfl (zN rfl rfl)<|zM rfl rfl (zP rfl el33 rfl rfl (by omega) (getm (by assumption)))<|zM rfl rfl (zD rfl one3 rfl qA rfl)<|zM rfl rfl (qS rfl rfl rfl)<|kI<|zB<|zG rfl (fun c3 => ?_) (fun c3 => ?_)
   ·try simp only [sx] at c3
    refine sReg rfl<|rMv rfl<|zB<|zH<|fin1 (rs_c rfl) ?_
    rw [yW (zDq hx hy c3)]
   ·try simp only [sx] at c3
    refine zK<|zR rfl<|rMv rfl<|zA rfl rfl (qC rfl rfl rfl ⟨by omega,by omega⟩)<|rMv rfl<|zB ?_
    refine ⟨k + 1,⟨by omega,zBa hx hy hp c3⟩,(by omega),Weak.mk [] ⟨VLe.refl _,VLe.refl _,VLe.refl _,trivial⟩ rfl⟩
  ·try simp only [sx] at c2
   refine qO<|sReg rfl<|rMv rfl<|zB<|zH<|fin1 (rs_c rfl) ?_
   rw [wR (zCo hp (by omega) (by omega))]
theorem zFe (l : List St) (hl : stsWt l ≤ 536870912) (ih : ∀ s,s ∈ l → Pur cfg 90 [vSts s.Body] (vB (shortL s.Body))) :
    Pur cfg 90 [vSts l] (vB (shortL l)):= by
 refine zV Tryz.func90 rfl Tryz.ntmps90 Tryz.results90 rfl ?_
 intro z hz
 have hll := wD l
 refine sReg rfl<|rMv rfl<|zB<|zJ<|sReg rfl<|rMv rfl<|zB<|zU<|zX ⟨[(3,.c _),(0,.c _)],[]⟩ (Weak.mk [] ⟨VLe.of_eq rfl,VLe.of_eq rfl,trivial⟩ rfl)<|qI 1 0 rfl rfl (Nat) (fun k => [(3,vI k)]) (fun k => []) (fun k => k ≤ l.length ∧ ((l.take k).all shortT = true)) (fun k => l.length - k) ⟨0,⟨by omega,rfl⟩,Weak.mk [] ⟨VLe.refl _,VLe.refl _,trivial⟩ rfl⟩ ?_
 rintro k ⟨hk,hp⟩
 refine zJ<|sReg rfl<|rMv rfl<|rMv rfl<|zA rfl rfl (zT rfl el23 rfl)<|zA rfl rfl (qL rfl rfl rfl)<|zB<|zG rfl (fun c1 => ?_) (fun c1 => ?_)
 ·try simp only [sx] at c1
  obtain ⟨s,hs⟩ := qZ l k (by omega)
  refine zK<|zJ<|zU<|sReg rfl<|rMv rfl<|rMv rfl<|zA rfl rfl (zP rfl el23 rfl rfl (by omega) (zBk hs))<|zA rfl rfl (zZ rfl zBp rfl)<|zA rfl rfl (zD rfl one9 rfl qA rfl)<|zA rfl rfl (kY rfl un9 rfl)<|zA rfl rfl (yV rfl rfl rfl)<|rMv rfl<|rLz [] rfl gv1 trivial (fun g4_7 => zN rfl rfl) rfl<|rLz [] rfl gv1 trivial (fun g4_7 => zN rfl rfl) rfl<|rLz [(18,_),(19,_)] rfl gv1 ⟨rfl,rfl,rfl,rfl,trivial⟩ (fun g4_7 => zP rfl el23 rfl rfl (by omega) (zBk hs)) rfl<|rLz [(20,_)] rfl gv1 ⟨rfl,rfl,trivial⟩ (fun g4_7 => zZ rfl zBe rfl) rfl<|rLz [(21,_)] rfl gv1 ⟨rfl,rfl,trivial⟩ (fun g4_7 => zD rfl wF rfl qA rfl) rfl<|rLz [(22,_)] rfl gv1 ⟨rfl,rfl,trivial⟩ (fun g4_7 => zT rfl el44 rfl) rfl<|rLz [(23,_)] rfl gv1 ⟨rfl,rfl,trivial⟩ (fun g4_7 => yV rfl rfl rfl) rfl<|zA rfl rfl (yP rfl rfl rfl rfl (fun h => (lzf h)))<|rMv rfl<|rLz [] rfl gv1 trivial (fun g4_16 => zN rfl rfl) rfl<|rLz [] rfl gv1 trivial (fun g4_16 => zN rfl rfl) rfl<|rLz [(27,_),(28,_)] rfl gv1 ⟨rfl,rfl,rfl,rfl,trivial⟩ (fun g4_16 => zP rfl el23 rfl rfl (by omega) (zBk hs)) rfl<|rLz [(29,_)] rfl gv1 ⟨rfl,rfl,trivial⟩ (fun g4_16 => zZ rfl zAa rfl) rfl<|rLz [(30,_)] rfl gv1 ⟨rfl,rfl,trivial⟩ (fun g4_16 => zD rfl zCh rfl qA rfl) rfl<|rLz [(31,_)] rfl gv1 ⟨rfl,rfl,trivial⟩ (fun g4_16 => zQ rfl ok90 (ih s (qB hs)) ⟨VLe.refl _,rfl,trivial⟩) rfl<|rLz [(32,_)] rfl gv1 ⟨rfl,rfl,trivial⟩ (fun g4_16 => yA rfl rfl) rfl<|zA rfl rfl (yP rfl rfl rfl rfl (fun h => (lzf h)))<|zB<|zG rfl (fun c2 => ?_) (fun c2 => ?_)
  ·refine sReg rfl<|rMv rfl<|zB<|zH<|fin1 (rs_c rfl) ?_
   rw [zOj,all_no hs (short_t c2)]
  ·refine zK<|zR rfl<|rMv rfl<|zA rfl rfl (qC rfl rfl rfl ⟨by omega,by omega⟩)<|rMv rfl<|zB ?_
   refine ⟨k + 1,⟨by omega,zQo hs hp (short_f c2)⟩,(by omega),Weak.mk [] ⟨VLe.refl _,VLe.refl _,trivial⟩ rfl⟩
 ·try simp only [sx] at c1
  refine qO<|sReg rfl<|rMv rfl<|zB<|zH<|fin1 (rs_c rfl) ?_
  rw [yN (by omega)] at hp; rw [zOj,hp]
theorem zMl (s : St) (hl : stsWt s.Body ≤ 536870912) : Pur cfg 90 [vSts s.Body] (vB (shortL s.Body)):= by
  induction s using St.ind with
  | _ s ih => exact zFe s.Body hl fun a ha => ih a ha (by have := kA ha; have := St.body_wt a; omega)
theorem law30_short (l : List St) (hl : stsWt l ≤ 536870912) : Pur cfg 90 [vSts l] (vB (shortL l)) :=
  zFe l hl fun s hs => zMl s (by have := kA hs; have := St.body_wt s; omega)
theorem law30_FewStmts (l : List St) (m : Nat) (x : Int) (hf : fitS l) (hl : l.length ≤ 140737488355328) (hm : m ≤ 5000) (hx : x = m) :
    Pur cfg 40 [vSts l,vI x] (vB (fewS l m)):= by
 refine zV Tryz.func40 rfl Tryz.ntmps40 Tryz.results40 rfl ?_
 intro z hz
 refine sReg rfl<|rMv rfl<|zB<|sReg rfl<|rMv rfl<|rMv rfl<|zA rfl rfl (zQ rfl ok55 (zQl l m x hf hl hm hx) ⟨VLe.refl _,rfl,VLe.refl _,rfl,trivial⟩)<|rMv rfl<|zA rfl rfl (wQ rfl rfl rfl)<|rMv rfl<|rLz [] rfl gv1 trivial (fun g1_5 => zN rfl rfl) rfl<|rLz [(11,_)] rfl gv1 ⟨rfl,rfl,trivial⟩ (fun g1_5 => zQ rfl ok90 (law30_short l (by simp only [Lz,cond_true,cond_false,Bool.and_eq_true,Bool.or_eq_true,Bool.not_eq_true',Bool.not_eq_false',Bool.or_eq_false_iff,Bool.and_eq_false_iff,decide_eq_true_eq,decide_eq_false_iff_not,Bool.not_eq_true,Bool.not_eq_false] at g1_5; have := zNs (l := l) (m := m) (by omega); omega)) ⟨VLe.refl _,rfl,trivial⟩) rfl<|zA rfl rfl (qP rfl rfl rfl (fun h => h) rfl)<|rMv rfl<|zB<|zH<|fin1 (rs_c rfl) ?_
 subst hx
 exact congrArg vB (by unfold fewS; congr 1; exact decide_eq_decide.2 (by omega))
theorem zFb (l : List St) (hl : stsWt l ≤ 1000000) (ih : ∀ s,s ∈ l → Pur cfg 104 [vSts s.Body] (vSts s.Body)) :
    Pur cfg 104 [vSts l] (vSts l):= by
 refine zV Tryz.func104 rfl Tryz.ntmps104 Tryz.results104 rfl ?_
 intro z hz
 have hll := wD l
 refine sReg rfl<|zA rfl rfl (qW 20 rfl rfl)<|zB<|sReg rfl<|rMv rfl<|qY _ (yR 54 20)<|zB<|zJ<|sReg rfl<|rMv rfl<|zB<|zU<|zX ⟨[(4,.c _),(3,.c _),(0,.c _)],[_]⟩ (Weak.mk [true] ⟨VLe.of_eq rfl,VLe.of_eq rfl,VLe.of_eq rfl,trivial⟩ rfl)<|qI 2 1 rfl rfl (Nat × Value) (fun ⟨k,sv⟩ => [(4,vI k),(3,.c (.lit sv))]) (fun ⟨k,sv⟩ => [E.vec sv 54 20 ((l.take k).map St.cells)]) (fun ⟨k,sv⟩ => k ≤ l.length) (fun ⟨k,sv⟩ => l.length - k) ⟨⟨0,(.slice none 0 0)⟩,(by omega),Weak.mk [true] ⟨VLe.refl _,VLe.refl _,VLe.refl _,trivial⟩ rfl⟩ ?_
 rintro ⟨k,sv⟩ hk
 show AWP _ _ _ _ _ ⟨[(4,vI k),(3,.c (.lit sv))] ++ _,[E.vec sv 54 20 ((l.take k).map St.cells)] ++ _⟩
 refine zJ<|sReg rfl<|rMv rfl<|rMv rfl<|zA rfl rfl (zT rfl el23 rfl)<|zA rfl rfl (qL rfl rfl rfl)<|zB<|zG rfl (fun c1 => ?_) (fun c1 => ?_)
 ·try simp only [sx] at c1
  obtain ⟨s,hs⟩ := qZ l k (by omega)
  have hsw := kA (qB hs)
  have hse := St.wt_eq s
  refine zK<|zJ<|zU<|sReg rfl<|rMv rfl<|rMv rfl<|zA rfl rfl (zP rfl el23 rfl rfl (by omega) (zBk hs))<|zA rfl rfl (zF rfl zGu rfl qA rfl)<|zY rfl rfl (qH [none,none,none,none,none,some 4,none,none,none,none,none,none,none,none,none,none,some 2,some 4,some 13,some 20] rfl zr54 rfl) ?_
  rintro _ _ ⟨b2,rfl,rfl⟩
  refine zS rfl rfl (zO rfl sz54 rfl rfl rfl (qE 0 rfl rfl))<|zB<|sReg rfl<|zA rfl rfl (zC rfl zBe rfl)<|zA rfl rfl (zD rfl wF rfl (zE 0 rfl) rfl)<|zA rfl rfl (yK [none,none,none,none,none,none,none,none,none,none,some 2,none,some 13] rfl zr52 pl52 rfl rfl)<|zA rfl rfl (zQ rfl ok148 (ref14_Twin (rdZ s.Idx) (by rw [rdZ_wt]; omega)) ⟨VLe.refl _,rfl,trivial⟩)<|zA rfl rfl (det_part_one rfl kR wF rfl rfl)<|zA rfl rfl (zC rfl zBe rfl)<|zS rfl rfl (zO rfl sz44 rfl rfl rfl (qE 0 rfl rfl))<|zB<|sReg rfl<|zA rfl rfl (zC rfl zAh rfl)<|zA rfl rfl (zF rfl yY rfl (zE 0 rfl) rfl)<|zA rfl rfl (zQ rfl ok148 (ref14_Twin s.E (by omega)) ⟨VLe.refl _,rfl,trivial⟩)<|zA rfl rfl (zC rfl zAh rfl)<|zS rfl rfl (zO rfl sz52 rfl rfl rfl (qE 0 rfl rfl))<|zB<|sReg rfl<|zA rfl rfl (zC rfl zAa rfl)<|zA rfl rfl (zD rfl zCh rfl (zE 0 rfl) rfl)<|zA rfl rfl (zQ rfl ok104 (ih s (qB hs)) ⟨VLe.refl _,rfl,trivial⟩)<|zA rfl rfl (zC rfl zAa rfl)<|zS rfl rfl (zO rfl sz23 rfl rfl rfl (qE 0 rfl rfl))<|zB<|zR rfl<|rMv rfl<|zA rfl rfl (zF rfl zGu rfl (zE 0 rfl) rfl)<|zA rfl rfl (qV rfl el23 zr54 rfl rfl rfl rfl)<|zY rfl rfl (yB 1 rfl el23 rfl rfl rfl (by simp only [List.length_map,List.length_append,List.length_cons,List.length_nil,List.length_take,List.length_drop]; omega) (by simp only [List.length_map,List.length_append,List.length_cons,List.length_nil,List.length_take,List.length_drop]; omega)) ?_
  rintro _ _ ⟨sv3,rfl,rfl⟩
  refine rMv rfl<|zB<|zR rfl<|rMv rfl<|zA rfl rfl (qC rfl rfl rfl ⟨by omega,by omega⟩)<|rMv rfl<|zB ?_
  refine ⟨⟨k + 1,sv3⟩,(by omega),(by show l.length - (k + 1) < l.length - k; omega),Weak.mk [false,true] ⟨VLe.refl _,VLe.refl _,VLe.refl _,trivial⟩ (by exact zEm (by rw [yC hs,List.map_append,List.map_singleton,St.cells_eq]; rfl))⟩
 ·try simp only [sx] at c1
  rw [yN (l := l) (k := k) (by omega)]
  refine qO<|zJ<|zX _ (qX 0 rfl (regs' := [(3,_)]) (μ' := []) ⟨FLe.sl,trivial⟩ trivial)<|zR rfl<|rMv rfl<|rMv rfl<|zB<|zH<|fin1 (rs_c rfl) ?_
  exact rfl
theorem zMi (s : St) (hl : stsWt s.Body ≤ 1000000) : Pur cfg 104 [vSts s.Body] (vSts s.Body):= by
  induction s using St.ind with
  | _ s ih => exact zFb s.Body hl fun a ha => ih a ha (by have := kA ha; have := St.body_wt a; omega)
theorem ref30_twins (l : List St) (hl : stsWt l ≤ 1000000) : Pur cfg 104 [vSts l] (vSts l) :=
  zFb l hl fun s hs => zMi s (by have := kA hs; have := St.body_wt s; omega)
end Go.W
