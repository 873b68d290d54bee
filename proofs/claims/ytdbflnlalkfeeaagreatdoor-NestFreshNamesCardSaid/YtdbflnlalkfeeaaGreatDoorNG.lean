/-
  Walks: what functions of the program compute. Printed by wip/gen/mk2.py.
  Conditions: none.
-/
import Derived.Test.YtdbflnlalkfeeaaGreatDoorNF
import Derived.Test.YtdbflnlalkfeeaaGreatDoorPlain2
import Derived.Test.YtdbflnlalkfeeaaGreatDoorVK
import Derived.Test.YtdbflnlalkfeeaaGreatDoorNE
set_option maxRecDepth 10000
namespace Go.W
open Go Go.Eng Go.Proofs Go.L41 Go.Br
attribute [local irreducible] AWP RWP TD finQ
theorem ok40 : callOk Tryz.prog 40 = true:= by kernel_rfl
theorem ok90 : callOk Tryz.prog 90 = true:= by kernel_rfl
theorem ok104 : callOk Tryz.prog 104 = true:= by kernel_rfl
theorem pl54 : placesT Tryz.prog 54 = some [(0,1),(1,1),(2,1),(3,1),(4,1),(5,1),(6,13),(19,1)]:= by kernel_rfl
theorem sz23 : (Tryz.prog.info? 23).map (·.size) = some 1:= by kernel_rfl
theorem zRx (a b : List Int) (ha : a.length ≤ 17592186044416) :
    Pur cfg 23 [vIs a,vIs b] (vB (decide (a = b))):= by
 refine zV Tryz.func23 rfl Tryz.ntmps23 Tryz.results23 rfl ?_
 intro z hz
 refine sReg rfl<|rMv rfl<|zB<|zK<|sReg rfl<|rMv rfl<|zA rfl (zR rfl el33 rfl)<|rMv rfl<|zA rfl (zR rfl el33 rfl)<|zA rfl (qR rfl rfl rfl)<|zB<|zH rfl (fun c1 => ?_) (fun c1 => ?_)
 ·try simp only [sx] at c1
  refine sReg rfl<|rMv rfl<|zB<|zI<|zQ rfl ?_
  rw [yM (fun h => c1 (by rw [h]))]
 ·try simp only [sx] at c1
  refine zJ<|zK<|sReg rfl<|rMv rfl<|zB<|zS<|zY ⟨[(5,.c _),(0,.c _),(1,.c _)],[]⟩ (Weak.mk [] ⟨zE,zE,zE,trivial⟩ rfl)<|qI 1 0 rfl rfl (Nat) (fun k => [(5,vI k)]) (fun k => []) (fun k => k ≤ a.length ∧ (a.take k = b.take k)) (fun k => a.length - k) ⟨0,⟨by omega,rfl⟩,Weak.mk [] ⟨zE,zE,zE,trivial⟩ rfl⟩ ?_
  rintro k ⟨hk,hp⟩
  refine zK<|sReg rfl<|rMv rfl<|rMv rfl<|zA rfl (zR rfl el33 rfl)<|zA rfl (qM rfl rfl rfl)<|zB<|zH rfl (fun c2 => ?_) (fun c2 => ?_)
  ·try simp only [sx] at c2
   obtain ⟨x,hx⟩ := qX a k (by omega)
   obtain ⟨y,hy⟩ := qX b k (by omega)
   refine zJ<|zK<|zS<|zK<|yC 9 mixed (by kernel_rfl) rfl rfl<|zM rfl rfl (zN rfl rfl)<|zM rfl rfl (zN rfl rfl)<|zM rfl rfl (zO rfl el33 rfl rfl (by omega) (getm (by assumption)))<|zM rfl rfl (zD rfl one3 rfl qC rfl)<|zM rfl rfl (zN rfl rfl)<|zM rfl rfl (zN rfl rfl)<|zM rfl rfl (zO rfl el33 rfl rfl (by omega) (getm (by assumption)))<|zM rfl rfl (zD rfl one3 rfl qC rfl)<|zM rfl rfl (qR rfl rfl rfl)<|kA<|zB<|zH rfl (fun c3 => ?_) (fun c3 => ?_)
   ·try simp only [sx] at c3
    refine sReg rfl<|rMv rfl<|zB<|zI<|zQ rfl ?_
    rw [yM (zDr hx hy c3)]
   ·try simp only [sx] at c3
    refine zJ<|zU rfl<|rMv rfl<|zA rfl (qB rfl rfl rfl ⟨by omega,by omega⟩)<|rMv rfl<|zB ?_
    refine ⟨k + 1,⟨by omega,zBc hx hy hp c3⟩,(by omega),Weak.mk [] ⟨zE,zE,zE,trivial⟩ rfl⟩
  ·try simp only [sx] at c2
   refine qN<|sReg rfl<|rMv rfl<|zB<|zI<|zQ rfl ?_
   rw [kX (zCh hp (by omega) (by omega))]
theorem zFo (l : List St) (hl : stsWt l ≤ 536870912) (ih : ∀ s,s ∈ l → Pur cfg 90 [vSts s.Body] (vB (shortL s.Body))) :
    Pur cfg 90 [vSts l] (vB (shortL l)):= by
 refine zV Tryz.func90 rfl Tryz.ntmps90 Tryz.results90 rfl ?_
 intro z hz
 have hll := wA l
 refine sReg rfl<|rMv rfl<|zB<|zK<|sReg rfl<|rMv rfl<|zB<|zS<|zY ⟨[(3,.c _),(0,.c _)],[]⟩ (Weak.mk [] ⟨zE,zE,trivial⟩ rfl)<|qI 1 0 rfl rfl (Nat) (fun k => [(3,vI k)]) (fun k => []) (fun k => k ≤ l.length ∧ ((l.take k).all shortT = true)) (fun k => l.length - k) ⟨0,⟨by omega,rfl⟩,Weak.mk [] ⟨zE,zE,trivial⟩ rfl⟩ ?_
 rintro k ⟨hk,hp⟩
 refine zK<|sReg rfl<|rMv rfl<|rMv rfl<|zA rfl (zR rfl el23 rfl)<|zA rfl (qM rfl rfl rfl)<|zB<|zH rfl (fun c1 => ?_) (fun c1 => ?_)
 ·try simp only [sx] at c1
  obtain ⟨s,hs⟩ := qX l k (by omega)
  refine zJ<|zK<|zS<|sReg rfl<|rMv rfl<|rMv rfl<|zA rfl (zO rfl el23 rfl rfl (by omega) (wW hs))<|zA rfl (zZ rfl wQ rfl)<|zA rfl (zD rfl one9 rfl qC rfl)<|zA rfl (wI rfl un9 rfl)<|zA rfl (yA rfl rfl rfl)<|rMv rfl<|rLz [] rfl gv1 trivial (fun g4_7 => zN rfl rfl) rfl<|rLz [] rfl gv1 trivial (fun g4_7 => zN rfl rfl) rfl<|rLz [(18,_),(19,_)] rfl gv1 ⟨rfl,rfl,rfl,rfl,trivial⟩ (fun g4_7 => zO rfl el23 rfl rfl (by omega) (wW hs)) rfl<|rLz [(20,_)] rfl gv1 ⟨rfl,rfl,trivial⟩ (fun g4_7 => zZ rfl zBz rfl) rfl<|rLz [(21,_)] rfl gv1 ⟨rfl,rfl,trivial⟩ (fun g4_7 => zD rfl kM rfl qC rfl) rfl<|rLz [(22,_)] rfl gv1 ⟨rfl,rfl,trivial⟩ (fun g4_7 => zR rfl el44 rfl) rfl<|rLz [(23,_)] rfl gv1 ⟨rfl,rfl,trivial⟩ (fun g4_7 => yA rfl rfl rfl) rfl<|zA rfl (yB rfl rfl rfl rfl (fun h => (lzf h)))<|rMv rfl<|rLz [] rfl gv1 trivial (fun g4_16 => zN rfl rfl) rfl<|rLz [] rfl gv1 trivial (fun g4_16 => zN rfl rfl) rfl<|rLz [(27,_),(28,_)] rfl gv1 ⟨rfl,rfl,rfl,rfl,trivial⟩ (fun g4_16 => zO rfl el23 rfl rfl (by omega) (wW hs)) rfl<|rLz [(29,_)] rfl gv1 ⟨rfl,rfl,trivial⟩ (fun g4_16 => zZ rfl zAn rfl) rfl<|rLz [(30,_)] rfl gv1 ⟨rfl,rfl,trivial⟩ (fun g4_16 => zD rfl zAa rfl qC rfl) rfl<|rLz [(31,_)] rfl gv1 ⟨rfl,rfl,trivial⟩ (fun g4_16 => zP rfl ok90 (ih s (qE hs)) ⟨zE,rfl,trivial⟩) rfl<|rLz [(32,_)] rfl gv1 ⟨rfl,rfl,trivial⟩ (fun g4_16 => qT rfl rfl) rfl<|zA rfl (yB rfl rfl rfl rfl (fun h => (lzf h)))<|zB<|zH rfl (fun c2 => ?_) (fun c2 => ?_)
  ·refine sReg rfl<|rMv rfl<|zB<|zI<|zQ rfl ?_
   rw [zPk,zIk hs (short_t c2)]
  ·refine zJ<|zU rfl<|rMv rfl<|zA rfl (qB rfl rfl rfl ⟨by omega,by omega⟩)<|rMv rfl<|zB ?_
   refine ⟨k + 1,⟨by omega,zCu hs hp (short_f c2)⟩,(by omega),Weak.mk [] ⟨zE,zE,trivial⟩ rfl⟩
 ·try simp only [sx] at c1
  refine qN<|sReg rfl<|rMv rfl<|zB<|zI<|zQ rfl ?_
  rw [yO (by omega)] at hp; rw [zPk,hp]
theorem zNh (s : St) (hl : stsWt s.Body ≤ 536870912) : Pur cfg 90 [vSts s.Body] (vB (shortL s.Body)):= by
  induction s using St.ind with
  | _ s ih => exact zFo s.Body hl fun a ha => ih a ha (by have := yY ha; have := St.body_wt a; omega)
theorem law30_short (l : List St) (hl : stsWt l ≤ 536870912) : Pur cfg 90 [vSts l] (vB (shortL l)) :=
  zFo l hl fun s hs => zNh s (by have := yY hs; have := St.body_wt s; omega)
theorem law30_FewStmts (l : List St) (m : Nat) (x : Int) (hf : fitS l) (hl : l.length ≤ 140737488355328) (hm : m ≤ 5000) (hx : x = m) :
    Pur cfg 40 [vSts l,vI x] (vB (fewS l m)):= by
 refine zV Tryz.func40 rfl Tryz.ntmps40 Tryz.results40 rfl ?_
 intro z hz
 refine sReg rfl<|rMv rfl<|zB<|sReg rfl<|rMv rfl<|rMv rfl<|zA rfl (zP rfl ok55 (zRw l m x hf hl hm hx) ⟨zE,rfl,zE,rfl,trivial⟩)<|rMv rfl<|zA rfl (kY rfl rfl rfl)<|rMv rfl<|rLz [] rfl gv1 trivial (fun g1_5 => zN rfl rfl) rfl<|rLz [(11,_)] rfl gv1 ⟨rfl,rfl,trivial⟩ (fun g1_5 => zP rfl ok90 (law30_short l (by simp only [Lz,cond_true,cond_false,Bool.and_eq_true,Bool.or_eq_true,Bool.not_eq_true',Bool.not_eq_false',Bool.or_eq_false_iff,Bool.and_eq_false_iff,decide_eq_true_eq,decide_eq_false_iff_not,Bool.not_eq_true,Bool.not_eq_false] at g1_5; have := zOs (l := l) (m := m) (by omega); omega)) ⟨zE,rfl,trivial⟩) rfl<|zA rfl (qK rfl rfl rfl (fun h => h) rfl)<|rMv rfl<|zB<|zI<|zQ rfl ?_
 subst hx
 exact congrArg vB (by unfold fewS; congr 1; exact decide_eq_decide.2 (by omega))
theorem law30_Few (n : Ns) (m : Nat) (x : Int) (hf : n.Fit) (hm : m ≤ 5000) (hx : x = m) :
    Pur cfg 20 [vNs n,vI x] (vB (fewN n m)):= by
 refine zV Tryz.func20 rfl Tryz.ntmps20 Tryz.results20 rfl ?_
 intro z hz
 have hbl := hf.bufs
 refine sReg rfl<|qA rfl rfl (qL rfl rfl) ?_
 rintro _ _ ⟨b1,rfl,rfl⟩
 refine rMv rfl<|zB<|zK<|sReg rfl<|zA rfl (zC rfl wU rfl)<|zA rfl (zD rfl zCm rfl (zF 0 rfl) rfl)<|zA rfl (zR rfl el22 rfl)<|zA rfl (yA rfl rfl rfl)<|zB<|zH rfl (fun c1 => ?_) (fun c1 => ?_)
 ·try simp only [sx] at c1
  refine sReg rfl<|rMv rfl<|zB<|zI<|zQ rfl ?_
  rw [few_1 (by omega)]
 ·try simp only [sx] at c1
  refine zJ<|zK<|sReg rfl<|rMv rfl<|zB<|zS<|zY ⟨[(5,.c _),(1,.c _),(2,.c _)],[_]⟩ (Weak.mk [true] ⟨zE,zE,zE,trivial⟩ rfl)<|qI 1 0 rfl rfl (Nat) (fun k => [(5,vI k)]) (fun k => []) (fun k => k ≤ n.Bufs.length ∧ ((n.Bufs.take k).all fewBf = true)) (fun k => n.Bufs.length - k) ⟨0,⟨by omega,rfl⟩,Weak.mk [true] ⟨zE,zE,zE,trivial⟩ rfl⟩ ?_
  rintro k ⟨hk,hp⟩
  refine zK<|sReg rfl<|rMv rfl<|zA rfl (zC rfl wU rfl)<|zA rfl (zD rfl zCm rfl (zF 0 rfl) rfl)<|zA rfl (zR rfl el22 rfl)<|zA rfl (qM rfl rfl rfl)<|zB<|zH rfl (fun c2 => ?_) (fun c2 => ?_)
  ·try simp only [sx] at c2
   obtain ⟨b,hb⟩ := qX n.Bufs k (by omega)
   refine zJ<|zK<|zS<|sReg rfl<|zA rfl (zC rfl wU rfl)<|zA rfl (zD rfl zCm rfl (zF 0 rfl) rfl)<|rMv rfl<|zA rfl (zO rfl el22 rfl rfl (by omega) (getm (by assumption)))<|zA rfl (zZ rfl zHa rfl)<|zA rfl (zD rfl zDp rfl qC rfl)<|zA rfl (zR rfl el33 rfl)<|zA rfl (yA rfl rfl rfl)<|rMv rfl<|rLz [] rfl gv1 trivial (fun g6_8 => zC rfl wU rfl) rfl<|rLz [(26,_)] rfl gv1 ⟨rfl,rfl,trivial⟩ (fun g6_8 => zD rfl zCm rfl (zF 0 rfl) rfl) rfl<|rLz [] rfl gv1 trivial (fun g6_8 => zN rfl rfl) rfl<|rLz [(27,_),(28,_)] rfl gv1 ⟨rfl,rfl,rfl,rfl,trivial⟩ (fun g6_8 => zO rfl el22 rfl rfl (by omega) (getm (by assumption))) rfl<|rLz [(29,_)] rfl gv1 ⟨rfl,rfl,trivial⟩ (fun g6_8 => zZ rfl zIi rfl) rfl<|rLz [(30,_)] rfl gv1 ⟨rfl,rfl,trivial⟩ (fun g6_8 => zD rfl one9 rfl qC rfl) rfl<|rLz [(31,_)] rfl gv1 ⟨rfl,rfl,trivial⟩ (fun g6_8 => wI rfl un9 rfl) rfl<|rLz [(32,_)] rfl gv1 ⟨rfl,rfl,trivial⟩ (fun g6_8 => yA rfl rfl rfl) rfl<|zA rfl (yB rfl rfl rfl rfl (fun h => (lzf h)))<|zB<|zH rfl (fun c3 => ?_) (fun c3 => ?_)
   ·refine sReg rfl<|rMv rfl<|zB<|zI<|zQ rfl ?_
    rw [few_2 hb (fewB_t c3)]
   ·refine zJ<|zU rfl<|rMv rfl<|zA rfl (qB rfl rfl rfl ⟨by omega,by omega⟩)<|rMv rfl<|zB ?_
    refine ⟨k + 1,⟨by omega,zCu hb hp (fewB_f c3)⟩,(by omega),Weak.mk [true] ⟨zE,zE,zE,trivial⟩ rfl⟩
  ·try simp only [sx] at c2
   refine qN<|sReg rfl<|zA rfl (zC rfl zCa rfl)<|zA rfl (zD rfl zAa rfl (zF 0 rfl) rfl)<|rMv rfl<|zA rfl (zP rfl ok40 (law30_FewStmts n.Body m x hf.body hf.len hm hx) ⟨zE,rfl,zE,rfl,trivial⟩)<|rMv rfl<|zB<|zI<|zQ rfl ?_
   rw [yO (by omega)] at hp; exact congrArg vB (few_3 (by omega) hp)
theorem zFl (l : List St) (hl : stsWt l ≤ 1000000) (ih : ∀ s,s ∈ l → Pur cfg 104 [vSts s.Body] (vSts s.Body)) :
    Pur cfg 104 [vSts l] (vSts l):= by
 refine zV Tryz.func104 rfl Tryz.ntmps104 Tryz.results104 rfl ?_
 intro z hz
 have hll := wA l
 refine sReg rfl<|zA rfl (qY 20 rfl rfl)<|zB<|sReg rfl<|rMv rfl<|yK _ (kI 54 20)<|zB<|zK<|sReg rfl<|rMv rfl<|zB<|zS<|zY ⟨[(4,.c _),(3,.c _),(0,.c _)],[_]⟩ (Weak.mk [true] ⟨zE,zE,zE,trivial⟩ rfl)<|qI 2 1 rfl rfl (Nat × Value) (fun ⟨k,sv⟩ => [(4,vI k),(3,.c (.lit sv))]) (fun ⟨k,sv⟩ => [E.vec sv 54 20 ((l.take k).map St.cells)]) (fun ⟨k,sv⟩ => k ≤ l.length) (fun ⟨k,sv⟩ => l.length - k) ⟨⟨0,(.slice none 0 0)⟩,(by omega),Weak.mk [true] ⟨zE,zE,zE,trivial⟩ rfl⟩ ?_
 rintro ⟨k,sv⟩ hk
 show AWP _ _ _ _ _ ⟨[(4,vI k),(3,.c (.lit sv))] ++ _,[E.vec sv 54 20 ((l.take k).map St.cells)] ++ _⟩
 refine zK<|sReg rfl<|rMv rfl<|rMv rfl<|zA rfl (zR rfl el23 rfl)<|zA rfl (qM rfl rfl rfl)<|zB<|zH rfl (fun c1 => ?_) (fun c1 => ?_)
 ·try simp only [sx] at c1
  obtain ⟨s,hs⟩ := qX l k (by omega)
  have hsw := yY (qE hs)
  have hse := St.wt_eq s
  refine zJ<|zK<|zS<|sReg rfl<|rMv rfl<|rMv rfl<|zA rfl (zO rfl el23 rfl rfl (by omega) (wW hs))<|zA rfl (zG rfl zJd rfl qC rfl)<|qA rfl rfl (qO [none,none,none,none,none,some 4,none,none,none,none,none,none,none,none,none,none,some 2,some 4,some 13,some 20] rfl zr54 rfl) ?_
  rintro _ _ ⟨b2,rfl,rfl⟩
  refine zX rfl rfl (zT rfl sz54 rfl rfl rfl (qH 0 rfl rfl))<|zB<|sReg rfl<|zA rfl (zC rfl zBz rfl)<|zA rfl (zD rfl kM rfl (zF 0 rfl) rfl)<|zA rfl (yW [none,none,none,none,none,none,none,none,none,none,some 2,none,some 13] rfl zr52 pl52 rfl rfl)<|zA rfl (zP rfl ok148 (ref14_Twin (rdZ s.Idx) (by rw [rdZ_wt]; omega)) ⟨zE,rfl,trivial⟩)<|zA rfl (det_part_one rfl kE kM rfl rfl)<|zA rfl (zC rfl zBz rfl)<|zX rfl rfl (zT rfl sz44 rfl rfl rfl (qH 0 rfl rfl))<|zB<|sReg rfl<|zA rfl (zC rfl zAv rfl)<|zA rfl (zG rfl yS rfl (zF 0 rfl) rfl)<|zA rfl (zP rfl ok148 (ref14_Twin s.E (by omega)) ⟨zE,rfl,trivial⟩)<|zA rfl (zC rfl zAv rfl)<|zX rfl rfl (zT rfl sz52 rfl rfl rfl (qH 0 rfl rfl))<|zB<|sReg rfl<|zA rfl (zC rfl zAn rfl)<|zA rfl (zD rfl zAa rfl (zF 0 rfl) rfl)<|zA rfl (zP rfl ok104 (ih s (qE hs)) ⟨zE,rfl,trivial⟩)<|zA rfl (zC rfl zAn rfl)<|zX rfl rfl (zT rfl sz23 rfl rfl rfl (qH 0 rfl rfl))<|zB<|zU rfl<|rMv rfl<|zA rfl (zG rfl zJd rfl (zF 0 rfl) rfl)<|zA rfl (qZ rfl el23 zr54 rfl rfl rfl rfl)<|qA rfl rfl (yI 1 rfl el23 rfl rfl rfl (by simp only [List.length_map,List.length_append,List.length_cons,List.length_nil,List.length_take,List.length_drop]; omega) (by simp only [List.length_map,List.length_append,List.length_cons,List.length_nil,List.length_take,List.length_drop]; omega)) ?_
  rintro _ _ ⟨sv3,rfl,rfl⟩
  refine rMv rfl<|zB<|zU rfl<|rMv rfl<|zA rfl (qB rfl rfl rfl ⟨by omega,by omega⟩)<|rMv rfl<|zB ?_
  refine ⟨⟨k + 1,sv3⟩,(by omega),(by show l.length - (k + 1) < l.length - k; omega),Weak.mk [false,true] ⟨zE,zE,zE,trivial⟩ (by exact zEs (by rw [yE hs,List.map_append,List.map_singleton,St.cells_eq]; rfl))⟩
 ·try simp only [sx] at c1
  rw [yO (l := l) (k := k) (by omega)]
  refine qN<|zK<|zY _ (yL 0 rfl (regs' := [(3,_)]) (μ' := []) ⟨FLe.sl,trivial⟩ trivial)<|zU rfl<|rMv rfl<|rMv rfl<|zB<|zI<|zQ rfl ?_
  exact rfl
theorem zNe (s : St) (hl : stsWt s.Body ≤ 1000000) : Pur cfg 104 [vSts s.Body] (vSts s.Body):= by
  induction s using St.ind with
  | _ s ih => exact zFl s.Body hl fun a ha => ih a ha (by have := yY ha; have := St.body_wt a; omega)
theorem ref30_twins (l : List St) (hl : stsWt l ≤ 1000000) : Pur cfg 104 [vSts l] (vSts l) :=
  zFl l hl fun s hs => zNe s (by have := yY hs; have := St.body_wt s; omega)
end Go.W
