/-
  Walks: what functions of the program compute. Printed by wip/gen/mk2.py.
  Conditions: none.
-/
import Derived.Test.YtdbflnlalkfeeaaGreatDoorNC
import Derived.Test.YtdbflnlalkfeeaaGreatDoorPlain2
set_option maxRecDepth 10000
namespace Go.W
open Go Go.Eng Go.Proofs Go.L41 Go.Br
attribute [local irreducible] AWP RWP TD finQ
abbrev vLs' (l : List Lifetime) : V := .c (.sl 4 (l.map Lifetime.cells))
theorem ok55 : callOk Tryz.prog 55 = true:= by kernel_rfl
theorem ok120 : callOk Tryz.prog 120 = true:= by kernel_rfl
theorem sm108 : smapT Tryz.prog 108 = some (Value.bool false):= by kernel_rfl
theorem zBo (l : List St) (ih : ∀ s,s ∈ l → ∀ (m : Nat) (x : Int),m ≤ 5000 → x = m → Pur cfg 55 [vSts s.Body,vI x] (vI (weighB s.Body m))) (m : Nat) (x : Int) (hf : fitS l) (hl : l.length ≤ 140737488355328) (hm : m ≤ 5000) (hx : x = m) :
    Pur cfg 55 [vSts l,vI x] (vI (weighB l m)):= by
 refine zU Tryz.func55 rfl Tryz.ntmps55 Tryz.results55 rfl ?_
 intro z hz
 have hwB : wB m ≤ 5700000000000000000:= by unfold wB; omega
 refine sReg rfl<|rMv rfl<|zB<|sReg rfl<|rMv rfl<|zA rfl rfl (zP rfl el23 rfl)<|rMv rfl<|zB<|zJ<|sReg rfl<|rMv rfl<|zB<|zQ<|zV ⟨[(6,.c _),(5,.c _),(0,.c _),(1,.c _)],[]⟩ (Weak.mk [] ⟨VLe.of_eq rfl,VLe.of_eq rfl,VLe.of_eq rfl,VLe.of_eq rfl,trivial⟩ rfl)<|qE 2 0 rfl rfl (Nat × Nat) (fun ⟨k,n⟩ => [(6,vI k),(5,vI n)]) (fun ⟨k,n⟩ => []) (fun ⟨k,n⟩ => k ≤ l.length ∧ (n ≤ wB m) ∧ (l.length ≤ n) ∧ (weighB l m = weighSs (l.drop k) m n)) (fun ⟨k,n⟩ => l.length - k) ⟨⟨0,l.length⟩,⟨by omega,by unfold wB; omega,by omega,rfl⟩,Weak.mk [] ⟨VLe.refl _,VLe.of_eq (congrArg vI (by simp)),VLe.refl _,VLe.refl _,trivial⟩ rfl⟩ ?_
 rintro ⟨k,n⟩ ⟨hk,hn1,hn2,hp⟩
 show AWP _ _ _ _ _ ⟨[(6,vI k),(5,vI n)] ++ _,[] ++ _⟩
 refine zJ<|sReg rfl<|rMv rfl<|rMv rfl<|zA rfl rfl (zP rfl el23 rfl)<|zA rfl rfl (qJ rfl rfl rfl)<|rMv rfl<|rLz [] rfl gv1 trivial (fun g3_4 => zO rfl rfl) rfl<|rLz [] rfl gv1 trivial (fun g3_4 => zO rfl rfl) rfl<|rLz [(14,_),(15,_)] rfl gv1 ⟨rfl,rfl,rfl,rfl,trivial⟩ (fun g3_4 => wM rfl rfl rfl) rfl<|zA rfl rfl (qP rfl rfl rfl (fun h => h) rfl)<|zB<|zG rfl (fun c1 => ?_) (fun c1 => ?_)
 ·try simp only [sx] at c1
  obtain ⟨s,hs⟩ := qT l k (by omega)
  have hsf := zLs hf s (qC hs)
  obtain ⟨f1,f2,f3,f4,f5⟩ := St.fit_eq hsf
  have hwl := weigh_lt (n := n) hs hf hm (by omega) (by omega)
  refine zK<|zJ<|zQ<|yI 30 mixed (by kernel_rfl) rfl rfl<|zM rfl rfl (zO rfl rfl)<|zM rfl rfl (zO rfl rfl)<|zM rfl rfl (zO rfl rfl)<|zM rfl rfl (zN rfl el23 rfl rfl (by omega) (kW hs))<|zM rfl rfl (zX rfl zBa rfl)<|zM rfl rfl (zE rfl yX rfl qB rfl)<|zM rfl rfl (zO rfl rfl)<|zM rfl rfl (zR rfl ok109 (base_Weigh s.E m x f3 (by omega) hx) ⟨VLe.refl _,rfl,VLe.refl _,rfl,trivial⟩)<|zM rfl rfl (qA rfl rfl rfl ⟨by omega,by omega⟩)<|zM rfl rfl (zO rfl rfl)<|zM rfl rfl (zO rfl rfl)<|zM rfl rfl (zN rfl el23 rfl rfl (by omega) (kW hs))<|zM rfl rfl (zX rfl zBm rfl)<|zM rfl rfl (zC rfl kU rfl qB rfl)<|zM rfl rfl (yY [none,none,none,none,none,none,none,none,none,none,some 2,none,some 13] rfl zr52 pl52 rfl rfl)<|zM rfl rfl (zO rfl rfl)<|zM rfl rfl (zR rfl ok109 (base_Weigh (idxE s.Idx) m x (idxE_fit f1 f2) (by omega) hx) ⟨VLe.refl _,rfl,VLe.refl _,rfl,trivial⟩)<|zM rfl rfl (qA rfl rfl rfl ⟨by omega,by omega⟩)<|zM rfl rfl (zO rfl rfl)<|zM rfl rfl (zO rfl rfl)<|zM rfl rfl (zN rfl el23 rfl rfl (by omega) (kW hs))<|zM rfl rfl (zX rfl wN rfl)<|zM rfl rfl (zC rfl wL rfl qB rfl)<|zM rfl rfl (zO rfl rfl)<|zM rfl rfl (zO rfl rfl)<|zM rfl rfl (yA rfl rfl rfl ⟨by omega,by omega⟩)<|zM rfl rfl (det_max rfl rfl rfl)<|zM rfl rfl (zR rfl ok55 (ih s (qC hs) (m - n) _ (by omega) (by omega)) ⟨VLe.refl _,rfl,VLe.refl _,rfl,trivial⟩)<|zM rfl rfl (qA rfl rfl rfl ⟨by omega,by omega⟩)<|zM rfl rfl (yQ rfl rfl)<|kI<|zB<|zS rfl<|rMv rfl<|zA rfl rfl (qA rfl rfl rfl ⟨by omega,by omega⟩)<|rMv rfl<|zB ?_
  refine ⟨⟨k + 1,n + weighE s.E m + weighE (idxE s.Idx) m + weighB s.Body (m - n)⟩,⟨by omega,hwl,by omega,weighSs_next hs hp (by omega)⟩,(by show l.length - (k + 1) < l.length - k; omega),Weak.mk [] ⟨VLe.refl _,VLe.of_eq (congrArg vI (by omega)),VLe.refl _,VLe.refl _,trivial⟩ rfl⟩
 ·try simp only [sx] at c1
  refine qI<|sReg rfl<|rMv rfl<|rMv rfl<|zB<|zH<|fin1 (rs_c rfl) ?_
  exact congrArg vI (by rw [← weighSs_end hp hx (by omega)])
theorem zGi (s : St) : ∀ (m : Nat) (x : Int),s.fit → m ≤ 5000 → x = m → Pur cfg 55 [vSts s.Body,vI x] (vI (weighB s.Body m)):= by
  induction s using St.ind with
  | _ s ih =>
    intro m x hf hm hx
    obtain ⟨_,_,_,f4,f5⟩ := St.fit_eq hf
    exact zBo s.Body (fun a ha m x h1 h2 => ih a ha m x (zLs f5 a ha) h1 h2) m x f5 f4 hm hx
theorem zOx (l : List St) (m : Nat) (x : Int) (hf : fitS l) (hl : l.length ≤ 140737488355328) (hm : m ≤ 5000) (hx : x = m) : Pur cfg 55 [vSts l,vI x] (vI (weighB l m)) :=
  zBo l (fun a ha m x h1 h2 => zGi a m x (zLs hf a ha) h1 h2) m x hf hl hm hx
theorem ref14_With (l : List ByteArray) (s : ByteArray) (hl : l.length ≤ 4294967296) :
    Pur cfg 120 [vSs l,vS s] (vSs (insW l s)):= by
 refine zU Tryz.func120 rfl Tryz.ntmps120 Tryz.results120 rfl ?_
 intro z hz
 refine sReg rfl<|zA rfl rfl (qO 1 rfl rfl)<|zB<|sReg rfl<|rMv rfl<|zB<|zJ<|zQ<|zV ⟨[(5,.c _),(0,.c _),(1,.c _)],[]⟩ (Weak.mk [] ⟨VLe.of_eq rfl,VLe.of_eq rfl,VLe.of_eq rfl,trivial⟩ rfl)<|qE 1 0 rfl rfl (Nat) (fun k => [(5,vI k)]) (fun k => []) (fun k => k ≤ l.length ∧ (l.take k).all (below s) = true) (fun k => l.length - k) ⟨0,⟨by omega,rfl⟩,Weak.mk [] ⟨VLe.refl _,VLe.refl _,VLe.refl _,trivial⟩ rfl⟩ ?_
 rintro k ⟨hk,hp⟩
 refine zJ<|sReg rfl<|rMv rfl<|rMv rfl<|zA rfl rfl (zP rfl el72 rfl)<|zA rfl rfl (qJ rfl rfl rfl)<|rMv rfl<|rLz [] rfl gv1 trivial (fun g2_4 => zO rfl rfl) rfl<|rLz [] rfl gv1 trivial (fun g2_4 => zO rfl rfl) rfl<|rLz [(12,_),(13,_)] rfl gv1 ⟨rfl,rfl,rfl,rfl,trivial⟩ (fun g2_4 => zN rfl el72 rfl rfl (by simp only [Lz,cond_true,cond_false,Bool.and_eq_true,Bool.or_eq_true,Bool.not_eq_true',Bool.not_eq_false',Bool.or_eq_false_iff,Bool.and_eq_false_iff,decide_eq_true_eq,decide_eq_false_iff_not,Bool.not_eq_true,Bool.not_eq_false] at g2_4; omega) (getm (zOz (by simp only [Lz,cond_true,cond_false,Bool.and_eq_true,Bool.or_eq_true,Bool.not_eq_true',Bool.not_eq_false',Bool.or_eq_false_iff,Bool.and_eq_false_iff,decide_eq_true_eq,decide_eq_false_iff_not,Bool.not_eq_true,Bool.not_eq_false] at g2_4; omega)))) rfl<|rLz [(14,_)] rfl gv1 ⟨rfl,rfl,trivial⟩ (fun g2_4 => zC rfl one9 rfl qB rfl) rfl<|rLz [] rfl gv1 trivial (fun g2_4 => zO rfl rfl) rfl<|rLz [(15,_),(16,_)] rfl gv1 ⟨rfl,rfl,rfl,rfl,trivial⟩ (fun g2_4 => det_slss rfl rfl rfl) rfl<|zA rfl rfl (qP rfl rfl rfl (fun h => h) rfl)<|zB<|zG rfl (fun c1 => ?_) (fun c1 => ?_)
 ·obtain ⟨hlt,hlt2⟩ := with_1t c1
  refine zK<|zQ<|zS rfl<|rMv rfl<|zA rfl rfl (qA rfl rfl rfl ⟨by omega,by omega⟩)<|rMv rfl<|zB ?_
  refine ⟨k + 1,⟨by omega,below_next (zOz hlt) hp hlt2⟩,(by omega),Weak.mk [] ⟨VLe.refl _,VLe.refl _,VLe.refl _,trivial⟩ rfl⟩
 ·have h1f := with_1f c1
  refine qI<|zJ<|sReg rfl<|rMv rfl<|rMv rfl<|zA rfl rfl (zP rfl el72 rfl)<|zA rfl rfl (qJ rfl rfl rfl)<|rMv rfl<|rLz [] rfl gv1 trivial (fun g4_4 => zO rfl rfl) rfl<|rLz [] rfl gv1 trivial (fun g4_4 => zO rfl rfl) rfl<|rLz [(26,_),(27,_)] rfl gv1 ⟨rfl,rfl,rfl,rfl,trivial⟩ (fun g4_4 => zN rfl el72 rfl rfl (by simp only [Lz,cond_true,cond_false,Bool.and_eq_true,Bool.or_eq_true,Bool.not_eq_true',Bool.not_eq_false',Bool.or_eq_false_iff,Bool.and_eq_false_iff,decide_eq_true_eq,decide_eq_false_iff_not,Bool.not_eq_true,Bool.not_eq_false] at g4_4; omega) (getm (zOz (by simp only [Lz,cond_true,cond_false,Bool.and_eq_true,Bool.or_eq_true,Bool.not_eq_true',Bool.not_eq_false',Bool.or_eq_false_iff,Bool.and_eq_false_iff,decide_eq_true_eq,decide_eq_false_iff_not,Bool.not_eq_true,Bool.not_eq_false] at g4_4; omega)))) rfl<|rLz [(28,_)] rfl gv1 ⟨rfl,rfl,trivial⟩ (fun g4_4 => zC rfl one9 rfl qB rfl) rfl<|rLz [] rfl gv1 trivial (fun g4_4 => zO rfl rfl) rfl<|rLz [(29,_),(30,_)] rfl gv1 ⟨rfl,rfl,rfl,rfl,trivial⟩ (fun g4_4 => yG rfl rfl rfl) rfl<|zA rfl rfl (qP rfl rfl rfl (fun h => h) rfl)<|zB<|zG rfl (fun c2 => ?_) (fun c2 => ?_)
  ·have h2t := with_2t c2
   refine sReg rfl<|rMv rfl<|rMv rfl<|zB<|zH<|fin1 (rs_c rfl) ?_
   rw [with_is hp h1f h2t]
  ·have h2f := with_2f c2
   have hnew := with_new hk hp h1f h2f
   refine zK<|sReg rfl<|rMv rfl<|yE _ (kB 9 1)<|zB<|sReg rfl<|rMv rfl<|rMv rfl<|rMv rfl<|zA rfl rfl (zFn rfl el72 rfl rfl (by omega))<|zZ rfl rfl (qU 0 rfl el72 rfl rfl rfl (by simp only [List.length_map,List.length_append,List.length_cons,List.length_nil,List.length_take,List.length_drop]; omega) (by simp only [List.length_map,List.length_append,List.length_cons,List.length_nil,List.length_take,List.length_drop]; omega)) ?_
   rintro _ _ ⟨sv2,rfl,rfl⟩
   refine rMv rfl<|zB<|sReg rfl<|rMv rfl<|rMv rfl<|zA rfl rfl (qY rfl el72 zr9 rfl rfl rfl rfl)<|zZ rfl rfl (qU 0 rfl el72 rfl rfl rfl (by simp only [List.length_map,List.length_append,List.length_cons,List.length_nil,List.length_take,List.length_drop]; omega) (by simp only [List.length_map,List.length_append,List.length_cons,List.length_nil,List.length_take,List.length_drop]; omega)) ?_
   rintro _ _ ⟨sv3,rfl,rfl⟩
   refine rMv rfl<|zB<|sReg rfl<|rMv rfl<|rMv rfl<|rMv rfl<|zA rfl rfl (zKu rfl el72 rfl rfl (by omega))<|zZ rfl rfl (qU 0 rfl el72 rfl rfl rfl (by simp only [List.length_map,List.length_append,List.length_cons,List.length_nil,List.length_take,List.length_drop]; omega) (by simp only [List.length_map,List.length_append,List.length_cons,List.length_nil,List.length_take,List.length_drop]; omega)) ?_
   rintro _ _ ⟨sv4,rfl,rfl⟩
   refine rMv rfl<|zB<|zV _ (Weak.vecEq 0 rfl (rows' := (insW l s).map fun s => [cS s]) (by rw [hnew]; simp))<|zV _ (yF 0 rfl (regs' := [(47,_),(4,_)]) (μ' := []) ⟨FLe.sl,FLe.sl,trivial⟩ trivial)<|zH<|fin1 (rs_c rfl) ?_
   rfl
end Go.W
