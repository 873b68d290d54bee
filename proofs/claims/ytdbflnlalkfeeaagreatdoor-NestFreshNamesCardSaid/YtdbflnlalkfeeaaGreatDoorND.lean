/-
  Walks: what functions of the program compute. Printed by wip/gen/mk2.py.
  Conditions: none.
-/
import Derived.Test.YtdbflnlalkfeeaaGreatDoorNC
import Derived.Test.YtdbflnlalkfeeaaGreatDoorPlain2
set_option maxRecDepth 10000
namespace Go.W
open Go Go.Eng Go.Proofs Go.L41 Go.Br
attribute [local irreducible] AWP RWP TD finQ
theorem ok55 : callOk Tryz.prog 55 = true:= by kernel_rfl
theorem sm108 : smapT Tryz.prog 108 = some (Value.bool false):= by kernel_rfl
theorem zCb (l : List St) (ih : ∀ s,s ∈ l → ∀ (m : Nat) (x : Int),m ≤ 5000 → x = m → Pur cfg 55 [vSts s.Body,vI x] (vI (weighB s.Body m))) (m : Nat) (x : Int) (hf : fitS l) (hl : l.length ≤ 140737488355328) (hm : m ≤ 5000) (hx : x = m) :
    Pur cfg 55 [vSts l,vI x] (vI (weighB l m)):= by
 refine zV Tryz.func55 rfl Tryz.ntmps55 Tryz.results55 rfl ?_
 intro z hz
 have hwB : wB m ≤ 5700000000000000000:= by unfold wB; omega
 refine sReg rfl<|rMv rfl<|zB<|sReg rfl<|rMv rfl<|zA rfl (zR rfl el23 rfl)<|rMv rfl<|zB<|zK<|sReg rfl<|rMv rfl<|zB<|zS<|zY ⟨[(6,.c _),(5,.c _),(0,.c _),(1,.c _)],[]⟩ (Weak.mk [] ⟨zE,zE,zE,zE,trivial⟩ rfl)<|qI 2 0 rfl rfl (Nat × Nat) (fun ⟨k,n⟩ => [(6,vI k),(5,vI n)]) (fun ⟨k,n⟩ => []) (fun ⟨k,n⟩ => k ≤ l.length ∧ (n ≤ wB m) ∧ (l.length ≤ n) ∧ (weighB l m = weighSs (l.drop k) m n)) (fun ⟨k,n⟩ => l.length - k) ⟨⟨0,l.length⟩,⟨by omega,by unfold wB; omega,by omega,rfl⟩,Weak.mk [] ⟨zE,VLe.of_eq (congrArg vI (by simp)),zE,zE,trivial⟩ rfl⟩ ?_
 rintro ⟨k,n⟩ ⟨hk,hn1,hn2,hp⟩
 show AWP _ _ _ _ _ ⟨[(6,vI k),(5,vI n)] ++ _,[] ++ _⟩
 refine zK<|sReg rfl<|rMv rfl<|rMv rfl<|zA rfl (zR rfl el23 rfl)<|zA rfl (qM rfl rfl rfl)<|rMv rfl<|rLz [] rfl gv1 trivial (fun g3_4 => zN rfl rfl) rfl<|rLz [] rfl gv1 trivial (fun g3_4 => zN rfl rfl) rfl<|rLz [(14,_),(15,_)] rfl gv1 ⟨rfl,rfl,rfl,rfl,trivial⟩ (fun g3_4 => kY rfl rfl rfl) rfl<|zA rfl (qK rfl rfl rfl (fun h => h) rfl)<|zB<|zH rfl (fun c1 => ?_) (fun c1 => ?_)
 ·try simp only [sx] at c1
  obtain ⟨s,hs⟩ := qX l k (by omega)
  have hsf := zNz hf s (qE hs)
  obtain ⟨f1,f2,f3,f4,f5⟩ := St.fit_eq hsf
  have hwl := weigh_lt (n := n) hs hf hm (by omega) (by omega)
  refine zJ<|zK<|zS<|yC 30 mixed (by kernel_rfl) rfl rfl<|zM rfl rfl (zN rfl rfl)<|zM rfl rfl (zN rfl rfl)<|zM rfl rfl (zN rfl rfl)<|zM rfl rfl (zO rfl el23 rfl rfl (by omega) (wW hs))<|zM rfl rfl (zZ rfl zAv rfl)<|zM rfl rfl (zG rfl yS rfl qC rfl)<|zM rfl rfl (zN rfl rfl)<|zM rfl rfl (zP rfl ok109 (base_Weigh s.E m x f3 (by omega) hx) ⟨zE,rfl,zE,rfl,trivial⟩)<|zM rfl rfl (qB rfl rfl rfl ⟨by omega,by omega⟩)<|zM rfl rfl (zN rfl rfl)<|zM rfl rfl (zN rfl rfl)<|zM rfl rfl (zO rfl el23 rfl rfl (by omega) (wW hs))<|zM rfl rfl (zZ rfl zBz rfl)<|zM rfl rfl (zD rfl kM rfl qC rfl)<|zM rfl rfl (yW [none,none,none,none,none,none,none,none,none,none,some 2,none,some 13] rfl zr52 pl52 rfl rfl)<|zM rfl rfl (zN rfl rfl)<|zM rfl rfl (zP rfl ok109 (base_Weigh (idxE s.Idx) m x (idxE_fit f1 f2) (by omega) hx) ⟨zE,rfl,zE,rfl,trivial⟩)<|zM rfl rfl (qB rfl rfl rfl ⟨by omega,by omega⟩)<|zM rfl rfl (zN rfl rfl)<|zM rfl rfl (zN rfl rfl)<|zM rfl rfl (zO rfl el23 rfl rfl (by omega) (wW hs))<|zM rfl rfl (zZ rfl zAn rfl)<|zM rfl rfl (zD rfl zAa rfl qC rfl)<|zM rfl rfl (zN rfl rfl)<|zM rfl rfl (zN rfl rfl)<|zM rfl rfl (yD rfl rfl rfl ⟨by omega,by omega⟩)<|zM rfl rfl (zJb rfl rfl rfl)<|zM rfl rfl (zP rfl ok55 (ih s (qE hs) (m - n) _ (by omega) (by omega)) ⟨zE,rfl,zE,rfl,trivial⟩)<|zM rfl rfl (qB rfl rfl rfl ⟨by omega,by omega⟩)<|zM rfl rfl (yG rfl rfl)<|kA<|zB<|zU rfl<|rMv rfl<|zA rfl (qB rfl rfl rfl ⟨by omega,by omega⟩)<|rMv rfl<|zB ?_
  refine ⟨⟨k + 1,n + weighE s.E m + weighE (idxE s.Idx) m + weighB s.Body (m - n)⟩,⟨by omega,hwl,by omega,weighSs_next hs hp (by omega)⟩,(by show l.length - (k + 1) < l.length - k; omega),Weak.mk [] ⟨zE,VLe.of_eq (congrArg vI (by omega)),zE,zE,trivial⟩ rfl⟩
 ·try simp only [sx] at c1
  refine qN<|sReg rfl<|rMv rfl<|rMv rfl<|zB<|zI<|zQ rfl ?_
  exact congrArg vI (by rw [← weighSs_end hp hx (by omega)])
theorem zIb (s : St) : ∀ (m : Nat) (x : Int),s.fit → m ≤ 5000 → x = m → Pur cfg 55 [vSts s.Body,vI x] (vI (weighB s.Body m)):= by
  induction s using St.ind with
  | _ s ih =>
    intro m x hf hm hx
    obtain ⟨_,_,_,f4,f5⟩ := St.fit_eq hf
    exact zCb s.Body (fun a ha m x h1 h2 => ih a ha m x (zNz f5 a ha) h1 h2) m x f5 f4 hm hx
theorem zRw (l : List St) (m : Nat) (x : Int) (hf : fitS l) (hl : l.length ≤ 140737488355328) (hm : m ≤ 5000) (hx : x = m) : Pur cfg 55 [vSts l,vI x] (vI (weighB l m)) :=
  zCb l (fun a ha m x h1 h2 => zIb a m x (zNz hf a ha) h1 h2) m x hf hl hm hx
end Go.W
