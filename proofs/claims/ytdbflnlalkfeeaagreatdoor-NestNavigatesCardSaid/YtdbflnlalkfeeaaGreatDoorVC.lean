/-
  Walks: what functions of the program compute. Printed by wip/gen/mk2.py.
  Conditions: none.
-/
import Derived.Test.YtdbflnlalkfeeaaGreatDoorVB
import Derived.Test.YtdbflnlalkfeeaaGreatDoorPlain2
set_option maxRecDepth 10000
namespace Go.W
open Go Go.Eng Go.Proofs Go.L41 Go.Br
attribute [local irreducible] AWP RWP TD finQ
theorem ok119 : callOk Tryz.prog 119 = true:= by kernel_rfl
theorem ref14_All_step (e : Ex) (ih : ∀ a,a ∈ e.Args → a.wt ≤ 1000000 → OwnR cfg 119 [vE a] 52 13 ((nodes a).map Ex.cells)) (he : e.wt ≤ 1000000) :
    OwnR cfg 119 [vE e] 52 13 ((nodes e).map Ex.cells):= by
 refine zU Tryz.func119 rfl Tryz.ntmps119 Tryz.results119 rfl ?_
 intro z hz
 obtain ⟨hL,hI,hA⟩ := e.parts he
 have hn := nodes_wt e
 refine sReg rfl<|zZ rfl rfl (qL rfl rfl) ?_
 rintro _ _ ⟨b1,rfl,rfl⟩
 refine zA rfl rfl (qO 13 rfl rfl)<|zB<|sReg rfl<|zA rfl rfl (zE rfl yX rfl (zF 0 rfl) rfl)<|zZ rfl rfl (zAp rfl el50 zr52 rfl rfl rfl rfl) ?_
 rintro _ _ ⟨sv2,rfl,rfl⟩
 refine rMv rfl<|zB<|zJ<|sReg rfl<|rMv rfl<|zB<|zQ<|zV ⟨[(4,.c _),(3,.c _),(1,.c _)],[_,_]⟩ (Weak.mk [true,true] ⟨VLe.of_eq rfl,VLe.of_eq rfl,VLe.of_eq rfl,trivial⟩ rfl)<|qE 2 1 rfl rfl (Nat × Value) (fun ⟨k,sv⟩ => [(4,vI k),(3,.c (.lit sv))]) (fun ⟨k,sv⟩ => [E.vec sv 52 13 ((e :: nodesL (e.Args.take k)).map Ex.cells)]) (fun ⟨k,sv⟩ => k ≤ e.Args.length) (fun ⟨k,sv⟩ => e.Args.length - k) ⟨⟨0,_⟩,(by omega),Weak.mk [true,true] ⟨VLe.refl _,VLe.refl _,VLe.refl _,trivial⟩ (by exact zAr (by simp [nodesL,Ex.cells_eq]; rfl))⟩ ?_
 rintro ⟨k,sv⟩ hk
 show AWP _ _ _ _ _ ⟨[(4,vI k),(3,.c (.lit sv))] ++ _,[E.vec sv 52 13 ((e :: nodesL (e.Args.take k)).map Ex.cells)] ++ _⟩
 refine zJ<|sReg rfl<|rMv rfl<|zA rfl rfl (zD rfl wX rfl)<|zA rfl rfl (zC rfl zCz rfl (zF 1 rfl) rfl)<|zA rfl rfl (zP rfl el50 rfl)<|zA rfl rfl (qJ rfl rfl rfl)<|zB<|zG rfl (fun c1 => ?_) (fun c1 => ?_)
 ·try simp only [sx] at c1
  obtain ⟨x,hx⟩ := qT e.Args k (by omega)
  have hn1 := nodes_take hx
  refine zK<|zJ<|zQ<|zS rfl<|rMv rfl<|zA rfl rfl (zD rfl wX rfl)<|zA rfl rfl (zC rfl zCz rfl (zF 1 rfl) rfl)<|rMv rfl<|zA rfl rfl (zN rfl el50 rfl rfl (by omega) (zFi (by assumption)))<|zA rfl rfl (zE rfl yX rfl qB rfl)<|zA rfl rfl (zR rfl ok119 (OwnR.pur (ih x (qC hx) (by have := Ex.arg_wt (qC hx); omega))) ⟨VLe.refl _,rfl,trivial⟩)<|zZ rfl rfl (qU 0 rfl el50 rfl rfl rfl (by simp only [List.length_map,List.length_append,List.length_cons,List.length_nil]; omega) (by simp only [List.length_map,List.length_append,List.length_cons,List.length_nil]; omega)) ?_
  rintro _ _ ⟨sv3,rfl,rfl⟩
  refine rMv rfl<|zB<|zS rfl<|rMv rfl<|zA rfl rfl (qA rfl rfl rfl ⟨by omega,by omega⟩)<|rMv rfl<|zB ?_
  refine ⟨⟨k + 1,sv3⟩,(by omega),(by show e.Args.length - (k + 1) < e.Args.length - k; omega),Weak.mk [true,true] ⟨VLe.refl _,VLe.refl _,VLe.refl _,trivial⟩ (by exact zAr (by rw [zNi hx,← List.cons_append,List.map_append]))⟩
 ·try simp only [sx] at c1
  refine qI<|sReg rfl<|rMv rfl<|rMv rfl<|zB<|zV _ (Weak.mem [true,false] rfl)<|zH<|fin1 (rs_c rfl) ?_
  exact ⟨_,rfl,by rw [yD (by omega),← kD]; rfl⟩
theorem ref14_All (e : Ex) (he : e.wt ≤ 1000000) : OwnR cfg 119 [vE e] 52 13 ((nodes e).map Ex.cells):= by
  induction e using Ex.ind with
  | _ e ih => exact ref14_All_step e ih he
end Go.W
