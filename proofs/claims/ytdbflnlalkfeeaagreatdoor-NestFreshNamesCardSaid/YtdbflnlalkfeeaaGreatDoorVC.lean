/-
  Walks: what functions of the program compute. Printed by wip/gen/mk2.py.
  Conditions: none.
-/
import Derived.Test.YtdbflnlalkfeeaaGreatDoorVB
import Derived.Test.YtdbflnlalkfeeaaGreatDoorPlain2
set_option maxRecDepth 10000
namespace Go.W
open Go Go.Eng Go.Proofs Go.L41 Go.Br
attribute [local irreducible] AWP RWP TD finQ
theorem ok119 : callOk Tryz.prog 119 = true:= by kernel_rfl
theorem ref14_All_step (e : Ex) (ih : ∀ a,a ∈ e.Args → a.wt ≤ 1000000 → OwnR cfg 119 [vE a] 52 13 ((nodes a).map Ex.cells)) (he : e.wt ≤ 1000000) :
    OwnR cfg 119 [vE e] 52 13 ((nodes e).map Ex.cells):= by
 refine zV Tryz.func119 rfl Tryz.ntmps119 Tryz.results119 rfl ?_
 intro z hz
 obtain ⟨hL,hI,hA⟩ := e.parts he
 have hn := nodes_wt e
 refine sReg rfl<|qA rfl rfl (qL rfl rfl) ?_
 rintro _ _ ⟨b1,rfl,rfl⟩
 refine zA rfl (qY 13 rfl rfl)<|zB<|sReg rfl<|zA rfl (zG rfl yS rfl (zF 0 rfl) rfl)<|qA rfl rfl (zBn rfl el50 zr52 rfl rfl rfl rfl) ?_
 rintro _ _ ⟨sv2,rfl,rfl⟩
 refine rMv rfl<|zB<|zK<|sReg rfl<|rMv rfl<|zB<|zS<|zY ⟨[(4,.c _),(3,.c _),(1,.c _)],[_,_]⟩ (Weak.mk [true,true] ⟨zE,zE,zE,trivial⟩ rfl)<|qI 2 1 rfl rfl (Nat × Value) (fun ⟨k,sv⟩ => [(4,vI k),(3,.c (.lit sv))]) (fun ⟨k,sv⟩ => [E.vec sv 52 13 ((e :: nodesL (e.Args.take k)).map Ex.cells)]) (fun ⟨k,sv⟩ => k ≤ e.Args.length) (fun ⟨k,sv⟩ => e.Args.length - k) ⟨⟨0,_⟩,(by omega),Weak.mk [true,true] ⟨zE,zE,zE,trivial⟩ (by exact zEs (by simp [nodesL,Ex.cells_eq]; rfl))⟩ ?_
 rintro ⟨k,sv⟩ hk
 show AWP _ _ _ _ _ ⟨[(4,vI k),(3,.c (.lit sv))] ++ _,[E.vec sv 52 13 ((e :: nodesL (e.Args.take k)).map Ex.cells)] ++ _⟩
 refine zK<|sReg rfl<|rMv rfl<|zA rfl (zC rfl kW rfl)<|zA rfl (zD rfl zAt rfl (zF 1 rfl) rfl)<|zA rfl (zR rfl el50 rfl)<|zA rfl (qM rfl rfl rfl)<|zB<|zH rfl (fun c1 => ?_) (fun c1 => ?_)
 ·try simp only [sx] at c1
  obtain ⟨x,hx⟩ := qX e.Args k (by omega)
  have hn1 := nodes_take hx
  refine zJ<|zK<|zS<|zU rfl<|rMv rfl<|zA rfl (zC rfl kW rfl)<|zA rfl (zD rfl zAt rfl (zF 1 rfl) rfl)<|rMv rfl<|zA rfl (zO rfl el50 rfl rfl (by omega) (zEy (by assumption)))<|zA rfl (zG rfl yS rfl qC rfl)<|zA rfl (zP rfl ok119 (OwnR.pur (ih x (qE hx) (by have := Ex.arg_wt (qE hx); omega))) ⟨zE,rfl,trivial⟩)<|qA rfl rfl (yI 0 rfl el50 rfl rfl rfl (by simp only [List.length_map,List.length_append,List.length_cons,List.length_nil]; omega) (by simp only [List.length_map,List.length_append,List.length_cons,List.length_nil]; omega)) ?_
  rintro _ _ ⟨sv3,rfl,rfl⟩
  refine rMv rfl<|zB<|zU rfl<|rMv rfl<|zA rfl (qB rfl rfl rfl ⟨by omega,by omega⟩)<|rMv rfl<|zB ?_
  refine ⟨⟨k + 1,sv3⟩,(by omega),(by show e.Args.length - (k + 1) < e.Args.length - k; omega),Weak.mk [true,true] ⟨zE,zE,zE,trivial⟩ (by exact zEs (by rw [zQc hx,← List.cons_append,List.map_append]))⟩
 ·try simp only [sx] at c1
  refine qN<|sReg rfl<|rMv rfl<|rMv rfl<|zB<|zY _ (Weak.mem [true,false] rfl)<|zI<|zQ rfl ?_
  exact ⟨_,rfl,by rw [yO (by omega),← kK]; rfl⟩
theorem ref14_All (e : Ex) (he : e.wt ≤ 1000000) : OwnR cfg 119 [vE e] 52 13 ((nodes e).map Ex.cells):= by
  induction e using Ex.ind with
  | _ e ih => exact ref14_All_step e ih he
end Go.W
