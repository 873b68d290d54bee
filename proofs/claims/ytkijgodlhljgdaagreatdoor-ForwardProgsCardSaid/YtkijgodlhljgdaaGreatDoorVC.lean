/-
  Walks: what functions of the program compute. Printed by wip/gen/mk2.py.
  Conditions: none.
-/
import Derived.Test.YtkijgodlhljgdaaGreatDoorVB
import Derived.Test.YtkijgodlhljgdaaGreatDoorPlain2
set_option linter.unusedSimpArgs false
set_option linter.unusedVariables false
set_option maxRecDepth 10000
namespace Go.W
open Go Go.Eng Go.Proofs Go.L41 Go.Br
attribute [local irreducible] AWP RWP TD finQ
theorem ok89:callOk Tryz.prog 89=true:=by kernel_rfl
theorem ref14_All_step (e:Ex) (ih:∀a,a∈e.Args->a.wt<=1000000->OwnR cfg 89 [vE a] 38 13 ((nodes a).map Ex.cells)) (he:e.wt<=1000000):
    OwnR cfg 89 [vE e] 38 13 ((nodes e).map Ex.cells):=by
 refine zV Tryz.func89 O Tryz.ntmps89 Tryz.results89 O ?_
 intro z hz
 obtain ⟨hL,hI,hA⟩:=e.parts he
 have hn:=nodes_wt e
 refine B O<|zW O O (qJ O O) ?_
 rintro _ _ ⟨b1,rfl,rfl⟩
 refine qB O (yJ 13 O O)<|H<|B O<|zL qH (K 0 O) O<|zW O O (zBe O A zr38 O O O O) ?_
 rintro _ _ ⟨sv2,rfl,rfl⟩
 refine F O<|H<|U<|B O<|F O<|H<|zP<|zT ⟨[(4,.c _),(3,.c _),(1,.c _)],[_,_]⟩ (Weak.mk [true,true] ⟨G,G,G,T⟩ O)<|qG 2 1 O O (Nat×Value) (fun ⟨k,sv⟩=>[(4,vI k),(3,.c (.lit sv))]) (fun ⟨k,sv⟩=>[E.vec sv 38 13 ((e::nodesL (e.Args.take k)).map Ex.cells)]) (fun ⟨k,sv⟩=>k<=e.Args.length) (fun ⟨k,sv⟩=>e.Args.length-k) ⟨⟨0,_⟩,(by omega),Weak.mk [true,true] ⟨G,G,G,T⟩ (by exact mem1_eq (by simp [nodesL,Ex.cells_eq];rfl))⟩ ?_
 rintro ⟨k,sv⟩ hk
 show AWP _ _ _ _ _ ⟨[(4,vI k),(3,.c (.lit sv))]++_,[E.vec sv 38 13 ((e::nodesL (e.Args.take k)).map Ex.cells)]++_⟩
 refine U<|B O<|F O<|zG O kF<|zK wJ (K 1 O) O<|zZ O A<|yB O<|H<|g O (fun c1=>?_) (fun c1=>?_)
 ·try simp only [I] at c1
  obtain ⟨x,hx⟩:=qP e.Args k (by omega)
  have hn1:=nodes_take hx
  refine zJ<|U<|zP<|zU O<|F O<|zG O kF<|zK wJ (K 1 O) O<|F O<|qE O A (by omega) (yU (by assumption))<|zL qH qA O<|qK O ok89 (OwnR.pur (ih x (qD hx) (by have:=Ex.arg_wt (qD hx);omega))) ⟨G,O,T⟩<|zW O O (qS 0 O A O O O (by simp only [List.length_map,List.length_append,List.length_cons,List.length_nil];omega) (by simp only [List.length_map,List.length_append,List.length_cons,List.length_nil];omega)) ?_
  rintro _ _ ⟨sv3,rfl,rfl⟩
  refine F O<|H<|zU O<|F O<|qL O ⟨by omega,by omega⟩<|F O<|H ?_
  refine ⟨⟨k+1,sv3⟩,(by omega),(by show e.Args.length-(k+1)<e.Args.length-k;omega),Weak.mk [true,true] ⟨G,G,G,T⟩ (by exact mem1_eq (by rw [zOm hx,←List.cons_append,List.map_append]))⟩
 ·try simp only [I] at c1
  refine qM<|B O<|F O<|F O<|H<|zT _ (Weak.mem [true,false] O)<|W<|R O ?_
  exact ⟨_,O,by rw [qY (by omega),←wS];rfl⟩
theorem ref14_All (e:Ex) (he:e.wt<=1000000):OwnR cfg 89 [vE e] 38 13 ((nodes e).map Ex.cells):=by
  induction e using Ex.ind with
  |_ e ih=>exact ref14_All_step e ih he
end Go.W
