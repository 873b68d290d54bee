/-
  What functions compute.
  Conditions: none.
-/
import Derived.Test.YtdldhbfgfkebjaaGreatDoorVB
import Derived.Test.YtdldhbfgfkebjaaGreatDoorPlain2
set_option linter.unusedSimpArgs false
set_option linter.unusedVariables false
set_option maxRecDepth 10000
namespace Go.W
open Go Go.Eng Go.Proofs Go.L41 Go.Br
attribute [local irreducible] AWP RWP TD fY
theorem ok135:bA Tryz.prog 135=true:=by kernel_rfl
theorem ref14_All_step (e:Ex) (ih:∀a,a∈e.Args->a.wt<=2000000->OwnR cfg 135 [vE a] 57 13 ((bF a).map Ex.cells)) (he:e.wt<=2000000):
    OwnR cfg 135 [vE e] 57 13 ((bF e).map Ex.cells):=by
 refine zU Tryz.func135 O Tryz.ntmps135 Tryz.results135 O ?_
 intro z hz
 obtain ⟨hL,hI,hA⟩:=e.parts he
 have hn:=nodes_wt e
 refine R O<|zV O O (qO O O) ?_
 rintro _ _ ⟨b1,rfl,rfl⟩
 refine zW O (yX 13 O O)<|zA<|R O<|zO yP (Y 0 O) O<|zV O O (ope_bslice O el55 zr57 O O O O) ?_
 rintro _ _ ⟨sv2,rfl,rfl⟩
 refine G O<|zA<|zI<|R O<|G O<|zA<|zP<|zT ⟨[(4,.c _),(3,.c _),(1,.c _)],[_,_]⟩ (Weak.mk [true,true] ⟨zB,zB,zB,T⟩ O)<|qG 2 1 O O (Nat×Value) (fun ⟨k,sv⟩=>[(4,vI k),(3,.c (.lit sv))]) (fun ⟨k,sv⟩=>[E.vec sv 57 13 ((e::bK (e.Args.take k)).map Ex.cells)]) (fun ⟨k,sv⟩=>k<=e.Args.length) (fun ⟨k,sv⟩=>e.Args.length-k) ⟨⟨0,_⟩,(by omega),Weak.mk [true,true] ⟨zB,zB,zB,T⟩ (by exact kC (by simp [bK,Ex.cells_eq];rfl))⟩ ?_
 rintro ⟨k,sv⟩ hk
 show AWP _ _ _ _ _ ⟨[(4,vI k),(3,.c (.lit sv))]++_,[E.vec sv 57 13 ((e::bK (e.Args.take k)).map Ex.cells)]++_⟩
 refine zI<|R O<|G O<|zG O kO<|zH wZ (Y 1 O) O<|zZ O el55<|yB O<|zA<|zC O (fun c1=>?_) (fun c1=>?_)
 ·try simp only [sx] at c1
  obtain ⟨x,hx⟩:=qU e.Args k (by omega)
  have hn1:=nodes_take hx
  refine zJ<|zI<|zP<|zM O<|G O<|zG O kO<|zH wZ (Y 1 O) O<|G O<|qD O el55 (by omega) (zAa (by assumption))<|zO yP zQ O<|qN O ok135 (OwnR.pur (ih x (qA hx) (by have:=Ex.arg_wt (qA hx);omega))) ⟨zB,O,T⟩<|zV O O (yQ 0 O el55 O O O (by simp only [List.length_map,List.length_append,List.length_cons,List.length_nil];omega) (by simp only [List.length_map,List.length_append,List.length_cons,List.length_nil];omega)) ?_
  rintro _ _ ⟨sv3,rfl,rfl⟩
  refine G O<|zA<|zM O<|G O<|qB O ⟨by omega,by omega⟩<|G O<|zA ?_
  refine ⟨⟨k+1,sv3⟩,(by omega),(by show e.Args.length-(k+1)<e.Args.length-k;omega),Weak.mk [true,true] ⟨zB,zB,zB,T⟩ (by exact kC (by rw [zSb hx,←List.cons_append,List.map_append]))⟩
 ·try simp only [sx] at c1
  refine qH<|R O<|G O<|G O<|zA<|zT _ (Weak.mem [true,false] O)<|zK<|zR O ?_
  exact ⟨_,O,by rw [yA (by omega),←wO];rfl⟩
theorem ref14_All (e:Ex) (he:e.wt<=2000000):OwnR cfg 135 [vE e] 57 13 ((bF e).map Ex.cells):=by
  induction e using Ex.ind with
  |_ e ih=>exact ref14_All_step e ih he
end Go.W
