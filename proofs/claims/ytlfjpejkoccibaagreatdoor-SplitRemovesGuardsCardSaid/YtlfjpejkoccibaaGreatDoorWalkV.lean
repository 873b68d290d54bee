/-
  Walks: what functions of the program compute. Printed by wip/gen/mk2.py.
  Walks: what functions of the program compute. Printed by wip/gen/mk2.py.
  Walks: what functions of the program compute. Printed by wip/gen/mk2.py.
  Conditions: none.
-/
import Derived.Test.YtlfjpejkoccibaaGreatDoorWalkX
import Derived.Test.YtlfjpejkoccibaaGreatDoorPlain2
import Derived.Test.YtlfjpejkoccibaaGreatDoorEngZ
import Derived.Test.YtlfjpejkoccibaaGreatDoorWV
set_option linter.unusedSimpArgs false
set_option linter.unusedVariables false
section
set_option maxRecDepth 10000
namespace Go.W
open Go Go.Eng Go.Proofs Go.L41 Go.Br
attribute [local irreducible] AWP RWP TD finQ
theorem pl44:placesT Tryz.prog 44=some [(0,1),(1,1),(2,2),(4,5),(9,2),(11,1),(12,1)]:=by kernel_rfl
theorem pl72:placesT Tryz.prog 72=some [(0,2),(2,1),(3,1)]:=by kernel_rfl
theorem sz34:(Tryz.prog.info? 34).map (·.size)=some 1:=by kernel_rfl
theorem sz42:(Tryz.prog.info? 42).map (·.size)=some 1:=by kernel_rfl
theorem sz70:(Tryz.prog.info? 70).map (·.size)=some 1:=by kernel_rfl
end Go.W
end
section
set_option maxRecDepth 10000
namespace Go.W
open Go Go.Eng Go.Proofs Go.L41 Go.Br
attribute [local irreducible] AWP RWP TD finQ
theorem zLl:oneT Tryz.prog 105=true:=by kernel_rfl
theorem sz105:(Tryz.prog.info? 105).map (·.size)=some 1:=by kernel_rfl
end Go.W
end
section
set_option maxRecDepth 10000
namespace Go.W
open Go Go.Eng Go.Proofs Go.L41 Go.Br
attribute [local irreducible] AWP RWP TD finQ
theorem ok201:callOk Tryz.prog 201=true:=by kernel_rfl
theorem ref14_All_step (e:Ex) (ih:∀a,a∈e.Args->a.wt<=1000000->OwnR cfg 201 [vE a] 44 13 ((nodes a).map Ex.cells)) (he:e.wt<=1000000):
    OwnR cfg 201 [vE e] 44 13 ((nodes e).map Ex.cells):=by
 refine zR Tryz.func201 O Tryz.ntmps201 Tryz.results201 O ?_
 intro z hz
 obtain ⟨hL,hI,hA⟩:=e.parts he
 have hn:=nodes_wt e
 refine G O<|zU O O (qM O O) ?_
 rintro _ _ ⟨b1,rfl,rfl⟩
 refine yA 13 O<|I<|G O<|zO yX (Y 0 O) O<|zU O O (zCy O g zr44 O O O O) ?_
 rintro _ _ ⟨sv2,rfl,rfl⟩
 refine F O<|I<|zJ<|G O<|F O<|I<|zQ<|zW ⟨[(4,.c _),(3,.c _),(1,.c _)],[_,_]⟩ (Weak.mk [true,true] ⟨H,H,H,T⟩ O)<|qK 2 1 O O (Nat×Value) (fun ⟨k,sv⟩=>[(4,vI k),(3,.c (.lit sv))]) (fun ⟨k,sv⟩=>[E.vec sv 44 13 ((e::nodesL (e.Args.take k)).map Ex.cells)]) (fun ⟨k,sv⟩=>k<=e.Args.length) (fun ⟨k,sv⟩=>e.Args.length-k) ⟨⟨0,_⟩,(by omega),Weak.mk [true,true] ⟨H,H,H,T⟩ (by exact zNi (by simp [nodesL,Ex.cells_eq];rfl))⟩ ?_
 rintro ⟨k,sv⟩ hk
 show AWP _ _ _ _ _ ⟨[(4,vI k),(3,.c (.lit sv))]++_,[E.vec sv 44 13 ((e::nodesL (e.Args.take k)).map Ex.cells)]++_⟩
 refine zJ<|G O<|F O<|zH O kZ<|zK zAj (Y 1 O) O<|qB O g<|yH O<|I<|zF O (fun c1=>?_) (fun c1=>?_)
 ·try simp only [R] at c1
  obtain ⟨x,hx⟩:=qW e.Args k (by omega)
  have hn1:=nodes_take hx
  refine zI<|zJ<|zQ<|zS O<|F O<|zH O kZ<|zK zAj (Y 1 O) O<|F O<|qC O g (by omega) (zCk (by assumption))<|zO yX qA O<|qJ O ok201 (OwnR.pur (ih x (zZ hx) (by have:=Ex.arg_wt (zZ hx);omega))) ⟨H,O,T⟩<|zU O O (yD 0 O g O O O (by simp only [List.length_map,List.length_append,List.length_cons,List.length_nil];omega) (by simp only [List.length_map,List.length_append,List.length_cons,List.length_nil];omega)) ?_
  rintro _ _ ⟨sv3,rfl,rfl⟩
  refine F O<|I<|zS O<|F O<|qH O ⟨by omega,by omega⟩<|F O<|I ?_
  refine ⟨⟨k+1,sv3⟩,(by omega),(by show e.Args.length-(k+1)<e.Args.length-k;omega),Weak.mk [true,true] ⟨H,H,H,T⟩ (by exact zNi (by rw [zRw hx,←List.cons_append,List.map_append]))⟩
 ·try simp only [R] at c1
  refine qN<|G O<|F O<|F O<|I<|zW _ (Weak.mem [true,false] O)<|o<|X O ?_
  exact ⟨_,O,by rw [yL (by omega),←wH];rfl⟩
theorem ref14_All (e:Ex) (he:e.wt<=1000000):OwnR cfg 201 [vE e] 44 13 ((nodes e).map Ex.cells):=by
  induction e using Ex.ind with
  |_ e ih=>exact ref14_All_step e ih he
end Go.W
end
