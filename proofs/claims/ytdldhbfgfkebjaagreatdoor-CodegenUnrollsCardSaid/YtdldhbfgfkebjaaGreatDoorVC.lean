/-
  What functions compute.
  Conditions: none.
-/
import Derived.Test.YtdldhbfgfkebjaaGreatDoorVB
import Derived.Test.YtdldhbfgfkebjaaGreatDoorPlain2
set_option linter.unusedSimpArgs false
set_option linter.unusedVariables false
set_option maxRecDepth 10000
namespace Go.W
open Go Go.Eng Go.Proofs Go.L41 Go.Br
attribute [local irreducible] AWP RWP TD fP
theorem ok135:bA Tryz.prog 135=true:=by kernel_rfl
theorem ref14_All_step (e:Ex) (ih:∀a,a∈e.Args->a.wt<=2000000->OwnR cfg 135 [vE a] 57 13 ((bH a).map Ex.cells)) (he:e.wt<=2000000):
    OwnR cfg 135 [vE e] 57 13 ((bH e).map Ex.cells):=by
 refine zW Tryz.func135 O Tryz.ntmps135 Tryz.results135 O ?_
 intro z hz
 obtain ⟨hL,hI,hA⟩:=e.parts he
 have hn:=nodes_wt e
 refine R O<|zS O O (qP O O) ?_
 rintro _ _ ⟨b1,rfl,rfl⟩
 refine zZ O (yO 13 O O)<|zA<|R O<|zQ yN (A 0 O) O<|zS O O (ope_bslice O el55 zr57 O O O O) ?_
 rintro _ _ ⟨sv2,rfl,rfl⟩
 refine G O<|zA<|zF<|R O<|G O<|zA<|zP<|zU ⟨[(4,.c _),(3,.c _),(1,.c _)],[_,_]⟩ (Weak.mk [true,true] ⟨zB,zB,zB,T⟩ O)<|qF 2 1 O O (Nat×Value) (fun ⟨k,sv⟩=>[(4,vI k),(3,.c (.lit sv))]) (fun ⟨k,sv⟩=>[E.vec sv 57 13 ((e::bJ (e.Args.take k)).map Ex.cells)]) (fun ⟨k,sv⟩=>k<=e.Args.length) (fun ⟨k,sv⟩=>e.Args.length-k) ⟨⟨0,_⟩,(by omega),Weak.mk [true,true] ⟨zB,zB,zB,T⟩ (by exact yQ (by simp [bJ,Ex.cells_eq];rfl))⟩ ?_
 rintro ⟨k,sv⟩ hk
 show AWP _ _ _ _ _ ⟨[(4,vI k),(3,.c (.lit sv))]++_,[E.vec sv 57 13 ((e::bJ (e.Args.take k)).map Ex.cells)]++_⟩
 refine zF<|R O<|G O<|zJ O yU<|zE kW (A 1 O) O<|qD O el55<|yC O<|zA<|zD O (fun c1=>?_) (fun c1=>?_)
 ·try simp only [sx] at c1
  obtain ⟨x,hx⟩:=qU e.Args k (by omega)
  have hn1:=nodes_take hx
  refine zI<|zF<|zP<|zK O<|G O<|zJ O yU<|zE kW (A 1 O) O<|G O<|zY O el55 (by omega) (wF (by assumption))<|zQ yN zO O<|qS O ok135 (OwnR.pur (ih x (qE hx) (by have:=Ex.arg_wt (qE hx);omega))) ⟨zB,O,T⟩<|zS O O (yI 0 O el55 O O O (by simp only [List.length_map,List.length_append,List.length_cons,List.length_nil];omega) (by simp only [List.length_map,List.length_append,List.length_cons,List.length_nil];omega)) ?_
  rintro _ _ ⟨sv3,rfl,rfl⟩
  refine G O<|zA<|zK O<|G O<|qA O ⟨by omega,by omega⟩<|G O<|zA ?_
  refine ⟨⟨k+1,sv3⟩,(by omega),(by show e.Args.length-(k+1)<e.Args.length-k;omega),Weak.mk [true,true] ⟨zB,zB,zB,T⟩ (by exact yQ (by rw [zSy hx,←List.cons_append,List.map_append]))⟩
 ·try simp only [sx] at c1
  refine qK<|R O<|G O<|G O<|zA<|zU _ (Weak.mem [true,false] O)<|zN<|zV O ?_
  exact ⟨_,O,by rw [qX (by omega),←zAl];rfl⟩
theorem ref14_All (e:Ex) (he:e.wt<=2000000):OwnR cfg 135 [vE e] 57 13 ((bH e).map Ex.cells):=by
  induction e using Ex.ind with
  |_ e ih=>exact ref14_All_step e ih he
end Go.W
