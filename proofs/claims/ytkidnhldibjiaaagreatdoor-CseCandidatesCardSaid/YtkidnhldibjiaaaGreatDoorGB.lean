/-
  Walks: what functions of the program compute. Printed by wip/gen/mk2.py.
  Walks: what functions of the program compute. Printed by wip/gen/mk2.py.
  Walks: what functions of the program compute. Printed by wip/gen/mk2.py.
  Walks: what functions of the program compute. Printed by wip/gen/mk2.py.
  Walks: what functions of the program compute. Printed by wip/gen/mk2.py.
  Walks: what functions of the program compute. Printed by wip/gen/mk2.py.
  Conditions: none.
-/
import Derived.Test.YtkidnhldibjiaaaGreatDoorGA
import Derived.Test.YtkidnhldibjiaaaGreatDoorPlain2
import Derived.Test.YtkidnhldibjiaaaGreatDoorEngZ
set_option linter.unusedSimpArgs false
set_option linter.unusedVariables false
section
set_option maxRecDepth 10000
namespace Go.W
open Go Go.Eng Go.Proofs Go.L41 Go.Br
attribute [local irreducible] AWP RWP TD finQ
theorem sz38:(Tryz.prog.info? 38).map (·.size)=some 1:=by kernel_rfl
end Go.W
end
section
set_option maxRecDepth 10000
namespace Go.W
open Go Go.Eng Go.Proofs Go.L41 Go.Br
attribute [local irreducible] AWP RWP TD finQ
end Go.W
end
section
set_option maxRecDepth 10000
namespace Go.W
open Go Go.Eng Go.Proofs Go.L41 Go.Br
attribute [local irreducible] AWP RWP TD finQ
end Go.W
end
section
set_option maxRecDepth 10000
namespace Go.W
open Go Go.Eng Go.Proofs Go.L41 Go.Br
attribute [local irreducible] AWP RWP TD finQ
theorem pl115:placesT Tryz.prog 115=some [(0,2),(2,1),(3,1)]:=by kernel_rfl
end Go.W
end
section
set_option maxRecDepth 10000
namespace Go.W
open Go Go.Eng Go.Proofs Go.L41 Go.Br
attribute [local irreducible] AWP RWP TD finQ
theorem ok194:callOk Tryz.prog 194=true:=by kernel_rfl
theorem sz22:(Tryz.prog.info? 22).map (·.size)=some 1:=by kernel_rfl
theorem zr22:zeroT Tryz.prog 22=some [(Value.slice none 0 0)]:=by kernel_rfl
theorem zPs (e:Ex) (he:e.wt<=1073741824):
    OwnR cfg 145 [vE e] 9 1 (strRows (indexT e)):=by
 refine zR Tryz.func145 O Tryz.ntmps145 Tryz.results145 O ?_
 intro z hz
 refine G O<|zS O O (qG O O) ?_
 rintro _ _ ⟨b1,rfl,rfl⟩
 refine zX O (yA 1 O O)<|W<|G O<|zS O O (yB O zr22) ?_
 rintro _ _ ⟨b2,rfl,rfl⟩
 refine qV _ (yH 9 1)<|W<|zG<|G O<|zL qZ (J 2 O) O<|qK O ok154 (zPq _) ⟨U,O,T⟩<|W<|zN<|zU _ (Weak.mem [true,true,false] O)<|zQh (ps:=[10]) hz (Value) 2 O O ok205 (zNk e (by omega)) (fun _ _=>O) O (fun pre sv=>True) (fun pre sv=>[E.vec sv 9 1 (strRows (namesA pre)),E.row b2 22 [.lit sv]]) ⟨.slice none 0 0,T,O⟩ ?_ ?_
 ·intro pre x suf sv hxs hi z hz
  show AWP _ _ _ _ _ ⟨_,[E.vec sv 9 1 (strRows (namesA pre)),E.row b2 22 [.lit sv]]++_⟩
  have hlen:=namesP_len (pre:=pre++[x]) (suf:=suf) (by rw [hxs];simp)
  rw [zKz,List.length_append] at hlen
  have hxw:x.wt<=e.wt:=zAo e x (by rw [hxs];simp)
  refine zO O<|zS O O (qD [none,none,none,none,none,none,none,none,none,none,some 2,some 4,some 13] O zr44 O) ?_
  rintro _ _ ⟨b4,rfl,rfl⟩
  refine N 0 sz44 O<|W ?_
  intro z hz
  refine zN<|G O<|zL qZ (J 0 O) O<|qK O ok193 (expr_forms _) ⟨U,O,T⟩<|W<|zN<|zU _ (Weak.mem [false,true,true] O)<|zQh (ps:=[13]) hz (Value) 2 O O ok237 (forms_iter x (by omega)) (fun _ _=>O) O (fun pre2 sw=>True) (fun pre2 sw=>[E.vec sw 9 1 (strRows (namesA pre++pre2.flatMap namesF)),E.row b2 22 [.lit sw]]) ⟨sv,T,(by exact zOy (by simp))⟩ ?_ ?_
  ·intro pre2 l suf2 sw hxl hi2 z hz
   show AWP _ _ _ _ _ ⟨_,[E.vec sw 9 1 (strRows (namesA pre++pre2.flatMap namesF)),E.row b2 22 [.lit sw]]++_⟩
   have hl2:=namesX_len (pre:=pre2++[l]) (suf:=suf2) (by rw [hxl];simp)
   have hfl:(namesF l).length=l.L.length:=by unfold namesF;rw [List.length_map]
   rw [namesF_one,List.length_append] at hl2
   refine zO O<|zS O O (qD [none,some 2] O zr40 O) ?_
   rintro _ _ ⟨b5,rfl,rfl⟩
   refine N 0 sz40 O<|W ?_
   intro z hz
   refine zN<|G O<|zD O kR<|zH zAm (J 0 O) O<|zV O el38<|Y O<|W<|zN<|zU ⟨[(17,.c _),(3,.c _),(15,.c _),(16,.c _)],[_,_]⟩ (Weak.mk [false,true,true] ⟨U,U,U,U,T⟩ O)<|qA 1 2 O O (Nat×Value) (fun ⟨k,sy⟩=>[(17,vI k)]) (fun ⟨k,sy⟩=>[E.vec sy 9 1 (strRows (namesA pre++pre2.flatMap namesF++(l.L.take k).map Mono.Name)),E.row b2 22 [.lit sy]]) (fun ⟨k,sy⟩=>k<=l.L.length) (fun ⟨k,sy⟩=>l.L.length-k) ⟨⟨0,_⟩,(by omega),Weak.mk [true,true] ⟨U,U,U,U,T⟩ (by exact zOy (by simp))⟩ ?_
   rintro ⟨k,sy⟩ hk
   show AWP _ _ _ _ _ ⟨[(17,vI k)]++_,[E.vec sy 9 1 (strRows (namesA pre++pre2.flatMap namesF++(l.L.take k).map Mono.Name)),E.row b2 22 [.lit sy]]++_⟩
   refine G O<|qW O<|W<|zG<|zE O (fun c1=>?_) (fun c1=>?_)
   ·try simp only [sx] at c1
    obtain ⟨m,hm2⟩:=qP l.L k (by omega)
    refine zI<|zG<|zN<|G O<|zZ O el38 (by omega) (getm (by assumption))<|zL zDo zY O<|zS O O (yB O zIo) ?_
    rintro _ _ ⟨b6,rfl,rfl⟩
    refine N 0 sz107 O<|W<|zO O<|zH zBq (J 2 O) O<|zD O zAk<|zH one9 (J 0 O) O<|qX O r zr9<|zS O O (qO 1 O r O O O (by have hkk:=List.length_take_le' k l.L;simp only [List.length_map,List.length_append,List.length_cons,List.length_nil];omega) (by have hkk:=List.length_take_le' k l.L;simp only [List.length_map,List.length_append,List.length_cons,List.length_nil];omega)) ?_
    rintro _ _ ⟨sv7,rfl,rfl⟩
    refine N 2 sz22 O<|W<|zO O<|qB O ⟨by omega,by omega⟩<|Y O<|W ?_
    refine ⟨⟨k+1,_⟩,(by omega),(by show l.L.length-(k+1)<l.L.length-k;omega),Weak.mk [false,true,true] ⟨U,U,U,U,T⟩ (by exact zOy (by rw [zOu hm2];simp [strRows]))⟩
   ·try simp only [sx] at c1
    refine qE ?_
    exact zCi (τ:=⟨[],_⟩) (Weak.mk [true,true] T O) ⟨_,T,(by exact zOy (by rw [qS (l:=l.L) (by omega),namesF_one,←List.append_assoc];rfl))⟩
  ·intro sw hd2
   exact zCi (τ:=⟨[],_⟩) (Weak.mk [true,true] T O) ⟨_,T,(by exact zOy (by rw [zKz];rfl))⟩
 ·intro sv hd
  refine G O<|zH zBq (J 1 O) O<|zS O O (zBi 0 O O ok194 (expr_sorted sv (namesA (nodes e)) (by have:=zGv e;omega)) ⟨U,O,T⟩) ?_
  rintro _ _ ⟨sv8,rfl,rfl⟩
  refine Y O<|W<|zU _ (Weak.mem [true,false] O)<|zJ<|zP O ?_
  exact ⟨_,O,O⟩
end Go.W
end
section
set_option maxRecDepth 10000
namespace Go.W
open Go Go.Eng Go.Proofs Go.L41 Go.Br
attribute [local irreducible] AWP RWP TD finQ
theorem ok249:callOk Tryz.prog 249=true:=by kernel_rfl
theorem ref14_All_step (e:Ex) (ih:∀a,a∈e.Args->a.wt<=2000000->OwnR cfg 249 [vE a] 44 13 ((nodes a).map Ex.cells)) (he:e.wt<=2000000):
    OwnR cfg 249 [vE e] 44 13 ((nodes e).map Ex.cells):=by
 refine zR Tryz.func249 O Tryz.ntmps249 Tryz.results249 O ?_
 intro z hz
 obtain ⟨hL,hI,hA⟩:=e.parts he
 have hn:=nodes_wt e
 refine G O<|zS O O (qG O O) ?_
 rintro _ _ ⟨b1,rfl,rfl⟩
 refine zX O (yA 13 O O)<|W<|G O<|zL qZ (J 0 O) O<|zS O O (zAq O el42 zr44 O O O O) ?_
 rintro _ _ ⟨sv2,rfl,rfl⟩
 refine Y O<|W<|zG<|G O<|Y O<|W<|zN<|zU ⟨[(4,.c _),(3,.c _),(1,.c _)],[_,_]⟩ (Weak.mk [true,true] ⟨U,U,U,T⟩ O)<|qA 2 1 O O (Nat×Value) (fun ⟨k,sv⟩=>[(4,vI k),(3,.c (.lit sv))]) (fun ⟨k,sv⟩=>[E.vec sv 44 13 ((e::nodesL (e.Args.take k)).map Ex.cells)]) (fun ⟨k,sv⟩=>k<=e.Args.length) (fun ⟨k,sv⟩=>e.Args.length-k) ⟨⟨0,_⟩,(by omega),Weak.mk [true,true] ⟨U,U,U,T⟩ (by exact yX (by simp [nodesL,Ex.cells_eq];rfl))⟩ ?_
 rintro ⟨k,sv⟩ hk
 show AWP _ _ _ _ _ ⟨[(4,vI k),(3,.c (.lit sv))]++_,[E.vec sv 44 13 ((e::nodesL (e.Args.take k)).map Ex.cells)]++_⟩
 refine zG<|G O<|Y O<|zD O kG<|zH wS (J 1 O) O<|zV O el42<|qW O<|W<|zE O (fun c1=>?_) (fun c1=>?_)
 ·try simp only [sx] at c1
  obtain ⟨x,hx⟩:=qP e.Args k (by omega)
  have hn1:=nodes_take hx
  refine zI<|zG<|zN<|zO O<|Y O<|zD O kG<|zH wS (J 1 O) O<|Y O<|zZ O el42 (by omega) (zBr (by assumption))<|zL qZ zY O<|qK O ok249 (OwnR.pur (ih x (zW hx) (by have:=Ex.arg_wt (zW hx);omega))) ⟨U,O,T⟩<|zS O O (qO 0 O el42 O O O (by simp only [List.length_map,List.length_append,List.length_cons,List.length_nil];omega) (by simp only [List.length_map,List.length_append,List.length_cons,List.length_nil];omega)) ?_
  rintro _ _ ⟨sv3,rfl,rfl⟩
  refine Y O<|W<|zO O<|Y O<|qB O ⟨by omega,by omega⟩<|Y O<|W ?_
  refine ⟨⟨k+1,sv3⟩,(by omega),(by show e.Args.length-(k+1)<e.Args.length-k;omega),Weak.mk [true,true] ⟨U,U,U,T⟩ (by exact yX (by rw [zOr hx,←List.cons_append,List.map_append]))⟩
 ·try simp only [sx] at c1
  refine qE<|G O<|Y O<|Y O<|W<|zU _ (Weak.mem [true,false] O)<|zJ<|zP O ?_
  exact ⟨_,O,by rw [qS (by omega),←kH];rfl⟩
theorem ref14_All (e:Ex) (he:e.wt<=2000000):OwnR cfg 249 [vE e] 44 13 ((nodes e).map Ex.cells):=by
  induction e using Ex.ind with
  |_ e ih=>exact ref14_All_step e ih he
end Go.W
end
