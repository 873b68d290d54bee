/-
  Walks: what functions of the program compute. Printed by wip/gen/mk2.py.
  Walks: what functions of the program compute. Printed by wip/gen/mk2.py.
  Walks: what functions of the program compute. Printed by wip/gen/mk2.py.
  Walks: what functions of the program compute. Printed by wip/gen/mk2.py.
  Walks: what functions of the program compute. Printed by wip/gen/mk2.py.
  Walks: what functions of the program compute. Printed by wip/gen/mk2.py.
  Conditions: none.
-/
import Derived.Test.YtkidnhldibjiaaaGreatDoorGA
import Derived.Test.YtkidnhldibjiaaaGreatDoorPlain2
import Derived.Test.YtkidnhldibjiaaaGreatDoorEngZ
set_option linter.unusedSimpArgs false
set_option linter.unusedVariables false
section
set_option maxRecDepth 10000
namespace Go.W
open Go Go.Eng Go.Proofs Go.L41 Go.Br
attribute [local irreducible] AWP RWP TD finQ
theorem sz38:(Tryz.prog.info? 38).map (·.size)=some 1:=by kernel_rfl
end Go.W
end
section
set_option maxRecDepth 10000
namespace Go.W
open Go Go.Eng Go.Proofs Go.L41 Go.Br
attribute [local irreducible] AWP RWP TD finQ
end Go.W
end
section
set_option maxRecDepth 10000
namespace Go.W
open Go Go.Eng Go.Proofs Go.L41 Go.Br
attribute [local irreducible] AWP RWP TD finQ
end Go.W
end
section
set_option maxRecDepth 10000
namespace Go.W
open Go Go.Eng Go.Proofs Go.L41 Go.Br
attribute [local irreducible] AWP RWP TD finQ
theorem pl115:placesT Tryz.prog 115=some [(0,2),(2,1),(3,1)]:=by kernel_rfl
end Go.W
end
section
set_option maxRecDepth 10000
namespace Go.W
open Go Go.Eng Go.Proofs Go.L41 Go.Br
attribute [local irreducible] AWP RWP TD finQ
theorem ok194:callOk Tryz.prog 194=true:=by kernel_rfl
theorem sz22:(Tryz.prog.info? 22).map (·.size)=some 1:=by kernel_rfl
theorem zr22:zeroT Tryz.prog 22=some [(Value.slice none 0 0)]:=by kernel_rfl
theorem zOt (e:Ex) (he:e.wt<=1073741824):
    OwnR cfg 145 [vE e] 9 1 (strRows (indexT e)):=by
 refine zQ Tryz.func145 O Tryz.ntmps145 Tryz.results145 O ?_
 intro z hz
 refine G O<|zR O O (qG O O) ?_
 rintro _ _ ⟨b1,rfl,rfl⟩
 refine zT O (yL 1 O O)<|W<|G O<|zR O O (yA O zr22) ?_
 rintro _ _ ⟨b2,rfl,rfl⟩
 refine qU _ (yJ 9 1)<|W<|zG<|G O<|zL qY (J 2 O) O<|qL O ok154 (zOr _) ⟨U,O,T⟩<|W<|zN<|zV _ (Weak.mem [true,true,false] O)<|zPk (ps:=[10]) hz (Value) 2 O O ok205 (zMs e (by omega)) (fun _ _=>O) O (fun pre sv=>True) (fun pre sv=>[E.vec sv 9 1 (strRows (namesA pre)),E.row b2 22 [.lit sv]]) ⟨.slice none 0 0,T,O⟩ ?_ ?_
 ·intro pre x suf sv hxs hi z hz
  show AWP _ _ _ _ _ ⟨_,[E.vec sv 9 1 (strRows (namesA pre)),E.row b2 22 [.lit sv]]++_⟩
  have hlen:=namesP_len (pre:=pre++[x]) (suf:=suf) (by rw [hxs];simp)
  rw [namesA_one,List.length_append] at hlen
  have hxw:x.wt<=e.wt:=zAz e x (by rw [hxs];simp)
  refine zO O<|zR O O (qC [none,none,none,none,none,none,none,none,none,none,some 2,some 4,some 13] O zr44 O) ?_
  rintro _ _ ⟨b4,rfl,rfl⟩
  refine N 0 sz44 O<|W ?_
  intro z hz
  refine zN<|G O<|zL qY (J 0 O) O<|qL O ok193 (expr_forms _) ⟨U,O,T⟩<|W<|zN<|zV _ (Weak.mem [false,true,true] O)<|zPk (ps:=[13]) hz (Value) 2 O O ok237 (forms_iter x (by omega)) (fun _ _=>O) O (fun pre2 sw=>True) (fun pre2 sw=>[E.vec sw 9 1 (strRows (namesA pre++pre2.flatMap namesF)),E.row b2 22 [.lit sw]]) ⟨sv,T,(by exact zOc (by simp))⟩ ?_ ?_
  ·intro pre2 l suf2 sw hxl hi2 z hz
   show AWP _ _ _ _ _ ⟨_,[E.vec sw 9 1 (strRows (namesA pre++pre2.flatMap namesF)),E.row b2 22 [.lit sw]]++_⟩
   have hl2:=namesX_len (pre:=pre2++[l]) (suf:=suf2) (by rw [hxl];simp)
   have hfl:(namesF l).length=l.L.length:=by unfold namesF;rw [List.length_map]
   rw [namesF_one,List.length_append] at hl2
   refine zO O<|zR O O (qC [none,some 2] O zr40 O) ?_
   rintro _ _ ⟨b5,rfl,rfl⟩
   refine N 0 sz40 O<|W ?_
   intro z hz
   refine zN<|G O<|zE O kQ<|zH zAk (J 0 O) O<|zU O el38<|Y O<|W<|zN<|zV ⟨[(17,.c _),(3,.c _),(15,.c _),(16,.c _)],[_,_]⟩ (Weak.mk [false,true,true] ⟨U,U,U,U,T⟩ O)<|zZ 1 2 O O (Nat×Value) (fun ⟨k,sy⟩=>[(17,vI k)]) (fun ⟨k,sy⟩=>[E.vec sy 9 1 (strRows (namesA pre++pre2.flatMap namesF++(l.L.take k).map Mono.Name)),E.row b2 22 [.lit sy]]) (fun ⟨k,sy⟩=>k<=l.L.length) (fun ⟨k,sy⟩=>l.L.length-k) ⟨⟨0,_⟩,(by omega),Weak.mk [true,true] ⟨U,U,U,U,T⟩ (by exact zOc (by simp))⟩ ?_
   rintro ⟨k,sy⟩ hk
   show AWP _ _ _ _ _ ⟨[(17,vI k)]++_,[E.vec sy 9 1 (strRows (namesA pre++pre2.flatMap namesF++(l.L.take k).map Mono.Name)),E.row b2 22 [.lit sy]]++_⟩
   refine G O<|qW O<|W<|zG<|zF O (fun c1=>?_) (fun c1=>?_)
   ·try simp only [sx] at c1
    obtain ⟨m,hm2⟩:=qO l.L k (by omega)
    refine zI<|zG<|zN<|G O<|zY O el38 (by omega) (getm (by assumption))<|zL zDh qA O<|zR O O (yA O zId) ?_
    rintro _ _ ⟨b6,rfl,rfl⟩
    refine N 0 sz107 O<|W<|zO O<|zH zAy (J 2 O) O<|zE O zAi<|zH one9 (J 0 O) O<|qV O r zr9<|zR O O (qP 1 O r O O O (by have hkk:=List.length_take_le' k l.L;simp only [List.length_map,List.length_append,List.length_cons,List.length_nil];omega) (by have hkk:=List.length_take_le' k l.L;simp only [List.length_map,List.length_append,List.length_cons,List.length_nil];omega)) ?_
    rintro _ _ ⟨sv7,rfl,rfl⟩
    refine N 2 sz22 O<|W<|zO O<|qB O ⟨by omega,by omega⟩<|Y O<|W ?_
    refine ⟨⟨k+1,_⟩,(by omega),(by show l.L.length-(k+1)<l.L.length-k;omega),Weak.mk [false,true,true] ⟨U,U,U,U,T⟩ (by exact zOc (by rw [namesM_next hm2];simp [strRows]))⟩
   ·try simp only [sx] at c1
    refine qF ?_
    exact zCb (τ:=⟨[],_⟩) (Weak.mk [true,true] T O) ⟨_,T,(by exact zOc (by rw [qS (l:=l.L) (by omega),namesF_one,←List.append_assoc];rfl))⟩
  ·intro sw hd2
   exact zCb (τ:=⟨[],_⟩) (Weak.mk [true,true] T O) ⟨_,T,(by exact zOc (by rw [namesA_one];rfl))⟩
 ·intro sv hd
  refine G O<|zH zAy (J 1 O) O<|zR O O (zLf 0 O O ok194 (expr_sorted sv (namesA (nodes e)) (by have:=zKn e;omega)) ⟨U,O,T⟩) ?_
  rintro _ _ ⟨sv8,rfl,rfl⟩
  refine Y O<|W<|zV _ (Weak.mem [true,false] O)<|zJ<|zP O ?_
  exact ⟨_,O,O⟩
end Go.W
end
section
set_option maxRecDepth 10000
namespace Go.W
open Go Go.Eng Go.Proofs Go.L41 Go.Br
attribute [local irreducible] AWP RWP TD finQ
end Go.W
end
