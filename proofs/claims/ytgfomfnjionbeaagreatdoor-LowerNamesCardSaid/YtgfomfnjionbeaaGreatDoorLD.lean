/-
  Walks: what functions of the program compute. Printed by wip/gen/mk2.py.
  Conditions: none.
-/
import Derived.Test.YtgfomfnjionbeaaGreatDoorLC
import Derived.Test.YtgfomfnjionbeaaGreatDoorPlainL
set_option linter.unusedSimpArgs false
set_option linter.unusedVariables false
set_option maxRecDepth 10000
namespace Go.W
open Go Go.Eng Go.Proofs Go.L41 Go.Br
attribute [local irreducible] AWP RWP TD finQ
theorem ok7:callOk Tryz.prog 7=true:=by kernel_rfl
theorem ok9:callOk Tryz.prog 9=true:=by kernel_rfl
theorem ok14:callOk Tryz.prog 14=true:=by kernel_rfl
theorem ok18:callOk Tryz.prog 18=true:=by kernel_rfl
theorem ok52:callOk Tryz.prog 52=true:=by kernel_rfl
theorem pl70:placesT Tryz.prog 70=some [(0,1),(1,5),(6,1),(7,1),(8,1),(9,13)]:=by kernel_rfl
theorem pl74:placesT Tryz.prog 74=some [(0,1),(1,5),(6,1)]:=by kernel_rfl
theorem pl99:placesT Tryz.prog 99=some [(0,1),(1,2)]:=by kernel_rfl
theorem zHu (f:Int):
    Pur cfg 18 [vI f] (vPg (xP f)):=by
 refine zW Tryz.func18 O Tryz.ntmps18 Tryz.results18 O ?_
 intro z hz
 refine Y O<|zZ O O (qF [some 1,some 3,some 7,some 22,some 1] O zr30 O) ?_
 rintro _ _ ⟨b1,rfl,rfl⟩
 refine zA<|Y O<|yF O zr56 pl56<|zZ O O (qX O zr56) ?_
 rintro _ _ ⟨b2,rfl,rfl⟩
 refine D 0 v O<|zA<|Y O<|qK O ok52 (zGq (bs [110])) ⟨zB,O,T⟩<|zZ O O (qF [none,some 2] O W O) ?_
 rintro _ _ ⟨b3,rfl,rfl⟩
 refine D 0 sz59 O<|zA<|Y O<|qK O ok52 (zGq (bs [106])) ⟨zB,O,T⟩<|yY [none,none,none,some 2] O zr93 pl93<|zR O (qS O el52 zr93 O O O O)<|yY [none,none,none,none,none,none,none,none,none,none,some 2,none,some 13] O zr62 pl62<|zZ O O (qF [none,none,none,none,none,none,none,none,none,none,some 2,some 4,some 13] O zr62 O) ?_
 rintro _ _ ⟨b4,rfl,rfl⟩
 refine D 0 sz62 O<|zA<|Y O<|zR O (qS O el25 zr9 O O O O)<|zM qZ (J 2 O) O<|zM kE (J 1 O) O<|zR O (qS O el72 W O O O O)<|yF O zr74 pl74<|zR O (qS O el27 zr74 O O O O)<|zM qZ (J 2 O) O<|zM kE (J 1 O) O<|yF O zr99 pl99<|zR O (qS O el68 zr99 O O O O)<|G O<|zM kD (J 0 O) O<|yY [none,none,none,none,none,none,some 3,none,none,none,none,none,none,none,none,none,none,none,none,none,none,none] O zr70 pl70<|zR O (qS O el28 zr70 O O O O)<|zR O (qS O el25 zr9 O O O O)<|yY [none,some 3,none,none,none] O zr30 pl30<|D 3 sz30 O<|zA<|zG<|fin1 (zY zEe O (J 3 O) O) ?_
 exact O
theorem zJb  :
    Pur cfg 7 [] (vB true):=by
 refine zW Tryz.func7 O Tryz.ntmps7 Tryz.results7 O ?_
 intro z hz
 refine Y O<|G O<|zA<|Y O<|yF O zr50 pl50<|zR O (qS O el31 zr50 O O O O)<|G O<|zA<|Y O<|qK O ok18 (zHu 1) ⟨zB,O,T⟩<|G O<|qK O ok14 (show Pur cfg 14 [vPg (xP 1),vBds xV] (.tup [vNs (xN xL1),vI 0]) by have h:=lower_Prog (xP 1) xV (by decide) x_env x_sm1.ok x_rng1 x_sm1;rw [x_P1] at h;exact h) ⟨zB,O,zB,O,T⟩<|qV O<|zR O (yA O O O)<|yI O<|zZ O O (qF [some 8,some 20] O zr41 O) ?_
 rintro _ _ ⟨b1,rfl,rfl⟩
 refine D 0 sz41 O<|G O<|zA<|Y O<|qK O ok18 (zHu 4) ⟨zB,O,T⟩<|G O<|qK O ok14 (show Pur cfg 14 [vPg (xP 4),vBds xV] (.tup [vNs (xN xL4),vI 0]) by have h:=lower_Prog (xP 4) xV (by decide) x_env x_sm4.ok x_rng4 x_sm4;rw [x_P4] at h;exact h) ⟨zB,O,zB,O,T⟩<|qV O<|zR O (yA O O O)<|yI O<|zZ O O (qF [some 8,some 20] O zr41 O) ?_
 rintro _ _ ⟨b2,rfl,rfl⟩
 refine D 0 sz41 O<|G O<|zA<|zH<|Y O<|G O<|yM O<|G O<|rL0 O (fun g4_2=>zS O O) O<|rL1 25 O (fun g4_2=>zBa O O O) O<|r_or O (fun h=>(lzf h))<|G O<|rL0 O (fun g4_6=>zJ O zCl O) O<|rL1 29 O (fun g4_6=>zK O zKf O (J 1 O) O) O<|rL1 30 O (fun g4_6=>yW O el39 O) O<|rL1 31 O (fun g4_6=>zBa O O O) O<|r_or O (fun h=>(lzf h))<|G O<|rL0 O (fun g4_12=>zJ O zCg O) O<|rL1 35 O (fun g4_12=>zK O zCa O (J 1 O) O) O<|rL1 36 O (fun g4_12=>yW O L O) O<|rL1 37 O (fun g4_12=>zBa O O O) O<|r_or O (fun h=>(lzf h))<|G O<|rL0 O (fun g4_18=>zJ O zCg O) O<|rL1 41 O (fun g4_18=>zK O zCa O (J 0 O) O) O<|rL1 42 O (fun g4_18=>yW O L O) O<|rL1 43 O (fun g4_18=>zBa O O O) O<|r_or O (fun h=>(lzf h))<|G O<|rL0 O (fun g4_24=>zJ O zCg O) O<|rL1 47 O (fun g4_24=>zK O zCa O (J 1 O) O) O<|rL1 48 O (fun g4_24=>qU O L O O (by decide) (zEh (x:=(lFor ⟨sj,3⟩ [lFld (xD 1) [] 1 xBody2])) O)) O<|rL1 49 O (fun g4_24=>qI O zEa O) O<|rL1 50 O (fun g4_24=>zK O zCa O qH O) O<|rL1 51 O (fun g4_24=>yW O L O) O<|rL1 52 O (fun g4_24=>zBa O O O) O<|r_or O (fun h=>(lzf h))<|G O<|rL0 O (fun g4_33=>zJ O zCg O) O<|rL1 56 O (fun g4_33=>zK O zCa O (J 0 O) O) O<|rL1 57 O (fun g4_33=>qU O L O O (by decide) (zEh (x:=(lFor ⟨sj,3⟩ [lIf (posX ⟨0,[⟨sj,1⟩]⟩) [lFld (xD 4) [] 4 xBody2]])) O)) O<|rL1 58 O (fun g4_33=>qI O zEa O) O<|rL1 59 O (fun g4_33=>zK O zCa O qH O) O<|rL1 60 O (fun g4_33=>yW O L O) O<|rL1 61 O (fun g4_33=>zBa O O O) O<|r_or O (fun h=>(lzf h))<|zA<|zE O (fun c1=>?_) (fun c1=>?_)
 ·try simp only [sx] at c1
  exact absurd c1 (by decide+kernel)
 ·try simp only [sx] at c1
  refine zF<|zH<|yP 17 2 [⟨0,.q []⟩,⟨1,.q [3]⟩,⟨2,.q []⟩,⟨3,.q []⟩,⟨4,.q []⟩,⟨5,.q []⟩,⟨6,.q []⟩,⟨7,.q []⟩,⟨8,.q [2]⟩,⟨9,.q []⟩,⟨10,.q []⟩,⟨11,.q []⟩,⟨12,.q []⟩,⟨13,.q []⟩,⟨14,.f 1⟩,⟨15,.f 0⟩,⟨16,.g 1 []⟩] mixed (by kernel_rfl) (by kernel_rfl) O O O<|zO O<|zO O<|zO O<|zO O<|zO O<|zO O<|zO O<|zO O<|zO O<|zO O<|zO O<|zO O<|zO O<|zO O<|zKt O O (zAh (qF [none,none,none,none,none,some 4,none,none,none,none,none,none,none,none,none,none,some 2,some 4,some 13,some 20] O zr64 O)) ⟨_,_,0,O,O⟩<|zKt O O (zAh (qF [none,none,none,none,none,some 4,none,none,none,none,none,none,none,none,none,none,some 2,some 4,some 13,some 20] O zr64 O)) ⟨_,_,0,O,O⟩<|zO O<|wR<|zX O (by decide) O O (zJ O zCg O)<|zX O (by decide) O O (zK O zCa O (J 0 O) O)<|zX O (by decide) O O (qU O L O O (by decide) (zEh (x:=(lFor ⟨sj,3⟩ [lFld (xD 1) [] 1 xBody2])) O))<|zX O (by decide) O O (qI O zEa O)<|zX O (by decide) O O (zK O zCa O qH O)<|zX O (by decide) O O (qU O L O O (by decide) (zEh (x:=(lFld (xD 1) [] 1 xBody2)) O))<|zX O (by decide) O O (qA O zNt O qH O)<|zX O (by decide) O O (zJ O zCg O)<|zX O (by decide) O O (zK O zCa O (J 0 O) O)<|zX O (by decide) O O (qU O L O O (by decide) (zEh (x:=(lFor ⟨sj,3⟩ [lIf (posX ⟨0,[⟨sj,1⟩]⟩) [lFld (xD 4) [] 4 xBody2]])) O))<|zX O (by decide) O O (qI O zEa O)<|zX O (by decide) O O (zK O zCa O qH O)<|zX O (by decide) O O (qU O L O O (by decide) (zEh (x:=(lIf (posX ⟨0,[⟨sj,1⟩]⟩) [lFld (xD 4) [] 4 xBody2])) O))<|zX O (by decide) O O (qA O zNt O qH O)<|zKa O O ?_
  rintro _ _ ⟨b3,rfl,rfl⟩
  refine zKa O O ?_
  rintro _ _ ⟨b4,rfl,rfl⟩
  refine sq_v0 O O (by decide) O O O (yT O sz64 O O O (zCx 0 O O)) O<|wQ O<|D 0 sz64 O<|zA<|Y O<|qK O ok8 (show Pur cfg 8 [vS (bs [115]),vS (bs [106])] (vS sj) by have h:=zEw (bs [115]) (bs [106]) (by decide) (by decide);rw [x_ln] at h;exact h) ⟨zB,O,zB,O,T⟩<|kY O<|G O<|rL0 O (fun g7_2=>zJ O zCl O) O<|rL1 81 O (fun g7_2=>zK O zKf O (J 3 O) O) O<|rL1 82 O (fun g7_2=>qU O el39 O O (by decide) (getm (x:=(⟨bs [97],xT,[3],1⟩:Bf)) O)) O<|rL1 83 O (fun g7_2=>qI O fd66_3 O) O<|rL1 84 O (fun g7_2=>zK O one3 O qH O) O<|rL1 85 O (fun g7_2=>kC O O O) O<|wC O (fun h=>h)<|G O<|rL0 O (fun g7_10=>zJ O zCl O) O<|rL1 89 O (fun g7_10=>zK O zKf O (J 3 O) O) O<|rL1 90 O (fun g7_10=>qU O el39 O O (by decide) (getm (x:=(⟨bs [115],xT,[],2⟩:Bf)) O)) O<|rL1 91 O (fun g7_10=>qI O fd66_3 O) O<|rL1 92 O (fun g7_10=>zK O one3 O qH O) O<|rL1 93 O (fun g7_10=>kC O O O) O<|wC O (fun h=>h)<|G O<|rL0 O (fun g7_18=>zJ O zCg O) O<|rL1 97 O (fun g7_18=>zK O zCa O (J 3 O) O) O<|rL1 98 O (fun g7_18=>qU O L O O (by decide) (zEh (x:=(lSet (xD 1) [] (.mk 1 (bs []) ⟨0,1⟩ xT ⟨0,[]⟩ [] []))) O)) O<|rL1 99 O (fun g7_18=>qI O zHx O) O<|rL1 100 O (fun g7_18=>qI O zAw O) O<|rL1 101 O (fun g7_18=>zK O one3 O qH O) O<|rL1 102 O (fun g7_18=>kC O O O) O<|wC O (fun h=>h)<|G O<|rL0 O (fun g7_27=>zJ O zCg O) O<|rL1 106 O (fun g7_27=>zK O zCa O (J 2 O) O) O<|rL1 107 O (fun g7_27=>qU O L O O (by decide) (zEh (x:=(lSet (xD 4) [] (.mk 3 (bs [97]) ⟨0,0⟩ zTy ⟨0,[]⟩ [⟨⟨0,[]⟩,bs [],[]⟩] []))) O)) O<|rL1 108 O (fun g7_27=>qI O zHx O) O<|rL1 109 O (fun g7_27=>qI O zAw O) O<|rL1 110 O (fun g7_27=>zK O one3 O qH O) O<|rL1 111 O (fun g7_27=>kC O O O) O<|wC O (fun h=>h)<|G O<|rL0 O (fun g7_36=>zJ O zCg O) O<|rL1 115 O (fun g7_36=>zK O zCa O (J 3 O) O) O<|rL1 116 O (fun g7_36=>qU O L O O (by decide) (zEh (x:=(lFor ⟨sj,3⟩ [lFld (xD 1) [] 1 xBody2])) O)) O<|rL1 117 O (fun g7_36=>qI O zHy O) O<|rL1 118 O (fun g7_36=>zK O one9 O qH O) O<|rL1 119 O (fun g7_36=>det_seql O O O) O<|wC O (fun h=>h)<|G O<|rL0 O (fun g7_44=>zJ O zCg O) O<|rL1 123 O (fun g7_44=>zK O zCa O (J 3 O) O) O<|rL1 124 O (fun g7_44=>qU O L O O (by decide) (zEh (x:=(lFor ⟨sj,3⟩ [lFld (xD 1) [] 1 xBody2])) O)) O<|rL1 125 O (fun g7_44=>qI O fd64_2 O) O<|rL1 126 O (fun g7_44=>zK O one3 O qH O) O<|rL1 127 O (fun g7_44=>kC O O O) O<|wC O (fun h=>h)<|G O<|rL0 O (fun g7_52=>zJ O zHz O) O<|rL1 131 O (fun g7_52=>zK O one3 O (J 1 O) O) O<|rL1 132 O (fun g7_52=>kC O O O) O ?_
  refine wC O (fun h=>h)<|G O<|rL0 O (fun g7_57=>zJ O fd64_4 O) O<|rL1 136 O (fun g7_57=>zK O one3 O (J 1 O) O) O<|rL1 137 O (fun g7_57=>kC O O O) O<|wC O (fun h=>h)<|G O<|rL0 O (fun g7_62=>zJ O zHz O) O<|rL1 141 O (fun g7_62=>zK O one3 O (J 0 O) O) O<|rL1 142 O (fun g7_62=>kC O O O) O<|wC O (fun h=>h)<|G O<|rL0 O (fun g7_67=>zJ O zEa O) O<|rL1 146 O (fun g7_67=>zK O zCa O (J 0 O) O) O<|rL1 147 O (fun g7_67=>yW O L O) O<|rL1 148 O (fun g7_67=>kC O O O) O<|wC O (fun h=>h)<|G O<|rL0 O (fun g7_73=>zJ O zEa O) O<|rL1 152 O (fun g7_73=>zK O zCa O (J 0 O) O) O<|rL1 153 O (fun g7_73=>qU O L O O (by decide) (zEh (x:=(lFld (xD 4) [] 4 xBody2)) O)) O<|rL1 154 O (fun g7_73=>qI O fd64_4 O) O<|rL1 155 O (fun g7_73=>zK O one3 O qH O) O<|rL1 156 O (fun g7_73=>kC O O O) O<|wC O (fun h=>h)<|G O<|zA<|zG<|zV O ?_
  exact O
theorem law_LowerNames (d a:ByteArray):
    Pur cfg 3 [vS d,vS a] (vB true):=by
 refine zW Tryz.func3 O Tryz.ntmps3 Tryz.results3 O ?_
 intro z hz
 refine Y O<|G O<|zA<|zH<|Y O<|G O<|zR O (wP O un9 O)<|zR O (yU O O O)<|G O<|rL0 O (fun g1_3=>zS O O) O<|rL1 9 O (fun g1_3=>wP O un9 O) O<|rL1 10 O (fun g1_3=>yU O O O) O<|r_or O (fun h=>(lzf h))<|zA<|zE O (fun c1=>?_) (fun c1=>?_)
 ·try simp only [sx] at c1
  refine Y O<|qK O ok7 zJb T<|G O<|zA<|zG<|zV O ?_
  exact O
 ·try simp only [sx] at c1
  refine zF<|Y O<|G O<|G O<|qK O ok8 (zEw d a (by omega) (by omega)) ⟨zB,O,zB,O,T⟩<|G O<|G O<|qK O ok9 (ref32_LoopName d a (by omega) (by omega)) ⟨zB,O,zB,O,T⟩<|kY O<|G O<|rL0 O (fun g3_7=>qR O ok7 zJb T) O<|wC O (fun h=>h)<|G O<|zA<|zG<|zV O ?_
  exact congrArg vB (by simp)
end Go.W
