/-
  Walks: what functions of the program compute. Printed by wip/gen/mk2.py.
  Conditions: none.
-/
import Derived.Test.YtkidnhldibjiaaaGreatDoorKA
import Derived.Test.YtkidnhldibjiaaaGreatDoorPlain3
set_option linter.unusedSimpArgs false
set_option linter.unusedVariables false
set_option maxRecDepth 10000
namespace Go.W
open Go Go.Eng Go.Proofs Go.L41 Go.Br
attribute [local irreducible] AWP RWP TD finQ
theorem ok20:callOk Tryz.prog 20=true:=by kernel_rfl
theorem ok92:callOk Tryz.prog 92=true:=by kernel_rfl
theorem zLv (d:Df) (c:Cl) (y:Ex) (D:List Df) (hc:c.Ok D) (hcb:c.Bd) (h1:d.Dims.length<=1000000) (h2:d.Red.length<=1000000) (h3:∀a,a∈d.Dims->a.Size.L.length<=5864062014805) (h4:∀a,a∈d.Red->a.Size.L.length<=5864062014805) (e:Ex) (ih:∀a,a∈e.Args->a.wt<=2000000->Pur cfg 92 [vDf d,vE a,vCl c,vE y] (vE (replX d c y a))) (he:e.wt<=2000000):
    Pur cfg 92 [vDf d,vE e,vCl c,vE y] (vE (replX d c y e)):=by
 refine zQ Tryz.func92 O Tryz.ntmps92 Tryz.results92 O ?_
 intro z hz
 have hal:=axsN_len d e
 have hel:=(e.parts he).2.2
 obtain ⟨_,hb1,hb2,hb3⟩:=hcb
 refine G O<|zR O O (qG O O) ?_
 rintro _ _ ⟨b1,rfl,rfl⟩
 refine zR O O (qG O O) ?_
 rintro _ _ ⟨b2,rfl,rfl⟩
 refine zR O O (qG O O) ?_
 rintro _ _ ⟨b3,rfl,rfl⟩
 refine zR O O (qG O O) ?_
 rintro _ _ ⟨b4,rfl,rfl⟩
 refine zR O O (qC [none,none,none,none,none,none,none,none,none,none,some 2,some 4,some 13] O zr44 O) ?_
 rintro _ _ ⟨b5,rfl,rfl⟩
 refine W<|zG<|zG<|qX 17 mixed (by kernel_rfl) O O<|zM O O (zW O wZ O (J 4 O) O)<|zM O O (zW O qY O (J 3 O) O)<|zM O O (qI O ok144 (zLo d e he h1 h2) ⟨U,O,U,O,T⟩)<|zM O O (zS O O)<|qJ [] O O O O gv1 T (fun g1_3=>zW O qY O (J 3 O) O) O<|qJ [] O O O O gv1 T (fun g1_3=>zD O fd74_0 O) O<|qJ [(17,_)] O O O O gv1 ⟨O,O,T⟩ (fun g1_3=>zW O qY O (J 2 O) O) O<|qJ [(16,_),(18,_)] O O O O gv1 ⟨O,O,O,O,T⟩ (fun g1_3=>qI O ok76 (zOs e c.e (by omega) (by omega)) ⟨U,O,U,O,T⟩) O<|zM O O (wH O O O (fun h=>h) O)<|zM O O (zS O O)<|qJ [] O O O O gv1 T (fun g1_9=>zW O wZ O (J 4 O) O) O<|qJ [] O O O O gv1 T (fun g1_9=>zW O qY O (J 3 O) O) O<|qJ [(22,_),(23,_)] O O O O gv1 ⟨O,O,O,O,T⟩ (fun g1_9=>qI O ok73 (OwnR.pur (zKv d e he h1 h2)) ⟨U,O,U,O,T⟩) O<|qJ [] O O O O gv1 T (fun g1_9=>zD O fd74_1 O) O<|qJ [(25,_)] O O O O gv1 ⟨O,O,T⟩ (fun g1_9=>zK O kU O (J 2 O) O) O<|qJ [(24,_),(26,_)] O O O O gv1 ⟨O,O,O,O,T⟩ (fun g1_9=>qI O ok77 (zLn (axsN d e) c.axes (by omega) (by omega) (fun a ha=>by rcases axsN_mem ha with h|h;exact h3 a h;exact h4 a h)) ⟨U,O,U,O,T⟩) O<|zM O O (wH O O O (fun h=>h) O)<|yW<|W<|zF O (fun c1=>?_) (fun c1=>?_)
 ·have c1:e=c.e/\axsN d e=c.axes:=by simp only [Lz,cond_true,cond_false,Bool.and_eq_true,Bool.or_eq_true,Bool.not_eq_true',Bool.not_eq_false',Bool.or_eq_false_iff,Bool.and_eq_false_iff,decide_eq_true_eq,decide_eq_false_iff_not,Bool.not_eq_true,Bool.not_eq_false] at c1;exact ⟨c1.1.2,c1.2⟩
  refine G O<|zL qY (J 1 O) O<|N 0 sz44 O<|W<|zJ<|fin1 (qD qY O (J 0 O) O) ?_
  exact congrArg vE ((zMg d c y e).trans (if_pos c1)).symm
 ·have c1:¬(e=c.e/\axsN d e=c.axes):=fun h=>by rw [hit_elig hc h,decide_eq_true h.1,decide_eq_true h.2] at c1;cases c1
  refine zI<|G O<|Y O<|qU _ (yJ 44 13)<|W<|zG<|G O<|zE O kI<|zH zAf (J 4 O) O<|zT O (zAa O el42 O)<|Y O<|W<|zN<|zV ⟨[(33,.c _),(9,.c _),(4,.c _),(5,.c _),(6,.c _),(7,.c _),(8,.c _),(31,.c _),(32,.c _)],[_,_,_,_,_,_]⟩ (Weak.mk [true,true,true,true,true,true] ⟨U,U,U,U,U,U,U,U,U,T⟩ O)<|zZ 2 1 O O (Nat×Value×List Ex) (fun ⟨k,sv,pre⟩=>[(33,vI k),(9,.c (.lit sv))]) (fun ⟨k,sv,pre⟩=>[E.vec sv 44 13 (pre.map Ex.cells)]) (fun ⟨k,sv,pre⟩=>k<=e.Args.length/\(replQ d c y e.Op 0 e.Args=pre++replQ d c y e.Op k (e.Args.drop k))/\(pre.length=k)) (fun ⟨k,sv,pre⟩=>e.Args.length-k) ⟨⟨0,(.slice none 0 0),[]⟩,⟨by omega,O,O⟩,Weak.mk [true,true,true,true,true,true] ⟨U,U,U,U,U,U,U,U,U,T⟩ O⟩ ?_
  rintro ⟨k,sv,pre⟩ ⟨hk,hp,hpl⟩
  show AWP _ _ _ _ _ ⟨[(33,vI k),(9,.c (.lit sv))]++_,[E.vec sv 44 13 (pre.map Ex.cells)]++_⟩
  refine G O<|qW O<|W<|zG<|zF O (fun c2=>?_) (fun c2=>?_)
  ·try simp only [sx] at c2
   obtain ⟨x,hx⟩:=qO e.Args k (by omega)
   refine zI<|zG<|zN<|G O<|Y O<|zY O el42 (by omega) (zDt hx)<|zL qY qA O<|zR O O (qC [none,none,none,none,none,none,none,none,none,none,some 2,some 4,some 13] O zr44 O) ?_
   rintro _ _ ⟨b7,rfl,rfl⟩
   refine Y O<|N 0 sz44 O<|W<|zG<|G O<|zE O kA<|zH one3 (J 5 O) O<|yR O<|Y O<|rL0 O (fun g7_3=>zS O O) O<|rL1 42 O (fun g7_3=>yO O O O) O<|r_or O (fun h=>(lzf h))<|W<|zF O (fun c3=>?_) (fun c3=>?_)
   ·try simp only [sx] at c3
    have hA:replA d c y e.Op k x=replX d c y x:=if_pos (by omega)
    refine zO O<|zL wZ (J 6 O) O<|zL qY (J 0 O) O<|zL agg74 (J 4 O) O<|zL qY (J 3 O) O<|qL O ok92 (ih x (zX hx) (by have:=Ex.arg_wt (zX hx);omega)) ⟨U,O,U,O,U,O,U,O,T⟩<|N 0 sz44 O<|W<|zO O<|Y O<|zL qY (J 0 O) O<|qV O el42 zr44<|zR O O (qP 1 O el42 O O O (by simp only [List.length_map,List.length_append,List.length_cons,List.length_nil,List.length_take,List.length_drop];omega) (by simp only [List.length_map,List.length_append,List.length_cons,List.length_nil,List.length_take,List.length_drop];omega)) ?_
    rintro _ _ ⟨sv8,rfl,rfl⟩
    refine Y O<|W<|zO O<|qB O ⟨by omega,by omega⟩<|Y O<|W ?_
    refine ⟨⟨k+1,sv8,pre++[replA d c y e.Op k x]⟩,⟨by omega,replQ_next hx pre _ hp,by simp;omega⟩,(by show e.Args.length-(k+1)<e.Args.length-k;omega),Weak.mk [false,true,true,true,true,true,true] ⟨U,U,U,U,U,U,U,U,U,T⟩ (by exact kZ (by rw [hA,List.map_append];simp only [List.map_cons,List.map_nil,Ex.cells_eq (replX d c y x)];(try rfl)))⟩
   ·try simp only [sx] at c3
    have hA:replA d c y e.Op k x=x:=if_neg (by omega)
    refine zI<|zO O<|Y O<|zL qY (J 0 O) O<|qV O el42 zr44<|zR O O (qP 1 O el42 O O O (by simp only [List.length_map,List.length_append,List.length_cons,List.length_nil,List.length_take,List.length_drop];omega) (by simp only [List.length_map,List.length_append,List.length_cons,List.length_nil,List.length_take,List.length_drop];omega)) ?_
    rintro _ _ ⟨sv9,rfl,rfl⟩
    refine Y O<|W<|zO O<|qB O ⟨by omega,by omega⟩<|Y O<|W ?_
    refine ⟨⟨k+1,sv9,pre++[replA d c y e.Op k x]⟩,⟨by omega,replQ_next hx pre _ hp,by simp;omega⟩,(by show e.Args.length-(k+1)<e.Args.length-k;omega),Weak.mk [false,true,true,true,true,true,true] ⟨U,U,U,U,U,U,U,U,U,T⟩ (by exact kZ (by rw [hA,List.map_append];simp only [List.map_cons,List.map_nil,Ex.cells_eq x];(try rfl)))⟩
  ·try simp only [sx] at c2
   have hQ:=replQ_end pre _ hp (by omega)
   refine zV _ (yG 0 O (regs':=[(9,_)]) (μ':=[_,_,_,_,_]) ⟨FLe.sl,T⟩ ⟨EFle.refl _,EFle.refl _,EFle.refl _,EFle.refl _,EFle.refl _,T⟩)<|qF<|G O<|Y O<|zE O kI<|N 3 sz42 O<|W<|G O<|zL qY (J 3 O) O<|N 0 sz44 O<|W<|zJ<|fin1 (qD qY O (J 0 O) O) ?_
   exact congrArg vE (show setArgs e pre=replX d c y e from by rw [zMg,if_neg c1,hQ])
theorem cse_replace (d:Df) (c:Cl) (y:Ex) (D:List Df) (hc:c.Ok D) (hcb:c.Bd) (h1:d.Dims.length<=1000000) (h2:d.Red.length<=1000000) (h3:∀a,a∈d.Dims->a.Size.L.length<=5864062014805) (h4:∀a,a∈d.Red->a.Size.L.length<=5864062014805) (e:Ex) (he:e.wt<=2000000):Pur cfg 92 [vDf d,vE e,vCl c,vE y] (vE (replX d c y e)):=by
  induction e using Ex.ind with
  |_ e ih=>exact zLv d c y D hc hcb h1 h2 h3 h4 e ih he
end Go.W
