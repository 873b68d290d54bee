/-
  Walks: what functions of the program compute. Printed by wip/gen/mk2.py.
  Conditions: none.
-/
import Derived.Test.YtkidnhldibjiaaaGreatDoorKA
import Derived.Test.YtkidnhldibjiaaaGreatDoorPlain3
set_option linter.unusedSimpArgs false
set_option linter.unusedVariables false
set_option maxRecDepth 10000
namespace Go.W
open Go Go.Eng Go.Proofs Go.L41 Go.Br
attribute [local irreducible] AWP RWP TD finQ
theorem ok20:callOk Tryz.prog 20=true:=by kernel_rfl
theorem ok92:callOk Tryz.prog 92=true:=by kernel_rfl
theorem zMm (d:Df) (c:Cl) (y:Ex) (D:List Df) (hc:c.Ok D) (hcb:c.Bd) (h1:d.Dims.length<=1000000) (h2:d.Red.length<=1000000) (h3:∀a,a∈d.Dims->a.Size.L.length<=5864062014805) (h4:∀a,a∈d.Red->a.Size.L.length<=5864062014805) (e:Ex) (ih:∀a,a∈e.Args->a.wt<=2000000->Pur cfg 92 [vDf d,vE a,vCl c,vE y] (vE (replX d c y a))) (he:e.wt<=2000000):
    Pur cfg 92 [vDf d,vE e,vCl c,vE y] (vE (replX d c y e)):=by
 refine zS Tryz.func92 O Tryz.ntmps92 Tryz.results92 O ?_
 intro z hz
 have hal:=axsN_len d e
 have hel:=(e.parts he).2.2
 obtain ⟨_,hb1,hb2,hb3⟩:=hcb
 refine G O<|zU O O (qI O O) ?_
 rintro _ _ ⟨b1,rfl,rfl⟩
 refine zU O O (qI O O) ?_
 rintro _ _ ⟨b2,rfl,rfl⟩
 refine zU O O (qI O O) ?_
 rintro _ _ ⟨b3,rfl,rfl⟩
 refine zU O O (qI O O) ?_
 rintro _ _ ⟨b4,rfl,rfl⟩
 refine zU O O (qD [none,none,none,none,none,none,none,none,none,none,some 2,some 4,some 13] O zr44 O) ?_
 rintro _ _ ⟨b5,rfl,rfl⟩
 refine W<|zH<|zH<|qS 17 mixed (by kernel_rfl) O O<|zM O O (zR O wP O (J 4 O) O)<|zM O O (zR O qZ O (J 3 O) O)<|zM O O (qG O ok144 (zMe d e he h1 h2) ⟨U,O,U,O,T⟩)<|zM O O (zQ O O)<|qA [] O O O O gv1 T (fun g1_3=>zR O qZ O (J 3 O) O) O<|qA [] O O O O gv1 T (fun g1_3=>zD O fd74_0 O) O<|qA [(17,_)] O O O O gv1 ⟨O,O,T⟩ (fun g1_3=>zR O qZ O (J 2 O) O) O<|qA [(16,_),(18,_)] O O O O gv1 ⟨O,O,O,O,T⟩ (fun g1_3=>qG O ok76 (zPp e c.e (by omega) (by omega)) ⟨U,O,U,O,T⟩) O<|zM O O (kX O O O (fun h=>h) O)<|zM O O (zQ O O)<|qA [] O O O O gv1 T (fun g1_9=>zR O wP O (J 4 O) O) O<|qA [] O O O O gv1 T (fun g1_9=>zR O qZ O (J 3 O) O) O<|qA [(22,_),(23,_)] O O O O gv1 ⟨O,O,O,O,T⟩ (fun g1_9=>qG O ok73 (OwnR.pur (zLl d e he h1 h2)) ⟨U,O,U,O,T⟩) O<|qA [] O O O O gv1 T (fun g1_9=>zD O fd74_1 O) O<|qA [(25,_)] O O O O gv1 ⟨O,O,T⟩ (fun g1_9=>zG O kP O (J 2 O) O) O<|qA [(24,_),(26,_)] O O O O gv1 ⟨O,O,O,O,T⟩ (fun g1_9=>qG O ok77 (zMd (axsN d e) c.axes (by omega) (by omega) (fun a ha=>by rcases axsN_mem ha with h|h;exact h3 a h;exact h4 a h)) ⟨U,O,U,O,T⟩) O<|zM O O (kX O O O (fun h=>h) O)<|yJ<|W<|zF O (fun c1=>?_) (fun c1=>?_)
 ·have c1:e=c.e/\axsN d e=c.axes:=by simp only [Lz,cond_true,cond_false,Bool.and_eq_true,Bool.or_eq_true,Bool.not_eq_true',Bool.not_eq_false',Bool.or_eq_false_iff,Bool.and_eq_false_iff,decide_eq_true_eq,decide_eq_false_iff_not,Bool.not_eq_true,Bool.not_eq_false] at c1;exact ⟨c1.1.2,c1.2⟩
  refine G O<|zL qZ (J 1 O) O<|N 0 sz44 O<|W<|zK<|fin1 (qH qZ O (J 0 O) O) ?_
  exact congrArg vE ((zMv d c y e).trans (if_pos c1)).symm
 ·have c1:¬(e=c.e/\axsN d e=c.axes):=fun h=>by rw [hit_elig hc h,decide_eq_true h.1,decide_eq_true h.2] at c1;cases c1
  refine zJ<|G O<|Y O<|qV _ (yF 44 13)<|W<|zH<|G O<|zE O kB<|zI wT (J 4 O) O<|qC O (zAp O el42 O)<|Y O<|W<|zN<|zV ⟨[(33,.c _),(9,.c _),(4,.c _),(5,.c _),(6,.c _),(7,.c _),(8,.c _),(31,.c _),(32,.c _)],[_,_,_,_,_,_]⟩ (Weak.mk [true,true,true,true,true,true] ⟨U,U,U,U,U,U,U,U,U,T⟩ O)<|zY 2 1 O O (Nat×Value×List Ex) (fun ⟨k,sv,pre⟩=>[(33,vI k),(9,.c (.lit sv))]) (fun ⟨k,sv,pre⟩=>[E.vec sv 44 13 (pre.map Ex.cells)]) (fun ⟨k,sv,pre⟩=>k<=e.Args.length/\(replQ d c y e.Op 0 e.Args=pre++replQ d c y e.Op k (e.Args.drop k))/\(pre.length=k)) (fun ⟨k,sv,pre⟩=>e.Args.length-k) ⟨⟨0,(.slice none 0 0),[]⟩,⟨by omega,O,O⟩,Weak.mk [true,true,true,true,true,true] ⟨U,U,U,U,U,U,U,U,U,T⟩ O⟩ ?_
  rintro ⟨k,sv,pre⟩ ⟨hk,hp,hpl⟩
  show AWP _ _ _ _ _ ⟨[(33,vI k),(9,.c (.lit sv))]++_,[E.vec sv 44 13 (pre.map Ex.cells)]++_⟩
  refine G O<|qW O<|W<|zH<|zF O (fun c2=>?_) (fun c2=>?_)
  ·try simp only [sx] at c2
   obtain ⟨x,hx⟩:=qO e.Args k (by omega)
   refine zJ<|zH<|zN<|G O<|Y O<|zZ O el42 (by omega) (zDa hx)<|zL qZ zX O<|zU O O (qD [none,none,none,none,none,none,none,none,none,none,some 2,some 4,some 13] O zr44 O) ?_
   rintro _ _ ⟨b7,rfl,rfl⟩
   refine Y O<|N 0 sz44 O<|W<|zH<|G O<|zE O kC<|zI one3 (J 5 O) O<|yO O<|Y O<|rL0 O (fun g7_3=>zQ O O) O<|rL1 42 O (fun g7_3=>yM O O O) O<|r_or O (fun h=>(lzf h))<|W<|zF O (fun c3=>?_) (fun c3=>?_)
   ·try simp only [sx] at c3
    have hA:replA d c y e.Op k x=replX d c y x:=if_pos (by omega)
    refine zO O<|zL wP (J 6 O) O<|zL qZ (J 0 O) O<|zL agg74 (J 4 O) O<|zL qZ (J 3 O) O<|qK O ok92 (ih x (zW hx) (by have:=Ex.arg_wt (zW hx);omega)) ⟨U,O,U,O,U,O,U,O,T⟩<|N 0 sz44 O<|W<|zO O<|Y O<|zL qZ (J 0 O) O<|qX O el42 zr44<|zU O O (qQ 1 O el42 O O O (by simp only [List.length_map,List.length_append,List.length_cons,List.length_nil,List.length_take,List.length_drop];omega) (by simp only [List.length_map,List.length_append,List.length_cons,List.length_nil,List.length_take,List.length_drop];omega)) ?_
    rintro _ _ ⟨sv8,rfl,rfl⟩
    refine Y O<|W<|zO O<|qB O ⟨by omega,by omega⟩<|Y O<|W ?_
    refine ⟨⟨k+1,sv8,pre++[replA d c y e.Op k x]⟩,⟨by omega,replQ_next hx pre _ hp,by simp;omega⟩,(by show e.Args.length-(k+1)<e.Args.length-k;omega),Weak.mk [false,true,true,true,true,true,true] ⟨U,U,U,U,U,U,U,U,U,T⟩ (by exact kL (by rw [hA,List.map_append];simp only [List.map_cons,List.map_nil,Ex.cells_eq (replX d c y x)];(try rfl)))⟩
   ·try simp only [sx] at c3
    have hA:replA d c y e.Op k x=x:=if_neg (by omega)
    refine zJ<|zO O<|Y O<|zL qZ (J 0 O) O<|qX O el42 zr44<|zU O O (qQ 1 O el42 O O O (by simp only [List.length_map,List.length_append,List.length_cons,List.length_nil,List.length_take,List.length_drop];omega) (by simp only [List.length_map,List.length_append,List.length_cons,List.length_nil,List.length_take,List.length_drop];omega)) ?_
    rintro _ _ ⟨sv9,rfl,rfl⟩
    refine Y O<|W<|zO O<|qB O ⟨by omega,by omega⟩<|Y O<|W ?_
    refine ⟨⟨k+1,sv9,pre++[replA d c y e.Op k x]⟩,⟨by omega,replQ_next hx pre _ hp,by simp;omega⟩,(by show e.Args.length-(k+1)<e.Args.length-k;omega),Weak.mk [false,true,true,true,true,true,true] ⟨U,U,U,U,U,U,U,U,U,T⟩ (by exact kL (by rw [hA,List.map_append];simp only [List.map_cons,List.map_nil,Ex.cells_eq x];(try rfl)))⟩
  ·try simp only [sx] at c2
   have hQ:=replQ_end pre _ hp (by omega)
   refine zV _ (yC 0 O (regs':=[(9,_)]) (μ':=[_,_,_,_,_]) ⟨FLe.sl,T⟩ ⟨EFle.refl _,EFle.refl _,EFle.refl _,EFle.refl _,EFle.refl _,T⟩)<|qF<|G O<|Y O<|zE O kB<|N 3 sz42 O<|W<|G O<|zL qZ (J 3 O) O<|N 0 sz44 O<|W<|zK<|fin1 (qH qZ O (J 0 O) O) ?_
   exact congrArg vE (show setArgs e pre=replX d c y e from by rw [zMv,if_neg c1,hQ])
theorem cse_replace (d:Df) (c:Cl) (y:Ex) (D:List Df) (hc:c.Ok D) (hcb:c.Bd) (h1:d.Dims.length<=1000000) (h2:d.Red.length<=1000000) (h3:∀a,a∈d.Dims->a.Size.L.length<=5864062014805) (h4:∀a,a∈d.Red->a.Size.L.length<=5864062014805) (e:Ex) (he:e.wt<=2000000):Pur cfg 92 [vDf d,vE e,vCl c,vE y] (vE (replX d c y e)):=by
  induction e using Ex.ind with
  |_ e ih=>exact zMm d c y D hc hcb h1 h2 h3 h4 e ih he
end Go.W
