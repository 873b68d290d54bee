/-
  Walks: what functions of the program compute. Printed by wip/gen/mk2.py.
  Conditions: none.
-/
import Derived.Test.YtkidnhldibjiaaaGreatDoorGD
import Derived.Test.YtkidnhldibjiaaaGreatDoorPlain3
import Derived.Test.YtkidnhldibjiaaaGreatDoorEngZ
set_option linter.unusedSimpArgs false
set_option linter.unusedVariables false
set_option maxRecDepth 10000
namespace Go.W
open Go Go.Eng Go.Proofs Go.L41 Go.Br
attribute [local irreducible] AWP RWP TD finQ
theorem agg74:aggT Tryz.prog 74=some 16:=by kernel_rfl
theorem el30:elemT Tryz.prog 30=some (46,14,168):=by kernel_rfl
theorem el71:elemT Tryz.prog 71=some (74,16,200):=by kernel_rfl
theorem fd74_0:fieldT Tryz.prog 74 0=some (0,44):=by kernel_rfl
theorem fd74_1:fieldT Tryz.prog 74 1=some (13,61):=by kernel_rfl
theorem zPj:fieldT Tryz.prog 74 3=some (15,3):=by kernel_rfl
theorem ok30:callOk Tryz.prog 30=true:=by kernel_rfl
theorem ok31:callOk Tryz.prog 31=true:=by kernel_rfl
theorem ok47:callOk Tryz.prog 47=true:=by kernel_rfl
theorem ok51:callOk Tryz.prog 51=true:=by kernel_rfl
theorem ok71:callOk Tryz.prog 71=true:=by kernel_rfl
theorem ok72:callOk Tryz.prog 72=true:=by kernel_rfl
theorem ok73:callOk Tryz.prog 73=true:=by kernel_rfl
theorem ok74:callOk Tryz.prog 74=true:=by kernel_rfl
theorem ok75:callOk Tryz.prog 75=true:=by kernel_rfl
theorem ok76:callOk Tryz.prog 76=true:=by kernel_rfl
theorem ok77:callOk Tryz.prog 77=true:=by kernel_rfl
theorem ok144:callOk Tryz.prog 144=true:=by kernel_rfl
theorem ok145:callOk Tryz.prog 145=true:=by kernel_rfl
theorem ok147:callOk Tryz.prog 147=true:=by kernel_rfl
theorem ok148:callOk Tryz.prog 148=true:=by kernel_rfl
theorem ok153:callOk Tryz.prog 153=true:=by kernel_rfl
theorem ok163:callOk Tryz.prog 163=true:=by kernel_rfl
theorem ok204:callOk Tryz.prog 204=true:=by kernel_rfl
theorem one71:oneT Tryz.prog 71=true:=by kernel_rfl
theorem pl46:placesT Tryz.prog 46=some [(0,13),(13,1)]:=by kernel_rfl
theorem pl74:placesT Tryz.prog 74=some [(0,13),(13,1),(14,1),(15,1)]:=by kernel_rfl
theorem sz71:(Tryz.prog.info? 71).map (·.size)=some 1:=by kernel_rfl
theorem sz74:(Tryz.prog.info? 74).map (·.size)=some 16:=by kernel_rfl
theorem zr46:zeroT Tryz.prog 46=some [(Value.int IntKind.i64 0),(Value.string (ByteArray.mk #[])),(Value.int IntKind.i64 0),(Value.int IntKind.i64 0),(Value.int IntKind.i64 0),(Value.int IntKind.i64 0),(Value.int IntKind.i64 0),(Value.int IntKind.i64 0),(Value.int IntKind.i64 0),(Value.int IntKind.i64 0),(Value.slice none 0 0),(Value.slice none 0 0),(Value.slice none 0 0),(Value.int IntKind.i64 0)]:=by kernel_rfl
theorem zr71:zeroT Tryz.prog 71=some [(Value.slice none 0 0)]:=by kernel_rfl
theorem zr74:zeroT Tryz.prog 74=some [(Value.int IntKind.i64 0),(Value.string (ByteArray.mk #[])),(Value.int IntKind.i64 0),(Value.int IntKind.i64 0),(Value.int IntKind.i64 0),(Value.int IntKind.i64 0),(Value.int IntKind.i64 0),(Value.int IntKind.i64 0),(Value.int IntKind.i64 0),(Value.int IntKind.i64 0),(Value.slice none 0 0),(Value.slice none 0 0),(Value.slice none 0 0),(Value.slice none 0 0),(Value.int IntKind.i64 0),(Value.int IntKind.i64 0)]:=by kernel_rfl
theorem zLh (d:Df) (e:Ex) (he:e.wt<=2000000) (h1:d.Dims.length<=1000000) (h2:d.Red.length<=1000000):
    OwnR cfg 73 [vDf d,vE e] 111 3 ((axsN d e).map Ax.cells):=by
 refine zR Tryz.func73 O Tryz.ntmps73 Tryz.results73 O ?_
 intro z hz
 have hil:=indexT_len e
 have hlit:([[C.sl 3 (d.Dims.map Ax.cells)],[C.sl 3 (d.Red.map Ax.cells)]]:List (List C)).length=2:=rfl
 have hc1:([d.Dims,d.Red]).length=2:=rfl
 refine G O<|zS O O (qG O O) ?_
 rintro _ _ ⟨b1,rfl,rfl⟩
 refine zS O O (qG O O) ?_
 rintro _ _ ⟨b2,rfl,rfl⟩
 refine zX O (yA 3 O O)<|W<|G O<|zL qZ (J 0 O) O<|qK O ok145 (OwnR.pur (zPs e (by omega))) ⟨U,O,T⟩<|Y O<|W<|G O<|Y O<|qV _ (yH 111 3)<|W<|zG<|G O<|zD O zAl<|zH kQ (J 2 O) O<|zD O zAc<|zH kQ (J 2 O) O<|qX O el185 zr61<|zX O (wG O el185 O)<|Y O<|W<|zN<|zU ⟨[(19,.c _),(6,.c _),(5,.c _),(17,.c _),(18,.c _)],[_]⟩ (Weak.mk [true,false,false] ⟨U,U,U,U,U,T⟩ O)<|qA 2 1 O O (Nat×Value) (fun ⟨k,sv⟩=>[(19,vI k),(6,.c (.lit sv))]) (fun ⟨k,sv⟩=>[E.vec sv 111 3 ((axF d e k 0).map Ax.cells)]) (fun ⟨k,sv⟩=>k<=[d.Dims,d.Red].length) (fun ⟨k,sv⟩=>[d.Dims,d.Red].length-k) ⟨⟨0,(.slice none 0 0)⟩,(by omega),Weak.mk [true] ⟨U,U,U,U,U,T⟩ O⟩ ?_
 rintro ⟨k,sv⟩ hk
 show AWP _ _ _ _ _ ⟨[(19,vI k),(6,.c (.lit sv))]++_,[E.vec sv 111 3 ((axF d e k 0).map Ax.cells)]++_⟩
 refine G O<|qW O<|W<|zG<|zE O (fun c1=>?_) (fun c1=>?_)
 ·try simp only [sx] at c1
  obtain ⟨l,hl⟩:=qP [d.Dims,d.Red] k (by omega)
  have hll:=axL_len hl
  refine zI<|zG<|zN<|G O<|zZ O el185 (by omega) (show ([d.Dims,d.Red].map fun l=>[C.sl 3 (l.map Ax.cells)])[k]? =some [C.sl 3 (l.map Ax.cells)] from getm hl)<|zH kQ zY O<|Y O<|W<|G O<|Y O<|zV O D<|Y O<|W<|zN<|zU ⟨[(25,.c _),(6,.c _),(5,.c _),(17,.c _),(18,.c _),(19,.c _),(23,.c _),(24,.c _)],[_]⟩ (Weak.mk [true] ⟨U,U,U,U,U,U,U,U,T⟩ O)<|qA 2 1 O O (Nat×Value) (fun ⟨j,sw⟩=>[(25,vI j),(6,.c (.lit sw))]) (fun ⟨j,sw⟩=>[E.vec sw 111 3 ((axF d e k j).map Ax.cells)]) (fun ⟨j,sw⟩=>j<=l.length) (fun ⟨j,sw⟩=>l.length-j) ⟨⟨0,sv⟩,(by omega),Weak.mk [true] ⟨U,U,U,U,U,U,U,U,T⟩ O⟩ ?_
  rintro ⟨j,sw⟩ hj
  show AWP _ _ _ _ _ ⟨[(25,vI j),(6,.c (.lit sw))]++_,[E.vec sw 111 3 ((axF d e k j).map Ax.cells)]++_⟩
  refine G O<|qW O<|W<|zG<|zE O (fun c2=>?_) (fun c2=>?_)
  ·try simp only [sx] at c2
   obtain ⟨x,hx⟩:=qP l j (by omega)
   have hxl:=axF_len d e k j
   refine zI<|zG<|zN<|G O<|zZ O D (by omega) (getm hx)<|zL zEr zY O<|zS O O (qD [none,none,some 2] O zHg O) ?_
   rintro _ _ ⟨b4,rfl,rfl⟩
   refine N 0 sz111 O<|W<|G O<|Y O<|zD O zAj<|zH one9 (J 0 O) O<|qK O ok52 (wH (indexT e) x.Name (by omega)) ⟨U,O,U,O,T⟩<|W<|zE O (fun c3=>?_) (fun c3=>?_)
   ·try simp only [sx] at c3
    refine zO O<|Y O<|zL zEr (J 0 O) O<|qX O D zHg<|zS O O (qO 1 O D O O O (by simp only [List.length_map,List.length_append,List.length_cons,List.length_nil,List.length_take,List.length_drop];omega) (by simp only [List.length_map,List.length_append,List.length_cons,List.length_nil,List.length_take,List.length_drop];omega)) ?_
    rintro _ _ ⟨sv5,rfl,rfl⟩
    refine Y O<|W<|zO O<|qB O ⟨by omega,by omega⟩<|Y O<|W ?_
    refine ⟨⟨j+1,sv5⟩,(by omega),(by show l.length-(j+1)<l.length-j;omega),Weak.mk [false,true] ⟨U,U,U,U,U,U,U,U,T⟩ (by exact yX (by rw [axF_yes hl hx c3,List.map_append];rfl))⟩
   ·try simp only [sx] at c3
    have c3:hasB (indexT e) x.Name=false:=by simpa using c3
    refine zI<|zO O<|qB O ⟨by omega,by omega⟩<|Y O<|W ?_
    refine ⟨⟨j+1,sw⟩,(by omega),(by show l.length-(j+1)<l.length-j;omega),Weak.mk [false,true] ⟨U,U,U,U,U,U,U,U,T⟩ (by exact yX (by rw [axF_no hl hx c3]))⟩
  ·try simp only [sx] at c2
   have hup:=axF_up (e:=e) (j:=j) hl (by omega)
   refine qE<|zO O<|qB O ⟨by omega,by omega⟩<|Y O<|W ?_
   refine ⟨⟨k+1,sw⟩,(by omega),(by show [d.Dims,d.Red].length-(k+1)<[d.Dims,d.Red].length-k;omega),Weak.mk [true] ⟨U,U,U,U,U,T⟩ (by exact yX (by rw [hup]))⟩
 ·try simp only [sx] at c1
  have hend:axF d e k 0=axsN d e:=axF_end (by omega)
  rw [hend]
  refine qE<|G O<|Y O<|Y O<|W<|zJ<|zP O ?_
  exact ⟨_,O,O⟩
theorem zMb (d:Df) (e:Ex) (he:e.wt<=2000000) (h1:d.Dims.length<=1000000) (h2:d.Red.length<=1000000):
    Pur cfg 144 [vDf d,vE e] (vB (eligT d e)):=by
 refine zR Tryz.func144 O Tryz.ntmps144 Tryz.results144 O ?_
 intro z hz
 refine G O<|zS O O (qG O O) ?_
 rintro _ _ ⟨b1,rfl,rfl⟩
 refine zS O O (qG O O) ?_
 rintro _ _ ⟨b2,rfl,rfl⟩
 refine Y O<|W<|G O<|zD O yY<|zH one3 (J 0 O) O<|zX O (yF O O O)<|Y O<|rL0 O (fun g1_3=>zT O qZ O (J 0 O) O) O<|rL1 9 O (fun g1_3=>qH O ok155 (zCt e) ⟨U,O,T⟩) O<|rL1 10 O (fun g1_3=>wB O O) O<|kD O (fun h=>h)<|Y O<|rL0 O (fun g1_8=>zT O wM O (J 1 O) O) O<|rL0 O (fun g1_8=>zT O qZ O (J 0 O) O) O<|rLz [(14,_),(15,_)] O gv1 ⟨O,O,O,O,T⟩ (fun g1_8=>qH O ok73 (OwnR.pur (zLh d e he h1 h2)) ⟨U,O,U,O,T⟩) O<|rL1 16 O (fun g1_8=>qU O D O) O<|rL1 17 O (fun g1_8=>kO O O O) O<|kD O (fun h=>h)<|Y O<|W<|zJ<|zP O ?_
 exact congrArg vB (by unfold eligT;congr 1;exact decide_eq_decide.2 (by omega))
theorem zDg (a b:List Ax) (c:C) (p:Ax->Ax->Bool) (ha:a.length<=4294967296) (hb:b.length<=4294967296) (hc:∀x,x∈a->∀y,FnPur cfg c [vAx x,vAx y] (vB (p x y))):
    Pur cfg 147 [.c (.sl 3 (a.map Ax.cells)),.c (.sl 3 (b.map Ax.cells)),.c c] (vB (all2 p a b)):=by
 refine zR Tryz.func147 O Tryz.ntmps147 Tryz.results147 O ?_
 intro z hz
 refine G O<|Y O<|W<|zG<|G O<|Y O<|zV O D<|Y O<|zV O D<|yR O<|W<|zE O (fun c1=>?_) (fun c1=>?_)
 ·try simp only [sx] at c1
  refine G O<|Y O<|W<|zJ<|zP O ?_
  exact congrArg vB (all2_len (by omega)).symm
 ·try simp only [sx] at c1
  have hlab:a.length=b.length:=by omega
  refine zI<|zG<|G O<|Y O<|zV O D<|Y O<|W<|zN<|zU ⟨[(17,.c _),(1,.c _),(2,.c _),(15,.c _),(16,.c _)],[]⟩ (Weak.mk [] ⟨U,U,U,U,U,T⟩ O)<|qA 1 0 O O (Nat) (fun k=>[(17,vI k)]) (fun k=>[]) (fun k=>k<=a.length/\(all2 p a b=all2 p (a.drop k) (b.drop k))) (fun k=>a.length-k) ⟨0,⟨by omega,O⟩,Weak.mk [] ⟨U,U,U,U,U,T⟩ O⟩ ?_
  rintro k ⟨hk,hp⟩
  refine G O<|qW O<|W<|zG<|zE O (fun c2=>?_) (fun c2=>?_)
  ·try simp only [sx] at c2
   obtain ⟨x,hx⟩:=qP a k (by omega)
   obtain ⟨y,hy⟩:=qP b k (by omega)
   refine zI<|zG<|zN<|G O<|Y O<|zZ O D (by omega) (getm (by assumption))<|zL zEr zY O<|zS O O (qD [none,none,some 2] O zHg O) ?_
   rintro _ _ ⟨b1,rfl,rfl⟩
   refine Y O<|N 0 sz111 O<|W<|G O<|Y O<|Y O<|zZ O D (by omega) (getm hy)<|zL zEr zY O<|zS O O (qD [none,none,some 2] O zHg O) ?_
   rintro _ _ ⟨b2,rfl,rfl⟩
   refine N 0 sz111 O<|W<|G O<|Y O<|zL zEr (J 1 O) O<|zL zEr (J 0 O) O<|zX O (kS O O (hc x (zW hx) y) ⟨U,O,U,O,T⟩)<|wD O<|W<|zE O (fun c3=>?_) (fun c3=>?_)
   ·try simp only [sx] at c3
    have c3:p x y=false:=by simpa using c3
    refine G O<|Y O<|W<|zJ<|zP O ?_
    exact congrArg vB (all2_no hx hy _ hp c3).symm
   ·try simp only [sx] at c3
    have c3:p x y=true:=by simpa using c3
    refine zI<|zO O<|qB O ⟨by omega,by omega⟩<|Y O<|W ?_
    refine ⟨k+1,⟨by omega,all2_next hx hy _ hp c3⟩,(by omega),Weak.mk [false,false] ⟨U,U,U,U,U,T⟩ O⟩
  ·try simp only [sx] at c2
   refine qE<|G O<|Y O<|W<|zJ<|zP O ?_
   exact congrArg vB (all2_end _ hp hlab (by omega)).symm
theorem cse_sameAxes_1 (x y:Ax) (hx0:x.Size.L.length<=5864062014805):
    Pur cfg 148 [vAx x,vAx y] (vB (decide (x.Name=y.Name)&&decide (x.Size=y.Size))):=by
 refine zR Tryz.func148 O Tryz.ntmps148 Tryz.results148 O ?_
 intro z hz
 refine G O<|zS O O (qG O O) ?_
 rintro _ _ ⟨b1,rfl,rfl⟩
 refine zS O O (qG O O) ?_
 rintro _ _ ⟨b2,rfl,rfl⟩
 refine Y O<|W<|G O<|zD O zAj<|zH one9 (J 1 O) O<|zD O zAj<|zH one9 (J 0 O) O<|zX O (yM O O O)<|Y O<|rL0 O (fun g1_5=>zF O zDm O) O<|rL1 11 O (fun g1_5=>zT O kF O (J 1 O) O) O<|rL0 O (fun g1_5=>zF O zDm O) O<|rL1 13 O (fun g1_5=>zT O kF O (J 0 O) O) O<|rLz [(12,_),(14,_)] O gv1 ⟨O,O,O,O,T⟩ (fun g1_5=>qH O ok114 (lin_Same x.Size y.Size (by omega)) ⟨U,O,U,O,T⟩) O<|kD O (fun h=>h)<|Y O<|W<|zJ<|zP O ?_
 exact O
theorem zPw (x y:Ax) (hx0:x.Size.L.length<=5864062014805):
    Pur cfg 163 [vAx x,vAx y] (vB (decide (x.Size=y.Size))):=by
 refine zR Tryz.func163 O Tryz.ntmps163 Tryz.results163 O ?_
 intro z hz
 refine G O<|zS O O (qG O O) ?_
 rintro _ _ ⟨b1,rfl,rfl⟩
 refine zS O O (qG O O) ?_
 rintro _ _ ⟨b2,rfl,rfl⟩
 refine Y O<|W<|G O<|zD O zDm<|zL kF (J 1 O) O<|zD O zDm<|zL kF (J 0 O) O<|qK O ok114 (lin_Same x.Size y.Size (by omega)) ⟨U,O,U,O,T⟩<|Y O<|W<|zJ<|zP O ?_
 exact O
theorem zMa (a b:List Ax) (ha:a.length<=4294967296) (hb:b.length<=4294967296) (hs:∀x,x∈a->x.Size.L.length<=5864062014805):
    Pur cfg 77 [.c (.sl 3 (a.map Ax.cells)),.c (.sl 3 (b.map Ax.cells))] (vB (decide (a=b))):=by
 refine zR Tryz.func77 O Tryz.ntmps77 Tryz.results77 O ?_
 intro z hz
 refine G O<|Y O<|W<|G O<|Y O<|Y O<|qK O ok147 (zDg a b _ (fun x y=>decide (x.Name=y.Name)&&decide (x.Size=y.Size)) ha hb (fun x hx y=>FnPur.of_pur (first:=[]) (cap:=[]) ok148 (cse_sameAxes_1 x y (hs x hx)))) ⟨U,O,U,O,U,O,T⟩<|Y O<|W<|zJ<|zP O ?_
 exact congrArg vB axs_eq
theorem zJm (a b:List Ax) (ha:a.length<=4294967296) (hb:b.length<=4294967296) (hs:∀x,x∈a->x.Size.L.length<=5864062014805):
    Pur cfg 101 [.c (.sl 3 (a.map Ax.cells)),.c (.sl 3 (b.map Ax.cells))] (vB (szsT a b)):=by
 refine zR Tryz.func101 O Tryz.ntmps101 Tryz.results101 O ?_
 intro z hz
 refine G O<|Y O<|W<|G O<|Y O<|Y O<|qK O ok147 (zDg a b _ (fun x y=>decide (x.Size=y.Size)) ha hb (fun x hx y=>FnPur.of_pur (first:=[]) (cap:=[]) ok163 (zPw x y (hs x hx)))) ⟨U,O,U,O,U,O,T⟩<|Y O<|W<|zJ<|zP O ?_
 rfl
theorem visit_step (d:Df) (h1:d.Dims.length<=1000000) (h2:d.Red.length<=1000000) (y:C) (J:List Ex->List E->Prop) (Tx:List Ex) (hy:∀pre x suf m,Tx=pre++x::suf->J pre m->FnCon cfg y [vE x] m fun r m'=>r=.tup []/\J (pre++[x]) m') (e:Ex) (ih:∀a,a∈e.Args->a.wt<=2000000->∀(pre suf:List Ex) (μ:List E),Tx=pre++occE d a++suf->J pre μ->Con cfg 71 [vDf d,vE a,.c y] μ fun r μ'=>r=.tup []/\J (pre++occE d a) μ') (he:e.wt<=2000000) (pre suf:List Ex) (μ:List E) (hT:Tx=pre++occE d e++suf) (hJ0:J pre μ):
    Con cfg 71 [vDf d,vE e,.c y] μ fun r μ'=>r=.tup []/\J (pre++occE d e) μ':=by
 refine zR Tryz.func71 O Tryz.ntmps71 Tryz.results71 O ?_
 intro z hz
 have hal:=(e.parts he).2.2
 refine G O<|zS O O (qG O O) ?_
 rintro _ _ ⟨b1,rfl,rfl⟩
 refine zS O O (qG O O) ?_
 rintro _ _ ⟨b2,rfl,rfl⟩
 refine W<|zG<|zG<|zU _ (yC 1 O 3 _ PLe.ptr)<|zU _ (yC 0 O 4 _ PLe.ptr)<|zO O<|zL wM zY O<|zL qZ zY O<|qK O ok144 (zMb d e he h1 h2) ⟨U,O,U,O,T⟩<|W<|zE O (fun c1=>?_) (fun c1=>?_)
 ·try simp only [sx] at c1
  obtain ⟨s0,hs0⟩:=vis_head hT c1
  refine zO O<|Y O<|zL qZ zY O<|zS O O (zBj O O (hy pre e s0 _ hs0 hJ0) ⟨U,O,T⟩) ?_
  rintro _ m1 ⟨rfl,hJ1⟩
  refine W<|G O<|qN O kG<|zH wS zY O<|zX O (wG O el42 O)<|Y O<|W<|zN<|zU ⟨[(17,.c _),(2,.c _),(3,.c _),(4,.c _),(15,.c _),(16,.c _)],_⟩ (Weak.regs ⟨U,U,U,U,U,U,T⟩)<|zDe 1 O (Nat×List E) (fun ⟨k,m⟩=>[(17,vI k)]) (fun ⟨k,m⟩=>m) (fun ⟨k,m⟩=>k<=e.Args.length/\(J (pre++visP d e k) m)) (fun ⟨k,m⟩=>e.Args.length-k) ⟨⟨0,_⟩,⟨by omega,by rw [zDz];first|exact hJ1|(rw [show headX d e=[e] from if_pos c1];exact hJ1)⟩,Weak.regs ⟨U,U,U,U,U,U,T⟩⟩ ?_
  rintro ⟨k,m⟩ ⟨hk,hJ⟩
  refine G O<|qW O<|W<|zG<|zE O (fun c2=>?_) (fun c2=>?_)
  ·try simp only [sx] at c2
   obtain ⟨x,hx⟩:=qP e.Args k (by omega)
   refine zI<|zG<|zN<|G O<|Y O<|zZ O el42 (by omega) (zBr hx)<|zL qZ zY O<|zS O O (qD [none,none,none,none,none,none,none,none,none,none,some 2,some 4,some 13] O zr44 O) ?_
   rintro _ _ ⟨b3,rfl,rfl⟩
   refine Y O<|N 0 sz44 O<|W<|zG<|zU _ (yC 0 O 7 _ PLe.ptr)<|zO O<|qN O yY<|zH one3 zY O<|yR O<|Y O<|rL0 O (fun g6_3=>zQ O O) O<|rL1 26 O (fun g6_3=>yL O O O) O<|r_or O (fun h=>(lzf h))<|W<|zE O (fun c3=>?_) (fun c3=>?_)
   ·try simp only [sx] at c3
    obtain ⟨s1,hs1⟩:=vis_step hT hx c3
    refine zO O<|zL wM zY O<|zL qZ zY O<|Y O<|zS O O (zCf O ok71 (ih x (zW hx) (by have:=Ex.arg_wt (zW hx);omega) (pre++visP d e k) s1 m hs1 hJ) ⟨U,O,U,O,U,O,T⟩) ?_
    rintro _ m2 ⟨rfl,hJ2⟩
    refine W<|zO O<|qB O ⟨by omega,by omega⟩<|Y O<|W ?_
    refine ⟨⟨k+1,m2⟩,⟨by omega,by rw [zEt hx c3,←List.append_assoc];exact hJ2⟩,(by show e.Args.length-(k+1)<e.Args.length-k;omega),Weak.regs ⟨U,U,U,U,U,U,T⟩⟩
   ·try simp only [sx] at c3
    refine zI<|zO O<|qB O ⟨by omega,by omega⟩<|Y O<|W ?_
    refine ⟨⟨k+1,m⟩,⟨by omega,by rw [zNl hx c3];exact hJ⟩,(by show e.Args.length-(k+1)<e.Args.length-k;omega),Weak.regs ⟨U,U,U,U,U,U,T⟩⟩
  ·try simp only [sx] at c2
   refine qE ?_
   repeat (first|refine zEc ?_|refine zDd ?_)
   refine zLd<|fin0 ?_
   rw [zIp (d:=d) (e:=e) (k:=k) (by omega)] at hJ
   exact ⟨O,hJ⟩
 ·try simp only [sx] at c1
  have hJ1:J (pre++headX d e) μ:=by unfold headX;rw [if_neg (by rw [c1];simp),List.append_nil];exact hJ0
  refine zI<|G O<|qN O kG<|zH wS zY O<|zX O (wG O el42 O)<|Y O<|W<|zN<|zU ⟨[(17,.c _),(2,.c _),(3,.c _),(4,.c _),(15,.c _),(16,.c _)],_⟩ (Weak.regs ⟨U,U,U,U,U,U,T⟩)<|zDe 1 O (Nat×List E) (fun ⟨k,m⟩=>[(17,vI k)]) (fun ⟨k,m⟩=>m) (fun ⟨k,m⟩=>k<=e.Args.length/\(J (pre++visP d e k) m)) (fun ⟨k,m⟩=>e.Args.length-k) ⟨⟨0,_⟩,⟨by omega,by rw [zDz];first|exact hJ1|(rw [show headX d e=[e] from if_pos c1];exact hJ1)⟩,Weak.regs ⟨U,U,U,U,U,U,T⟩⟩ ?_
  rintro ⟨k,m⟩ ⟨hk,hJ⟩
  refine G O<|qW O<|W<|zG<|zE O (fun c2=>?_) (fun c2=>?_)
  ·try simp only [sx] at c2
   obtain ⟨x,hx⟩:=qP e.Args k (by omega)
   refine zI<|zG<|zN<|G O<|Y O<|zZ O el42 (by omega) (zBr hx)<|zL qZ zY O<|zS O O (qD [none,none,none,none,none,none,none,none,none,none,some 2,some 4,some 13] O zr44 O) ?_
   rintro _ _ ⟨b4,rfl,rfl⟩
   refine Y O<|N 0 sz44 O<|W<|zG<|zU _ (yC 0 O 7 _ PLe.ptr)<|zO O<|qN O yY<|zH one3 zY O<|yR O<|Y O<|rL0 O (fun g6_3=>zQ O O) O<|rL1 26 O (fun g6_3=>yL O O O) O<|r_or O (fun h=>(lzf h))<|W<|zE O (fun c3=>?_) (fun c3=>?_)
   ·try simp only [sx] at c3
    obtain ⟨s1,hs1⟩:=vis_step hT hx c3
    refine zO O<|zL wM zY O<|zL qZ zY O<|Y O<|zS O O (zCf O ok71 (ih x (zW hx) (by have:=Ex.arg_wt (zW hx);omega) (pre++visP d e k) s1 m hs1 hJ) ⟨U,O,U,O,U,O,T⟩) ?_
    rintro _ m2 ⟨rfl,hJ2⟩
    refine W<|zO O<|qB O ⟨by omega,by omega⟩<|Y O<|W ?_
    refine ⟨⟨k+1,m2⟩,⟨by omega,by rw [zEt hx c3,←List.append_assoc];exact hJ2⟩,(by show e.Args.length-(k+1)<e.Args.length-k;omega),Weak.regs ⟨U,U,U,U,U,U,T⟩⟩
   ·try simp only [sx] at c3
    refine zI<|zO O<|qB O ⟨by omega,by omega⟩<|Y O<|W ?_
    refine ⟨⟨k+1,m⟩,⟨by omega,by rw [zNl hx c3];exact hJ⟩,(by show e.Args.length-(k+1)<e.Args.length-k;omega),Weak.regs ⟨U,U,U,U,U,U,T⟩⟩
  ·try simp only [sx] at c2
   refine qE ?_
   repeat (first|refine zEc ?_|refine zDd ?_)
   refine zLd<|fin0 ?_
   rw [zIp (d:=d) (e:=e) (k:=k) (by omega)] at hJ
   exact ⟨O,hJ⟩
theorem visit_con (d:Df) (h1:d.Dims.length<=1000000) (h2:d.Red.length<=1000000) (y:C) (J:List Ex->List E->Prop) (Tx:List Ex) (hy:∀pre x suf m,Tx=pre++x::suf->J pre m->FnCon cfg y [vE x] m fun r m'=>r=.tup []/\J (pre++[x]) m') (e:Ex):e.wt<=2000000->∀(pre suf:List Ex) (μ:List E),Tx=pre++occE d e++suf->J pre μ->Con cfg 71 [vDf d,vE e,.c y] μ fun r μ'=>r=.tup []/\J (pre++occE d e) μ':=by
  induction e using Ex.ind with
  |_ e ih=>exact fun he pre suf μ hT hJ=>visit_step d h1 h2 y J Tx hy e ih he pre suf μ hT hJ
theorem cse_classes_11 (c:Cl) (x:Ex) (a:List Ax) (hc:c.e.wt<=2000000) (hx:x.wt<=2000000) (hca:c.axes.length<=1000000) (ha:a.length<=4000000) (hs:∀y,y∈c.axes->y.Size.L.length<=5864062014805):
    Pur cfg 75 [vCl c,.c (.iptr x.cs),.c (.iptr [.sl 3 (a.map Ax.cells)])] (vB (hitC x a c)):=by
 refine zR Tryz.func75 O Tryz.ntmps75 Tryz.results75 O ?_
 intro z hz
 refine G O<|zS O O (qG O O) ?_
 rintro _ _ ⟨b1,rfl,rfl⟩
 refine Y O<|W<|G O<|zD O fd74_0<|zL qZ (J 0 O) O<|zL qZ zY O<|qK O ok76 (zPr c.e x (by omega) (by omega)) ⟨U,O,U,O,T⟩<|Y O<|rL0 O (fun g1_4=>zF O fd74_1 O) O<|rL1 10 O (fun g1_4=>zK O kQ O (J 0 O) O) O<|rL0 O (fun g1_4=>zK O kQ O zY O) O<|rLz [(11,_),(12,_)] O gv1 ⟨O,O,O,O,T⟩ (fun g1_4=>qH O ok77 (zMa c.axes a (by omega) (by omega) hs) ⟨U,O,U,O,T⟩) O<|kD O (fun h=>h)<|Y O<|W<|zJ<|zP O ?_
 exact O
theorem cse_index_cl (l:List Cl) (c:C) (p:Cl->Bool) (hl:l.length<=4294967296) (hc:∀x,x∈l->FnPur cfg c [vCl x] (vB (p x))):
    Pur cfg 74 [.c (.sl 16 (l.map Cl.cells)),.c c] (vI (idxOf p l)):=by
 refine zR Tryz.func74 O Tryz.ntmps74 Tryz.results74 O ?_
 intro z hz
 refine G O<|Y O<|W<|zG<|G O<|Y O<|zV O el71<|Y O<|W<|zN<|zU ⟨[(9,.c _),(1,.c _),(7,.c _),(8,.c _)],[]⟩ (Weak.mk [] ⟨U,U,U,U,T⟩ O)<|qA 1 0 O O (Nat) (fun k=>[(9,vI k)]) (fun k=>[]) (fun k=>k<=l.length/\((l.take k).any p=false)) (fun k=>l.length-k) ⟨0,⟨by omega,O⟩,Weak.mk [] ⟨U,U,U,U,T⟩ O⟩ ?_
 rintro k ⟨hk,hp⟩
 refine G O<|qW O<|W<|zG<|zE O (fun c1=>?_) (fun c1=>?_)
 ·try simp only [sx] at c1
  obtain ⟨x,hx⟩:=qP l k (by omega)
  refine zI<|zG<|zN<|G O<|Y O<|zZ O el71 (by omega) (getm hx)<|zL agg74 zY O<|zS O O (qD [none,none,none,none,none,none,none,none,none,none,some 2,some 4,some 13,some 3,none,none] O zr74 O) ?_
  rintro _ _ ⟨b1,rfl,rfl⟩
  refine Y O<|N 0 sz74 O<|W<|G O<|Y O<|zL agg74 (J 0 O) O<|zX O (kS O O (hc _ (zW hx)) ⟨U,O,T⟩)<|W<|zE O (fun c2=>?_) (fun c2=>?_)
  ·try simp only [sx] at c2
   refine G O<|Y O<|Y O<|W<|zJ<|zP O ?_
   rw [zCx hx c2 hp]
  ·try simp only [sx] at c2
   refine zI<|zO O<|qB O ⟨by omega,by omega⟩<|Y O<|W ?_
   refine ⟨k+1,⟨by omega,zHd hx hp c2⟩,(by omega),Weak.mk [false] ⟨U,U,U,U,T⟩ O⟩
 ·try simp only [sx] at c1
  refine qE<|G O<|Y O<|W<|zJ<|zP O ?_
  rw [zBm (by rw [qS (by omega)] at hp;exact hp)]
theorem cse_classes_1 (bo:Nat) (sv:Value) (L:List Cl) (d:Df) (k:Nat) (x:Ex) (hx:x.wt<=2000000) (h1:d.Dims.length<=1000000) (h2:d.Red.length<=1000000) (hL:clN L<=1000000) (hLw:∀c,c∈L->1<=c.n/\c.e.wt<=2000000/\c.axes.length<=1000000/\∀a,a∈c.axes->a.Size.L.length<=5864062014805):
    Con cfg 72 [vE x,.c (.iptr d.cells),.c (.lit (.pointer (some ⟨bo,0,none⟩))),.c (.iptr [cI k])] [E.vec sv 74 16 ((L).map Cl.cells),E.row bo 71 [.lit sv]] fun r μ'=>r=.tup []/\∃sv',μ'=[E.vec sv' 74 16 ((putC L k x (axsN d x)).map Cl.cells),E.row bo 71 [.lit sv']]:=by
 refine zR Tryz.func72 O Tryz.ntmps72 Tryz.results72 O ?_
 intro z hz
 have hal:=axsN_len d x
 have hLl:=clN_len (fun c hc=>(hLw c hc).1)
 refine G O<|zS O O (qG O O) ?_
 rintro _ _ ⟨b1,rfl,rfl⟩
 refine W<|G O<|zL wM zY O<|zL qZ (J 0 O) O<|qK O ok73 (OwnR.pur (zLh d x hx h1 h2)) ⟨U,O,U,O,T⟩<|zS O O (qD [some 3] O zr61 O) ?_
 rintro _ _ ⟨b2,rfl,rfl⟩
 refine N 0 sz61 O<|W<|G O<|zH one71 (J 3 O) O<|qV _ (yC 1 O 4 _ PLe.ptr)<|qV _ (yC 0 O 5 _ PLe.ptr)<|zX O (zFd O O O O O)<|zX O (zAv 0 O ok74 O (cse_index_cl L _ (hitC x (axsN d x)) (by omega) (fun c hc=>FnPur.of_pur (first:=[]) (cap:=[.iptr x.cs,.iptr [.sl 3 ((axsN d x).map Ax.cells)]]) ok75 (cse_classes_11 c x (axsN d x) (hLw c hc).2.1 hx (hLw c hc).2.2.1 (by omega) (hLw c hc).2.2.2))) O ⟨.inl ⟨O,O⟩,.inr ⟨U,O⟩,T⟩)<|Y O<|W<|zG<|G O<|Y O<|qW O<|W<|zE O (fun c1=>?_) (fun c1=>?_)
 ·try simp only [sx] at c1
  have hno:=idx_lt c1
  refine G O<|zH one71 (J 1 O) O<|zX O (zFc 0 O el71 O O)<|Y O<|W<|zO O<|zH one71 (J 1 O) O<|zL qZ zY O<|zH kQ zY O<|zH one3 zY O<|yW O zr74 pl74<|qX O el71 zr74<|zS O O (qO 0 O el71 O O O (by simp only [List.length_map,List.length_append,List.length_cons,List.length_nil,List.length_take,List.length_drop];omega) (by simp only [List.length_map,List.length_append,List.length_cons,List.length_nil,List.length_take,List.length_drop];omega)) ?_
  rintro _ _ ⟨sv3,rfl,rfl⟩
  refine N 1 sz71 O<|W<|zO O<|zH one71 (J 1 O) O<|Y O<|zX O (qR 0 O el71 O O O (by omega) (by simp))<|zX O (yK O zPj O)<|zH one3 (kN 0 O (get_lst _ _)) O<|qB O ⟨by omega,by omega⟩<|zX O (qR 0 O el71 O O O (by omega) (by simp))<|zX O (yK O zPj O)<|zCd O O (kU O sz3 O O O (zLq 0 O (get_lst _ _) O))<|W ?_
  repeat (first|refine zEc ?_|refine zDd ?_)
  refine zLd<|fin0 ?_
  exact ⟨O,_,congrArg (fun r=>[E.vec _ _ 16 r,E.row bo _ [.lit _]]) ((set_lst (L.map Cl.cells) _ _).trans (zOf (f:=Cl.cells) hno).symm)⟩
 ·try simp only [sx] at c1
  obtain ⟨i,c,hi,hci,hhit,hbef⟩:=idx_le (show 0<=idxOf (hitC x (axsN d x)) L by omega)
  rw [hi]
  have hiL:=zEz hci
  have hcn:=clN_mem (zW hci)
  refine zI<|zO O<|zH one71 (J 1 O) O<|Y O<|zX O (qR 0 O el71 O O O (by omega) (by simp;omega))<|zX O (yK O zPj O)<|zH one3 (kN 0 O (getm hci)) O<|qB O ⟨by omega,by omega⟩<|zX O (qR 0 O el71 O O O (by omega) (by simp;omega))<|zX O (yK O zPj O)<|zCd O O (kU O sz3 O O O (zLq 0 O (getm hci) O))<|W ?_
  repeat (first|refine zEc ?_|refine zDd ?_)
  refine zLd<|fin0 ?_
  exact ⟨O,_,congrArg (fun r=>[E.vec _ _ 16 r,E.row bo _ [.lit _]]) (put_at_map (f:=Cl.cells) (k:=k) hci hhit hbef).symm⟩
theorem zPy (p:Pg) (j:Nat) (hX:p.Xt j) (hj:j<=64):
    OwnR cfg 31 [vPg p] 74 16 ((clsP p.Defs).map Cl.cells):=by
 refine zR Tryz.func31 O Tryz.ntmps31 Tryz.results31 O ?_
 intro z hz
 have hdl:=hX.defs
 refine G O<|zS O O (qG O O) ?_
 rintro _ _ ⟨b1,rfl,rfl⟩
 refine zX O (yA 16 O O)<|W<|G O<|zS O O (yB O zr71) ?_
 rintro _ _ ⟨b2,rfl,rfl⟩
 refine qV _ (yH 74 16)<|W<|zG<|G O<|zD O yZ<|zH wL (J 2 O) O<|zV O el25<|Y O<|W<|zN<|zU ⟨[(9,.c _),(3,.c _),(7,.c _),(8,.c _)],[_,_]⟩ (Weak.mk [true,true,false] ⟨U,U,U,U,T⟩ O)<|qA 1 2 O O (Nat×Value×List Cl) (fun ⟨k,sv,L⟩=>[(9,vI k)]) (fun ⟨k,sv,L⟩=>[E.vec sv 74 16 (L.map Cl.cells),E.row b2 71 [.lit sv]]) (fun ⟨k,sv,L⟩=>k<=p.Defs.length/\(clsP p.Defs=clsG (p.Defs.drop k) k L)/\(clN L<=1500*k)/\(∀c,c∈L->c.Ok p.Defs)) (fun ⟨k,sv,L⟩=>p.Defs.length-k) ⟨⟨0,(.slice none 0 0),[]⟩,⟨by omega,O,Nat.le_refl 0,fun c hc=>by cases hc⟩,Weak.mk [true,true] ⟨U,U,U,U,T⟩ O⟩ ?_
 rintro ⟨k,sv,L⟩ ⟨hk,hp,hL,hLo⟩
 show AWP _ _ _ _ _ ⟨[(9,vI k)]++_,[E.vec sv 74 16 (L.map Cl.cells),E.row b2 71 [.lit sv]]++_⟩
 refine G O<|qW O<|W<|zG<|zE O (fun c1=>?_) (fun c1=>?_)
 ·try simp only [sx] at c1
  obtain ⟨d,hd⟩:=qP p.Defs k (by omega)
  obtain ⟨h1,h2,hbw⟩:=cl_df hX hj hd
  refine zI<|zG<|zN<|G O<|Y O<|zZ O el25 (by omega) (getm hd)<|zL wM zY O<|zS O O (yB O zr3) ?_
  rintro _ _ ⟨b3,rfl,rfl⟩
  refine zS O O (qD [none,none,none,none,none,none,some 3,some 3,none,none,none,none,none,none,none,none,none,none,none,some 2,some 4,some 13] O zr63 O) ?_
  rintro _ _ ⟨b4,rfl,rfl⟩
  refine N 1 sz3 O<|N 0 sz63 O<|W<|zO O<|zL wM (J 0 O) O<|zD O zBx<|zL qZ (J 0 O) O<|qV _ (yC 1 O 4 _ PLe.ptr)<|qV _ (yC 0 O 5 _ PLe.ptr)<|zX O (zFd O O O O O)<|zS O O (zCf O ok71 (Con.frame (visit_con d h1 h2 _ (fun pre m=>∃sv,m=[E.vec sv 74 16 ((addX d k L pre).map Cl.cells),E.row b2 71 [.lit sv]]) (occE d d.Body) (fun pre x suf m hT hm=>by obtain ⟨sv,rfl⟩:=hm;refine (FnCon.of_con (first:=[]) (cap:=[.iptr d.cells,.lit (.pointer (some ⟨b2,0,none⟩)),.iptr [cI k]]) ok72 (cse_classes_1 b2 sv (addX d k L pre) d k x (cl_wt hX hj hd hT) h1 h2 (cl_len hX hj hd hT hL) (cl_all hX hj hd hT hLo))).mono ?_;rintro r μ ⟨rfl,sv2,rfl⟩;exact ⟨rfl,sv2,by rw [addX_one]⟩) d.Body (by omega) [] [] _ (by simp) ⟨_,O⟩) _) ⟨U,O,U,O,U,O,T⟩) ?_
  rintro _ _ ⟨_,⟨rfl,sv5,rfl⟩,rfl⟩
  refine W<|zO O<|qB O ⟨by omega,by omega⟩<|Y O<|W ?_
  refine ⟨⟨k+1,sv5,addX d k L (occE d d.Body)⟩,⟨by omega,clsG_next hd hp,cl_next hX hd hL,cl_okn hd hLo⟩,(by show p.Defs.length-(k+1)<p.Defs.length-k;omega),Weak.mk [true,true] ⟨U,U,U,U,T⟩ O⟩
 ·try simp only [sx] at c1
  have hR:=clsG_end hp (by omega)
  rw [show clsP p.Defs=L from hR]
  refine qE<|G O<|zH one71 (J 1 O) O<|Y O<|W<|zU _ (Weak.mem [true,false] O)<|zJ<|zP O ?_
  exact ⟨_,O,O⟩
theorem zHs (p:Pg) (j:Nat) (hX:p.Xt j) (hj:j<=64):
    OwnR cfg 10 [vPg p] 46 14 ((cndP p).map Cl.dcells):=by
 refine zR Tryz.func10 O Tryz.ntmps10 Tryz.results10 O ?_
 intro z hz
 have hP:=hX.ok hj
 have hcl:=cls_len hX hj
 refine G O<|zS O O (qG O O) ?_
 rintro _ _ ⟨b1,rfl,rfl⟩
 refine zX O (yA 14 O O)<|W<|zG<|G O<|zL wC (J 0 O) O<|qK O ok30 (zCs p hP) ⟨U,O,T⟩<|zX O (yE O O)<|zX O (yP O O O)<|zX O (yP O O O)<|Y O<|Y O<|W<|G O<|Y O<|yR O<|W<|zE O (fun c1=>?_) (fun c1=>?_)
 ·try simp only [sx] at c1
  refine G O<|Y O<|qV _ (yH 46 14)<|W<|zU _ (Weak.mem [true,false] O)<|zJ<|zP O ?_
  exact ⟨_,O,by rw [cndP_no c1];rfl⟩
 ·try simp only [sx] at c1
  refine zI<|G O<|Y O<|qV _ (yH 46 14)<|W<|zG<|G O<|zL wC (J 1 O) O<|qK O ok31 (OwnR.pur (zPy p j hX hj)) ⟨U,O,T⟩<|zV O el71<|Y O<|W<|zN<|zU ⟨[(18,.c _),(5,.c _),(16,.c _),(17,.c _)],[_]⟩ (Weak.mk [true,false] ⟨U,U,U,U,T⟩ O)<|qA 2 1 O O (Nat×Value) (fun ⟨k,sv⟩=>[(18,vI k),(5,.c (.lit sv))]) (fun ⟨k,sv⟩=>[E.vec sv 46 14 ((repF ((clsP p.Defs).take k)).map Cl.dcells)]) (fun ⟨k,sv⟩=>k<=(clsP p.Defs).length) (fun ⟨k,sv⟩=>(clsP p.Defs).length-k) ⟨⟨0,(.slice none 0 0)⟩,(by omega),Weak.mk [true] ⟨U,U,U,U,T⟩ O⟩ ?_
  rintro ⟨k,sv⟩ hk
  show AWP _ _ _ _ _ ⟨[(18,vI k),(5,.c (.lit sv))]++_,[E.vec sv 46 14 ((repF ((clsP p.Defs).take k)).map Cl.dcells)]++_⟩
  refine G O<|qW O<|W<|zG<|zE O (fun c2=>?_) (fun c2=>?_)
  ·try simp only [sx] at c2
   obtain ⟨c,hc⟩:=qP (clsP p.Defs) k (by omega)
   have hfl:=repF_len ((clsP p.Defs).take k)
   rw [List.length_take] at hfl
   refine zI<|zG<|zN<|G O<|zZ O el71 (by omega) (getm hc)<|zL agg74 zY O<|zS O O (qD [none,none,none,none,none,none,none,none,none,none,some 2,some 4,some 13,some 3,none,none] O zr74 O) ?_
   rintro _ _ ⟨b4,rfl,rfl⟩
   refine N 0 sz74 O<|W<|G O<|zD O zPj<|zH one3 (J 0 O) O<|zX O (kX O O O)<|W<|zE O (fun c3=>?_) (fun c3=>?_)
   ·try simp only [sx] at c3
    refine qY 8 mixed (by kernel_rfl) O O<|zM O O (zQ O O)<|zM O O (zF O fd74_0 O)<|zM O O (zT O qZ O (J 0 O) O)<|zM O O (qH O ok32 (expr_Copy c.e (by have:=(cls_bd hX hj c (zW hc)).2.1;omega)) ⟨U,O,T⟩)<|zM O O (zF O zPj O)<|zM O O (zK O one3 O (J 0 O) O)<|zM O O (kV O zr46 pl46 O)<|zM O O (wN O el30 zr46 O O O O)<|yT<|zS O O (qO 1 O el30 O O O (by simp only [List.length_map,List.length_append,List.length_cons,List.length_nil,List.length_take,List.length_drop];omega) (by simp only [List.length_map,List.length_append,List.length_cons,List.length_nil,List.length_take,List.length_drop];omega)) ?_
    rintro _ _ ⟨sv5,rfl,rfl⟩
    refine Y O<|W<|zO O<|qB O ⟨by omega,by omega⟩<|Y O<|W ?_
    refine ⟨⟨k+1,sv5⟩,(by omega),(by show (clsP p.Defs).length-(k+1)<(clsP p.Defs).length-k;omega),Weak.mk [false,true] ⟨U,U,U,U,T⟩ (by exact yX (by rw [repF_yes hc c3,List.map_append];rfl))⟩
   ·try simp only [sx] at c3
    refine zI<|zO O<|qB O ⟨by omega,by omega⟩<|Y O<|W ?_
    refine ⟨⟨k+1,sv⟩,(by omega),(by show (clsP p.Defs).length-(k+1)<(clsP p.Defs).length-k;omega),Weak.mk [false,true] ⟨U,U,U,U,T⟩ (by exact yX (by rw [repF_no hc c3]))⟩
  ·try simp only [sx] at c2
   rw [qS (l:=clsP p.Defs) (k:=k) (by omega)]
   refine qE<|G O<|Y O<|Y O<|W<|zJ<|zP O ?_
   exact ⟨_,O,by rw [cndP_ok c1];rfl⟩
theorem r23_axes (d:Df) (e:Ex) (he:e.wt<=2000000) (h1:d.Dims.length<=1000000) (h2:d.Red.length<=1000000):
    OwnR cfg 153 [vDf d,vE e] 111 3 ((axsN d e).map Ax.cells):=by
 refine zR Tryz.func153 O Tryz.ntmps153 Tryz.results153 O ?_
 intro z hz
 have hil:=indexW_len e
 refine G O<|zS O O (qG O O) ?_
 rintro _ _ ⟨b1,rfl,rfl⟩
 refine zS O O (qG O O) ?_
 rintro _ _ ⟨b2,rfl,rfl⟩
 refine zX O (yA 3 O O)<|W<|G O<|zL qZ (J 0 O) O<|qK O ok204 (zMh e (by omega)) ⟨U,O,T⟩<|Y O<|W<|G O<|Y O<|qV _ (yH 111 3)<|W<|zG<|G O<|Y O<|W<|zN<|zU ⟨[(7,.c _),(6,.c _),(2,.c _),(5,.c _)],[_,_]⟩ (Weak.mk [true,false,true] ⟨U,U,U,U,T⟩ O)<|qA 2 1 O O (Nat×Value) (fun ⟨k,sv⟩=>[(7,vI k),(6,.c (.lit sv))]) (fun ⟨k,sv⟩=>[E.vec sv 111 3 ((axG (d.Dims.take k) e).map Ax.cells)]) (fun ⟨k,sv⟩=>k<=d.Dims.length) (fun ⟨k,sv⟩=>d.Dims.length-k) ⟨⟨0,(.slice none 0 0)⟩,(by omega),Weak.mk [true,true] ⟨U,U,U,U,T⟩ O⟩ ?_
 rintro ⟨k,sv⟩ hk
 show AWP _ _ _ _ _ ⟨[(7,vI k),(6,.c (.lit sv))]++_,[E.vec sv 111 3 ((axG (d.Dims.take k) e).map Ax.cells)]++_⟩
 refine zG<|G O<|Y O<|zD O zAl<|zH kQ (J 1 O) O<|zV O D<|qW O<|W<|zE O (fun c1=>?_) (fun c1=>?_)
 ·try simp only [sx] at c1
  obtain ⟨x,hx⟩:=qP d.Dims k (by omega)
  have hg1:=axG_len (d.Dims.take k) e
  rw [List.length_take] at hg1
  refine zI<|zG<|zN<|G O<|Y O<|zD O zAl<|zH kQ (J 1 O) O<|Y O<|zZ O D (by omega) (getm hx)<|qN O zAj<|zH one9 zY O<|qK O ok21 (zFg (indexW e) x.Name (by omega)) ⟨U,O,U,O,T⟩<|W<|zE O (fun c2=>?_) (fun c2=>?_)
  ·try simp only [sx] at c2
   refine zO O<|Y O<|zD O zAl<|zH kQ (J 1 O) O<|Y O<|zZ O D (by omega) (getm hx)<|zL zEr zY O<|qX O D zHg<|zS O O (qO 0 O D O O O (by simp only [List.length_map,List.length_append,List.length_cons,List.length_nil,List.length_take,List.length_drop];omega) (by simp only [List.length_map,List.length_append,List.length_cons,List.length_nil,List.length_take,List.length_drop];omega)) ?_
   rintro _ _ ⟨sv4,rfl,rfl⟩
   refine Y O<|W<|zO O<|Y O<|qB O ⟨by omega,by omega⟩<|Y O<|W ?_
   refine ⟨⟨k+1,sv4⟩,(by omega),(by show d.Dims.length-(k+1)<d.Dims.length-k;omega),Weak.mk [true,true] ⟨U,U,U,U,T⟩ (by exact yX (by rw [axG_yes hx c2,List.map_append];rfl))⟩
  ·try simp only [sx] at c2
   have c2:hasB (indexW e) x.Name=false:=by simpa using c2
   refine zI<|zO O<|Y O<|qB O ⟨by omega,by omega⟩<|Y O<|W ?_
   refine ⟨⟨k+1,sv⟩,(by omega),(by show d.Dims.length-(k+1)<d.Dims.length-k;omega),Weak.mk [true,true] ⟨U,U,U,U,T⟩ (by exact yX (by rw [axG_no hx c2]))⟩
 ·try simp only [sx] at c1
  rw [qS (l:=d.Dims) (k:=k) (by omega)]
  have hg1:=axG_len d.Dims e
  refine qE<|zG<|G O<|Y O<|W<|zN<|zU ⟨[(8,.c _),(6,.c _),(2,.c _),(5,.c _)],[_,_]⟩ (Weak.mk [true,true] ⟨U,U,U,U,T⟩ O)<|qA 2 1 O O (Nat×Value) (fun ⟨i,sw⟩=>[(8,vI i),(6,.c (.lit sw))]) (fun ⟨i,sw⟩=>[E.vec sw 111 3 ((axG d.Dims e++axG (d.Red.take i) e).map Ax.cells)]) (fun ⟨i,sw⟩=>i<=d.Red.length) (fun ⟨i,sw⟩=>d.Red.length-i) ⟨⟨0,sv⟩,(by omega),Weak.mk [true,true] ⟨U,U,U,U,T⟩ (by exact yX (by rw [List.take_zero,show axG [] e=[] from rfl,List.append_nil]))⟩ ?_
  rintro ⟨i,sw⟩ hi
  show AWP _ _ _ _ _ ⟨[(8,vI i),(6,.c (.lit sw))]++_,[E.vec sw 111 3 ((axG d.Dims e++axG (d.Red.take i) e).map Ax.cells)]++_⟩
  refine zG<|G O<|Y O<|zD O zAc<|zH kQ (J 1 O) O<|zV O D<|qW O<|W<|zE O (fun c3=>?_) (fun c3=>?_)
  ·try simp only [sx] at c3
   obtain ⟨y,hy⟩:=qP d.Red i (by omega)
   have hg2:=axG_len (d.Red.take i) e
   rw [List.length_take] at hg2
   refine zI<|zG<|zN<|G O<|Y O<|zD O zAc<|zH kQ (J 1 O) O<|Y O<|zZ O D (by omega) (getm hy)<|qN O zAj<|zH one9 zY O<|qK O ok21 (zFg (indexW e) y.Name (by omega)) ⟨U,O,U,O,T⟩<|W<|zE O (fun c4=>?_) (fun c4=>?_)
   ·try simp only [sx] at c4
    refine zO O<|Y O<|zD O zAc<|zH kQ (J 1 O) O<|Y O<|zZ O D (by omega) (getm hy)<|zL zEr zY O<|qX O D zHg<|zS O O (qO 0 O D O O O (by simp only [List.length_map,List.length_append,List.length_cons,List.length_nil,List.length_take,List.length_drop];omega) (by simp only [List.length_map,List.length_append,List.length_cons,List.length_nil,List.length_take,List.length_drop];omega)) ?_
    rintro _ _ ⟨sv5,rfl,rfl⟩
    refine Y O<|W<|zO O<|Y O<|qB O ⟨by omega,by omega⟩<|Y O<|W ?_
    refine ⟨⟨i+1,sv5⟩,(by omega),(by show d.Red.length-(i+1)<d.Red.length-i;omega),Weak.mk [true,true] ⟨U,U,U,U,T⟩ (by exact yX (by rw [axG_yes hy c4,←List.append_assoc,List.map_append (l₁:=axG d.Dims e++axG (d.Red.take i) e)];rfl))⟩
   ·try simp only [sx] at c4
    have c4:hasB (indexW e) y.Name=false:=by simpa using c4
    refine zI<|zO O<|Y O<|qB O ⟨by omega,by omega⟩<|Y O<|W ?_
    refine ⟨⟨i+1,sw⟩,(by omega),(by show d.Red.length-(i+1)<d.Red.length-i;omega),Weak.mk [true,true] ⟨U,U,U,U,T⟩ (by exact yX (by rw [axG_no hy c4]))⟩
  ·try simp only [sx] at c3
   rw [qS (l:=d.Red) (k:=i) (by omega),axG_two]
   refine qE<|G O<|Y O<|Y O<|W<|zU _ (Weak.mem [true,false] O)<|zJ<|zP O ?_
   exact ⟨_,O,O⟩
theorem r23_counted (d:Df) (e:Ex) (he:e.wt<=2000000) (h1:d.Dims.length<=1000000) (h2:d.Red.length<=1000000):
    Pur cfg 152 [vDf d,vE e] (vB (eligR d e)):=by
 refine zR Tryz.func152 O Tryz.ntmps152 Tryz.results152 O ?_
 intro z hz
 refine G O<|zS O O (qG O O) ?_
 rintro _ _ ⟨b1,rfl,rfl⟩
 refine zS O O (qG O O) ?_
 rintro _ _ ⟨b2,rfl,rfl⟩
 refine Y O<|W<|zG<|G O<|zD O yY<|zH one3 (J 0 O) O<|yG O<|Y O<|rL0 O (fun g1_3=>zF O yY O) O<|rL1 9 O (fun g1_3=>zK O one3 O (J 0 O) O) O<|rL1 10 O (fun g1_3=>yL O O O) O<|r_or O (fun h=>(lzf h))<|Y O<|rL0 O (fun g1_8=>zF O yY O) O<|rL1 14 O (fun g1_8=>zK O one3 O (J 0 O) O) O<|rL1 15 O (fun g1_8=>yL O O O) O<|r_or O (fun h=>(lzf h))<|Y O<|rL0 O (fun g1_13=>zT O qZ O (J 0 O) O) O<|rL1 19 O (fun g1_13=>qH O ok161 (zAa e) ⟨U,O,T⟩) O<|r_or O (fun h=>(lzf h))<|W<|zE O (fun c1=>?_) (fun c1=>?_)
 ·refine G O<|Y O<|W<|zJ<|zP O ?_
  exact congrArg vB (eligR_no c1).symm
 ·refine zI<|G O<|zL wM (J 1 O) O<|zL qZ (J 0 O) O<|qK O ok153 (OwnR.pur (r23_axes d e he h1 h2)) ⟨U,O,U,O,T⟩<|zV O D<|zX O (kO O O O)<|Y O<|W<|zJ<|zP O ?_
  exact congrArg vB ((eligR_yes c1).trans (decide_eq_decide.2 (by omega))).symm
end Go.W
