/-
  Walks: what functions of the program compute. Printed by wip/gen/mk2.py.
  Conditions: none.
-/
import Derived.Test.YtkijgodlhljgdaaGreatDoorQN
import Derived.Test.YtkijgodlhljgdaaGreatDoorVG
import Derived.Test.YtkijgodlhljgdaaGreatDoorFwd3
import Derived.Test.YtkijgodlhljgdaaGreatDoorEngZ
set_option linter.unusedSimpArgs false
set_option linter.unusedVariables false
set_option maxRecDepth 10000
namespace Go.W
open Go Go.Eng Go.Proofs Go.L41 Go.Br
attribute [local irreducible] AWP RWP TD finQ
theorem opE_of (o:Int) (l:List Ex):V.agg [cI o,cS (bs []),cI 0,cI 0,cI 0,cI 0,cI 0,cI 0,cI 0,cI 0,.sl 2 [],.sl 4 [],.sl 13 (l.map Ex.cs)]=vE (opE o l):=by rw [mapCs];rfl
theorem exGq {l:List Ex} {k:Nat} {x:Ex} (h:k<l.length) (h0:l.getD k zEx=x):l[k]? =some x:=by
  rw [←h0,List.getD_eq_getElem?_getD,List.getElem?_eq_getElem h];rfl
theorem vArgs_cut {e:Ex} (h:e.Op=11):V.c (.sl 13 ((e.Args.drop 1).map Ex.cells))=vEs (vArgs e.Op e.Args):=by
  unfold vArgs;rw [if_pos h,List.drop_one]
theorem losE_yes {fr:Ex->Bool} {o_:List ByteArray} {e:Ex} (h:(decide (e.Op=12)&& !decide (e.Ty.Kind=1)&&fr (e.Args.getD 0 zEx)&&rdsE o_ (e.Args.getD 0 zEx))=true):losE fr o_ e=true:=by rw [losE_eq,h];rfl
theorem zKg {fr:Ex->Bool} {o_:List ByteArray} {e:Ex} (h:(decide (e.Op=12)&& !decide (e.Ty.Kind=1)&&fr (e.Args.getD 0 zEx)&&rdsE o_ (e.Args.getD 0 zEx))=false):losE fr o_ e=(vArgs e.Op e.Args).any (losE fr o_):=by rw [losE_eq,h];rfl
theorem any_at {α:Type} {p:α->Bool} {l:List α} {k:Nat} {x:α} (h:l[k]? =some x) (hx:p x=true):l.any p=true:=List.any_eq_true.2 ⟨x,List.mem_of_getElem? h,hx⟩
theorem kP {n:En} {o_:List ByteArray} {e:Ex} (h:FrK n e) (hw:e.wt<=1500):(tanE (isFr n) o_ e).wt<=9000000:=Nat.le_trans (tan_wt (fun a ha=>zIw ha) o_ e h) (sq_bd hw)
theorem ok14:callOk Tryz.prog 14=true:=by kernel_rfl
theorem ok28:callOk Tryz.prog 28=true:=by kernel_rfl
theorem ok29:callOk Tryz.prog 29=true:=by kernel_rfl
theorem ok30:callOk Tryz.prog 30=true:=by kernel_rfl
theorem ok70:callOk Tryz.prog 70=true:=by kernel_rfl
theorem ok71:callOk Tryz.prog 71=true:=by kernel_rfl
theorem ok72:callOk Tryz.prog 72=true:=by kernel_rfl
theorem ok73:callOk Tryz.prog 73=true:=by kernel_rfl
theorem ok74:callOk Tryz.prog 74=true:=by kernel_rfl
theorem ok75:callOk Tryz.prog 75=true:=by kernel_rfl
theorem ok76:callOk Tryz.prog 76=true:=by kernel_rfl
theorem ok77:callOk Tryz.prog 77=true:=by kernel_rfl
theorem ok78:callOk Tryz.prog 78=true:=by kernel_rfl
theorem ok79:callOk Tryz.prog 79=true:=by kernel_rfl
theorem ok80:callOk Tryz.prog 80=true:=by kernel_rfl
theorem ok155:callOk Tryz.prog 155=true:=by kernel_rfl
theorem zAq:oneT Tryz.prog 74=true:=by kernel_rfl
theorem sz9:(Tryz.prog.info? 9).map (·.size)=some 1:=by kernel_rfl
theorem sz74:(Tryz.prog.info? 74).map (·.size)=some 1:=by kernel_rfl
theorem zr74:zeroT Tryz.prog 74=some [Value.nilFunc]:=by kernel_rfl
theorem zAa (s:ByteArray) (hs:s.size<=1000000):
    Pur cfg 14 [vS s] (vS (dNm s)):=by
 refine zT Tryz.func14 O Tryz.ntmps14 Tryz.results14 O ?_
 intro z hz
 refine B O<|F O<|H<|B O<|F O<|zX O (det_sadd O O O (by have h9:(ByteArray.mk #[100,95]).size=2:=(by decide);omega))<|F O<|H<|U<|M O ?_
 exact O
theorem zBd  :
    Pur cfg 74 [] (vE zeroX):=by
 refine zT Tryz.func74 O Tryz.ntmps74 Tryz.results74 O ?_
 intro z hz
 refine B O<|zV O O (qG [none,none,none,none,none,none,none,none,none,none,some 2,some 4,some 13] O u O) ?_
 rintro _ _ ⟨b1,rfl,rfl⟩
 refine H<|B O<|yV O zr31 pl31<|yV O zr29 pl29<|zX O (yA [none,none,none,none,none,none,none,none,none,none,some 2,some 4,some 13] O u pl38 O O)<|N 0 D O<|H<|U<|j (zR Q O (K 0 O) O) ?_
 exact O
theorem kT (o:Int) (l:List Ex):
    Pur cfg 79 [vI o,.c (.sl 13 (l.map Ex.cs))] (vE (opE o l)):=by
 refine zT Tryz.func79 O Tryz.ntmps79 Tryz.results79 O ?_
 intro z hz
 refine B O<|zV O O (qG [none,none,none,none,none,none,none,none,none,none,some 2,some 4,some 13] O u O) ?_
 rintro _ _ ⟨b1,rfl,rfl⟩
 refine H<|B O<|F O<|F O<|zX O (yA [none,none,none,none,none,none,none,none,none,none,some 2,some 4,none] O u pl38 O O)<|N 0 D O<|H<|U<|j (zR Q O (K 0 O) O) ?_
 exact opE_of o l
theorem kZ (e:Ex) (he:e.wt<=4294967296):
    Pur cfg 78 [vE e] (vB (decide (e=zeroX))):=by
 refine zT Tryz.func78 O Tryz.ntmps78 Tryz.results78 O ?_
 intro z hz
 refine B O<|zV O O (qI O O) ?_
 rintro _ _ ⟨b1,rfl,rfl⟩
 refine F O<|H<|W<|qP 4 mixed (by kernel_rfl) O O<|Y O O (zM O Q O (K 0 O) O)<|Y O O (qF O ok74 (zBd) T)<|Y O O (qF O ok155 (expr_Same e zeroX (by omega) (by rw [zDi];decide)) ⟨G,O,G,O,T⟩)<|Y O O (yW O O)<|yK<|H<|U<|M O ?_
 exact O
theorem zGq (p:Pg) (e:Ex) (hP:p.Ok) (he:e.wt<=1073741824):
    Pur cfg 70 [vPg p,vE e] (vB (isFr p.en e)):=by
 refine zT Tryz.func70 O Tryz.ntmps70 Tryz.results70 O ?_
 intro z hz
 have hil:=zKk e
 refine B O<|zV O O (qI O O) ?_
 rintro _ _ ⟨b1,rfl,rfl⟩
 refine zV O O (qI O O) ?_
 rintro _ _ ⟨b2,rfl,rfl⟩
 refine F O<|H<|W<|yF 10 1 [⟨0,.q [2]⟩,⟨1,.q [1]⟩,⟨2,.q []⟩,⟨3,.q [1]⟩,⟨4,.q []⟩,⟨5,.q []⟩,⟨6,.q []⟩,⟨7,.q []⟩,⟨8,.e 0 []⟩,⟨9,.e 0 []⟩] mixed (by kernel_rfl) (by kernel_rfl) O O O<|L O<|L O<|L O<|L O<|L O<|L O<|L O<|L O<|L O<|L O<|wM<|v O (by decide) O O (zM O kK O (K 0 O) O)<|v O (by decide) O O (zM O Q O (K 0 O) O)<|v O (by decide) O O (qF O ok28 (OwnR.pur (zDg e (by omega))) ⟨G,O,T⟩)<|v O (by decide) O O (zM O Q O (K 0 O) O)<|v O (by decide) O O (qF O ok27 (zBy p (indexT e) e hP (by omega) (by omega)) ⟨G,O,G,O,G,O,T⟩)<|v O (by decide) O O (qU O O)<|v O (by decide) O O (yI O O O)<|v O (by decide) O O (yO O O O)<|sq_op O O (by decide) O O (qX O zr31) ?_
 rintro _ _ ⟨b3,rfl,rfl⟩
 refine ⟨_,O,?_⟩
 refine zIm O O (by decide) O O (kX O sz31 O O O (zDz 0 O O)) ?_
 rintro _ _ ⟨rfl,rfl⟩
 refine ⟨_,O,?_⟩
 refine wL O<|F O<|H<|B O<|F O<|n O<|F O<|w O (fun g2_2=>zE O zAl O) O<|R 18 O (fun g2_2=>zG O P O (K 0 O) O) O<|R 19 O (fun g2_2=>yG O O O) O<|yY O (fun h=>h)<|F O<|H<|U<|M O ?_
 exact O
theorem fwd_sum (o:Int) (a b:Ex) (ha:a.wt<=4294967296) (hb:b.wt<=4294967296):
    Pur cfg 75 [vI o,vE a,vE b] (vE (sumT o a b)):=by
 refine zT Tryz.func75 O Tryz.ntmps75 Tryz.results75 O ?_
 intro z hz
 refine B O<|zV O O (qI O O) ?_
 rintro _ _ ⟨b1,rfl,rfl⟩
 refine zV O O (qI O O) ?_
 rintro _ _ ⟨b2,rfl,rfl⟩
 refine zV O O (qG [none,none,none,none,none,none,none,none,none,none,some 2,some 4,some 13] O u O) ?_
 rintro _ _ ⟨b3,rfl,rfl⟩
 refine H<|W<|zP<|B O<|zK Q (K 1 O) O<|qK O ok78 (kZ b (by omega)) ⟨G,O,T⟩<|F O<|H<|g O (fun c1=>?_) (fun c1=>?_)
 ·try simp only [I] at c1
  refine B O<|zK Q (K 2 O) O<|N 0 D O<|H<|U<|j (zR Q O (K 0 O) O) ?_
  exact (congrArg vE (show sumT o a b=a from if_pos c1)).symm
 ·try simp only [I] at c1
  refine B O<|zK Q (K 2 O) O<|qK O ok78 (kZ a (by omega)) ⟨G,O,T⟩<|F O<|w O (fun g3_2=>zQ O O) O<|R 15 O (fun g3_2=>yG O O O) O<|yY O (fun h=>h)<|F O<|H<|g O (fun c2=>?_) (fun c2=>?_)
  ·have c2:a=zeroX/\o=5:=by simpa using c2
   refine B O<|zK Q (K 1 O) O<|yB O A u<|qK O ok79 (kT 8 [b]) ⟨G,O,G,O,T⟩<|N 0 D O<|H<|U<|j (zR Q O (K 0 O) O) ?_
   exact (congrArg vE (show sumT o a b=opE 8 [b] from (if_neg c1).trans (if_pos c2))).symm
  ·have c2:¬(a=zeroX/\o=5):=by simpa using c2
   refine B O<|zK Q (K 2 O) O<|qK O ok78 (kZ a (by omega)) ⟨G,O,T⟩<|F O<|H<|g O (fun c3=>?_) (fun c3=>?_)
   ·try simp only [I] at c3
    refine B O<|zK Q (K 1 O) O<|N 0 D O<|H<|U<|j (zR Q O (K 0 O) O) ?_
    exact (congrArg vE (show sumT o a b=b from (if_neg c1).trans ((if_neg (by omega)).trans (if_pos c3)))).symm
   ·try simp only [I] at c3
    refine zJ<|B O<|F O<|zK Q (K 2 O) O<|zK Q (K 1 O) O<|yB O A u<|qK O ok79 (kT o [a,b]) ⟨G,O,G,O,T⟩<|N 0 D O<|H<|U<|j (zR Q O (K 0 O) O) ?_
    exact (congrArg vE (show sumT o a b=opE o [a,b] from (if_neg c1).trans ((if_neg (by omega)).trans (if_neg c3)))).symm
theorem zOa (a b x y:Ex) (hx:x.wt<=4294967296) (hy:y.wt<=4294967296):
    Pur cfg 76 [vE a,vE b,vE x,vE y] (vE (prodT a b x y)):=by
 refine zT Tryz.func76 O Tryz.ntmps76 Tryz.results76 O ?_
 intro z hz
 refine B O<|zV O O (qI O O) ?_
 rintro _ _ ⟨b1,rfl,rfl⟩
 refine zV O O (qI O O) ?_
 rintro _ _ ⟨b2,rfl,rfl⟩
 refine zV O O (qI O O) ?_
 rintro _ _ ⟨b3,rfl,rfl⟩
 refine zV O O (qI O O) ?_
 rintro _ _ ⟨b4,rfl,rfl⟩
 refine zV O O (qG [none,none,none,none,none,none,none,none,none,none,some 2,some 4,some 13] O u O) ?_
 rintro _ _ ⟨b5,rfl,rfl⟩
 refine H<|W<|zP<|B O<|zK Q (K 2 O) O<|qK O ok78 (kZ x (by omega)) ⟨G,O,T⟩<|F O<|w O (fun g1_2=>zM O Q O (K 1 O) O) O<|R 13 O (fun g1_2=>qF O ok78 (kZ y (by omega)) ⟨G,O,T⟩) O<|yY O (fun h=>h)<|F O<|H<|g O (fun c1=>?_) (fun c1=>?_)
 ·have c1:x=zeroX/\y=zeroX:=by simpa using c1
  refine B O<|qK O ok74 zBd T<|N 0 D O<|H<|U<|j (zR Q O (K 0 O) O) ?_
  exact (congrArg vE (show prodT a b x y=zeroX from if_pos c1)).symm
 ·have c1:¬(x=zeroX/\y=zeroX):=by simpa using c1
  refine B O<|zK Q (K 2 O) O<|qK O ok78 (kZ x (by omega)) ⟨G,O,T⟩<|F O<|H<|g O (fun c2=>?_) (fun c2=>?_)
  ·try simp only [I] at c2
   refine B O<|zK Q (K 4 O) O<|zK Q (K 1 O) O<|yB O A u<|qK O ok79 (kT 6 [a,y]) ⟨G,O,G,O,T⟩<|N 0 D O<|H<|U<|j (zR Q O (K 0 O) O) ?_
   exact (congrArg vE (show prodT a b x y=opE 6 [a,y] from (if_neg c1).trans (if_pos c2))).symm
  ·try simp only [I] at c2
   refine B O<|zK Q (K 1 O) O<|qK O ok78 (kZ y (by omega)) ⟨G,O,T⟩<|F O<|H<|g O (fun c3=>?_) (fun c3=>?_)
   ·try simp only [I] at c3
    refine B O<|zK Q (K 2 O) O<|zK Q (K 3 O) O<|yB O A u<|qK O ok79 (kT 6 [x,b]) ⟨G,O,G,O,T⟩<|N 0 D O<|H<|U<|j (zR Q O (K 0 O) O) ?_
    exact (congrArg vE (show prodT a b x y=opE 6 [x,b] from (if_neg c1).trans ((if_neg c2).trans (if_pos c3)))).symm
   ·try simp only [I] at c3
    refine zJ<|W<|qP 10 mixed (by kernel_rfl) O O<|Y O O (zM O Q O (K 2 O) O)<|Y O O (zM O Q O (K 3 O) O)<|Y O O (qY O A u O O O O)<|Y O O (qF O ok79 (kT 6 [x,b]) ⟨G,O,G,O,T⟩)<|Y O O (zM O Q O (K 4 O) O)<|Y O O (zM O Q O (K 1 O) O)<|Y O O (qY O A u O O O O)<|Y O O (qF O ok79 (kT 6 [a,y]) ⟨G,O,G,O,T⟩)<|Y O O (qY O A u O O O O)<|Y O O (qF O ok79 (kT 4 [opE 6 [x,b],opE 6 [a,y]]) ⟨G,O,G,O,T⟩)<|yK<|N 0 D O<|H<|U<|j (zR Q O (K 0 O) O) ?_
    exact (congrArg vE (show prodT a b x y=opE 4 [opE 6 [x,b],opE 6 [a,y]] from (if_neg c1).trans ((if_neg c2).trans (if_neg c3)))).symm
theorem zLd (a b x y:Ex) (hx:x.wt<=4294967296) (hy:y.wt<=4294967296):
    Pur cfg 77 [vE a,vE b,vE x,vE y] (vE (quoT a b x y)):=by
 refine zT Tryz.func77 O Tryz.ntmps77 Tryz.results77 O ?_
 intro z hz
 refine B O<|zV O O (qI O O) ?_
 rintro _ _ ⟨b1,rfl,rfl⟩
 refine zV O O (qI O O) ?_
 rintro _ _ ⟨b2,rfl,rfl⟩
 refine zV O O (qI O O) ?_
 rintro _ _ ⟨b3,rfl,rfl⟩
 refine zV O O (qI O O) ?_
 rintro _ _ ⟨b4,rfl,rfl⟩
 refine zV O O (qG [none,none,none,none,none,none,none,none,none,none,some 2,some 4,some 13] O u O) ?_
 rintro _ _ ⟨b5,rfl,rfl⟩
 refine H<|W<|B O<|zK Q (K 1 O) O<|qK O ok78 (kZ y (by omega)) ⟨G,O,T⟩<|H<|g O (fun c1=>?_) (fun c1=>?_)
 ·try simp only [I] at c1
  refine W<|B O<|zK Q (K 2 O) O<|qK O ok78 (kZ x (by omega)) ⟨G,O,T⟩<|H<|g O (fun c2=>?_) (fun c2=>?_)
  ·try simp only [I] at c2
   refine B O<|qK O ok74 zBd T<|N 0 D O<|H<|U<|j (zR Q O (K 0 O) O) ?_
   exact (congrArg vE (show quoT a b x y=zeroX from (if_pos c1).trans (if_pos c2))).symm
  ·try simp only [I] at c2
   refine zJ<|B O<|zK Q (K 2 O) O<|zK Q (K 3 O) O<|yB O A u<|qK O ok79 (kT 7 [x,b]) ⟨G,O,G,O,T⟩<|N 0 D O<|H<|U<|j (zR Q O (K 0 O) O) ?_
   exact (congrArg vE (show quoT a b x y=opE 7 [x,b] from (if_pos c1).trans (if_neg c2))).symm
 ·try simp only [I] at c1
  refine zJ<|W<|yF 8 1 [⟨0,.q [5]⟩,⟨1,.q [4]⟩,⟨2,.q []⟩,⟨3,.q []⟩,⟨4,.q [2]⟩,⟨5,.q []⟩,⟨6,.q []⟩,⟨7,.f 0⟩] mixed (by kernel_rfl) (by kernel_rfl) O O O<|L O<|L O<|L O<|L O<|L O<|L O<|L O<|zEr O O (wF (qG [none,none,none,none,none,none,none,none,none,none,some 2,some 4,some 13] O u O)) ⟨_,_,0,O,O⟩<|wM<|v O (by decide) O O (zM O Q O (K 0 O) O)<|v O (by decide) O O (zM O Q O (K 0 O) O)<|v O (by decide) O O (qY O A u O O O O)<|v O (by decide) O O (qF O ok79 (kT 7 [a,b]) ⟨G,O,G,O,T⟩)<|v O (by decide) O O (zM O Q O (K 0 O) O)<|v O (by decide) O O (qY O A u O O O O)<|v O (by decide) O O (qF O ok79 (kT 6 [opE 7 [a,b],y]) ⟨G,O,G,O,T⟩)<|zEm O O ?_
  rintro _ _ ⟨b6,rfl,rfl⟩
  refine wL O<|N 0 D O<|H<|W<|B O<|zK Q (K 3 O) O<|qK O ok78 (kZ x (by omega)) ⟨G,O,T⟩<|H<|g O (fun c3=>?_) (fun c3=>?_)
  ·try simp only [I] at c3
   refine W<|qP 6 mixed (by kernel_rfl) O O<|Y O O (zM O Q O (K 0 O) O)<|Y O O (qY O A u O O O O)<|Y O O (qF O ok79 (kT 8 [opE 6 [opE 7 [a,b],y]]) ⟨G,O,G,O,T⟩)<|Y O O (zM O Q O (K 4 O) O)<|Y O O (qY O A u O O O O)<|Y O O (qF O ok79 (kT 7 [opE 8 [opE 6 [opE 7 [a,b],y]],b]) ⟨G,O,G,O,T⟩)<|yK<|N 1 D O<|H<|U<|j (zR Q O (K 1 O) O) ?_
   exact (congrArg vE (show quoT a b x y=opE 7 [opE 8 [opE 6 [opE 7 [a,b],y]],b] from (if_neg c1).trans (if_pos c3))).symm
  ·try simp only [I] at c3
   refine zJ<|W<|qP 7 mixed (by kernel_rfl) O O<|Y O O (zM O Q O (K 3 O) O)<|Y O O (zM O Q O (K 0 O) O)<|Y O O (qY O A u O O O O)<|Y O O (qF O ok79 (kT 5 [x,opE 6 [opE 7 [a,b],y]]) ⟨G,O,G,O,T⟩)<|Y O O (zM O Q O (K 4 O) O)<|Y O O (qY O A u O O O O)<|Y O O (qF O ok79 (kT 7 [opE 5 [x,opE 6 [opE 7 [a,b],y]],b]) ⟨G,O,G,O,T⟩)<|yK<|N 1 D O<|H<|U<|j (zR Q O (K 1 O) O) ?_
   exact (congrArg vE (show quoT a b x y=opE 7 [opE 5 [x,opE 6 [opE 7 [a,b],y]],b] from (if_neg c1).trans (if_neg c3))).symm
theorem zCt (c x y:Ex) (hx:x.wt<=4294967296) (hy:y.wt<=4294967296):
    Pur cfg 80 [vE c,vE x,vE y] (vE (choT c x y)):=by
 refine zT Tryz.func80 O Tryz.ntmps80 Tryz.results80 O ?_
 intro z hz
 refine B O<|zV O O (qI O O) ?_
 rintro _ _ ⟨b1,rfl,rfl⟩
 refine zV O O (qI O O) ?_
 rintro _ _ ⟨b2,rfl,rfl⟩
 refine zV O O (qI O O) ?_
 rintro _ _ ⟨b3,rfl,rfl⟩
 refine zV O O (qG [none,none,none,none,none,none,none,none,none,none,some 2,some 4,some 13] O u O) ?_
 rintro _ _ ⟨b4,rfl,rfl⟩
 refine H<|W<|B O<|zK Q (K 2 O) O<|qK O ok78 (kZ x (by omega)) ⟨G,O,T⟩<|F O<|w O (fun g1_2=>zM O Q O (K 1 O) O) O<|R 10 O (fun g1_2=>qF O ok78 (kZ y (by omega)) ⟨G,O,T⟩) O<|yY O (fun h=>h)<|H<|g O (fun c1=>?_) (fun c1=>?_)
 ·have c1:x=zeroX/\y=zeroX:=by simpa using c1
  refine B O<|qK O ok74 zBd T<|N 0 D O<|H<|U<|j (zR Q O (K 0 O) O) ?_
  exact (congrArg vE (show choT c x y=zeroX from if_pos c1)).symm
 ·have c1:¬(x=zeroX/\y=zeroX):=by simpa using c1
  refine zJ<|B O<|zK Q (K 3 O) O<|zK Q (K 2 O) O<|zK Q (K 1 O) O<|yB O A u<|qK O ok79 (kT 11 [c,x,y]) ⟨G,O,G,O,T⟩<|N 0 D O<|H<|U<|j (zR Q O (K 0 O) O) ?_
  exact (congrArg vE (show choT c x y=opE 11 [c,x,y] from if_neg c1)).symm
theorem zCk (e:Ex) (hp:e.Op=11->1<=e.Args.length):
    Pur cfg 72 [vE e] (vEs (vArgs e.Op e.Args)):=by
 refine zT Tryz.func72 O Tryz.ntmps72 Tryz.results72 O ?_
 intro z hz
 refine B O<|zV O O (qI O O) ?_
 rintro _ _ ⟨b1,rfl,rfl⟩
 refine zX O (yN 13 O O)<|H<|W<|B O<|zH O yQ<|zL P (K 0 O) O<|n O<|H<|g O (fun c1=>?_) (fun c1=>?_)
 ·try simp only [I] at c1
  have h1:=hp c1
  refine B O<|zH O kA<|zL wA (K 0 O) O<|zX O (zLh O A O O (by omega))<|F O<|H<|U<|M O ?_
  exact vArgs_cut c1
 ·try simp only [I] at c1
  refine zJ<|B O<|zH O kA<|zL wA (K 0 O) O<|F O<|H<|U<|M O ?_
  exact congrArg vEs (show e.Args=vArgs e.Op e.Args from (if_neg c1).symm)
theorem fwd_reads_step (o_:List ByteArray) (ho:o_.length<=1000) (e:Ex) (ih:∀a,a∈e.Args->partE a=0->Pur cfg 71 [vE a,vSs o_] (vB (rdsE o_ a))) (hp:partE e=0):
    Pur cfg 71 [vE e,vSs o_] (vB (rdsE o_ e)):=by
 refine zT Tryz.func71 O Tryz.ntmps71 Tryz.results71 O ?_
 intro z hz
 have hal:=zFk hp
 have hvl:=zIc (o:=e.Op) (l:=e.Args)
 have hna:nArgs e.Op<=3:=by unfold nArgs;repeat' split<;>omega
 refine B O<|zV O O (qI O O) ?_
 rintro _ _ ⟨b1,rfl,rfl⟩
 refine F O<|H<|W<|B O<|zH O yQ<|zL P (K 0 O) O<|n O<|H<|g O (fun c1=>?_) (fun c1=>?_)
 ·try simp only [I] at c1
  refine B O<|F O<|zH O zAw<|zL i (K 0 O) O<|qK O ok46 (kE o_ e.Name (by omega)) ⟨G,O,G,O,T⟩<|F O<|H<|U<|M O ?_
  exact congrArg vB (by rw [zEo,if_pos c1])
 ·try simp only [I] at c1
  refine zJ<|W<|B O<|zK Q (K 0 O) O<|qK O ok72 (zCk e (if_len hp)) ⟨G,O,T⟩<|zZ O A<|F O<|H<|zP<|zW ⟨[(17,.c _),(1,.c _),(15,.c _),(16,.c _)],[]⟩ (Weak.mk [false] ⟨G,G,G,G,T⟩ O)<|qJ 1 0 O O (Nat) (fun k=>[(17,vI k)]) (fun k=>[]) (fun k=>k<=(vArgs e.Op e.Args).length/\(((vArgs e.Op e.Args).take k).any (rdsE o_)=false)) (fun k=>(vArgs e.Op e.Args).length-k) ⟨0,⟨by omega,O⟩,Weak.mk [] ⟨G,G,G,G,T⟩ O⟩ ?_
  rintro k ⟨hk,hp2⟩
  refine B O<|yD O<|H<|W<|g O (fun c2=>?_) (fun c2=>?_)
  ·try simp only [I] at c2
   obtain ⟨x,hx⟩:=qQ (vArgs e.Op e.Args) k (by omega)
   refine zJ<|W<|zP<|B O<|qH O A (by omega) (yR hx)<|zK Q qB O<|zV O O (qG [none,none,none,none,none,none,none,none,none,none,some 2,some 4,some 13] O u O) ?_
   rintro _ _ ⟨b2,rfl,rfl⟩
   refine N 0 D O<|H<|B O<|zK Q (K 0 O) O<|F O<|qK O ok71 (ih x (zAv (qD hx)) (wI hp (zAv (qD hx)))) ⟨G,O,G,O,T⟩<|H<|g O (fun c3=>?_) (fun c3=>?_)
   ·try simp only [I] at c3
    refine B O<|F O<|H<|U<|M O ?_
    exact congrArg vB (by rw [zEo,if_neg c1,any_at hx c3])
   ·try simp only [I] at c3
    refine zJ<|zU O<|qL O ⟨by omega,by omega⟩<|F O<|H ?_
    refine ⟨k+1,⟨by omega,zGw hx hp2 c3⟩,(by omega),Weak.mk [false] ⟨G,G,G,G,T⟩ O⟩
  ·try simp only [I] at c2
   refine qN<|B O<|F O<|H<|U<|M O ?_
   rw [qW (by omega)] at hp2
   exact congrArg vB (by rw [zEo,if_neg c1,hp2])
theorem fwd_reads (o_:List ByteArray) (ho:o_.length<=1000) (e:Ex):partE e=0->Pur cfg 71 [vE e,vSs o_] (vB (rdsE o_ e)):=by
  induction e using Ex.ind with
  |_ e ih=>exact fun hp=>fwd_reads_step o_ ho e ih hp
theorem fwd_loses_step (p:Pg) (hP:p.Ok) (o_:List ByteArray) (ho:o_.length<=1000) (e:Ex) (ih:∀a,a∈e.Args->partE a=0->a.wt<=1073741824->Pur cfg 29 [vPg p,vE a,vSs o_] (vB (losE (isFr p.en) o_ a))) (hp:partE e=0) (he:e.wt<=1073741824):
    Pur cfg 29 [vPg p,vE e,vSs o_] (vB (losE (isFr p.en) o_ e)):=by
 refine zT Tryz.func29 O Tryz.ntmps29 Tryz.results29 O ?_
 intro z hz
 have hal:=zFk hp
 have hvl:=zIc (o:=e.Op) (l:=e.Args)
 have hna:nArgs e.Op<=3:=by unfold nArgs;repeat' split<;>omega
 obtain ⟨a,ha0⟩:∃x,e.Args.getD 0 zEx=x:=⟨_,rfl⟩
 have haw:=getD_wt (e:=e) rfl 0
 rw [ha0] at haw
 refine B O<|zV O O (qI O O) ?_
 rintro _ _ ⟨b1,rfl,rfl⟩
 refine zV O O (qI O O) ?_
 rintro _ _ ⟨b2,rfl,rfl⟩
 refine F O<|H<|W<|W<|qP 25 mixed (by kernel_rfl) O O<|Y O O (zE O yQ O)<|Y O O (zG O P O (K 0 O) O)<|Y O O (yG O O O)<|Y O O (zQ O O)<|f [] O O O O J T (fun g1_3=>zE O zCh O) O<|f [(13,_)] O O O O J ⟨O,O,T⟩ (fun g1_3=>zE O zAl O) O<|f [(14,_)] O O O O J ⟨O,O,T⟩ (fun g1_3=>zG O P O (K 0 O) O) O<|f [(15,_)] O O O O J ⟨O,O,T⟩ (fun g1_3=>zAf O O O) O<|Y O O (kI O O O (fun h=>h) O)<|Y O O (zQ O O)<|f [] O O O O J T (fun g1_9=>zM O kK O (K 1 O) O) O<|f [] O O O O J T (fun g1_9=>zE O kA O) O<|f [(20,_)] O O O O J ⟨O,O,T⟩ (fun g1_9=>zG O wA O (K 0 O) O) O<|f [(21,_)] O O O O J ⟨O,O,T⟩ (fun g1_9=>qA O A O O (by have h12:e.Op=12:=(by simp only [Lz,cond_true,cond_false,Bool.and_eq_true,Bool.or_eq_true,Bool.not_eq_true',Bool.not_eq_false',Bool.or_eq_false_iff,Bool.and_eq_false_iff,decide_eq_true_eq,decide_eq_false_iff_not,Bool.not_eq_true,Bool.not_eq_false] at g1_9;first|exact g1_9.1|exact g1_9.1.1|exact g1_9.1.1.1);have h13:=zAg hp h12;omega) (yR (exGq (by have h12:e.Op=12:=(by simp only [Lz,cond_true,cond_false,Bool.and_eq_true,Bool.or_eq_true,Bool.not_eq_true',Bool.not_eq_false',Bool.or_eq_false_iff,Bool.and_eq_false_iff,decide_eq_true_eq,decide_eq_false_iff_not,Bool.not_eq_true,Bool.not_eq_false] at g1_9;first|exact g1_9.1|exact g1_9.1.1|exact g1_9.1.1.1);have h13:=zAg hp h12;omega) ha0))) O<|f [(22,_)] O O O O J ⟨O,O,T⟩ (fun g1_9=>zM O Q O qB O) O<|f [(19,_),(23,_)] O O O O J ⟨O,O,O,O,T⟩ (fun g1_9=>qF O ok70 (zGq p a hP (by omega)) ⟨G,O,G,O,T⟩) O<|Y O O (kI O O O (fun h=>h) O)<|Y O O (zQ O O)<|f [] O O O O J T (fun g1_17=>zE O kA O) O<|f [(27,_)] O O O O J ⟨O,O,T⟩ (fun g1_17=>zG O wA O (K 0 O) O) O<|f [(28,_)] O O O O J ⟨O,O,T⟩ (fun g1_17=>qA O A O O (by have h12:e.Op=12:=(by simp only [Lz,cond_true,cond_false,Bool.and_eq_true,Bool.or_eq_true,Bool.not_eq_true',Bool.not_eq_false',Bool.or_eq_false_iff,Bool.and_eq_false_iff,decide_eq_true_eq,decide_eq_false_iff_not,Bool.not_eq_true,Bool.not_eq_false] at g1_17;first|exact g1_17.1|exact g1_17.1.1|exact g1_17.1.1.1);have h13:=zAg hp h12;omega) (yR (exGq (by have h12:e.Op=12:=(by simp only [Lz,cond_true,cond_false,Bool.and_eq_true,Bool.or_eq_true,Bool.not_eq_true',Bool.not_eq_false',Bool.or_eq_false_iff,Bool.and_eq_false_iff,decide_eq_true_eq,decide_eq_false_iff_not,Bool.not_eq_true,Bool.not_eq_false] at g1_17;first|exact g1_17.1|exact g1_17.1.1|exact g1_17.1.1.1);have h13:=zAg hp h12;omega) ha0))) O<|f [(29,_)] O O O O J ⟨O,O,T⟩ (fun g1_17=>zM O Q O qB O) O<|f [] O O O O J T (fun g1_17=>zQ O O) O<|f [(30,_),(31,_)] O O O O J ⟨O,O,O,O,T⟩ (fun g1_17=>qF O ok71 (fwd_reads o_ ho a (zOt hp (by have h12:e.Op=12:=(by simp only [Lz,cond_true,cond_false,Bool.and_eq_true,Bool.or_eq_true,Bool.not_eq_true',Bool.not_eq_false',Bool.or_eq_false_iff,Bool.and_eq_false_iff,decide_eq_true_eq,decide_eq_false_iff_not,Bool.not_eq_true,Bool.not_eq_false] at g1_17;first|exact g1_17.1|exact g1_17.1.1|exact g1_17.1.1.1);have h13:=zAg hp h12;exact h12) ha0)) ⟨G,O,G,O,T⟩) O<|Y O O (kI O O O (fun h=>h) O)<|yK<|H<|g O (fun c1=>?_) (fun c1=>?_)
 ·have c1:(decide (e.Op=12)&& !decide (e.Ty.Kind=1)&&isFr p.en (e.Args.getD 0 zEx)&&rdsE o_ (e.Args.getD 0 zEx))=true:=by rw [ha0];exact c1
  refine B O<|F O<|H<|U<|M O ?_
  exact congrArg vB (losE_yes c1).symm
 ·have c1:(decide (e.Op=12)&& !decide (e.Ty.Kind=1)&&isFr p.en (e.Args.getD 0 zEx)&&rdsE o_ (e.Args.getD 0 zEx))=false:=by rw [ha0];exact c1
  refine zJ<|W<|B O<|zK Q (K 0 O) O<|qK O ok72 (zCk e (if_len hp)) ⟨G,O,T⟩<|zZ O A<|F O<|H<|zP<|zW ⟨[(37,.c _),(2,.c _),(3,.c _),(35,.c _),(36,.c _)],[_]⟩ (Weak.mk [false,true] ⟨G,G,G,G,G,T⟩ O)<|qJ 1 0 O O (Nat) (fun k=>[(37,vI k)]) (fun k=>[]) (fun k=>k<=(vArgs e.Op e.Args).length/\(((vArgs e.Op e.Args).take k).any (losE (isFr p.en) o_)=false)) (fun k=>(vArgs e.Op e.Args).length-k) ⟨0,⟨by omega,O⟩,Weak.mk [true] ⟨G,G,G,G,G,T⟩ O⟩ ?_
  rintro k ⟨hk,hp2⟩
  refine B O<|yD O<|H<|W<|g O (fun c2=>?_) (fun c2=>?_)
  ·try simp only [I] at c2
   obtain ⟨x,hx⟩:=qQ (vArgs e.Op e.Args) k (by omega)
   refine zJ<|W<|zP<|B O<|qH O A (by omega) (yR hx)<|zK Q qB O<|zV O O (qG [none,none,none,none,none,none,none,none,none,none,some 2,some 4,some 13] O u O) ?_
   rintro _ _ ⟨b3,rfl,rfl⟩
   refine N 0 D O<|H<|B O<|zK kK (K 1 O) O<|zK Q (K 0 O) O<|F O<|qK O ok29 (ih x (zAv (qD hx)) (wI hp (zAv (qD hx))) (by have:=Ex.arg_wt (zAv (qD hx));omega)) ⟨G,O,G,O,G,O,T⟩<|H<|g O (fun c3=>?_) (fun c3=>?_)
   ·try simp only [I] at c3
    refine B O<|F O<|H<|U<|M O ?_
    exact congrArg vB (by rw [zKg c1,any_at hx c3])
   ·try simp only [I] at c3
    refine zJ<|zU O<|qL O ⟨by omega,by omega⟩<|F O<|H ?_
    refine ⟨k+1,⟨by omega,zGw hx hp2 c3⟩,(by omega),Weak.mk [false,true] ⟨G,G,G,G,G,T⟩ O⟩
  ·try simp only [I] at c2
   refine qN<|B O<|F O<|H<|U<|M O ?_
   rw [qW (by omega)] at hp2
   exact congrArg vB (by rw [zKg c1,hp2])
theorem fwd_loses (p:Pg) (hP:p.Ok) (o_:List ByteArray) (ho:o_.length<=1000) (e:Ex):partE e=0->e.wt<=1073741824->Pur cfg 29 [vPg p,vE e,vSs o_] (vB (losE (isFr p.en) o_ e)):=by
  induction e using Ex.ind with
  |_ e ih=>exact fun hp he=>fwd_loses_step p hP o_ ho e ih hp he
theorem fwd_tangent_s (p:Pg) (hP:p.Ok) (o_:List ByteArray) (ho:o_.length<=1000) (hs:∀s,s∈o_->s.size<=1000000) (b0:Nat) (e:Ex) (ih:∀a,a∈e.Args->FrK p.en a->a.wt<=1500->FnCon cfg (C.fn (.func 73) [] [.iptr [.sl 1 (o_.map fun s=>[cS s])],.lit (.pointer (some ⟨b0,0,none⟩)),.iptr p.cells]) [vE a] [(E.row b0 74 [(C.fn (.func 73) [] [.iptr [.sl 1 (o_.map fun s=>[cS s])],.lit (.pointer (some ⟨b0,0,none⟩)),.iptr p.cells])])] fun r μ=>r=vE (tanE (isFr p.en) o_ a)/\μ=[(E.row b0 74 [(C.fn (.func 73) [] [.iptr [.sl 1 (o_.map fun s=>[cS s])],.lit (.pointer (some ⟨b0,0,none⟩)),.iptr p.cells])])]) (hk:FrK p.en e) (he:e.wt<=1500):
    Con cfg 73 [vE e,.c (.iptr [.sl 1 (o_.map fun s=>[cS s])]),.c (.lit (.pointer (some ⟨b0,0,none⟩))),.c (.iptr p.cells)] [(E.row b0 74 [(C.fn (.func 73) [] [.iptr [.sl 1 (o_.map fun s=>[cS s])],.lit (.pointer (some ⟨b0,0,none⟩)),.iptr p.cells])])] fun r μ'=>∃μ2,(∃ν1 ν2,μ'=ν1++(μ2++ν2))/\(r=vE (tanE (isFr p.en) o_ e)/\μ2=[(E.row b0 74 [(C.fn (.func 73) [] [.iptr [.sl 1 (o_.map fun s=>[cS s])],.lit (.pointer (some ⟨b0,0,none⟩)),.iptr p.cells])])]):=by
 refine zT Tryz.func73 O Tryz.ntmps73 Tryz.results73 O ?_
 intro z hz
 refine B O<|zV O O (qI O O) ?_
 rintro _ _ ⟨b1,rfl,rfl⟩
 refine zV O O (qG [none,none,none,none,none,none,none,none,none,none,some 2,some 4,some 13] O u O) ?_
 rintro _ _ ⟨b2,rfl,rfl⟩
 refine H<|B O<|zH O kA<|zL wA (K 1 O) O<|F O<|H<|W<|B O<|zH O yQ<|zL P (K 1 O) O<|H<|zP<|B O<|n O<|F O<|H<|g O (fun c1=>?_) (fun c1=>?_)
 ·try simp only [I] at c1
  refine W<|B O<|zL zDv qB O<|zH O zAw<|zL i (K 1 O) O<|qK O ok46 (kE o_ e.Name (by omega)) ⟨G,O,G,O,T⟩<|wP O<|H<|g O (fun c2=>?_) (fun c2=>?_)
  ·try simp only [I] at c2
   have c2:¬hasB o_ e.Name=true:=by simpa using c2
   refine B O<|qK O ok74 zBd T<|N 0 D O<|H<|zW _ (Weak.mem [true,false,true] O)<|U<|j (zR Q O (K 0 O) O) ?_
   exact ⟨[_],⟨[_],[],O⟩,(congrArg vE (zIj c1 c2)).symm,O⟩
  ·try simp only [I] at c2
   have c2:hasB o_ e.Name=true:=by simpa using c2
   refine zJ<|B O<|zH O zAw<|zL i (K 1 O) O<|qK O ok14 (zAa e.Name (hs _ (zGp.1 c2))) ⟨G,O,T⟩<|zH O zAw<|N 1 sz9 O<|H<|B O<|zK Q (K 1 O) O<|N 0 D O<|H<|zW _ (Weak.mem [true,false,true] O)<|U<|j (zR Q O (K 0 O) O) ?_
   exact ⟨[_],⟨[_],[],O⟩,(congrArg V.agg (read_cs hk.1 c1 _)).trans (congrArg vE (zLt c1 c2)).symm,O⟩
 ·try simp only [I] at c1
  have hop:=frk_op hk
  refine W<|B O<|n O<|F O<|H<|g O (fun c3=>?_) (fun c3=>?_)
  ·try simp only [I] at c3
   refine zJ<|g O (fun c4=>?_) (fun c4=>?_)
   ·try simp only [I] at c4
    obtain ⟨a,b,hab,ha,hb⟩:=zAd hk (by omega)
    have g0:e.Args[0]? =some a:=by rw [hab];rfl
    have g1:e.Args[1]? =some b:=by rw [hab];rfl
    have hl2:e.Args.length=2:=by rw [hab];rfl
    have hw2:=wE hab
    have hta:=kP (o_:=o_) ha (by omega)
    have htb:=kP (o_:=o_) hb (by omega)
    refine W<|yF 12 0 [⟨0,.q []⟩,⟨1,.q [1]⟩,⟨2,.q [2]⟩,⟨3,.q []⟩,⟨4,.q []⟩,⟨5,.q []⟩,⟨6,.q [2]⟩,⟨7,.q [2]⟩,⟨8,.q []⟩,⟨9,.q []⟩,⟨10,.q []⟩,⟨11,.q [2]⟩] mixed (by kernel_rfl) (by kernel_rfl) O O O<|L O<|L O<|L O<|L O<|L O<|L O<|L O<|L O<|L O<|L O<|L O<|L O<|wM<|v O (by decide) O O (zE O yQ O)<|v O (by decide) O O (zG O P O (K 0 O) O)<|v O (by decide) O O (zG O zAq O (K 0 O) O)<|v O (by decide) O O (zQ O O)<|v O (by decide) O O (qA O A O O (by omega) (yR g0))<|v O (by decide) O O (zM O Q O qB O)<|v O (by decide) O O (qR [0] O O (ih a (by rw [hab];simp) ha (by omega)) ⟨G,O,T⟩ O)<|v O (by decide) O O (zG O zAq O (K 0 O) O)<|v O (by decide) O O (zQ O O)<|v O (by decide) O O (qA O A O O (by omega) (yR g1))<|v O (by decide) O O (zM O Q O qB O)<|v O (by decide) O O (qR [0] O O (ih b (by rw [hab];simp) hb (by omega)) ⟨G,O,T⟩ O)<|wL O<|qK O ok75 (fwd_sum e.Op (tanE (isFr p.en) o_ a) (tanE (isFr p.en) o_ b) (by omega) (by omega)) ⟨G,O,G,O,G,O,T⟩<|N 0 D O<|H<|zW _ (Weak.mem [true,false,true] O)<|U<|j (zR Q O (K 0 O) O) ?_
    exact ⟨[_],⟨[_],[],O⟩,(congrArg vE (zDu (by omega) hab)).symm,O⟩
   ·try simp only [I] at c4
    exact absurd c3 c4
  ·try simp only [I] at c3
   refine zU O<|n O<|F O<|H<|g O (fun c4=>?_) (fun c4=>?_)
   ·try simp only [I] at c4
    obtain ⟨a,b,hab,ha,hb⟩:=zAd hk (by omega)
    have g0:e.Args[0]? =some a:=by rw [hab];rfl
    have g1:e.Args[1]? =some b:=by rw [hab];rfl
    have hl2:e.Args.length=2:=by rw [hab];rfl
    have hw2:=wE hab
    have hta:=kP (o_:=o_) ha (by omega)
    have htb:=kP (o_:=o_) hb (by omega)
    refine W<|yF 12 0 [⟨0,.q []⟩,⟨1,.q [1]⟩,⟨2,.q [2]⟩,⟨3,.q []⟩,⟨4,.q []⟩,⟨5,.q []⟩,⟨6,.q [2]⟩,⟨7,.q [2]⟩,⟨8,.q []⟩,⟨9,.q []⟩,⟨10,.q []⟩,⟨11,.q [2]⟩] mixed (by kernel_rfl) (by kernel_rfl) O O O<|L O<|L O<|L O<|L O<|L O<|L O<|L O<|L O<|L O<|L O<|L O<|L O<|wM<|v O (by decide) O O (zE O yQ O)<|v O (by decide) O O (zG O P O (K 0 O) O)<|v O (by decide) O O (zG O zAq O (K 0 O) O)<|v O (by decide) O O (zQ O O)<|v O (by decide) O O (qA O A O O (by omega) (yR g0))<|v O (by decide) O O (zM O Q O qB O)<|v O (by decide) O O (qR [0] O O (ih a (by rw [hab];simp) ha (by omega)) ⟨G,O,T⟩ O)<|v O (by decide) O O (zG O zAq O (K 0 O) O)<|v O (by decide) O O (zQ O O)<|v O (by decide) O O (qA O A O O (by omega) (yR g1))<|v O (by decide) O O (zM O Q O qB O)<|v O (by decide) O O (qR [0] O O (ih b (by rw [hab];simp) hb (by omega)) ⟨G,O,T⟩ O)<|wL O<|qK O ok75 (fwd_sum e.Op (tanE (isFr p.en) o_ a) (tanE (isFr p.en) o_ b) (by omega) (by omega)) ⟨G,O,G,O,G,O,T⟩<|N 0 D O<|H<|zW _ (Weak.mem [true,false,true] O)<|U<|j (zR Q O (K 0 O) O) ?_
    exact ⟨[_],⟨[_],[],O⟩,(congrArg vE (zDu (by omega) hab)).symm,O⟩
   ·try simp only [I] at c4
    refine B O<|n O<|F O<|H<|g O (fun c5=>?_) (fun c5=>?_)
    ·try simp only [I] at c5
     obtain ⟨a,b,hab,ha,hb⟩:=zAd hk (by omega)
     have g0:e.Args[0]? =some a:=by rw [hab];rfl
     have g1:e.Args[1]? =some b:=by rw [hab];rfl
     have hl2:e.Args.length=2:=by rw [hab];rfl
     have hw2:=wE hab
     have hta:=kP (o_:=o_) ha (by omega)
     have htb:=kP (o_:=o_) hb (by omega)
     refine W<|yF 16 0 [⟨0,.q []⟩,⟨1,.q []⟩,⟨2,.q []⟩,⟨3,.q []⟩,⟨4,.q []⟩,⟨5,.q []⟩,⟨6,.q [2]⟩,⟨7,.q []⟩,⟨8,.q []⟩,⟨9,.q []⟩,⟨10,.q [2]⟩,⟨11,.q [2]⟩,⟨12,.q []⟩,⟨13,.q []⟩,⟨14,.q []⟩,⟨15,.q [2]⟩] mixed (by kernel_rfl) (by kernel_rfl) O O O<|L O<|L O<|L O<|L O<|L O<|L O<|L O<|L O<|L O<|L O<|L O<|L O<|L O<|L O<|L O<|L O<|wM<|v O (by decide) O O (zQ O O)<|v O (by decide) O O (qA O A O O (by omega) (yR g0))<|v O (by decide) O O (zM O Q O qB O)<|v O (by decide) O O (zQ O O)<|v O (by decide) O O (qA O A O O (by omega) (yR g1))<|v O (by decide) O O (zM O Q O qB O)<|v O (by decide) O O (zG O zAq O (K 0 O) O)<|v O (by decide) O O (zQ O O)<|v O (by decide) O O (qA O A O O (by omega) (yR g0))<|v O (by decide) O O (zM O Q O qB O)<|v O (by decide) O O (qR [0] O O (ih a (by rw [hab];simp) ha (by omega)) ⟨G,O,T⟩ O)<|v O (by decide) O O (zG O zAq O (K 0 O) O)<|v O (by decide) O O (zQ O O)<|v O (by decide) O O (qA O A O O (by omega) (yR g1))<|v O (by decide) O O (zM O Q O qB O)<|v O (by decide) O O (qR [0] O O (ih b (by rw [hab];simp) hb (by omega)) ⟨G,O,T⟩ O)<|wL O<|qK O ok76 (zOa a b (tanE (isFr p.en) o_ a) (tanE (isFr p.en) o_ b) (by omega) (by omega)) ⟨G,O,G,O,G,O,G,O,T⟩<|N 0 D O<|H<|zW _ (Weak.mem [true,false,true] O)<|U<|j (zR Q O (K 0 O) O) ?_
     exact ⟨[_],⟨[_],[],O⟩,(congrArg vE (tan_mul (by omega) hab)).symm,O⟩
    ·try simp only [I] at c5
     refine B O<|n O<|F O<|H<|g O (fun c6=>?_) (fun c6=>?_)
     ·try simp only [I] at c6
      obtain ⟨a,b,hab,ha,hb⟩:=zAd hk (by omega)
      have g0:e.Args[0]? =some a:=by rw [hab];rfl
      have g1:e.Args[1]? =some b:=by rw [hab];rfl
      have hl2:e.Args.length=2:=by rw [hab];rfl
      have hw2:=wE hab
      have hta:=kP (o_:=o_) ha (by omega)
      have htb:=kP (o_:=o_) hb (by omega)
      refine W<|yF 16 0 [⟨0,.q []⟩,⟨1,.q []⟩,⟨2,.q []⟩,⟨3,.q []⟩,⟨4,.q []⟩,⟨5,.q []⟩,⟨6,.q [2]⟩,⟨7,.q []⟩,⟨8,.q []⟩,⟨9,.q []⟩,⟨10,.q [2]⟩,⟨11,.q [2]⟩,⟨12,.q []⟩,⟨13,.q []⟩,⟨14,.q []⟩,⟨15,.q [2]⟩] mixed (by kernel_rfl) (by kernel_rfl) O O O<|L O<|L O<|L O<|L O<|L O<|L O<|L O<|L O<|L O<|L O<|L O<|L O<|L O<|L O<|L O<|L O<|wM<|v O (by decide) O O (zQ O O)<|v O (by decide) O O (qA O A O O (by omega) (yR g0))<|v O (by decide) O O (zM O Q O qB O)<|v O (by decide) O O (zQ O O)<|v O (by decide) O O (qA O A O O (by omega) (yR g1))<|v O (by decide) O O (zM O Q O qB O)<|v O (by decide) O O (zG O zAq O (K 0 O) O)<|v O (by decide) O O (zQ O O)<|v O (by decide) O O (qA O A O O (by omega) (yR g0))<|v O (by decide) O O (zM O Q O qB O)<|v O (by decide) O O (qR [0] O O (ih a (by rw [hab];simp) ha (by omega)) ⟨G,O,T⟩ O)<|v O (by decide) O O (zG O zAq O (K 0 O) O)<|v O (by decide) O O (zQ O O)<|v O (by decide) O O (qA O A O O (by omega) (yR g1))<|v O (by decide) O O (zM O Q O qB O)<|v O (by decide) O O (qR [0] O O (ih b (by rw [hab];simp) hb (by omega)) ⟨G,O,T⟩ O)<|wL O<|qK O ok77 (zLd a b (tanE (isFr p.en) o_ a) (tanE (isFr p.en) o_ b) (by omega) (by omega)) ⟨G,O,G,O,G,O,G,O,T⟩<|N 0 D O<|H<|zW _ (Weak.mem [true,false,true] O)<|U<|j (zR Q O (K 0 O) O) ?_
      exact ⟨[_],⟨[_],[],O⟩,(congrArg vE (tan_div (by omega) hab)).symm,O⟩
     ·try simp only [I] at c6
      refine B O<|n O<|F O<|H<|g O (fun c7=>?_) (fun c7=>?_)
      ·try simp only [I] at c7
       obtain ⟨a,hab,ha⟩:=frk_neg hk (by omega)
       have g0:e.Args[0]? =some a:=by rw [hab];rfl
       have hl2:e.Args.length=1:=by rw [hab];rfl
       have hw2:=zDt hab
       have hta:=kP (o_:=o_) ha (by omega)
       refine W<|yF 6 1 [⟨0,.q [3]⟩,⟨1,.q []⟩,⟨2,.q []⟩,⟨3,.q []⟩,⟨4,.q [3]⟩,⟨5,.f 0⟩] mixed (by kernel_rfl) (by kernel_rfl) O O O<|L O<|L O<|L O<|L O<|L O<|zEr O O (wF (qG [none,none,none,none,none,none,none,none,none,none,some 2,some 4,some 13] O u O)) ⟨_,_,0,O,O⟩<|wM<|v O (by decide) O O (zG O zAq O (K 0 O) O)<|v O (by decide) O O (zQ O O)<|v O (by decide) O O (qA O A O O (by omega) (yR g0))<|v O (by decide) O O (zM O Q O qB O)<|v O (by decide) O O (qR [0] O O (ih a (by rw [hab];simp) ha (by omega)) ⟨G,O,T⟩ O)<|zEm O O ?_
       rintro _ _ ⟨b3,rfl,rfl⟩
       refine wL O<|N 0 D O<|H<|B O<|zK Q (K 0 O) O<|qK O ok78 (kZ (tanE (isFr p.en) o_ a) (by omega)) ⟨G,O,T⟩<|wP O<|H<|g O (fun c8=>?_) (fun c8=>?_)
       ·try simp only [I] at c8
        have c8:¬tanE (isFr p.en) o_ a=zeroX:=by simpa using c8
        refine B O<|zK Q (K 0 O) O<|yB O A u<|qK O ok79 (kT 8 [tanE (isFr p.en) o_ a]) ⟨G,O,G,O,T⟩<|N 1 D O<|H<|zW _ (Weak.mem [false,true,false,true] O)<|U<|j (zR Q O (K 0 O) O) ?_
        exact ⟨[_],⟨[_],[],O⟩,(congrArg vE ((zHo (by omega) hab).trans (if_neg c8))).symm,O⟩
       ·try simp only [I] at c8
        have c8:tanE (isFr p.en) o_ a=zeroX:=by simpa using c8
        refine zJ<|B O<|qK O ok74 zBd T<|N 1 D O<|H<|zW _ (Weak.mem [false,true,false,true] O)<|U<|j (zR Q O (K 0 O) O) ?_
        exact ⟨[_],⟨[_],[],O⟩,(congrArg vE ((zHo (by omega) hab).trans (if_pos c8))).symm,O⟩
      ·try simp only [I] at c7
       refine B O<|n O<|F O<|H<|g O (fun c9=>?_) (fun c9=>?_)
       ·try simp only [I] at c9
        obtain ⟨a,b,hab,ha,hb⟩:=zAd hk (by omega)
        have g0:e.Args[0]? =some a:=by rw [hab];rfl
        have g1:e.Args[1]? =some b:=by rw [hab];rfl
        have hl2:e.Args.length=2:=by rw [hab];rfl
        have hw2:=wE hab
        have hta:=kP (o_:=o_) ha (by omega)
        have htb:=kP (o_:=o_) hb (by omega)
        refine W<|yF 17 0 [⟨0,.q []⟩,⟨1,.q []⟩,⟨2,.q []⟩,⟨3,.q []⟩,⟨4,.q []⟩,⟨5,.q []⟩,⟨6,.q []⟩,⟨7,.q []⟩,⟨8,.q [2]⟩,⟨9,.q []⟩,⟨10,.q []⟩,⟨11,.q []⟩,⟨12,.q [2]⟩,⟨13,.q [2]⟩,⟨14,.q []⟩,⟨15,.q []⟩,⟨16,.q []⟩] mixed (by kernel_rfl) (by kernel_rfl) O O O<|L O<|L O<|L O<|L O<|L O<|L O<|L O<|L O<|L O<|L O<|L O<|L O<|L O<|L O<|L O<|L O<|L O<|wM<|v O (by decide) O O (zQ O O)<|v O (by decide) O O (qA O A O O (by omega) (yR g0))<|v O (by decide) O O (zM O Q O qB O)<|v O (by decide) O O (zQ O O)<|v O (by decide) O O (qA O A O O (by omega) (yR g1))<|v O (by decide) O O (zM O Q O qB O)<|v O (by decide) O O (qY O A u O O O O)<|v O (by decide) O O (qF O ok79 (kT 14 [a,b]) ⟨G,O,G,O,T⟩)<|v O (by decide) O O (zG O zAq O (K 0 O) O)<|v O (by decide) O O (zQ O O)<|v O (by decide) O O (qA O A O O (by omega) (yR g0))<|v O (by decide) O O (zM O Q O qB O)<|v O (by decide) O O (qR [0] O O (ih a (by rw [hab];simp) ha (by omega)) ⟨G,O,T⟩ O)<|v O (by decide) O O (zG O zAq O (K 0 O) O)<|v O (by decide) O O (zQ O O)<|v O (by decide) O O (qA O A O O (by omega) (yR g1))<|v O (by decide) O O (zM O Q O qB O)<|wL O<|zX O (qR [2] O O (ih b (by rw [hab];simp) hb (by omega)) ⟨G,O,T⟩ O)<|qK O ok80 (zCt (opE 14 [a,b]) (tanE (isFr p.en) o_ a) (tanE (isFr p.en) o_ b) (by omega) (by omega)) ⟨G,O,G,O,G,O,T⟩<|N 0 D O<|H<|zW _ (Weak.mem [true,false,true] O)<|U<|j (zR Q O (K 0 O) O) ?_
        exact ⟨[_],⟨[_],[],O⟩,(congrArg vE (tan_min (by omega) hab)).symm,O⟩
       ·try simp only [I] at c9
        refine B O<|n O<|F O<|H<|g O (fun c10=>?_) (fun c10=>?_)
        ·try simp only [I] at c10
         obtain ⟨a,b,hab,ha,hb⟩:=zAd hk (by omega)
         have g0:e.Args[0]? =some a:=by rw [hab];rfl
         have g1:e.Args[1]? =some b:=by rw [hab];rfl
         have hl2:e.Args.length=2:=by rw [hab];rfl
         have hw2:=wE hab
         have hta:=kP (o_:=o_) ha (by omega)
         have htb:=kP (o_:=o_) hb (by omega)
         refine W<|yF 17 0 [⟨0,.q []⟩,⟨1,.q []⟩,⟨2,.q []⟩,⟨3,.q []⟩,⟨4,.q []⟩,⟨5,.q []⟩,⟨6,.q []⟩,⟨7,.q []⟩,⟨8,.q [2]⟩,⟨9,.q []⟩,⟨10,.q []⟩,⟨11,.q []⟩,⟨12,.q [2]⟩,⟨13,.q [2]⟩,⟨14,.q []⟩,⟨15,.q []⟩,⟨16,.q []⟩] mixed (by kernel_rfl) (by kernel_rfl) O O O<|L O<|L O<|L O<|L O<|L O<|L O<|L O<|L O<|L O<|L O<|L O<|L O<|L O<|L O<|L O<|L O<|L O<|wM<|v O (by decide) O O (zQ O O)<|v O (by decide) O O (qA O A O O (by omega) (yR g1))<|v O (by decide) O O (zM O Q O qB O)<|v O (by decide) O O (zQ O O)<|v O (by decide) O O (qA O A O O (by omega) (yR g0))<|v O (by decide) O O (zM O Q O qB O)<|v O (by decide) O O (qY O A u O O O O)<|v O (by decide) O O (qF O ok79 (kT 14 [b,a]) ⟨G,O,G,O,T⟩)<|v O (by decide) O O (zG O zAq O (K 0 O) O)<|v O (by decide) O O (zQ O O)<|v O (by decide) O O (qA O A O O (by omega) (yR g0))<|v O (by decide) O O (zM O Q O qB O)<|v O (by decide) O O (qR [0] O O (ih a (by rw [hab];simp) ha (by omega)) ⟨G,O,T⟩ O)<|v O (by decide) O O (zG O zAq O (K 0 O) O)<|v O (by decide) O O (zQ O O)<|v O (by decide) O O (qA O A O O (by omega) (yR g1))<|v O (by decide) O O (zM O Q O qB O)<|wL O<|zX O (qR [2] O O (ih b (by rw [hab];simp) hb (by omega)) ⟨G,O,T⟩ O)<|qK O ok80 (zCt (opE 14 [b,a]) (tanE (isFr p.en) o_ a) (tanE (isFr p.en) o_ b) (by omega) (by omega)) ⟨G,O,G,O,G,O,T⟩<|N 0 D O<|H<|zW _ (Weak.mem [true,false,true] O)<|U<|j (zR Q O (K 0 O) O) ?_
         exact ⟨[_],⟨[_],[],O⟩,(congrArg vE (tan_max (by omega) hab)).symm,O⟩
        ·try simp only [I] at c10
         refine B O<|n O<|F O<|H<|g O (fun c11=>?_) (fun c11=>?_)
         ·try simp only [I] at c11
          obtain ⟨c,a,b,hab,ha,hb⟩:=frk_if hk (by omega)
          have g0:e.Args[0]? =some c:=by rw [hab];rfl
          have g1:e.Args[1]? =some a:=by rw [hab];rfl
          have g2:e.Args[2]? =some b:=by rw [hab];rfl
          have hl2:e.Args.length=3:=by rw [hab];rfl
          have hw2:=zMb hab
          have hta:=kP (o_:=o_) ha (by omega)
          have htb:=kP (o_:=o_) hb (by omega)
          refine W<|yF 13 0 [⟨0,.q []⟩,⟨1,.q []⟩,⟨2,.q []⟩,⟨3,.q [2]⟩,⟨4,.q []⟩,⟨5,.q []⟩,⟨6,.q []⟩,⟨7,.q [2]⟩,⟨8,.q [2]⟩,⟨9,.q []⟩,⟨10,.q []⟩,⟨11,.q []⟩,⟨12,.q [2]⟩] mixed (by kernel_rfl) (by kernel_rfl) O O O<|L O<|L O<|L O<|L O<|L O<|L O<|L O<|L O<|L O<|L O<|L O<|L O<|L O<|wM<|v O (by decide) O O (zQ O O)<|v O (by decide) O O (qA O A O O (by omega) (yR g0))<|v O (by decide) O O (zM O Q O qB O)<|v O (by decide) O O (zG O zAq O (K 0 O) O)<|v O (by decide) O O (zQ O O)<|v O (by decide) O O (qA O A O O (by omega) (yR g1))<|v O (by decide) O O (zM O Q O qB O)<|v O (by decide) O O (qR [0] O O (ih a (by rw [hab];simp) ha (by omega)) ⟨G,O,T⟩ O)<|v O (by decide) O O (zG O zAq O (K 0 O) O)<|v O (by decide) O O (zQ O O)<|v O (by decide) O O (qA O A O O (by omega) (yR g2))<|v O (by decide) O O (zM O Q O qB O)<|v O (by decide) O O (qR [0] O O (ih b (by rw [hab];simp) hb (by omega)) ⟨G,O,T⟩ O)<|wL O<|qK O ok80 (zCt c (tanE (isFr p.en) o_ a) (tanE (isFr p.en) o_ b) (by omega) (by omega)) ⟨G,O,G,O,G,O,T⟩<|N 0 D O<|H<|zW _ (Weak.mem [true,false,true] O)<|U<|j (zR Q O (K 0 O) O) ?_
          exact ⟨[_],⟨[_],[],O⟩,(congrArg vE (tan_if (by omega) hab)).symm,O⟩
         ·try simp only [I] at c11
          refine B O<|n O<|F O<|H<|g O (fun c12=>?_) (fun c12=>?_)
          ·try simp only [I] at c12
           obtain ⟨a,hab,hpa⟩:=zGv hk.1 (by omega)
           have g0:e.Args[0]? =some a:=by rw [hab];rfl
           have hl2:e.Args.length=1:=by rw [hab];rfl
           have hw2:=zDt hab
           refine W<|qP 5 mixed (by kernel_rfl) O O<|Y O O (zM O kK O qB O)<|Y O O (zQ O O)<|Y O O (qA O A O O (by omega) (yR g0))<|Y O O (zM O Q O qB O)<|Y O O (qF O ok70 (zGq p a hP (by omega)) ⟨G,O,G,O,T⟩)<|yK<|H<|g O (fun c13=>?_) (fun c13=>?_)
           ·try simp only [I] at c13
            have ha:=zIw c13
            refine W<|qP 4 mixed (by kernel_rfl) O O<|Y O O (zG O zAq O (K 2 O) O)<|Y O O (zQ O O)<|Y O O (qA O A O O (by omega) (yR g0))<|Y O O (zM O Q O qB O)<|yK<|zX O (qR [2] O O (ih a (by rw [hab];simp) ha (by omega)) ⟨G,O,T⟩ O)<|N 0 D O<|H<|zW _ (Weak.mem [true,false,true] O)<|U<|j (zR Q O (K 0 O) O) ?_
            exact ⟨[_],⟨[_],[],O⟩,(congrArg vE ((zEl (by omega) hab).trans (if_pos c13))).symm,O⟩
           ·try simp only [I] at c13
            refine zJ<|B O<|qK O ok74 zBd T<|N 0 D O<|H<|zW _ (Weak.mem [true,false,true] O)<|U<|j (zR Q O (K 0 O) O) ?_
            exact ⟨[_],⟨[_],[],O⟩,(congrArg vE ((zEl (by omega) hab).trans (if_neg (by rw [c13];simp)))).symm,O⟩
          ·try simp only [I] at c12
           refine zJ<|B O<|qK O ok74 zBd T<|N 0 D O<|H<|zW _ (Weak.mem [true,false,true] O)<|U<|j (zR Q O (K 0 O) O) ?_
           exact ⟨[_],⟨[_],[],O⟩,(congrArg vE (tan_val (by omega))).symm,O⟩
theorem fwd_tangent_c (p:Pg) (hP:p.Ok) (o_:List ByteArray) (ho:o_.length<=1000) (hs:∀s,s∈o_->s.size<=1000000) (b0:Nat) (a:Ex):FrK p.en a->a.wt<=1500->FnCon cfg (C.fn (.func 73) [] [.iptr [.sl 1 (o_.map fun s=>[cS s])],.lit (.pointer (some ⟨b0,0,none⟩)),.iptr p.cells]) [vE a] [(E.row b0 74 [(C.fn (.func 73) [] [.iptr [.sl 1 (o_.map fun s=>[cS s])],.lit (.pointer (some ⟨b0,0,none⟩)),.iptr p.cells])])] fun r μ=>r=vE (tanE (isFr p.en) o_ a)/\μ=[(E.row b0 74 [(C.fn (.func 73) [] [.iptr [.sl 1 (o_.map fun s=>[cS s])],.lit (.pointer (some ⟨b0,0,none⟩)),.iptr p.cells])])]:=by
  induction a using Ex.ind with
  |_ e ih=>exact fun hk he=>FnCon.of_con (first:=[]) (cap:=[.iptr [.sl 1 (o_.map fun s=>[cS s])],.lit (.pointer (some ⟨b0,0,none⟩)),.iptr p.cells]) ok73 (Con.dropG (fwd_tangent_s p hP o_ ho hs b0 e ih hk he))
theorem fwd_tangent (p:Pg) (hP:p.Ok) (o_:List ByteArray) (ho:o_.length<=1000) (hs:∀s,s∈o_->s.size<=1000000) (e:Ex) (hk:FrK p.en e) (he:e.wt<=1500):
    Pur cfg 30 [vPg p,vE e,vSs o_] (vE (tanE (isFr p.en) o_ e)):=by
 refine zT Tryz.func30 O Tryz.ntmps30 Tryz.results30 O ?_
 intro z hz
 refine B O<|zV O O (qI O O) ?_
 rintro _ _ ⟨b1,rfl,rfl⟩
 refine zV O O (qI O O) ?_
 rintro _ _ ⟨b2,rfl,rfl⟩
 refine zV O O (qI O O) ?_
 rintro _ _ ⟨b3,rfl,rfl⟩
 refine zV O O (qG [none,none,none,none,none,none,none,none,none,none,some 2,some 4,some 13] O u O) ?_
 rintro _ _ ⟨b4,rfl,rfl⟩
 refine H<|B O<|zV O O (qX O zr74) ?_
 rintro _ _ ⟨b5,rfl,rfl⟩
 refine H<|W<|zW _ (kL 4 O 3 _ PLe.ptr)<|zW _ (kL 2 O 5 _ PLe.ptr)<|zU O<|zX O (zIz O O O O O)<|N 0 sz74 O<|H<|B O<|zL zAq (K 0 O) O<|zK Q (K 2 O) O<|zX O (qR [0] O O (fwd_tangent_c p hP o_ ho hs _ e hk he) ⟨G,O,T⟩ O)<|N 1 D O<|H<|U<|j (zR Q O (K 1 O) O) ?_
 exact O
theorem fwd_Expr (p:Pg) (hP:p.Ok) (o_:List ByteArray) (ho:o_.length<=1000) (hs:∀s,s∈o_->s.size<=1000000) (e:Ex) (he:e.wt<=1500):
    Pur cfg 11 [vPg p,vE e,vSs o_] (.tup [vE (exprF p.en o_ e).1,vI (exprF p.en o_ e).2]):=by
 refine zT Tryz.func11 O Tryz.ntmps11 Tryz.results11 O ?_
 intro z hz
 have hil:=zKk e
 obtain ⟨t,ht0⟩:∃t,typeT p.en (indexT e) e=t:=⟨_,rfl⟩
 refine B O<|zV O O (qI O O) ?_
 rintro _ _ ⟨b1,rfl,rfl⟩
 refine zV O O (qI O O) ?_
 rintro _ _ ⟨b2,rfl,rfl⟩
 refine zV O O (qG [none,none,none,none,none,none,none,none,none,none,some 2,some 4,some 13] O u O) ?_
 rintro _ _ ⟨b3,rfl,rfl⟩
 refine F O<|H<|W<|yF 10 1 [⟨0,.q [3]⟩,⟨1,.q [2]⟩,⟨2,.q []⟩,⟨3,.q [2]⟩,⟨4,.q []⟩,⟨5,.q []⟩,⟨6,.q []⟩,⟨7,.q []⟩,⟨8,.e 0 []⟩,⟨9,.e 0 []⟩] mixed (by kernel_rfl) (by kernel_rfl) O O O<|L O<|L O<|L O<|L O<|L O<|L O<|L O<|L O<|L O<|L O<|wM<|v O (by decide) O O (zM O kK O (K 0 O) O)<|v O (by decide) O O (zM O Q O (K 0 O) O)<|v O (by decide) O O (qF O ok28 (OwnR.pur (zDg e (by omega))) ⟨G,O,T⟩)<|v O (by decide) O O (zM O Q O (K 0 O) O)<|v O (by decide) O O (qF O ok27 (show Pur cfg 27 [vPg p,vSs (indexT e),vE e] (.tup [vTy t.1,vI t.2]) by rw [←ht0];exact zBy p (indexT e) e hP (by omega) (by omega)) ⟨G,O,G,O,G,O,T⟩)<|v O (by decide) O O (qU O O)<|v O (by decide) O O (yI O O O)<|v O (by decide) O O (yO O O O)<|sq_op O O (by decide) O O (qX O zr31) ?_
 rintro _ _ ⟨b4,rfl,rfl⟩
 refine ⟨_,O,?_⟩
 refine zIm O O (by decide) O O (kX O sz31 O O O (zDz 0 O O)) ?_
 rintro _ _ ⟨rfl,rfl⟩
 refine ⟨_,O,?_⟩
 refine wL O<|F O<|H<|W<|B O<|F O<|yU O<|H<|g O (fun c1=>?_) (fun c1=>?_)
 ·try simp only [I] at c1
  refine B O<|zX O (yA [none,none,none,none,none,none,none,none,none,none,some 2,some 4,some 13] O u pl38 O O)<|F O<|N 1 D O<|F O<|H<|U<|fin2 (zR Q O (K 1 O) O) (o O) ?_
  rw [exprF_1 ht0 c1];rfl
 ·try simp only [I] at c1
  have hpe:=zGi (by rw [ht0];exact c1)
  refine zJ<|W<|B O<|zH O zAl<|zL P (K 0 O) O<|yU O<|F O<|w O (fun g4_3=>zM O kK O (K 3 O) O) O<|w O (fun g4_3=>zM O Q O (K 2 O) O) O<|w O (fun g4_3=>zQ O O) O<|rLz [(28,_),(29,_),(30,_)] O J ⟨O,O,O,O,O,O,T⟩ (fun g4_3=>qF O ok29 (fwd_loses p hP o_ ho e hpe (by omega)) ⟨G,O,G,O,G,O,T⟩) O<|r_or O (fun h=>(lzf h))<|H<|g O (fun c2=>?_) (fun c2=>?_)
  ·have c2:¬(t.1.Kind=1/\losE (isFr p.en) o_ e=false):=by rintro ⟨h1,h2⟩;simp [h1,h2] at c2
   refine B O<|zX O (yA [none,none,none,none,none,none,none,none,none,none,some 2,some 4,some 13] O u pl38 O O)<|N 1 D O<|F O<|H<|U<|fin2 (zR Q O (K 1 O) O) (o O) ?_
   rw [exprF_2 ht0 c1 c2];rfl
  ·have c2:t.1.Kind=1/\losE (isFr p.en) o_ e=false:=by simpa using c2
   have hk:=zIf (by rw [ht0];exact c1) (by rw [ht0];exact c2.1)
   have hto:=kP (o_:=o_) hk (by omega)
   refine zJ<|B O<|zK kK (K 3 O) O<|zK Q (K 2 O) O<|F O<|qK O ok30 (fwd_tangent p hP o_ ho hs e hk (by omega)) ⟨G,O,G,O,G,O,T⟩<|zV O O (qG [none,none,none,none,none,none,none,none,none,none,some 2,some 4,some 13] O u O) ?_
   rintro _ _ ⟨b5,rfl,rfl⟩
   refine N 0 D O<|H<|W<|B O<|zK Q (K 0 O) O<|qK O ok31 (zEs (tanE (isFr p.en) o_ e) (by omega)) ⟨G,O,T⟩<|F O<|H<|B O<|F O<|yU O<|H<|g O (fun c3=>?_) (fun c3=>?_)
   ·try simp only [I] at c3
    refine B O<|zX O (yA [none,none,none,none,none,none,none,none,none,none,some 2,some 4,some 13] O u pl38 O O)<|F O<|N 2 D O<|F O<|H<|U<|fin2 (zR Q O (K 2 O) O) (o O) ?_
    rw [exprF_3 ht0 c1 c2 c3];rfl
   ·try simp only [I] at c3
    refine zJ<|B O<|zK Q (K 0 O) O<|qK O ok32 (expr_Copy (tanE (isFr p.en) o_ e) (by omega)) ⟨G,O,T⟩<|N 2 D O<|F O<|H<|U<|fin2 (zR Q O (K 2 O) O) (o O) ?_
    rw [exprF_4 ht0 c1 c2 c3];rfl
end Go.W
