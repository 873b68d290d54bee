/-
  Walks: what functions of the program compute. Printed by wip/gen/mk2.py.
  Conditions: none.
-/
import Derived.Test.YtkijgodlhljgdaaGreatDoorQA
set_option linter.unusedSimpArgs false
set_option linter.unusedVariables false
set_option maxRecDepth 10000
namespace Go.W
open Go Go.Eng Go.Proofs Go.L41 Go.Br
attribute [local irreducible] AWP RWP TD finQ
theorem rds_arg {o_:List ByteArray} {e x:Ex} {k:Nat} (h:e.Args[k]? =some x) (c:(!decide (e.Op=11)||decide (0<(k:Int)))=true):x∈vArgs e.Op e.Args:=by
  unfold vArgs
  by_cases c11:e.Op=11
  · rw [if_pos c11]
    have hk:0<k:=by simp [c11] at c;omega
    obtain ⟨j,rfl⟩:∃j,k=j+1:=⟨k-1,by omega⟩
    refine List.mem_of_getElem? (i:=j) ?_
    rw [List.getElem?_tail];exact h
  · rw [if_neg c11];exact List.mem_of_getElem? h
def vTo (o:Int) (l:List Ex) (k:Nat):List Ex:=vArgs o (l.take k)
theorem vTo_0 (o:Int) (l:List Ex):vTo o l 0=[]:=by unfold vTo vArgs;split<;>rfl
theorem vTo_all {o:Int} {l:List Ex} {k:Nat} (h:¬k<l.length):vTo o l k=vArgs o l:=by unfold vTo;rw [qW h]
theorem vTo_yes {o:Int} {l:List Ex} {k:Nat} {x:Ex} (h:l[k]? =some x) (c:(!decide (o=11)||decide (0<(k:Int)))=true):vTo o l (k+1)=vTo o l k++[x]:=by
  unfold vTo vArgs
  rw [qS h]
  by_cases c11:o=11
  · rw [if_pos c11,if_pos c11]
    have hk:0<k:=by simp [c11] at c;omega
    have hl:=zKj h
    cases e:l.take k with
    |nil=>
      have h9:(l.take k).length=0:=by rw [e];rfl
      rw [List.length_take] at h9
      omega
    |cons a r=>rfl
  · rw [if_neg c11,if_neg c11]
theorem vTo_no {o:Int} {l:List Ex} {k:Nat} {x:Ex} (h:l[k]? =some x) (c:(!decide (o=11)||decide (0<(k:Int)))=false):vTo o l (k+1)=vTo o l k:=by
  have hk:o=11/\k=0:=by simp at c;omega
  obtain ⟨rfl,rfl⟩:=hk
  unfold vTo vArgs
  rw [if_pos rfl,if_pos rfl,qS h];rfl
theorem any_v {f:Ex->Bool} {o:Int} {l:List Ex} {k:Nat} {x:Ex} (h:l[k]? =some x) (hp:(vTo o l k).any f=false) (c:((!decide (o=11)||decide (0<(k:Int)))&&f x)=false):(vTo o l (k+1)).any f=false:=by
  cases q:(!decide (o=11)||decide (0<(k:Int))) with
  |true=>rw [vTo_yes h q,List.any_append,hp];rw [q] at c;simpa using c
  |false=>rw [vTo_no h q];exact hp
theorem any_vt {f:Ex->Bool} {e:Ex} {k:Nat} {x:Ex} (h:e.Args[k]? =some x) (c:((!decide (e.Op=11)||decide (0<(k:Int)))&&f x)=true):(vArgs e.Op e.Args).any f=true:=by
  rw [Bool.and_eq_true] at c
  exact List.any_eq_true.2 ⟨x,rds_arg (o_:=[]) h c.1,c.2⟩
theorem rds_end {o_:List ByteArray} {e:Ex} (c:¬(e.Op=3/\hasB o_ e.Name=true)) (h:(vArgs e.Op e.Args).any (rdsE o_)=false):false=rdsE o_ e:=by
  rw [zEo]
  by_cases h3:e.Op=3
  · rw [if_pos h3]
    cases q:hasB o_ e.Name with
    |true=>exact absurd ⟨h3,q⟩ c
    |false=>rfl
  · rw [if_neg h3,h]
theorem kind_fr {n:En} {e:Ex}:isFr n e=decide ((typeR n (indexW e) e).1.Kind=1):=by
  rw [type_ref]
  unfold isFr
  by_cases h:(typeT n (indexT e) e).2=0
  · rw [decide_eq_true h,Bool.true_and]
  · rw [decide_eq_false h,Bool.false_and]
    have:(typeT n (indexT e) e).1=zTy:=by
      unfold typeT typeBy at h⊢
      by_cases c:validE e=0
      · rw [if_pos c] at h⊢
        by_cases d:isCond e=true
        · rw [if_pos d]
        · rw [if_neg d] at h⊢
          by_cases f:(nodeT (ofN n (knB n.sz (indexT e))) e).2=0
          · rw [if_pos f] at h;exact absurd rfl h
          · rw [if_neg f]
      · rw [if_neg c]
    rw [this];rfl
theorem ok34:callOk Tryz.prog 34=true:=by kernel_rfl
theorem ok35:callOk Tryz.prog 35=true:=by kernel_rfl
theorem ok36:callOk Tryz.prog 36=true:=by kernel_rfl
theorem ok48:callOk Tryz.prog 48=true:=by kernel_rfl
theorem ok49:callOk Tryz.prog 49=true:=by kernel_rfl
theorem ok91:callOk Tryz.prog 91=true:=by kernel_rfl
theorem ok92:callOk Tryz.prog 92=true:=by kernel_rfl
theorem ok93:callOk Tryz.prog 93=true:=by kernel_rfl
theorem ok94:callOk Tryz.prog 94=true:=by kernel_rfl
theorem ok95:callOk Tryz.prog 95=true:=by kernel_rfl
theorem ok96:callOk Tryz.prog 96=true:=by kernel_rfl
theorem ok97:callOk Tryz.prog 97=true:=by kernel_rfl
theorem ok112:callOk Tryz.prog 112=true:=by kernel_rfl
theorem zNc (s:ByteArray) (hs:s.size<=1000000):
    Pur cfg 49 [vS s] (vS (dNm s)):=by
 refine zT Tryz.func49 O Tryz.ntmps49 Tryz.results49 O ?_
 intro z hz
 refine B O<|F O<|H<|B O<|F O<|zX O (det_sadd O O O (by have h9:(ByteArray.mk #[100,95]).size=2:=(by decide);omega))<|F O<|H<|U<|M O ?_
 exact O
theorem r26_frac  :
    Pur cfg 112 [] (vTy frT):=by
 refine zT Tryz.func112 O Tryz.ntmps112 Tryz.results112 O ?_
 intro z hz
 refine B O<|zV O O (qX O zr31) ?_
 rintro _ _ ⟨b1,rfl,rfl⟩
 refine H<|B O<|yV O zr31 pl31<|N 0 sz31 O<|H<|U<|j (zR yC O (K 0 O) O) ?_
 exact O
theorem zEp  :
    Pur cfg 92 [] (vE zeroX):=by
 refine zT Tryz.func92 O Tryz.ntmps92 Tryz.results92 O ?_
 intro z hz
 refine B O<|zV O O (qG [none,none,none,none,none,none,none,none,none,none,some 2,some 4,some 13] O u O) ?_
 rintro _ _ ⟨b1,rfl,rfl⟩
 refine H<|B O<|qK O ok112 (r26_frac) T<|yV O zr29 pl29<|zX O (yA [none,none,none,none,none,none,none,none,none,none,some 2,some 4,some 13] O u pl38 O O)<|N 0 D O<|H<|U<|j (zR Q O (K 0 O) O) ?_
 exact O
theorem zAp (e:Ex) (he:e.wt<=4294967296):
    Pur cfg 93 [vE e] (vB (decide (e=zeroX))):=by
 refine zT Tryz.func93 O Tryz.ntmps93 Tryz.results93 O ?_
 intro z hz
 refine B O<|zV O O (qI O O) ?_
 rintro _ _ ⟨b1,rfl,rfl⟩
 refine F O<|H<|W<|qP 4 mixed (by kernel_rfl) O O<|Y O O (zM O Q O (K 0 O) O)<|Y O O (qF O ok92 (zEp) T)<|Y O O (qF O ok13 (zOv e zeroX (by omega)) ⟨G,O,G,O,T⟩)<|Y O O (yW O O)<|yK<|H<|U<|M O ?_
 exact O
theorem wJ (o:Int) (l:List Ex):
    Pur cfg 94 [vI o,.c (.sl 13 (l.map Ex.cs))] (vE (opE o l)):=by
 refine zT Tryz.func94 O Tryz.ntmps94 Tryz.results94 O ?_
 intro z hz
 refine B O<|zV O O (qG [none,none,none,none,none,none,none,none,none,none,some 2,some 4,some 13] O u O) ?_
 rintro _ _ ⟨b1,rfl,rfl⟩
 refine H<|B O<|F O<|F O<|zX O (yA [none,none,none,none,none,none,none,none,none,none,some 2,some 4,none] O u pl38 O O)<|N 0 D O<|H<|U<|j (zR Q O (K 0 O) O) ?_
 exact opE_of o l
theorem r26_kind (p:Pg) (e:Ex) (hP:p.Ok) (he:e.wt<=900000):
    Pur cfg 91 [vPg p,vE e] (vTy (typeR p.en (indexW e) e).1):=by
 refine zT Tryz.func91 O Tryz.ntmps91 Tryz.results91 O ?_
 intro z hz
 have hil:=indexW_len e
 refine B O<|zV O O (qI O O) ?_
 rintro _ _ ⟨b1,rfl,rfl⟩
 refine zV O O (qI O O) ?_
 rintro _ _ ⟨b2,rfl,rfl⟩
 refine zV O O (qX O zr31) ?_
 rintro _ _ ⟨b3,rfl,rfl⟩
 refine H<|W<|yF 10 1 [⟨0,.q [3]⟩,⟨1,.q [2]⟩,⟨2,.q []⟩,⟨3,.q [2]⟩,⟨4,.q []⟩,⟨5,.q []⟩,⟨6,.q []⟩,⟨7,.q []⟩,⟨8,.e 0 []⟩,⟨9,.e 0 []⟩] mixed (by kernel_rfl) (by kernel_rfl) O O O<|L O<|L O<|L O<|L O<|L O<|L O<|L O<|L O<|L O<|L O<|wM<|v O (by decide) O O (zM O kK O (K 0 O) O)<|v O (by decide) O O (zM O Q O (K 0 O) O)<|v O (by decide) O O (qF O ok34 (zFd e (by omega)) ⟨G,O,T⟩)<|v O (by decide) O O (zM O Q O (K 0 O) O)<|v O (by decide) O O (qF O ok33 (zKw p (indexW e) e hP (by omega) (by omega)) ⟨G,O,G,O,G,O,T⟩)<|v O (by decide) O O (qU O O)<|v O (by decide) O O (yI O O O)<|v O (by decide) O O (yO O O O)<|sq_op O O (by decide) O O (qX O zr31) ?_
 rintro _ _ ⟨b4,rfl,rfl⟩
 refine ⟨_,O,?_⟩
 refine zIm O O (by decide) O O (kX O sz31 O O O (zDz 0 O O)) ?_
 rintro _ _ ⟨rfl,rfl⟩
 refine ⟨_,O,?_⟩
 refine wL O<|F O<|H<|B O<|zK yC (K 0 O) O<|N 1 sz31 O<|H<|U<|j (zR yC O (K 1 O) O) ?_
 exact O
theorem r26_product (a b x y:Ex) (hx:x.wt<=4294967296) (hy:y.wt<=4294967296):
    Pur cfg 96 [vE a,vE b,vE x,vE y] (vE (prodT a b x y)):=by
 refine zT Tryz.func96 O Tryz.ntmps96 Tryz.results96 O ?_
 intro z hz
 refine B O<|zV O O (qI O O) ?_
 rintro _ _ ⟨b1,rfl,rfl⟩
 refine zV O O (qI O O) ?_
 rintro _ _ ⟨b2,rfl,rfl⟩
 refine zV O O (qI O O) ?_
 rintro _ _ ⟨b3,rfl,rfl⟩
 refine zV O O (qI O O) ?_
 rintro _ _ ⟨b4,rfl,rfl⟩
 refine zV O O (qG [none,none,none,none,none,none,none,none,none,none,some 2,some 4,some 13] O u O) ?_
 rintro _ _ ⟨b5,rfl,rfl⟩
 refine H<|W<|zP<|B O<|zK Q (K 2 O) O<|qK O ok93 (zAp x (by omega)) ⟨G,O,T⟩<|F O<|w O (fun g1_2=>zM O Q O (K 1 O) O) O<|R 13 O (fun g1_2=>qF O ok93 (zAp y (by omega)) ⟨G,O,T⟩) O<|yY O (fun h=>h)<|F O<|H<|g O (fun c1=>?_) (fun c1=>?_)
 ·have c1:x=zeroX/\y=zeroX:=by simpa using c1
  refine B O<|qK O ok92 zEp T<|N 0 D O<|H<|U<|j (zR Q O (K 0 O) O) ?_
  exact (congrArg vE (show prodT a b x y=zeroX from if_pos c1)).symm
 ·have c1:¬(x=zeroX/\y=zeroX):=by simpa using c1
  refine B O<|zK Q (K 2 O) O<|qK O ok93 (zAp x (by omega)) ⟨G,O,T⟩<|F O<|H<|g O (fun c2=>?_) (fun c2=>?_)
  ·try simp only [I] at c2
   refine B O<|zK Q (K 4 O) O<|zK Q (K 1 O) O<|yB O A u<|qK O ok94 (wJ 6 [a,y]) ⟨G,O,G,O,T⟩<|N 0 D O<|H<|U<|j (zR Q O (K 0 O) O) ?_
   exact (congrArg vE (show prodT a b x y=opE 6 [a,y] from (if_neg c1).trans (if_pos c2))).symm
  ·try simp only [I] at c2
   refine B O<|zK Q (K 1 O) O<|qK O ok93 (zAp y (by omega)) ⟨G,O,T⟩<|F O<|H<|g O (fun c3=>?_) (fun c3=>?_)
   ·try simp only [I] at c3
    refine B O<|zK Q (K 2 O) O<|zK Q (K 3 O) O<|yB O A u<|qK O ok94 (wJ 6 [x,b]) ⟨G,O,G,O,T⟩<|N 0 D O<|H<|U<|j (zR Q O (K 0 O) O) ?_
    exact (congrArg vE (show prodT a b x y=opE 6 [x,b] from (if_neg c1).trans ((if_neg c2).trans (if_pos c3)))).symm
   ·try simp only [I] at c3
    refine zJ<|W<|qP 10 mixed (by kernel_rfl) O O<|Y O O (zM O Q O (K 2 O) O)<|Y O O (zM O Q O (K 3 O) O)<|Y O O (qY O A u O O O O)<|Y O O (qF O ok94 (wJ 6 [x,b]) ⟨G,O,G,O,T⟩)<|Y O O (zM O Q O (K 4 O) O)<|Y O O (zM O Q O (K 1 O) O)<|Y O O (qY O A u O O O O)<|Y O O (qF O ok94 (wJ 6 [a,y]) ⟨G,O,G,O,T⟩)<|Y O O (qY O A u O O O O)<|Y O O (qF O ok94 (wJ 4 [opE 6 [x,b],opE 6 [a,y]]) ⟨G,O,G,O,T⟩)<|yK<|N 0 D O<|H<|U<|j (zR Q O (K 0 O) O) ?_
    exact (congrArg vE (show prodT a b x y=opE 4 [opE 6 [x,b],opE 6 [a,y]] from (if_neg c1).trans ((if_neg c2).trans (if_neg c3)))).symm
theorem r26_quotient (a b x y:Ex) (hx:x.wt<=4294967296) (hy:y.wt<=4294967296):
    Pur cfg 97 [vE a,vE b,vE x,vE y] (vE (quoT a b x y)):=by
 refine zT Tryz.func97 O Tryz.ntmps97 Tryz.results97 O ?_
 intro z hz
 refine B O<|zV O O (qI O O) ?_
 rintro _ _ ⟨b1,rfl,rfl⟩
 refine zV O O (qI O O) ?_
 rintro _ _ ⟨b2,rfl,rfl⟩
 refine zV O O (qI O O) ?_
 rintro _ _ ⟨b3,rfl,rfl⟩
 refine zV O O (qI O O) ?_
 rintro _ _ ⟨b4,rfl,rfl⟩
 refine zV O O (qG [none,none,none,none,none,none,none,none,none,none,some 2,some 4,some 13] O u O) ?_
 rintro _ _ ⟨b5,rfl,rfl⟩
 refine H<|W<|B O<|zK Q (K 1 O) O<|qK O ok93 (zAp y (by omega)) ⟨G,O,T⟩<|H<|g O (fun c1=>?_) (fun c1=>?_)
 ·try simp only [I] at c1
  refine W<|B O<|zK Q (K 2 O) O<|qK O ok93 (zAp x (by omega)) ⟨G,O,T⟩<|H<|g O (fun c2=>?_) (fun c2=>?_)
  ·try simp only [I] at c2
   refine B O<|qK O ok92 zEp T<|N 0 D O<|H<|U<|j (zR Q O (K 0 O) O) ?_
   exact (congrArg vE (show quoT a b x y=zeroX from (if_pos c1).trans (if_pos c2))).symm
  ·try simp only [I] at c2
   refine zJ<|B O<|zK Q (K 2 O) O<|zK Q (K 3 O) O<|yB O A u<|qK O ok94 (wJ 7 [x,b]) ⟨G,O,G,O,T⟩<|N 0 D O<|H<|U<|j (zR Q O (K 0 O) O) ?_
   exact (congrArg vE (show quoT a b x y=opE 7 [x,b] from (if_pos c1).trans (if_neg c2))).symm
 ·try simp only [I] at c1
  refine zJ<|W<|yF 8 1 [⟨0,.q [5]⟩,⟨1,.q [4]⟩,⟨2,.q []⟩,⟨3,.q []⟩,⟨4,.q [2]⟩,⟨5,.q []⟩,⟨6,.q []⟩,⟨7,.f 0⟩] mixed (by kernel_rfl) (by kernel_rfl) O O O<|L O<|L O<|L O<|L O<|L O<|L O<|L O<|zEr O O (wF (qG [none,none,none,none,none,none,none,none,none,none,some 2,some 4,some 13] O u O)) ⟨_,_,0,O,O⟩<|wM<|v O (by decide) O O (zM O Q O (K 0 O) O)<|v O (by decide) O O (zM O Q O (K 0 O) O)<|v O (by decide) O O (qY O A u O O O O)<|v O (by decide) O O (qF O ok94 (wJ 7 [a,b]) ⟨G,O,G,O,T⟩)<|v O (by decide) O O (zM O Q O (K 0 O) O)<|v O (by decide) O O (qY O A u O O O O)<|v O (by decide) O O (qF O ok94 (wJ 6 [opE 7 [a,b],y]) ⟨G,O,G,O,T⟩)<|zEm O O ?_
  rintro _ _ ⟨b6,rfl,rfl⟩
  refine wL O<|N 0 D O<|H<|W<|B O<|zK Q (K 3 O) O<|qK O ok93 (zAp x (by omega)) ⟨G,O,T⟩<|H<|g O (fun c3=>?_) (fun c3=>?_)
  ·try simp only [I] at c3
   refine W<|qP 6 mixed (by kernel_rfl) O O<|Y O O (zM O Q O (K 0 O) O)<|Y O O (qY O A u O O O O)<|Y O O (qF O ok94 (wJ 8 [opE 6 [opE 7 [a,b],y]]) ⟨G,O,G,O,T⟩)<|Y O O (zM O Q O (K 4 O) O)<|Y O O (qY O A u O O O O)<|Y O O (qF O ok94 (wJ 7 [opE 8 [opE 6 [opE 7 [a,b],y]],b]) ⟨G,O,G,O,T⟩)<|yK<|N 1 D O<|H<|U<|j (zR Q O (K 1 O) O) ?_
   exact (congrArg vE (show quoT a b x y=opE 7 [opE 8 [opE 6 [opE 7 [a,b],y]],b] from (if_neg c1).trans (if_pos c3))).symm
  ·try simp only [I] at c3
   refine zJ<|W<|qP 7 mixed (by kernel_rfl) O O<|Y O O (zM O Q O (K 3 O) O)<|Y O O (zM O Q O (K 0 O) O)<|Y O O (qY O A u O O O O)<|Y O O (qF O ok94 (wJ 5 [x,opE 6 [opE 7 [a,b],y]]) ⟨G,O,G,O,T⟩)<|Y O O (zM O Q O (K 4 O) O)<|Y O O (qY O A u O O O O)<|Y O O (qF O ok94 (wJ 7 [opE 5 [x,opE 6 [opE 7 [a,b],y]],b]) ⟨G,O,G,O,T⟩)<|yK<|N 1 D O<|H<|U<|j (zR Q O (K 1 O) O) ?_
   exact (congrArg vE (show quoT a b x y=opE 7 [opE 5 [x,opE 6 [opE 7 [a,b],y]],b] from (if_neg c1).trans (if_neg c3))).symm
theorem zJt (c x y:Ex) (hx:x.wt<=4294967296) (hy:y.wt<=4294967296):
    Pur cfg 95 [vE c,vE x,vE y] (vE (choT c x y)):=by
 refine zT Tryz.func95 O Tryz.ntmps95 Tryz.results95 O ?_
 intro z hz
 refine B O<|zV O O (qI O O) ?_
 rintro _ _ ⟨b1,rfl,rfl⟩
 refine zV O O (qI O O) ?_
 rintro _ _ ⟨b2,rfl,rfl⟩
 refine zV O O (qI O O) ?_
 rintro _ _ ⟨b3,rfl,rfl⟩
 refine zV O O (qG [none,none,none,none,none,none,none,none,none,none,some 2,some 4,some 13] O u O) ?_
 rintro _ _ ⟨b4,rfl,rfl⟩
 refine H<|W<|B O<|zK Q (K 2 O) O<|qK O ok93 (zAp x (by omega)) ⟨G,O,T⟩<|F O<|w O (fun g1_2=>zM O Q O (K 1 O) O) O<|R 10 O (fun g1_2=>qF O ok93 (zAp y (by omega)) ⟨G,O,T⟩) O<|yY O (fun h=>h)<|H<|g O (fun c1=>?_) (fun c1=>?_)
 ·have c1:x=zeroX/\y=zeroX:=by simpa using c1
  refine B O<|qK O ok92 zEp T<|N 0 D O<|H<|U<|j (zR Q O (K 0 O) O) ?_
  exact (congrArg vE (show choT c x y=zeroX from if_pos c1)).symm
 ·have c1:¬(x=zeroX/\y=zeroX):=by simpa using c1
  refine zJ<|B O<|zK Q (K 3 O) O<|zK Q (K 2 O) O<|zK Q (K 1 O) O<|yB O A u<|qK O ok94 (wJ 11 [c,x,y]) ⟨G,O,G,O,T⟩<|N 0 D O<|H<|U<|j (zR Q O (K 0 O) O) ?_
  exact (congrArg vE (show choT c x y=opE 11 [c,x,y] from if_neg c1)).symm
theorem r26_reads_step (o_:List ByteArray) (ho:o_.length<=1000) (e:Ex) (ih:∀a,a∈e.Args->partE a=0->Pur cfg 48 [vE a,vSs o_] (vB (rdsE o_ a))) (hp:partE e=0):
    Pur cfg 48 [vE e,vSs o_] (vB (rdsE o_ e)):=by
 refine zT Tryz.func48 O Tryz.ntmps48 Tryz.results48 O ?_
 intro z hz
 have hal:=zFk hp
 have hna:nArgs e.Op<=3:=by unfold nArgs;repeat' split<;>omega
 refine B O<|zV O O (qI O O) ?_
 rintro _ _ ⟨b1,rfl,rfl⟩
 refine F O<|H<|W<|B O<|zH O yQ<|zL P (K 0 O) O<|n O<|F O<|w O (fun g1_3=>zQ O O) O<|w O (fun g1_3=>zE O zAw O) O<|R 11 O (fun g1_3=>zG O i O (K 0 O) O) O<|rLz [(10,_),(12,_)] O J ⟨O,O,O,O,T⟩ (fun g1_3=>qF O ok50 (zJj o_ e.Name (by omega)) ⟨G,O,G,O,T⟩) O<|yY O (fun h=>h)<|H<|g O (fun c1=>?_) (fun c1=>?_)
 ·have c1:e.Op=3/\hasB o_ e.Name=true:=by simpa using c1
  refine B O<|F O<|H<|U<|M O ?_
  exact congrArg vB (by rw [zEo,if_pos c1.1,c1.2])
 ·have c1:¬(e.Op=3/\hasB o_ e.Name=true):=by simpa using c1
  refine zJ<|W<|B O<|F O<|H<|zP<|zW ⟨[(5,.c _),(1,.c _),(2,.c _)],[_]⟩ (Weak.mk [true] ⟨G,G,G,T⟩ O)<|qJ 1 0 O O (Nat) (fun k=>[(5,vI k)]) (fun k=>[]) (fun k=>k<=e.Args.length/\((vTo e.Op e.Args k).any (rdsE o_)=false)) (fun k=>e.Args.length-k) ⟨0,⟨by omega,by rw [vTo_0];rfl⟩,Weak.mk [true] ⟨G,G,G,T⟩ O⟩ ?_
  rintro k ⟨hk,hp2⟩
  refine W<|B O<|F O<|zH O kA<|zL wA (K 0 O) O<|zZ O A<|yD O<|H<|g O (fun c2=>?_) (fun c2=>?_)
  ·try simp only [I] at c2
   obtain ⟨x,hx⟩:=qQ e.Args k (by omega)
   refine zJ<|W<|zP<|B O<|zH O yQ<|zL P (K 0 O) O<|yU O<|F O<|w O (fun g6_3=>zQ O O) O<|R 26 O (fun g6_3=>yM O O O) O<|r_or O (fun h=>(lzf h))<|F O<|w O (fun g6_7=>zE O kA O) O<|R 30 O (fun g6_7=>zG O wA O (K 0 O) O) O<|w O (fun g6_7=>zQ O O) O<|rLz [(31,_),(32,_)] O J ⟨O,O,O,O,T⟩ (fun g6_7=>qA O A O O (by omega) (yR hx)) O<|R 33 O (fun g6_7=>zM O Q O qB O) O<|w O (fun g6_7=>zQ O O) O<|rLz [(34,_),(35,_)] O J ⟨O,O,O,O,T⟩ (fun g6_7=>qF O ok48 (ih x (qD hx) (wI hp (qD hx))) ⟨G,O,G,O,T⟩) O<|yY O (fun h=>h)<|H<|g O (fun c3=>?_) (fun c3=>?_)
   ·refine B O<|F O<|H<|U<|M O ?_
    exact congrArg vB (by rw [zEo,if_neg (fun h=>by rw [read_len hp h] at hx;simp at hx),any_vt hx c3])
   ·refine zJ<|zU O<|F O<|qL O ⟨by omega,by omega⟩<|F O<|H ?_
    refine ⟨k+1,⟨by omega,any_v hx hp2 c3⟩,(by omega),Weak.mk [true] ⟨G,G,G,T⟩ O⟩
  ·try simp only [I] at c2
   refine qN<|B O<|F O<|H<|U<|M O ?_
   rw [vTo_all (by omega)] at hp2
   exact congrArg vB (rds_end c1 hp2)
theorem r26_reads (o_:List ByteArray) (ho:o_.length<=1000) (e:Ex):partE e=0->Pur cfg 48 [vE e,vSs o_] (vB (rdsE o_ e)):=by
  induction e using Ex.ind with
  |_ e ih=>exact fun hp=>r26_reads_step o_ ho e ih hp
theorem r26_loses_step (p:Pg) (hP:p.Ok) (o_:List ByteArray) (ho:o_.length<=1000) (e:Ex) (ih:∀a,a∈e.Args->partE a=0->a.wt<=900000->Pur cfg 35 [vPg p,vE a,vSs o_] (vB (losE (isFr p.en) o_ a))) (hp:partE e=0) (he:e.wt<=900000):
    Pur cfg 35 [vPg p,vE e,vSs o_] (vB (losE (isFr p.en) o_ e)):=by
 refine zT Tryz.func35 O Tryz.ntmps35 Tryz.results35 O ?_
 intro z hz
 have hal:=zFk hp
 have hna:nArgs e.Op<=3:=by unfold nArgs;repeat' split<;>omega
 obtain ⟨a,ha0⟩:∃x,e.Args.getD 0 zEx=x:=⟨_,rfl⟩
 have haw:=getD_wt (e:=e) rfl 0
 rw [ha0] at haw
 refine B O<|zV O O (qI O O) ?_
 rintro _ _ ⟨b1,rfl,rfl⟩
 refine zV O O (qI O O) ?_
 rintro _ _ ⟨b2,rfl,rfl⟩
 refine F O<|H<|W<|W<|qP 27 mixed (by kernel_rfl) O O<|Y O O (zE O yQ O)<|Y O O (zG O P O (K 0 O) O)<|Y O O (yG O O O)<|Y O O (zQ O O)<|f [] O O O O J T (fun g1_3=>zE O zCh O) O<|f [(12,_)] O O O O J ⟨O,O,T⟩ (fun g1_3=>zE O zAl O) O<|f [(13,_)] O O O O J ⟨O,O,T⟩ (fun g1_3=>zG O P O (K 0 O) O) O<|f [(14,_)] O O O O J ⟨O,O,T⟩ (fun g1_3=>zAf O O O) O<|Y O O (kI O O O (fun h=>h) O)<|Y O O (zQ O O)<|f [] O O O O J T (fun g1_9=>zM O kK O (K 1 O) O) O<|f [] O O O O J T (fun g1_9=>zE O kA O) O<|f [(19,_)] O O O O J ⟨O,O,T⟩ (fun g1_9=>zG O wA O (K 0 O) O) O<|f [(20,_)] O O O O J ⟨O,O,T⟩ (fun g1_9=>qA O A O O (by have h12:e.Op=12:=(by simp only [Lz,cond_true,cond_false,Bool.and_eq_true,Bool.or_eq_true,Bool.not_eq_true',Bool.not_eq_false',Bool.or_eq_false_iff,Bool.and_eq_false_iff,decide_eq_true_eq,decide_eq_false_iff_not,Bool.not_eq_true,Bool.not_eq_false] at g1_9;first|exact g1_9.1|exact g1_9.1.1|exact g1_9.1.1.1);have h13:=zAg hp h12;omega) (yR (exGq (by have h12:e.Op=12:=(by simp only [Lz,cond_true,cond_false,Bool.and_eq_true,Bool.or_eq_true,Bool.not_eq_true',Bool.not_eq_false',Bool.or_eq_false_iff,Bool.and_eq_false_iff,decide_eq_true_eq,decide_eq_false_iff_not,Bool.not_eq_true,Bool.not_eq_false] at g1_9;first|exact g1_9.1|exact g1_9.1.1|exact g1_9.1.1.1);have h13:=zAg hp h12;omega) ha0))) O<|f [(21,_)] O O O O J ⟨O,O,T⟩ (fun g1_9=>zM O Q O qB O) O<|f [(18,_),(22,_)] O O O O J ⟨O,O,O,O,T⟩ (fun g1_9=>qF O ok91 (r26_kind p a hP (by omega)) ⟨G,O,G,O,T⟩) O<|f [(23,_)] O O O O J ⟨O,O,T⟩ (fun g1_9=>zLg O zAl P O O) O<|f [(24,_)] O O O O J ⟨O,O,T⟩ (fun g1_9=>yG O O O) O<|Y O O (kI O O O (fun h=>h) O)<|Y O O (zQ O O)<|f [] O O O O J T (fun g1_19=>zE O kA O) O<|f [(28,_)] O O O O J ⟨O,O,T⟩ (fun g1_19=>zG O wA O (K 0 O) O) O<|f [(29,_)] O O O O J ⟨O,O,T⟩ (fun g1_19=>qA O A O O (by have h12:e.Op=12:=(by simp only [Lz,cond_true,cond_false,Bool.and_eq_true,Bool.or_eq_true,Bool.not_eq_true',Bool.not_eq_false',Bool.or_eq_false_iff,Bool.and_eq_false_iff,decide_eq_true_eq,decide_eq_false_iff_not,Bool.not_eq_true,Bool.not_eq_false] at g1_19;first|exact g1_19.1|exact g1_19.1.1|exact g1_19.1.1.1);have h13:=zAg hp h12;omega) (yR (exGq (by have h12:e.Op=12:=(by simp only [Lz,cond_true,cond_false,Bool.and_eq_true,Bool.or_eq_true,Bool.not_eq_true',Bool.not_eq_false',Bool.or_eq_false_iff,Bool.and_eq_false_iff,decide_eq_true_eq,decide_eq_false_iff_not,Bool.not_eq_true,Bool.not_eq_false] at g1_19;first|exact g1_19.1|exact g1_19.1.1|exact g1_19.1.1.1);have h13:=zAg hp h12;omega) ha0))) O<|f [(30,_)] O O O O J ⟨O,O,T⟩ (fun g1_19=>zM O Q O qB O) O<|f [] O O O O J T (fun g1_19=>zQ O O) O<|f [(31,_),(32,_)] O O O O J ⟨O,O,O,O,T⟩ (fun g1_19=>qF O ok48 (r26_reads o_ ho a (zOt hp (by have h12:e.Op=12:=(by simp only [Lz,cond_true,cond_false,Bool.and_eq_true,Bool.or_eq_true,Bool.not_eq_true',Bool.not_eq_false',Bool.or_eq_false_iff,Bool.and_eq_false_iff,decide_eq_true_eq,decide_eq_false_iff_not,Bool.not_eq_true,Bool.not_eq_false] at g1_19;first|exact g1_19.1|exact g1_19.1.1|exact g1_19.1.1.1);have h13:=zAg hp h12;exact h12) ha0)) ⟨G,O,G,O,T⟩) O<|Y O O (kI O O O (fun h=>h) O)<|yK<|H<|g O (fun c1=>?_) (fun c1=>?_)
 ·have c1:(decide (e.Op=12)&& !decide (e.Ty.Kind=1)&&isFr p.en (e.Args.getD 0 zEx)&&rdsE o_ (e.Args.getD 0 zEx))=true:=by rw [ha0,kind_fr];exact c1
  refine B O<|F O<|H<|U<|M O ?_
  exact congrArg vB (losE_yes c1).symm
 ·have c1:(decide (e.Op=12)&& !decide (e.Ty.Kind=1)&&isFr p.en (e.Args.getD 0 zEx)&&rdsE o_ (e.Args.getD 0 zEx))=false:=by rw [ha0,kind_fr];exact c1
  refine zJ<|W<|B O<|F O<|H<|zP<|zW ⟨[(7,.c _),(2,.c _),(3,.c _),(4,.c _)],[_,_]⟩ (Weak.mk [true,true] ⟨G,G,G,G,T⟩ O)<|qJ 1 0 O O (Nat) (fun k=>[(7,vI k)]) (fun k=>[]) (fun k=>k<=e.Args.length/\((vTo e.Op e.Args k).any (losE (isFr p.en) o_)=false)) (fun k=>e.Args.length-k) ⟨0,⟨by omega,by rw [vTo_0];rfl⟩,Weak.mk [true,true] ⟨G,G,G,G,T⟩ O⟩ ?_
  rintro k ⟨hk,hp2⟩
  refine W<|B O<|F O<|zH O kA<|zL wA (K 0 O) O<|zZ O A<|yD O<|H<|g O (fun c2=>?_) (fun c2=>?_)
  ·try simp only [I] at c2
   obtain ⟨x,hx⟩:=qQ e.Args k (by omega)
   refine zJ<|W<|zP<|W<|qP 17 mixed (by kernel_rfl) O O<|Y O O (zE O yQ O)<|Y O O (zG O P O (K 0 O) O)<|Y O O (zAf O O O)<|Y O O (zQ O O)<|f [] O O O O J T (fun g6_3=>zQ O O) O<|f [(46,_)] O O O O J ⟨O,O,T⟩ (fun g6_3=>yM O O O) O<|Y O O (zBs O O O O (fun h=>(lzf h)))<|Y O O (zQ O O)<|f [] O O O O J T (fun g6_7=>zM O kK O (K 1 O) O) O<|f [] O O O O J T (fun g6_7=>zE O kA O) O<|f [(51,_)] O O O O J ⟨O,O,T⟩ (fun g6_7=>zG O wA O (K 0 O) O) O<|f [] O O O O J T (fun g6_7=>zQ O O) O<|f [(52,_),(53,_)] O O O O J ⟨O,O,O,O,T⟩ (fun g6_7=>qA O A O O (by omega) (yR hx)) O<|f [(54,_)] O O O O J ⟨O,O,T⟩ (fun g6_7=>zM O Q O qB O) O<|f [] O O O O J T (fun g6_7=>zQ O O) O<|f [(50,_),(55,_),(56,_)] O O O O J ⟨O,O,O,O,O,O,T⟩ (fun g6_7=>qF O ok35 (ih x (qD hx) (wI hp (qD hx)) (by have:=Ex.arg_wt (qD hx);omega)) ⟨G,O,G,O,G,O,T⟩) O<|Y O O (kI O O O (fun h=>h) O)<|yK<|H<|g O (fun c3=>?_) (fun c3=>?_)
   ·refine B O<|F O<|H<|U<|M O ?_
    exact congrArg vB (by rw [zKg c1,any_vt hx c3])
   ·refine zJ<|zU O<|F O<|qL O ⟨by omega,by omega⟩<|F O<|H ?_
    refine ⟨k+1,⟨by omega,any_v hx hp2 c3⟩,(by omega),Weak.mk [true,true] ⟨G,G,G,G,T⟩ O⟩
  ·try simp only [I] at c2
   refine qN<|B O<|F O<|H<|U<|M O ?_
   rw [vTo_all (by omega)] at hp2
   exact congrArg vB (by rw [zKg c1,hp2])
theorem r26_loses (p:Pg) (hP:p.Ok) (o_:List ByteArray) (ho:o_.length<=1000) (e:Ex):partE e=0->e.wt<=900000->Pur cfg 35 [vPg p,vE e,vSs o_] (vB (losE (isFr p.en) o_ e)):=by
  induction e using Ex.ind with
  |_ e ih=>exact fun hp he=>r26_loses_step p hP o_ ho e ih hp he
theorem zLm (p:Pg) (hP:p.Ok) (o_:List ByteArray) (ho:o_.length<=1000) (hs:∀s,s∈o_->s.size<=1000000) (e:Ex) (ih:∀a,a∈e.Args->FrK p.en a->a.wt<=1500->Pur cfg 36 [vPg p,vE a,vSs o_] (vE (tanE (isFr p.en) o_ a))) (hk:FrK p.en e) (he:e.wt<=1500):
    Pur cfg 36 [vPg p,vE e,vSs o_] (vE (tanE (isFr p.en) o_ e)):=by
 refine zT Tryz.func36 O Tryz.ntmps36 Tryz.results36 O ?_
 intro z hz
 have hop:=frk_op hk
 refine B O<|zV O O (qI O O) ?_
 rintro _ _ ⟨b1,rfl,rfl⟩
 refine zV O O (qI O O) ?_
 rintro _ _ ⟨b2,rfl,rfl⟩
 refine zV O O (qG [none,none,none,none,none,none,none,none,none,none,some 2,some 4,some 13] O u O) ?_
 rintro _ _ ⟨b3,rfl,rfl⟩
 refine H<|W<|B O<|zH O yQ<|zL P (K 1 O) O<|H<|zP<|B O<|n O<|F O<|H<|g O (fun c1=>?_) (fun c1=>?_)
 ·try simp only [I] at c1
  refine B O<|qK O ok92 zEp T<|N 0 D O<|H<|U<|j (zR Q O (K 0 O) O) ?_
  exact (congrArg vE (tan_val c1)).symm
 ·try simp only [I] at c1
  refine B O<|n O<|F O<|H<|g O (fun c2=>?_) (fun c2=>?_)
  ·try simp only [I] at c2
   refine W<|B O<|F O<|zH O zAw<|zL i (K 1 O) O<|qK O ok50 (zJj o_ e.Name (by omega)) ⟨G,O,G,O,T⟩<|wP O<|H<|g O (fun c3=>?_) (fun c3=>?_)
   ·try simp only [I] at c3
    have c3:¬hasB o_ e.Name=true:=by simpa using c3
    refine B O<|qK O ok92 zEp T<|N 0 D O<|H<|U<|j (zR Q O (K 0 O) O) ?_
    exact (congrArg vE (zIj c2 c3)).symm
   ·try simp only [I] at c3
    have c3:hasB o_ e.Name=true:=by simpa using c3
    refine zJ<|W<|qP 6 mixed (by kernel_rfl) O O<|Y O O (zE O zAw O)<|Y O O (zG O i O (K 1 O) O)<|Y O O (qF O ok49 (zNc e.Name (hs _ (zGp.1 c3))) ⟨G,O,T⟩)<|Y O O (zE O kF O)<|Y O O (zG O wQ O (K 1 O) O)<|Y O O (yA [none,none,none,none,none,none,none,none,none,none,some 2,none,some 13] O u pl38 O O)<|yK<|N 0 D O<|H<|U<|j (zR Q O (K 0 O) O) ?_
    exact (congrArg vE (zLt c2 c3)).symm
  ·try simp only [I] at c2
   refine B O<|n O<|F O<|H<|g O (fun c4=>?_) (fun c4=>?_)
   ·try simp only [I] at c4
    obtain ⟨a,hab,hpa⟩:=zGv hk.1 (by omega)
    have g0:e.Args[0]? =some a:=by rw [hab];rfl
    have hl2:e.Args.length=1:=by rw [hab];rfl
    have hw2:=zDt hab
    refine W<|W<|qP 8 mixed (by kernel_rfl) O O<|Y O O (zM O kK O (K 2 O) O)<|Y O O (zE O kA O)<|Y O O (zG O wA O (K 1 O) O)<|Y O O (qA O A O O (by omega) (yR g0))<|Y O O (zM O Q O qB O)<|Y O O (qF O ok91 (r26_kind p a hP (by omega)) ⟨G,O,G,O,T⟩)<|Y O O (zLg O zAl P O O)<|Y O O (zAf O O O)<|yK<|H<|g O (fun c5=>?_) (fun c5=>?_)
    ·try simp only [I] at c5
     have c5:¬isFr p.en a=true:=by rw [kind_fr];simpa using c5
     refine B O<|qK O ok92 zEp T<|N 0 D O<|H<|U<|j (zR Q O (K 0 O) O) ?_
     exact (congrArg vE ((zEl (by omega) hab).trans (if_neg c5))).symm
    ·try simp only [I] at c5
     have c5:isFr p.en a=true:=by rw [kind_fr];simpa using c5
     have ha:=zIw c5
     refine zJ<|W<|qP 7 mixed (by kernel_rfl) O O<|Y O O (zM O kK O (K 2 O) O)<|Y O O (zE O kA O)<|Y O O (zG O wA O (K 1 O) O)<|Y O O (qA O A O O (by omega) (yR g0))<|Y O O (zM O Q O qB O)<|Y O O (zQ O O)<|Y O O (qF O ok36 (ih a (by rw [hab];simp) ha (by omega)) ⟨G,O,G,O,G,O,T⟩)<|yK<|N 0 D O<|H<|U<|j (zR Q O (K 0 O) O) ?_
     exact (congrArg vE ((zEl (by omega) hab).trans (if_pos c5))).symm
   ·try simp only [I] at c4
    refine B O<|n O<|F O<|H<|g O (fun c6=>?_) (fun c6=>?_)
    ·try simp only [I] at c6
     obtain ⟨a,hab,ha⟩:=frk_neg hk (by omega)
     have g0:e.Args[0]? =some a:=by rw [hab];rfl
     have hl2:e.Args.length=1:=by rw [hab];rfl
     have hw2:=zDt hab
     have hta:=kP (o_:=o_) ha (by omega)
     refine W<|yF 8 1 [⟨0,.q [3]⟩,⟨1,.q []⟩,⟨2,.q [2]⟩,⟨3,.q []⟩,⟨4,.q []⟩,⟨5,.q []⟩,⟨6,.q []⟩,⟨7,.f 0⟩] mixed (by kernel_rfl) (by kernel_rfl) O O O<|L O<|L O<|L O<|L O<|L O<|L O<|L O<|zEr O O (wF (qG [none,none,none,none,none,none,none,none,none,none,some 2,some 4,some 13] O u O)) ⟨_,_,0,O,O⟩<|wM<|v O (by decide) O O (zM O kK O (K 0 O) O)<|v O (by decide) O O (zE O kA O)<|v O (by decide) O O (zG O wA O (K 0 O) O)<|v O (by decide) O O (qA O A O O (by omega) (yR g0))<|v O (by decide) O O (zM O Q O qB O)<|v O (by decide) O O (zQ O O)<|v O (by decide) O O (qF O ok36 (ih a (by rw [hab];simp) ha (by omega)) ⟨G,O,G,O,G,O,T⟩)<|zEm O O ?_
     rintro _ _ ⟨b4,rfl,rfl⟩
     refine wL O<|N 0 D O<|H<|W<|B O<|zK Q (K 0 O) O<|qK O ok93 (zAp (tanE (isFr p.en) o_ a) (by omega)) ⟨G,O,T⟩<|H<|g O (fun c7=>?_) (fun c7=>?_)
     ·try simp only [I] at c7
      refine B O<|zK Q (K 0 O) O<|N 1 D O<|H<|U<|j (zR Q O (K 1 O) O) ?_
      exact (congrArg vE ((zHo (by omega) hab).trans ((if_pos c7).trans c7.symm))).symm
     ·try simp only [I] at c7
      refine zJ<|B O<|zK Q (K 0 O) O<|yB O A u<|qK O ok94 (wJ 8 [tanE (isFr p.en) o_ a]) ⟨G,O,G,O,T⟩<|N 1 D O<|H<|U<|j (zR Q O (K 1 O) O) ?_
      exact (congrArg vE ((zHo (by omega) hab).trans (if_neg c7))).symm
    ·try simp only [I] at c6
     refine B O<|n O<|F O<|H<|g O (fun c8=>?_) (fun c8=>?_)
     ·try simp only [I] at c8
      obtain ⟨c,a,b,hab,ha,hb⟩:=frk_if hk (by omega)
      have g0:e.Args[0]? =some c:=by rw [hab];rfl
      have g1:e.Args[1]? =some a:=by rw [hab];rfl
      have g2:e.Args[2]? =some b:=by rw [hab];rfl
      have hl2:e.Args.length=3:=by rw [hab];rfl
      have hw2:=zMb hab
      have hta:=kP (o_:=o_) ha (by omega)
      have htb:=kP (o_:=o_) hb (by omega)
      refine W<|qP 19 mixed (by kernel_rfl) O O<|Y O O (zE O kA O)<|Y O O (zG O wA O (K 1 O) O)<|Y O O (qA O A O O (by omega) (yR g0))<|Y O O (zM O Q O qB O)<|Y O O (zM O kK O (K 2 O) O)<|Y O O (zE O kA O)<|Y O O (zG O wA O (K 1 O) O)<|Y O O (qA O A O O (by omega) (yR g1))<|Y O O (zM O Q O qB O)<|Y O O (zQ O O)<|Y O O (qF O ok36 (ih a (by rw [hab];simp) ha (by omega)) ⟨G,O,G,O,G,O,T⟩)<|Y O O (zM O kK O (K 2 O) O)<|Y O O (zE O kA O)<|Y O O (zG O wA O (K 1 O) O)<|Y O O (qA O A O O (by omega) (yR g2))<|Y O O (zM O Q O qB O)<|Y O O (zQ O O)<|Y O O (qF O ok36 (ih b (by rw [hab];simp) hb (by omega)) ⟨G,O,G,O,G,O,T⟩)<|Y O O (qF O ok95 (zJt c (tanE (isFr p.en) o_ a) (tanE (isFr p.en) o_ b) (by omega) (by omega)) ⟨G,O,G,O,G,O,T⟩)<|yK<|N 0 D O<|H<|U<|j (zR Q O (K 0 O) O) ?_
      exact (congrArg vE (tan_if (by omega) hab)).symm
     ·try simp only [I] at c8
      obtain ⟨a,b,hab,ha,hb⟩:=zAd hk (by omega)
      have g0:e.Args[0]? =some a:=by rw [hab];rfl
      have g1:e.Args[1]? =some b:=by rw [hab];rfl
      have hl2:e.Args.length=2:=by rw [hab];rfl
      have hw2:=wE hab
      have hta:=kP (o_:=o_) ha (by omega)
      have htb:=kP (o_:=o_) hb (by omega)
      refine zJ<|B O<|zH O kA<|zL wA (K 1 O) O<|qH O A (by omega) (yR g0)<|zK Q qB O<|zV O O (qG [none,none,none,none,none,none,none,none,none,none,some 2,some 4,some 13] O u O) ?_
      rintro _ _ ⟨b5,rfl,rfl⟩
      refine N 0 D O<|H<|B O<|zH O kA<|zL wA (K 2 O) O<|qH O A (by omega) (yR g1)<|zK Q qB O<|zV O O (qG [none,none,none,none,none,none,none,none,none,none,some 2,some 4,some 13] O u O) ?_
      rintro _ _ ⟨b6,rfl,rfl⟩
      refine N 0 D O<|H<|B O<|zK kK (K 4 O) O<|zK Q (K 1 O) O<|F O<|qK O ok36 (ih a (by rw [hab];simp) ha (by omega)) ⟨G,O,G,O,G,O,T⟩<|zV O O (qG [none,none,none,none,none,none,none,none,none,none,some 2,some 4,some 13] O u O) ?_
      rintro _ _ ⟨b7,rfl,rfl⟩
      refine N 0 D O<|H<|B O<|zK kK (K 5 O) O<|zK Q (K 1 O) O<|F O<|qK O ok36 (ih b (by rw [hab];simp) hb (by omega)) ⟨G,O,G,O,G,O,T⟩<|zV O O (qG [none,none,none,none,none,none,none,none,none,none,some 2,some 4,some 13] O u O) ?_
      rintro _ _ ⟨b8,rfl,rfl⟩
      refine N 0 D O<|H<|W<|B O<|zH O yQ<|zL P (K 5 O) O<|H<|zP<|B O<|n O<|F O<|H<|g O (fun c9=>?_) (fun c9=>?_)
      ·try simp only [I] at c9
       refine B O<|zK Q (K 3 O) O<|zK Q (K 2 O) O<|zK Q (K 1 O) O<|zK Q (K 0 O) O<|qK O ok96 (r26_product a b (tanE (isFr p.en) o_ a) (tanE (isFr p.en) o_ b) (by omega) (by omega)) ⟨G,O,G,O,G,O,G,O,T⟩<|N 4 D O<|H<|U<|j (zR Q O (K 4 O) O) ?_
       exact (congrArg vE (tan_mul (by omega) hab)).symm
      ·try simp only [I] at c9
       refine B O<|n O<|F O<|H<|g O (fun c10=>?_) (fun c10=>?_)
       ·try simp only [I] at c10
        refine B O<|zK Q (K 3 O) O<|zK Q (K 2 O) O<|zK Q (K 1 O) O<|zK Q (K 0 O) O<|qK O ok97 (r26_quotient a b (tanE (isFr p.en) o_ a) (tanE (isFr p.en) o_ b) (by omega) (by omega)) ⟨G,O,G,O,G,O,G,O,T⟩<|N 4 D O<|H<|U<|j (zR Q O (K 4 O) O) ?_
        exact (congrArg vE (tan_div (by omega) hab)).symm
       ·try simp only [I] at c10
        refine B O<|n O<|F O<|H<|g O (fun c11=>?_) (fun c11=>?_)
        ·try simp only [I] at c11
         refine W<|qP 7 mixed (by kernel_rfl) O O<|Y O O (zM O Q O (K 3 O) O)<|Y O O (zM O Q O (K 2 O) O)<|Y O O (qY O A u O O O O)<|Y O O (qF O ok94 (wJ 14 [a,b]) ⟨G,O,G,O,T⟩)<|Y O O (zM O Q O (K 1 O) O)<|Y O O (zM O Q O (K 0 O) O)<|Y O O (qF O ok95 (zJt (opE 14 [a,b]) (tanE (isFr p.en) o_ a) (tanE (isFr p.en) o_ b) (by omega) (by omega)) ⟨G,O,G,O,G,O,T⟩)<|yK<|N 4 D O<|H<|U<|j (zR Q O (K 4 O) O) ?_
         exact (congrArg vE (tan_min (by omega) hab)).symm
        ·try simp only [I] at c11
         refine B O<|n O<|F O<|H<|g O (fun c12=>?_) (fun c12=>?_)
         ·try simp only [I] at c12
          refine W<|qP 7 mixed (by kernel_rfl) O O<|Y O O (zM O Q O (K 2 O) O)<|Y O O (zM O Q O (K 3 O) O)<|Y O O (qY O A u O O O O)<|Y O O (qF O ok94 (wJ 14 [b,a]) ⟨G,O,G,O,T⟩)<|Y O O (zM O Q O (K 1 O) O)<|Y O O (zM O Q O (K 0 O) O)<|Y O O (qF O ok95 (zJt (opE 14 [b,a]) (tanE (isFr p.en) o_ a) (tanE (isFr p.en) o_ b) (by omega) (by omega)) ⟨G,O,G,O,G,O,T⟩)<|yK<|N 4 D O<|H<|U<|j (zR Q O (K 4 O) O) ?_
          exact (congrArg vE (tan_max (by omega) hab)).symm
         ·try simp only [I] at c12
          refine zJ<|W<|zP<|B O<|zK Q (K 0 O) O<|qK O ok93 (zAp (tanE (isFr p.en) o_ b) (by omega)) ⟨G,O,T⟩<|F O<|H<|g O (fun c13=>?_) (fun c13=>?_)
          ·try simp only [I] at c13
           refine B O<|zK Q (K 1 O) O<|N 4 D O<|H<|U<|j (zR Q O (K 4 O) O) ?_
           exact (congrArg vE ((zDu (by omega) hab).trans (if_pos c13))).symm
          ·try simp only [I] at c13
           refine B O<|zK Q (K 1 O) O<|qK O ok93 (zAp (tanE (isFr p.en) o_ a) (by omega)) ⟨G,O,T⟩<|F O<|w O (fun g34_2=>zE O yQ O) O<|R 143 O (fun g34_2=>zG O P O (K 5 O) O) O<|R 144 O (fun g34_2=>yG O O O) O<|yY O (fun h=>h)<|F O<|H<|g O (fun c14=>?_) (fun c14=>?_)
           ·have c14:tanE (isFr p.en) o_ a=zeroX/\e.Op=5:=by simpa using c14
            refine B O<|zK Q (K 0 O) O<|yB O A u<|qK O ok94 (wJ 8 [tanE (isFr p.en) o_ b]) ⟨G,O,G,O,T⟩<|N 4 D O<|H<|U<|j (zR Q O (K 4 O) O) ?_
            exact (congrArg vE ((zDu (by omega) hab).trans ((if_neg c13).trans (if_pos c14)))).symm
           ·have c14:¬(tanE (isFr p.en) o_ a=zeroX/\e.Op=5):=by simpa using c14
            refine B O<|zK Q (K 1 O) O<|qK O ok93 (zAp (tanE (isFr p.en) o_ a) (by omega)) ⟨G,O,T⟩<|F O<|H<|g O (fun c15=>?_) (fun c15=>?_)
            ·try simp only [I] at c15
             refine B O<|zK Q (K 0 O) O<|N 4 D O<|H<|U<|j (zR Q O (K 4 O) O) ?_
             exact (congrArg vE ((zDu (by omega) hab).trans ((if_neg c13).trans ((if_neg c14).trans (if_pos c15))))).symm
            ·try simp only [I] at c15
             refine zJ<|B O<|zH O yQ<|zL P (K 5 O) O<|zK Q (K 1 O) O<|zK Q (K 0 O) O<|yB O A u<|qK O ok94 (wJ e.Op [tanE (isFr p.en) o_ a,tanE (isFr p.en) o_ b]) ⟨G,O,G,O,T⟩<|N 4 D O<|H<|U<|j (zR Q O (K 4 O) O) ?_
             exact (congrArg vE ((zDu (by omega) hab).trans ((if_neg c13).trans ((if_neg c14).trans (if_neg c15))))).symm
theorem r26_tangent (p:Pg) (hP:p.Ok) (o_:List ByteArray) (ho:o_.length<=1000) (hs:∀s,s∈o_->s.size<=1000000) (e:Ex):FrK p.en e->e.wt<=1500->Pur cfg 36 [vPg p,vE e,vSs o_] (vE (tanE (isFr p.en) o_ e)):=by
  induction e using Ex.ind with
  |_ e ih=>exact fun hk he=>zLm p hP o_ ho hs e ih hk he
theorem r26_Expr (p:Pg) (hP:p.Ok) (o_:List ByteArray) (ho:o_.length<=1000) (hs:∀s,s∈o_->s.size<=1000000) (e:Ex) (he:e.wt<=1500):
    Pur cfg 12 [vPg p,vE e,vSs o_] (.tup [vE (exprF p.en o_ e).1,vI (exprF p.en o_ e).2]):=by
 refine zT Tryz.func12 O Tryz.ntmps12 Tryz.results12 O ?_
 intro z hz
 have hil:=indexW_len e
 obtain ⟨t,ht0⟩:∃t,typeT p.en (indexT e) e=t:=⟨_,rfl⟩
 refine B O<|zV O O (qI O O) ?_
 rintro _ _ ⟨b1,rfl,rfl⟩
 refine zV O O (qI O O) ?_
 rintro _ _ ⟨b2,rfl,rfl⟩
 refine zV O O (qG [none,none,none,none,none,none,none,none,none,none,some 2,some 4,some 13] O u O) ?_
 rintro _ _ ⟨b3,rfl,rfl⟩
 refine F O<|H<|W<|yF 10 1 [⟨0,.q [3]⟩,⟨1,.q [2]⟩,⟨2,.q []⟩,⟨3,.q [2]⟩,⟨4,.q []⟩,⟨5,.q []⟩,⟨6,.q []⟩,⟨7,.q []⟩,⟨8,.e 0 []⟩,⟨9,.e 0 []⟩] mixed (by kernel_rfl) (by kernel_rfl) O O O<|L O<|L O<|L O<|L O<|L O<|L O<|L O<|L O<|L O<|L O<|wM<|v O (by decide) O O (zM O kK O (K 0 O) O)<|v O (by decide) O O (zM O Q O (K 0 O) O)<|v O (by decide) O O (qF O ok34 (zFd e (by omega)) ⟨G,O,T⟩)<|v O (by decide) O O (zM O Q O (K 0 O) O)<|v O (by decide) O O (qF O ok33 (show Pur cfg 33 [vPg p,vSs (indexW e),vE e] (.tup [vTy t.1,vI t.2]) by rw [←ht0,←type_ref];exact zKw p (indexW e) e hP (by omega) (by omega)) ⟨G,O,G,O,G,O,T⟩)<|v O (by decide) O O (qU O O)<|v O (by decide) O O (yI O O O)<|v O (by decide) O O (yO O O O)<|sq_op O O (by decide) O O (qX O zr31) ?_
 rintro _ _ ⟨b4,rfl,rfl⟩
 refine ⟨_,O,?_⟩
 refine zIm O O (by decide) O O (kX O sz31 O O O (zDz 0 O O)) ?_
 rintro _ _ ⟨rfl,rfl⟩
 refine ⟨_,O,?_⟩
 refine wL O<|F O<|H<|W<|B O<|F O<|yU O<|H<|g O (fun c1=>?_) (fun c1=>?_)
 ·try simp only [I] at c1
  refine B O<|zX O (yA [none,none,none,none,none,none,none,none,none,none,some 2,some 4,some 13] O u pl38 O O)<|F O<|N 1 D O<|F O<|H<|U<|fin2 (zR Q O (K 1 O) O) (o O) ?_
  rw [exprF_1 ht0 c1];rfl
 ·try simp only [I] at c1
  have hpe:=zGi (by rw [ht0];exact c1)
  refine zJ<|W<|B O<|zH O zAl<|zL P (K 0 O) O<|yU O<|F O<|w O (fun g4_3=>zM O kK O (K 3 O) O) O<|w O (fun g4_3=>zM O Q O (K 2 O) O) O<|w O (fun g4_3=>zQ O O) O<|rLz [(28,_),(29,_),(30,_)] O J ⟨O,O,O,O,O,O,T⟩ (fun g4_3=>qF O ok35 (r26_loses p hP o_ ho e hpe (by omega)) ⟨G,O,G,O,G,O,T⟩) O<|r_or O (fun h=>(lzf h))<|H<|g O (fun c2=>?_) (fun c2=>?_)
  ·have c2:¬(t.1.Kind=1/\losE (isFr p.en) o_ e=false):=by rintro ⟨h1,h2⟩;simp [h1,h2] at c2
   refine B O<|zX O (yA [none,none,none,none,none,none,none,none,none,none,some 2,some 4,some 13] O u pl38 O O)<|N 1 D O<|F O<|H<|U<|fin2 (zR Q O (K 1 O) O) (o O) ?_
   rw [exprF_2 ht0 c1 c2];rfl
  ·have c2:t.1.Kind=1/\losE (isFr p.en) o_ e=false:=by simpa using c2
   have hk:=zIf (by rw [ht0];exact c1) (by rw [ht0];exact c2.1)
   have hto:=kP (o_:=o_) hk (by omega)
   refine zJ<|B O<|zK kK (K 3 O) O<|zK Q (K 2 O) O<|F O<|qK O ok36 (r26_tangent p hP o_ ho hs e hk (by omega)) ⟨G,O,G,O,G,O,T⟩<|zV O O (qG [none,none,none,none,none,none,none,none,none,none,some 2,some 4,some 13] O u O) ?_
   rintro _ _ ⟨b5,rfl,rfl⟩
   refine N 0 D O<|H<|W<|B O<|zK Q (K 0 O) O<|qK O ok37 (zHc (tanE (isFr p.en) o_ e) (by omega)) ⟨G,O,T⟩<|F O<|H<|B O<|F O<|yU O<|H<|g O (fun c3=>?_) (fun c3=>?_)
   ·try simp only [I] at c3
    refine B O<|zX O (yA [none,none,none,none,none,none,none,none,none,none,some 2,some 4,some 13] O u pl38 O O)<|F O<|N 2 D O<|F O<|H<|U<|fin2 (zR Q O (K 2 O) O) (o O) ?_
    rw [exprF_3 ht0 c1 c2 c3];rfl
   ·try simp only [I] at c3
    refine zJ<|B O<|zK Q (K 0 O) O<|N 2 D O<|F O<|H<|U<|fin2 (zR Q O (K 2 O) O) (o O) ?_
    rw [exprF_4 ht0 c1 c2 c3];rfl
end Go.W
