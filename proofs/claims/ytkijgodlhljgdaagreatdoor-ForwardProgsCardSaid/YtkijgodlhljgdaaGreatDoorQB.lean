/-
  Walks: what functions of the program compute. Printed by wip/gen/mk2.py.
  Conditions: none.
-/
import Derived.Test.YtkijgodlhljgdaaGreatDoorQA
set_option linter.unusedSimpArgs false
set_option linter.unusedVariables false
set_option maxRecDepth 10000
namespace Go.W
open Go Go.Eng Go.Proofs Go.L41 Go.Br
attribute [local irreducible] AWP RWP TD finQ
theorem rds_arg {o_:List ByteArray} {e x:Ex} {k:Nat} (h:e.Args[k]? =some x) (c:(!decide (e.Op=11)||decide (0<(k:Int)))=true):x∈vArgs e.Op e.Args:=by
  unfold vArgs
  by_cases c11:e.Op=11
  · rw [if_pos c11]
    have hk:0<k:=by simp [c11] at c;omega
    obtain ⟨j,rfl⟩:∃j,k=j+1:=⟨k-1,by omega⟩
    refine List.mem_of_getElem? (i:=j) ?_
    rw [List.getElem?_tail];exact h
  · rw [if_neg c11];exact List.mem_of_getElem? h
def vTo (o:Int) (l:List Ex) (k:Nat):List Ex:=vArgs o (l.take k)
theorem vTo_0 (o:Int) (l:List Ex):vTo o l 0=[]:=by unfold vTo vArgs;split<;>rfl
theorem vTo_all {o:Int} {l:List Ex} {k:Nat} (h:¬k<l.length):vTo o l k=vArgs o l:=by unfold vTo;rw [qY h]
theorem vTo_yes {o:Int} {l:List Ex} {k:Nat} {x:Ex} (h:l[k]? =some x) (c:(!decide (o=11)||decide (0<(k:Int)))=true):vTo o l (k+1)=vTo o l k++[x]:=by
  unfold vTo vArgs
  rw [qQ h]
  by_cases c11:o=11
  · rw [if_pos c11,if_pos c11]
    have hk:0<k:=by simp [c11] at c;omega
    have hl:=zHf h
    cases e:l.take k with
    |nil=>
      have h9:(l.take k).length=0:=by rw [e];rfl
      rw [List.length_take] at h9
      omega
    |cons a r=>rfl
  · rw [if_neg c11,if_neg c11]
theorem vTo_no {o:Int} {l:List Ex} {k:Nat} {x:Ex} (h:l[k]? =some x) (c:(!decide (o=11)||decide (0<(k:Int)))=false):vTo o l (k+1)=vTo o l k:=by
  have hk:o=11/\k=0:=by simp at c;omega
  obtain ⟨rfl,rfl⟩:=hk
  unfold vTo vArgs
  rw [if_pos rfl,if_pos rfl,qQ h];rfl
theorem any_v {f:Ex->Bool} {o:Int} {l:List Ex} {k:Nat} {x:Ex} (h:l[k]? =some x) (hp:(vTo o l k).any f=false) (c:((!decide (o=11)||decide (0<(k:Int)))&&f x)=false):(vTo o l (k+1)).any f=false:=by
  cases q:(!decide (o=11)||decide (0<(k:Int))) with
  |true=>rw [vTo_yes h q,List.any_append,hp];rw [q] at c;simpa using c
  |false=>rw [vTo_no h q];exact hp
theorem any_vt {f:Ex->Bool} {e:Ex} {k:Nat} {x:Ex} (h:e.Args[k]? =some x) (c:((!decide (e.Op=11)||decide (0<(k:Int)))&&f x)=true):(vArgs e.Op e.Args).any f=true:=by
  rw [Bool.and_eq_true] at c
  exact List.any_eq_true.2 ⟨x,rds_arg (o_:=[]) h c.1,c.2⟩
theorem rds_end {o_:List ByteArray} {e:Ex} (c:¬(e.Op=3/\hasB o_ e.Name=true)) (h:(vArgs e.Op e.Args).any (rdsE o_)=false):false=rdsE o_ e:=by
  rw [zFg]
  by_cases h3:e.Op=3
  · rw [if_pos h3]
    cases q:hasB o_ e.Name with
    |true=>exact absurd ⟨h3,q⟩ c
    |false=>rfl
  · rw [if_neg h3,h]
theorem kind_fr {n:En} {e:Ex}:isFr n e=decide ((typeR n (indexW e) e).1.Kind=1):=by
  rw [type_ref]
  unfold isFr
  by_cases h:(typeT n (indexT e) e).2=0
  · rw [decide_eq_true h,Bool.true_and]
  · rw [decide_eq_false h,Bool.false_and]
    have:(typeT n (indexT e) e).1=zTy:=by
      unfold typeT typeBy at h⊢
      by_cases c:validE e=0
      · rw [if_pos c] at h⊢
        by_cases d:isCond e=true
        · rw [if_pos d]
        · rw [if_neg d] at h⊢
          by_cases f:(nodeT (ofN n (knB n.sz (indexT e))) e).2=0
          · rw [if_pos f] at h;exact absurd rfl h
          · rw [if_neg f]
      · rw [if_neg c]
    rw [this];rfl
theorem ok34:callOk Tryz.prog 34=true:=by kernel_rfl
theorem ok35:callOk Tryz.prog 35=true:=by kernel_rfl
theorem ok36:callOk Tryz.prog 36=true:=by kernel_rfl
theorem ok48:callOk Tryz.prog 48=true:=by kernel_rfl
theorem ok49:callOk Tryz.prog 49=true:=by kernel_rfl
theorem ok91:callOk Tryz.prog 91=true:=by kernel_rfl
theorem ok92:callOk Tryz.prog 92=true:=by kernel_rfl
theorem ok93:callOk Tryz.prog 93=true:=by kernel_rfl
theorem ok94:callOk Tryz.prog 94=true:=by kernel_rfl
theorem ok95:callOk Tryz.prog 95=true:=by kernel_rfl
theorem ok96:callOk Tryz.prog 96=true:=by kernel_rfl
theorem ok97:callOk Tryz.prog 97=true:=by kernel_rfl
theorem ok112:callOk Tryz.prog 112=true:=by kernel_rfl
theorem zCd (s:ByteArray) (hs:s.size<=1000000):
    Pur cfg 49 [vS s] (vS (dNm s)):=by
 refine zV Tryz.func49 O Tryz.ntmps49 Tryz.results49 O ?_
 intro z hz
 refine B O<|F O<|H<|B O<|F O<|qB O (det_sadd O O O (by have h9:(ByteArray.mk #[100,95]).size=2:=(by decide);omega))<|F O<|H<|W<|R O ?_
 exact O
theorem r26_frac  :
    Pur cfg 112 [] (vTy frT):=by
 refine zV Tryz.func112 O Tryz.ntmps112 Tryz.results112 O ?_
 intro z hz
 refine B O<|zW O O (yA O zr31) ?_
 rintro _ _ ⟨b1,rfl,rfl⟩
 refine H<|B O<|kA O zr31 pl31<|N 0 sz31 O<|H<|W<|X (zS yF O (K 0 O) O) ?_
 exact O
theorem zFh  :
    Pur cfg 92 [] (vE zeroX):=by
 refine zV Tryz.func92 O Tryz.ntmps92 Tryz.results92 O ?_
 intro z hz
 refine B O<|zW O O (qI [none,none,none,none,none,none,none,none,none,none,some 2,some 4,some 13] O zr38 O) ?_
 rintro _ _ ⟨b1,rfl,rfl⟩
 refine H<|B O<|qK O ok112 (r26_frac) T<|kA O zr29 pl29<|yR [none,none,none,none,none,none,none,none,none,none,some 2,some 4,some 13] O zr38 pl38<|N 0 v O<|H<|W<|X (zS qH O (K 0 O) O) ?_
 exact O
theorem zBd (e:Ex) (he:e.wt<=4294967296):
    Pur cfg 93 [vE e] (vB (decide (e=zeroX))):=by
 refine zV Tryz.func93 O Tryz.ntmps93 Tryz.results93 O ?_
 intro z hz
 refine B O<|zW O O (qJ O O) ?_
 rintro _ _ ⟨b1,rfl,rfl⟩
 refine F O<|H<|U<|qO 4 mixed (by kernel_rfl) O O<|Y O O (zN O qH O (K 0 O) O)<|Y O O (qF O ok92 (zFh) T)<|Y O O (qF O ok13 (zPw e zeroX (by omega)) ⟨G,O,G,O,T⟩)<|Y O O (yX O O)<|yK<|H<|W<|R O ?_
 exact O
theorem wR (o:Int) (l:List Ex):
    Pur cfg 94 [vI o,.c (.sl 13 (l.map Ex.cs))] (vE (opE o l)):=by
 refine zV Tryz.func94 O Tryz.ntmps94 Tryz.results94 O ?_
 intro z hz
 refine B O<|zW O O (qI [none,none,none,none,none,none,none,none,none,none,some 2,some 4,some 13] O zr38 O) ?_
 rintro _ _ ⟨b1,rfl,rfl⟩
 refine H<|B O<|F O<|F O<|yR [none,none,none,none,none,none,none,none,none,none,some 2,some 4,none] O zr38 pl38<|N 0 v O<|H<|W<|X (zS qH O (K 0 O) O) ?_
 exact opE_of o l
theorem r26_kind (p:Pg) (e:Ex) (hP:p.Ok) (he:e.wt<=900000):
    Pur cfg 91 [vPg p,vE e] (vTy (typeR p.en (indexW e) e).1):=by
 refine zV Tryz.func91 O Tryz.ntmps91 Tryz.results91 O ?_
 intro z hz
 have hil:=indexW_len e
 refine B O<|zW O O (qJ O O) ?_
 rintro _ _ ⟨b1,rfl,rfl⟩
 refine zW O O (qJ O O) ?_
 rintro _ _ ⟨b2,rfl,rfl⟩
 refine zW O O (yA O zr31) ?_
 rintro _ _ ⟨b3,rfl,rfl⟩
 refine H<|U<|yH 10 1 [⟨0,.q [3]⟩,⟨1,.q [2]⟩,⟨2,.q []⟩,⟨3,.q [2]⟩,⟨4,.q []⟩,⟨5,.q []⟩,⟨6,.q []⟩,⟨7,.q []⟩,⟨8,.e 0 []⟩,⟨9,.e 0 []⟩] mixed (by kernel_rfl) (by kernel_rfl) O O O<|D O<|D O<|D O<|D O<|D O<|D O<|D O<|D O<|D O<|D O<|wG<|M O (by decide) O O (zN O kC O (K 0 O) O)<|M O (by decide) O O (zN O qH O (K 0 O) O)<|M O (by decide) O O (qF O ok34 (zFt e (by omega)) ⟨G,O,T⟩)<|M O (by decide) O O (zN O qH O (K 0 O) O)<|M O (by decide) O O (qF O ok33 (zGh p (indexW e) e hP (by omega) (by omega)) ⟨G,O,G,O,G,O,T⟩)<|M O (by decide) O O (qU O O)<|M O (by decide) O O (yN O O O)<|M O (by decide) O O (yG O O O)<|zKl O O (by decide) O O (yA O zr31) ?_
 rintro _ _ ⟨b4,rfl,rfl⟩
 refine ⟨_,O,?_⟩
 refine zGb O O (by decide) O O (kT O sz31 O O O (zDo 0 O O)) ?_
 rintro _ _ ⟨rfl,rfl⟩
 refine ⟨_,O,?_⟩
 refine wF O<|F O<|H<|B O<|zL yF (K 0 O) O<|N 1 sz31 O<|H<|W<|X (zS yF O (K 1 O) O) ?_
 exact O
theorem r26_product (a b x y:Ex) (hx:x.wt<=4294967296) (hy:y.wt<=4294967296):
    Pur cfg 96 [vE a,vE b,vE x,vE y] (vE (prodT a b x y)):=by
 refine zV Tryz.func96 O Tryz.ntmps96 Tryz.results96 O ?_
 intro z hz
 refine B O<|zW O O (qJ O O) ?_
 rintro _ _ ⟨b1,rfl,rfl⟩
 refine zW O O (qJ O O) ?_
 rintro _ _ ⟨b2,rfl,rfl⟩
 refine zW O O (qJ O O) ?_
 rintro _ _ ⟨b3,rfl,rfl⟩
 refine zW O O (qJ O O) ?_
 rintro _ _ ⟨b4,rfl,rfl⟩
 refine zW O O (qI [none,none,none,none,none,none,none,none,none,none,some 2,some 4,some 13] O zr38 O) ?_
 rintro _ _ ⟨b5,rfl,rfl⟩
 refine H<|U<|zP<|B O<|zL qH (K 2 O) O<|qK O ok93 (zBd x (by omega)) ⟨G,O,T⟩<|F O<|u O (fun g1_2=>zN O qH O (K 1 O) O) O<|J 13 O (fun g1_2=>qF O ok93 (zBd y (by omega)) ⟨G,O,T⟩) O<|yZ O (fun h=>h)<|F O<|H<|g O (fun c1=>?_) (fun c1=>?_)
 ·have c1:x=zeroX/\y=zeroX:=by simpa using c1
  refine B O<|qK O ok92 zFh T<|N 0 v O<|H<|W<|X (zS qH O (K 0 O) O) ?_
  exact (congrArg vE (show prodT a b x y=zeroX from if_pos c1)).symm
 ·have c1:¬(x=zeroX/\y=zeroX):=by simpa using c1
  refine B O<|zL qH (K 2 O) O<|qK O ok93 (zBd x (by omega)) ⟨G,O,T⟩<|F O<|H<|g O (fun c2=>?_) (fun c2=>?_)
  ·try simp only [I] at c2
   refine B O<|zL qH (K 4 O) O<|zL qH (K 1 O) O<|qZ O A zr38<|qK O ok94 (wR 6 [a,y]) ⟨G,O,G,O,T⟩<|N 0 v O<|H<|W<|X (zS qH O (K 0 O) O) ?_
   exact (congrArg vE (show prodT a b x y=opE 6 [a,y] from (if_neg c1).trans (if_pos c2))).symm
  ·try simp only [I] at c2
   refine B O<|zL qH (K 1 O) O<|qK O ok93 (zBd y (by omega)) ⟨G,O,T⟩<|F O<|H<|g O (fun c3=>?_) (fun c3=>?_)
   ·try simp only [I] at c3
    refine B O<|zL qH (K 2 O) O<|zL qH (K 3 O) O<|qZ O A zr38<|qK O ok94 (wR 6 [x,b]) ⟨G,O,G,O,T⟩<|N 0 v O<|H<|W<|X (zS qH O (K 0 O) O) ?_
    exact (congrArg vE (show prodT a b x y=opE 6 [x,b] from (if_neg c1).trans ((if_neg c2).trans (if_pos c3)))).symm
   ·try simp only [I] at c3
    refine zJ<|U<|qO 10 mixed (by kernel_rfl) O O<|Y O O (zN O qH O (K 2 O) O)<|Y O O (zN O qH O (K 3 O) O)<|Y O O (yD O A zr38 O O O O)<|Y O O (qF O ok94 (wR 6 [x,b]) ⟨G,O,G,O,T⟩)<|Y O O (zN O qH O (K 4 O) O)<|Y O O (zN O qH O (K 1 O) O)<|Y O O (yD O A zr38 O O O O)<|Y O O (qF O ok94 (wR 6 [a,y]) ⟨G,O,G,O,T⟩)<|Y O O (yD O A zr38 O O O O)<|Y O O (qF O ok94 (wR 4 [opE 6 [x,b],opE 6 [a,y]]) ⟨G,O,G,O,T⟩)<|yK<|N 0 v O<|H<|W<|X (zS qH O (K 0 O) O) ?_
    exact (congrArg vE (show prodT a b x y=opE 4 [opE 6 [x,b],opE 6 [a,y]] from (if_neg c1).trans ((if_neg c2).trans (if_neg c3)))).symm
theorem r26_quotient (a b x y:Ex) (hx:x.wt<=4294967296) (hy:y.wt<=4294967296):
    Pur cfg 97 [vE a,vE b,vE x,vE y] (vE (quoT a b x y)):=by
 refine zV Tryz.func97 O Tryz.ntmps97 Tryz.results97 O ?_
 intro z hz
 refine B O<|zW O O (qJ O O) ?_
 rintro _ _ ⟨b1,rfl,rfl⟩
 refine zW O O (qJ O O) ?_
 rintro _ _ ⟨b2,rfl,rfl⟩
 refine zW O O (qJ O O) ?_
 rintro _ _ ⟨b3,rfl,rfl⟩
 refine zW O O (qJ O O) ?_
 rintro _ _ ⟨b4,rfl,rfl⟩
 refine zW O O (qI [none,none,none,none,none,none,none,none,none,none,some 2,some 4,some 13] O zr38 O) ?_
 rintro _ _ ⟨b5,rfl,rfl⟩
 refine H<|U<|B O<|zL qH (K 1 O) O<|qK O ok93 (zBd y (by omega)) ⟨G,O,T⟩<|H<|g O (fun c1=>?_) (fun c1=>?_)
 ·try simp only [I] at c1
  refine U<|B O<|zL qH (K 2 O) O<|qK O ok93 (zBd x (by omega)) ⟨G,O,T⟩<|H<|g O (fun c2=>?_) (fun c2=>?_)
  ·try simp only [I] at c2
   refine B O<|qK O ok92 zFh T<|N 0 v O<|H<|W<|X (zS qH O (K 0 O) O) ?_
   exact (congrArg vE (show quoT a b x y=zeroX from (if_pos c1).trans (if_pos c2))).symm
  ·try simp only [I] at c2
   refine zJ<|B O<|zL qH (K 2 O) O<|zL qH (K 3 O) O<|qZ O A zr38<|qK O ok94 (wR 7 [x,b]) ⟨G,O,G,O,T⟩<|N 0 v O<|H<|W<|X (zS qH O (K 0 O) O) ?_
   exact (congrArg vE (show quoT a b x y=opE 7 [x,b] from (if_pos c1).trans (if_neg c2))).symm
 ·try simp only [I] at c1
  refine zJ<|U<|yH 8 1 [⟨0,.q [5]⟩,⟨1,.q [4]⟩,⟨2,.q []⟩,⟨3,.q []⟩,⟨4,.q [2]⟩,⟨5,.q []⟩,⟨6,.q []⟩,⟨7,.f 0⟩] mixed (by kernel_rfl) (by kernel_rfl) O O O<|D O<|D O<|D O<|D O<|D O<|D O<|D O<|zFk O O (wN (qI [none,none,none,none,none,none,none,none,none,none,some 2,some 4,some 13] O zr38 O)) ⟨_,_,0,O,O⟩<|wG<|M O (by decide) O O (zN O qH O (K 0 O) O)<|M O (by decide) O O (zN O qH O (K 0 O) O)<|M O (by decide) O O (yD O A zr38 O O O O)<|M O (by decide) O O (qF O ok94 (wR 7 [a,b]) ⟨G,O,G,O,T⟩)<|M O (by decide) O O (zN O qH O (K 0 O) O)<|M O (by decide) O O (yD O A zr38 O O O O)<|M O (by decide) O O (qF O ok94 (wR 6 [opE 7 [a,b],y]) ⟨G,O,G,O,T⟩)<|zFe O O ?_
  rintro _ _ ⟨b6,rfl,rfl⟩
  refine wF O<|N 0 v O<|H<|U<|B O<|zL qH (K 3 O) O<|qK O ok93 (zBd x (by omega)) ⟨G,O,T⟩<|H<|g O (fun c3=>?_) (fun c3=>?_)
  ·try simp only [I] at c3
   refine U<|qO 6 mixed (by kernel_rfl) O O<|Y O O (zN O qH O (K 0 O) O)<|Y O O (yD O A zr38 O O O O)<|Y O O (qF O ok94 (wR 8 [opE 6 [opE 7 [a,b],y]]) ⟨G,O,G,O,T⟩)<|Y O O (zN O qH O (K 4 O) O)<|Y O O (yD O A zr38 O O O O)<|Y O O (qF O ok94 (wR 7 [opE 8 [opE 6 [opE 7 [a,b],y]],b]) ⟨G,O,G,O,T⟩)<|yK<|N 1 v O<|H<|W<|X (zS qH O (K 1 O) O) ?_
   exact (congrArg vE (show quoT a b x y=opE 7 [opE 8 [opE 6 [opE 7 [a,b],y]],b] from (if_neg c1).trans (if_pos c3))).symm
  ·try simp only [I] at c3
   refine zJ<|U<|qO 7 mixed (by kernel_rfl) O O<|Y O O (zN O qH O (K 3 O) O)<|Y O O (zN O qH O (K 0 O) O)<|Y O O (yD O A zr38 O O O O)<|Y O O (qF O ok94 (wR 5 [x,opE 6 [opE 7 [a,b],y]]) ⟨G,O,G,O,T⟩)<|Y O O (zN O qH O (K 4 O) O)<|Y O O (yD O A zr38 O O O O)<|Y O O (qF O ok94 (wR 7 [opE 5 [x,opE 6 [opE 7 [a,b],y]],b]) ⟨G,O,G,O,T⟩)<|yK<|N 1 v O<|H<|W<|X (zS qH O (K 1 O) O) ?_
   exact (congrArg vE (show quoT a b x y=opE 7 [opE 5 [x,opE 6 [opE 7 [a,b],y]],b] from (if_neg c1).trans (if_neg c3))).symm
theorem zKq (c x y:Ex) (hx:x.wt<=4294967296) (hy:y.wt<=4294967296):
    Pur cfg 95 [vE c,vE x,vE y] (vE (choT c x y)):=by
 refine zV Tryz.func95 O Tryz.ntmps95 Tryz.results95 O ?_
 intro z hz
 refine B O<|zW O O (qJ O O) ?_
 rintro _ _ ⟨b1,rfl,rfl⟩
 refine zW O O (qJ O O) ?_
 rintro _ _ ⟨b2,rfl,rfl⟩
 refine zW O O (qJ O O) ?_
 rintro _ _ ⟨b3,rfl,rfl⟩
 refine zW O O (qI [none,none,none,none,none,none,none,none,none,none,some 2,some 4,some 13] O zr38 O) ?_
 rintro _ _ ⟨b4,rfl,rfl⟩
 refine H<|U<|B O<|zL qH (K 2 O) O<|qK O ok93 (zBd x (by omega)) ⟨G,O,T⟩<|F O<|u O (fun g1_2=>zN O qH O (K 1 O) O) O<|J 10 O (fun g1_2=>qF O ok93 (zBd y (by omega)) ⟨G,O,T⟩) O<|yZ O (fun h=>h)<|H<|g O (fun c1=>?_) (fun c1=>?_)
 ·have c1:x=zeroX/\y=zeroX:=by simpa using c1
  refine B O<|qK O ok92 zFh T<|N 0 v O<|H<|W<|X (zS qH O (K 0 O) O) ?_
  exact (congrArg vE (show choT c x y=zeroX from if_pos c1)).symm
 ·have c1:¬(x=zeroX/\y=zeroX):=by simpa using c1
  refine zJ<|B O<|zL qH (K 3 O) O<|zL qH (K 2 O) O<|zL qH (K 1 O) O<|qZ O A zr38<|qK O ok94 (wR 11 [c,x,y]) ⟨G,O,G,O,T⟩<|N 0 v O<|H<|W<|X (zS qH O (K 0 O) O) ?_
  exact (congrArg vE (show choT c x y=opE 11 [c,x,y] from if_neg c1)).symm
end Go.W
