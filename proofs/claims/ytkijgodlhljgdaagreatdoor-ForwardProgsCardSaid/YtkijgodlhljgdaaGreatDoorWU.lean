/-
  Walks: what functions of the program compute. Printed by wip/gen/mk2.py.
  Conditions: none.
-/
import Derived.Test.YtkijgodlhljgdaaGreatDoorWT
import Derived.Test.YtkijgodlhljgdaaGreatDoorWP
import Derived.Test.YtkijgodlhljgdaaGreatDoorPlain
set_option linter.unusedSimpArgs false
set_option linter.unusedVariables false
set_option maxRecDepth 10000
namespace Go.W
open Go Go.Eng Go.Proofs Go.L41 Go.Br
attribute [local irreducible] AWP RWP TD finQ
theorem fd93_1:fieldT Tryz.prog 93 1=some (2,4):=by kernel_rfl
theorem ok19:callOk Tryz.prog 19=true:=by kernel_rfl
theorem ok21:callOk Tryz.prog 21=true:=by kernel_rfl
theorem ok51:callOk Tryz.prog 51=true:=by kernel_rfl
theorem ok58:callOk Tryz.prog 58=true:=by kernel_rfl
theorem ok113:callOk Tryz.prog 113=true:=by kernel_rfl
theorem one4:oneT Tryz.prog 4=true:=by kernel_rfl
theorem base_Con (a b:Cn) (ha:a.Lin.L.length<=5864062014805):
    Pur cfg 113 [vCn a,vCn b] (vB (decide (a=b))):=by
 refine zV Tryz.func113 O Tryz.ntmps113 Tryz.results113 O ?_
 intro z hz
 refine B O<|zW O O (qJ O O) ?_
 rintro _ _ ⟨b1,rfl,rfl⟩
 refine zW O O (qJ O O) ?_
 rintro _ _ ⟨b2,rfl,rfl⟩
 refine F O<|H<|B O<|zG O fd93_1<|zK one4 (K 1 O) O<|zG O fd93_1<|zK one4 (K 0 O) O<|qB O (det_beql O un4 O O)<|F O<|u O (fun g1_5=>zD O zPb O) O<|J 11 O (fun g1_5=>zN O kP O (K 1 O) O) O<|u O (fun g1_5=>zD O zPb O) O<|J 13 O (fun g1_5=>zN O kP O (K 0 O) O) O<|rLz [(12,_),(14,_)] O P ⟨O,O,O,O,T⟩ (fun g1_5=>qF O ok38 (zKc a.Lin b.Lin (by omega)) ⟨G,O,G,O,T⟩) O<|yZ O (fun h=>h)<|F O<|H<|W<|R O ?_
 exact congrArg vB (cn_eq a b)
theorem base_Cons (a b:List Cn) (ha:a.length<=4294967296) (hx0:∀x,x∈a->x.Lin.L.length<=5864062014805):
    Pur cfg 51 [.c (.sl 3 (a.map Cn.cells)),.c (.sl 3 (b.map Cn.cells))] (vB (decide (a=b))):=by
 refine zV Tryz.func51 O Tryz.ntmps51 Tryz.results51 O ?_
 intro z hz
 refine B O<|F O<|H<|U<|B O<|F O<|zZ O el23<|F O<|zZ O el23<|yP O<|H<|g O (fun c1=>?_) (fun c1=>?_)
 ·try simp only [I] at c1
  refine B O<|F O<|H<|W<|R O ?_
  rw [yE (fun h=>c1 (by rw [h]))]
 ·try simp only [I] at c1
  refine zJ<|U<|B O<|F O<|H<|zP<|zT ⟨[(5,.c _),(0,.c _),(1,.c _)],[]⟩ (Weak.mk [] ⟨G,G,G,T⟩ O)<|qG 1 0 O O (Nat) (fun k=>[(5,vI k)]) (fun k=>[]) (fun k=>k<=a.length/\(a.take k=b.take k)) (fun k=>a.length-k) ⟨0,⟨by omega,O⟩,Weak.mk [] ⟨G,G,G,T⟩ O⟩ ?_
  rintro k ⟨hk,hp⟩
  refine U<|B O<|F O<|F O<|zZ O el23<|yB O<|H<|g O (fun c2=>?_) (fun c2=>?_)
  ·try simp only [I] at c2
   obtain ⟨x,hx⟩:=qP a k (by omega)
   obtain ⟨y,hy⟩:=qP b k (by omega)
   refine zJ<|U<|zP<|U<|qO 10 mixed (by kernel_rfl) O O<|Y O O (zQ O O)<|Y O O (zQ O O)<|Y O O (zY O el23 O O (by omega) (Q (by assumption)))<|Y O O (zN O agg93 O qA O)<|Y O O (zQ O O)<|Y O O (zQ O O)<|Y O O (zY O el23 O O (by omega) (Q (by assumption)))<|Y O O (zN O agg93 O qA O)<|Y O O (qF O ok113 (base_Con x y (hx0 x (qD hx))) ⟨G,O,G,O,T⟩)<|Y O O (kU O O)<|yK<|H<|g O (fun c3=>?_) (fun c3=>?_)
   ·try simp only [I] at c3
    refine B O<|F O<|H<|W<|R O ?_
    rw [yE (zCe hx hy c3)]
   ·try simp only [I] at c3
    refine zJ<|zU O<|F O<|qL O ⟨by omega,by omega⟩<|F O<|H ?_
    refine ⟨k+1,⟨by omega,wV hx hy hp c3⟩,(by omega),Weak.mk [] ⟨G,G,G,T⟩ O⟩
  ·try simp only [I] at c2
   refine qM<|B O<|F O<|H<|W<|R O ?_
   rw [kX (zBg hp (by omega) (by omega))]
theorem base_Axes (a b:List Ax) (ha:a.length<=4294967296) (hx0:∀x,x∈a->x.Size.L.length<=6000000000000):
    Pur cfg 58 [.c (.sl 3 (a.map Ax.cells)),.c (.sl 3 (b.map Ax.cells))] (vB (decide (a=b))):=by
 refine zV Tryz.func58 O Tryz.ntmps58 Tryz.results58 O ?_
 intro z hz
 refine B O<|F O<|H<|U<|B O<|F O<|zZ O el57<|F O<|zZ O el57<|yP O<|H<|g O (fun c1=>?_) (fun c1=>?_)
 ·try simp only [I] at c1
  refine B O<|F O<|H<|W<|R O ?_
  rw [yE (fun h=>c1 (by rw [h]))]
 ·try simp only [I] at c1
  refine zJ<|U<|B O<|F O<|H<|zP<|zT ⟨[(5,.c _),(0,.c _),(1,.c _)],[]⟩ (Weak.mk [] ⟨G,G,G,T⟩ O)<|qG 1 0 O O (Nat) (fun k=>[(5,vI k)]) (fun k=>[]) (fun k=>k<=a.length/\(a.take k=b.take k)) (fun k=>a.length-k) ⟨0,⟨by omega,O⟩,Weak.mk [] ⟨G,G,G,T⟩ O⟩ ?_
  rintro k ⟨hk,hp⟩
  refine U<|B O<|F O<|F O<|zZ O el57<|yB O<|H<|g O (fun c2=>?_) (fun c2=>?_)
  ·try simp only [I] at c2
   obtain ⟨x,hx⟩:=qP a k (by omega)
   obtain ⟨y,hy⟩:=qP b k (by omega)
   refine zJ<|U<|zP<|U<|qO 25 mixed (by kernel_rfl) O O<|Y O O (zQ O O)<|Y O O (zQ O O)<|Y O O (zY O el57 O O (by omega) (Q hx))<|Y O O (qT O zCx O)<|Y O O (zF O i O qA O)<|Y O O (zQ O O)<|Y O O (zQ O O)<|Y O O (zY O el57 O O (by omega) (Q hy))<|Y O O (qT O zCx O)<|Y O O (zF O i O qA O)<|Y O O (zCi O O O)<|Y O O (zQ O O)<|f [] O O O O P T (fun g6_11=>zQ O O) O<|f [] O O O O P T (fun g6_11=>zQ O O) O<|f [(29,_),(30,_)] O O O O P ⟨O,O,O,O,T⟩ (fun g6_11=>zY O el57 O O (by omega) (Q hx)) O<|f [(31,_)] O O O O P ⟨O,O,T⟩ (fun g6_11=>qT O zIt O) O<|f [(32,_)] O O O O P ⟨O,O,T⟩ (fun g6_11=>zN O kP O qA O) O<|f [] O O O O P T (fun g6_11=>zQ O O) O<|f [] O O O O P T (fun g6_11=>zQ O O) O<|f [(34,_),(35,_)] O O O O P ⟨O,O,O,O,T⟩ (fun g6_11=>zY O el57 O O (by omega) (Q hy)) O<|f [(36,_)] O O O O P ⟨O,O,T⟩ (fun g6_11=>qT O zIt O) O<|f [(37,_)] O O O O P ⟨O,O,T⟩ (fun g6_11=>zN O kP O qA O) O<|f [(33,_),(38,_)] O O O O P ⟨O,O,O,O,T⟩ (fun g6_11=>qF O ok38 (zKc x.Size y.Size (hx0 x (qD hx))) ⟨G,O,G,O,T⟩) O<|f [(39,_)] O O O O P ⟨O,O,T⟩ (fun g6_11=>kU O O) O<|Y O O (zBo O O O O (fun h=>(lzf h)))<|yK<|H<|g O (fun c3=>?_) (fun c3=>?_)
   ·have hne:=ax_ne c3
    refine B O<|F O<|H<|W<|R O ?_
    rw [yE (zCe hx hy hne)]
   ·have heq:=ax_yes' c3
    refine zJ<|zU O<|F O<|qL O ⟨by omega,by omega⟩<|F O<|H ?_
    refine ⟨k+1,⟨by omega,wV hx hy hp heq⟩,(by omega),Weak.mk [] ⟨G,G,G,T⟩ O⟩
  ·try simp only [I] at c2
   refine qM<|B O<|F O<|H<|W<|R O ?_
   rw [kX (zBg hp (by omega) (by omega))]
theorem base_Def (a b:Df) (h1:a.Dims.length<=4294967296) (h2:a.Red.length<=4294967296) (h3:∀x,x∈a.Dims->x.Size.L.length<=6000000000000) (h4:∀x,x∈a.Red->x.Size.L.length<=6000000000000) (h5:a.Body.wt<=6000000000000):
    Pur cfg 21 [vDf a,vDf b] (vB (decide (a=b))):=by
 refine zV Tryz.func21 O Tryz.ntmps21 Tryz.results21 O ?_
 intro z hz
 refine B O<|zW O O (qJ O O) ?_
 rintro _ _ ⟨b1,rfl,rfl⟩
 refine zW O O (qJ O O) ?_
 rintro _ _ ⟨b2,rfl,rfl⟩
 refine F O<|H<|B O<|zG O zEk<|zK i (K 1 O) O<|zG O zEk<|zK i (K 0 O) O<|qB O (yQ O O O)<|F O<|u O (fun g1_5=>zD O zHz O) O<|J 11 O (fun g1_5=>zN O yF O (K 1 O) O) O<|u O (fun g1_5=>zD O zHz O) O<|J 13 O (fun g1_5=>zN O yF O (K 0 O) O) O<|rLz [(12,_),(14,_)] O P ⟨O,O,O,O,T⟩ (fun g1_5=>zMx O fl31 O O O) O<|yZ O (fun h=>h)<|F O<|u O (fun g1_12=>zD O zDx O) O<|J 18 O (fun g1_12=>zF O w O (K 1 O) O) O<|u O (fun g1_12=>zD O zDx O) O<|J 20 O (fun g1_12=>zF O w O (K 0 O) O) O<|rLz [(19,_),(21,_)] O P ⟨O,O,O,O,T⟩ (fun g1_12=>yL O O O) O<|yZ O (fun h=>h)<|F O<|u O (fun g1_19=>zD O zBi O) O<|J 25 O (fun g1_19=>zF O wW O (K 1 O) O) O<|u O (fun g1_19=>zD O zBi O) O<|J 27 O (fun g1_19=>zF O wW O (K 0 O) O) O<|rLz [(26,_),(28,_)] O P ⟨O,O,O,O,T⟩ (fun g1_19=>qF O ok58 (base_Axes a.Dims b.Dims h1 h3) ⟨G,O,G,O,T⟩) O<|yZ O (fun h=>h)<|F O<|u O (fun g1_26=>zD O zAx O) O<|J 32 O (fun g1_26=>zF O wW O (K 1 O) O) O<|u O (fun g1_26=>zD O zAx O) O<|J 34 O (fun g1_26=>zF O wW O (K 0 O) O) O<|rLz [(33,_),(35,_)] O P ⟨O,O,O,O,T⟩ (fun g1_26=>qF O ok58 (base_Axes a.Red b.Red h2 h4) ⟨G,O,G,O,T⟩) O<|yZ O (fun h=>h)<|F O<|u O (fun g1_33=>zD O zCg O) O<|J 39 O (fun g1_33=>zN O qH O (K 1 O) O) O<|u O (fun g1_33=>zD O zCg O) O<|J 41 O (fun g1_33=>zN O qH O (K 0 O) O) O<|rLz [(40,_),(42,_)] O P ⟨O,O,O,O,T⟩ (fun g1_33=>qF O ok13 (zPw a.Body b.Body h5) ⟨G,O,G,O,T⟩) O<|yZ O (fun h=>h)<|F O<|H<|W<|R O ?_
 exact congrArg vB (df_eq a b)
theorem base_ProgF (p q:Pg) (hP:p.Ok):
    Pur cfg 17 [vPg p,vPg q] (vB (decide (p=q))):=by
 refine zV Tryz.func17 O Tryz.ntmps17 Tryz.results17 O ?_
 intro z hz
 have hpp:=hP.params
 have hpd:=hP.defs
 refine B O<|zW O O (qJ O O) ?_
 rintro _ _ ⟨b1,rfl,rfl⟩
 refine zW O O (qJ O O) ?_
 rintro _ _ ⟨b2,rfl,rfl⟩
 refine F O<|H<|U<|B O<|zG O zBy<|zK wT (K 1 O) O<|zG O zBy<|zK wT (K 0 O) O<|qK O ok19 (zGt p.Sizes q.Sizes (Nat.le_trans hP.sizes (by decide))) ⟨G,O,G,O,T⟩<|wI O<|F O<|u O (fun g1_6=>zD O zDz O) O<|J 14 O (fun g1_6=>zF O zKv O (K 1 O) O) O<|u O (fun g1_6=>zD O zDz O) O<|J 16 O (fun g1_6=>zF O zKv O (K 0 O) O) O<|rLz [(15,_),(17,_)] O P ⟨O,O,O,O,T⟩ (fun g1_6=>qF O ok51 (base_Cons p.Where q.Where hP.wh hP.whs) ⟨G,O,G,O,T⟩) O<|J 18 O (fun g1_6=>kU O O) O<|r_or O (fun h=>(lzf h))<|F O<|u O (fun g1_14=>zD O zAt O) O<|J 22 O (fun g1_14=>zF O wT O (K 1 O) O) O<|u O (fun g1_14=>zD O zAt O) O<|J 24 O (fun g1_14=>zF O wT O (K 0 O) O) O<|rLz [(23,_),(25,_)] O P ⟨O,O,O,O,T⟩ (fun g1_14=>qF O ok19 (zGt p.Outs q.Outs (Nat.le_trans hP.outs (by decide))) ⟨G,O,G,O,T⟩) O<|J 26 O (fun g1_14=>kU O O) O<|r_or O (fun h=>(lzf h))<|F O<|u O (fun g1_22=>zD O kM O) O<|J 30 O (fun g1_22=>zF O zAl O (K 1 O) O) O<|J 31 O (fun g1_22=>qV O el24 O) O<|u O (fun g1_22=>zD O kM O) O<|J 33 O (fun g1_22=>zF O zAl O (K 0 O) O) O<|J 34 O (fun g1_22=>qV O el24 O) O<|rLz [(32,_),(35,_)] O P ⟨O,O,O,O,T⟩ (fun g1_22=>zAf O O O) O<|r_or O (fun h=>(lzf h))<|F O<|u O (fun g1_31=>zD O kE O) O<|J 39 O (fun g1_31=>zF O zAc O (K 1 O) O) O<|J 40 O (fun g1_31=>qV O el25 O) O<|u O (fun g1_31=>zD O kE O) O<|J 42 O (fun g1_31=>zF O zAc O (K 0 O) O) O<|J 43 O (fun g1_31=>qV O el25 O) O<|rLz [(41,_),(44,_)] O P ⟨O,O,O,O,T⟩ (fun g1_31=>zAf O O O) O<|r_or O (fun h=>(lzf h))<|H<|g O (fun c1=>?_) (fun c1=>?_)
 ·have hne:=pr_t c1
  refine B O<|F O<|H<|W<|R O ?_
  rw [yE hne]
 ·obtain ⟨k1,k2,k3,k4,k5⟩:=pr_f c1
  refine zJ<|U<|B O<|F O<|H<|zP<|zT ⟨[(5,.c _),(2,.c _),(3,.c _)],[_,_]⟩ (Weak.mk [true,true] ⟨G,G,G,T⟩ O)<|qG 1 0 O O (Nat) (fun k=>[(5,vI k)]) (fun k=>[]) (fun k=>k<=p.Params.length/\(p.Params.take k=q.Params.take k)) (fun k=>p.Params.length-k) ⟨0,⟨by omega,O⟩,Weak.mk [true,true] ⟨G,G,G,T⟩ O⟩ ?_
  rintro k ⟨hk,hp⟩
  refine U<|B O<|F O<|zG O kM<|zK zAl (K 1 O) O<|zZ O el24<|yB O<|H<|g O (fun c2=>?_) (fun c2=>?_)
  ·try simp only [I] at c2
   obtain ⟨x,hx⟩:=qP p.Params k (by omega)
   obtain ⟨y,hy⟩:=qP q.Params k (by omega)
   refine zJ<|U<|zP<|U<|qO 44 mixed (by kernel_rfl) O O<|Y O O (zD O kM O)<|Y O O (zF O zAl O (K 1 O) O)<|Y O O (zQ O O)<|Y O O (zY O el24 O O (by omega) (Q hx))<|Y O O (qT O zHy O)<|Y O O (zF O i O qA O)<|Y O O (zD O kM O)<|Y O O (zF O zAl O (K 0 O) O)<|Y O O (zQ O O)<|Y O O (zY O el24 O O (by omega) (Q hy))<|Y O O (qT O zHy O)<|Y O O (zF O i O qA O)<|Y O O (zCi O O O)<|Y O O (zQ O O)<|f [] O O O O P T (fun g6_13=>zD O kM O) O<|f [(68,_)] O O O O P ⟨O,O,T⟩ (fun g6_13=>zF O zAl O (K 1 O) O) O<|f [] O O O O P T (fun g6_13=>zQ O O) O<|f [(69,_),(70,_)] O O O O P ⟨O,O,O,O,T⟩ (fun g6_13=>zY O el24 O O (by omega) (Q hx)) O<|f [(71,_)] O O O O P ⟨O,O,T⟩ (fun g6_13=>qT O zJr O) O<|f [(72,_)] O O O O P ⟨O,O,T⟩ (fun g6_13=>zN O yF O qA O) O<|f [] O O O O P T (fun g6_13=>zD O kM O) O<|f [(74,_)] O O O O P ⟨O,O,T⟩ (fun g6_13=>zF O zAl O (K 0 O) O) O<|f [] O O O O P T (fun g6_13=>zQ O O) O<|f [(75,_),(76,_)] O O O O P ⟨O,O,O,O,T⟩ (fun g6_13=>zY O el24 O O (by omega) (Q hy)) O<|f [(77,_)] O O O O P ⟨O,O,T⟩ (fun g6_13=>qT O zJr O) O<|f [(78,_)] O O O O P ⟨O,O,T⟩ (fun g6_13=>zN O yF O qA O) O<|f [(73,_),(79,_)] O O O O P ⟨O,O,O,O,T⟩ (fun g6_13=>zCj O fl31 O O O) O<|Y O O (zBo O O O O (fun h=>(lzf h)))<|Y O O (zQ O O)<|f [] O O O O P T (fun g6_28=>zD O kM O) O<|f [(83,_)] O O O O P ⟨O,O,T⟩ (fun g6_28=>zF O zAl O (K 1 O) O) O<|f [] O O O O P T (fun g6_28=>zQ O O) O<|f [(84,_),(85,_)] O O O O P ⟨O,O,O,O,T⟩ (fun g6_28=>zY O el24 O O (by omega) (Q hx)) O<|f [(86,_)] O O O O P ⟨O,O,T⟩ (fun g6_28=>qT O zCy O) O<|f [(87,_)] O O O O P ⟨O,O,T⟩ (fun g6_28=>zF O zAv O qA O) O<|f [] O O O O P T (fun g6_28=>zD O kM O) O<|f [(89,_)] O O O O P ⟨O,O,T⟩ (fun g6_28=>zF O zAl O (K 0 O) O) O<|f [] O O O O P T (fun g6_28=>zQ O O) O<|f [(90,_),(91,_)] O O O O P ⟨O,O,O,O,T⟩ (fun g6_28=>zY O el24 O O (by omega) (Q hy)) O<|f [(92,_)] O O O O P ⟨O,O,T⟩ (fun g6_28=>qT O zCy O) O<|f [(93,_)] O O O O P ⟨O,O,T⟩ (fun g6_28=>zF O zAv O qA O) O<|f [(88,_),(94,_)] O O O O P ⟨O,O,O,O,T⟩ (fun g6_28=>qF O ok52 (base_LinsF x.Dims y.Dims (Nat.le_trans (hP.ps x (qD hx)).1 (by decide)) (fun l hl=>Nat.le_trans ((hP.ps x (qD hx)).2 l hl) (by decide))) ⟨G,O,G,O,T⟩) O<|f [(95,_)] O O O O P ⟨O,O,T⟩ (fun g6_28=>kU O O) O<|Y O O (zBo O O O O (fun h=>(lzf h)))<|yK<|H<|g O (fun c3=>?_) (fun c3=>?_)
   ·have hne:=pm_t c3
    refine B O<|F O<|H<|W<|R O ?_
    rw [yE (fun h=>zCe hx hy hne (by rw [h]))]
   ·have heq:=pm_f c3
    refine zJ<|zU O<|F O<|qL O ⟨by omega,by omega⟩<|F O<|H ?_
    refine ⟨k+1,⟨by omega,wV hx hy hp heq⟩,(by omega),Weak.mk [true,true] ⟨G,G,G,T⟩ O⟩
  ·try simp only [I] at c2
   have hPe:=zBg hp (by omega) k4
   refine qM<|U<|B O<|F O<|H<|zP<|zT ⟨[(6,.c _),(2,.c _),(3,.c _)],[_,_]⟩ (Weak.mk [true,true] ⟨G,G,G,T⟩ O)<|qG 1 0 O O (Nat) (fun k=>[(6,vI k)]) (fun k=>[]) (fun k=>k<=p.Defs.length/\(p.Defs.take k=q.Defs.take k)) (fun k=>p.Defs.length-k) ⟨0,⟨by omega,O⟩,Weak.mk [true,true] ⟨G,G,G,T⟩ O⟩ ?_
   rintro k ⟨hk,hq⟩
   refine U<|B O<|F O<|zG O kE<|zK zAc (K 1 O) O<|zZ O el25<|yB O<|H<|g O (fun c4=>?_) (fun c4=>?_)
   ·try simp only [I] at c4
    obtain ⟨x,hx⟩:=qP p.Defs k (by omega)
    obtain ⟨y,hy⟩:=qP q.Defs k (by omega)
    refine zJ<|U<|zP<|U<|qO 12 mixed (by kernel_rfl) O O<|Y O O (zD O kE O)<|Y O O (zF O zAc O (K 1 O) O)<|Y O O (zQ O O)<|Y O O (zY O el25 O O (by omega) (Q hx))<|Y O O (zN O zCn O qA O)<|Y O O (zD O kE O)<|Y O O (zF O zAc O (K 0 O) O)<|Y O O (zQ O O)<|Y O O (zY O el25 O O (by omega) (Q hy))<|Y O O (zN O zCn O qA O)<|Y O O (qF O ok21 (base_Def x y (by have:=(hP.ds x (qD hx)).1;omega) (by have:=(hP.ds x (qD hx)).2.1;omega) (fun a ha=>Nat.le_trans ((hP.ds x (qD hx)).2.2.1 a ha) (by decide)) (fun a ha=>Nat.le_trans ((hP.ds x (qD hx)).2.2.2.1 a ha) (by decide)) (Nat.le_trans (hP.ds x (qD hx)).2.2.2.2 (by decide))) ⟨G,O,G,O,T⟩)<|Y O O (kU O O)<|yK<|H<|g O (fun c5=>?_) (fun c5=>?_)
    ·try simp only [I] at c5
     refine B O<|F O<|H<|W<|R O ?_
     rw [yE (fun h=>zCe hx hy c5 (by rw [h]))]
    ·try simp only [I] at c5
     refine zJ<|zU O<|F O<|qL O ⟨by omega,by omega⟩<|F O<|H ?_
     refine ⟨k+1,⟨by omega,wV hx hy hq c5⟩,(by omega),Weak.mk [true,true] ⟨G,G,G,T⟩ O⟩
   ·try simp only [I] at c4
    refine qM<|B O<|F O<|H<|W<|R O ?_
    rw [kX (pg_yes k1 k2 k3 hPe (zBg hq (by omega) k5))]
end Go.W
