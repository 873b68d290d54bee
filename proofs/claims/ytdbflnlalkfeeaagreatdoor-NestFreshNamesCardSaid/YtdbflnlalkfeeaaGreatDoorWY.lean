/-
  Walks: what functions of the program compute. Printed by wip/gen/mk2.py.
  Conditions: none.
-/
import Derived.Test.YtdbflnlalkfeeaaGreatDoorWX
set_option maxRecDepth 10000
namespace Go.W
open Go Go.Eng Go.Proofs Go.L41 Go.Br
attribute [local irreducible] AWP RWP TD finQ
theorem ok142 : callOk Tryz.prog 142 = true:= by kernel_rfl
theorem ok143 : callOk Tryz.prog 143 = true:= by kernel_rfl
theorem ok178 : callOk Tryz.prog 178 = true:= by kernel_rfl
theorem ok179 : callOk Tryz.prog 179 = true:= by kernel_rfl
theorem ok180 : callOk Tryz.prog 180 = true:= by kernel_rfl
theorem one4 : oneT Tryz.prog 4 = true:= by kernel_rfl
theorem sz2 : (Tryz.prog.info? 2).map (·.size) = some 1:= by kernel_rfl
theorem sz4 : (Tryz.prog.info? 4).map (·.size) = some 1:= by kernel_rfl
theorem zr4 : zeroT Tryz.prog 4 = some [(Value.bool false)]:= by kernel_rfl
theorem merge_con (a0 b0 : List Mono) (ha0 : a0.length ≤ 4294967296) (hb0 : b0.length ≤ 4294967296) :
    ∀ (y : C) (J : List Tr → List E → Prop) (μ : List E),(∀ d t s m,mergeL a0 b0 = d ++ t :: s → J d m → FnCon cfg y [vS t.1,vI t.2.1,vI t.2.2] m fun r m' => r = .tup [] ∧ J (d ++ [t]) m') → J [] μ → Con cfg 179 [.c (.sl 2 (a0.map Mono.cells)),.c (.sl 2 (b0.map Mono.cells)),.c y] μ fun r μ' => r = .tup [] ∧ J (mergeL a0 b0) μ':= by
 intro y J μ hy h0
 refine zV Tryz.func179 rfl Tryz.ntmps179 Tryz.results179 rfl ?_
 intro z hz
 refine zS<|zY ⟨[(0,.c _),(1,.c _),(2,.c _)],_⟩ (Weak.regs ⟨zE,zE,zE,trivial⟩)<|zBr 2 rfl (List Mono × List Mono × List Tr × List E) (fun ⟨a,b,d,m⟩ => [(0,.c (.sl 2 (a.map Mono.cells))),(1,.c (.sl 2 (b.map Mono.cells)))]) (fun ⟨a,b,d,m⟩ => m) (fun ⟨a,b,d,m⟩ => a.length ≤ 4294967296 ∧ b.length ≤ 4294967296 ∧ mergeL a0 b0 = d ++ mergeL a b ∧ J d m) (fun ⟨a,b,d,m⟩ => a.length + b.length) ⟨⟨a0,b0,[],μ⟩,⟨ha0,hb0,rfl,h0⟩,Weak.regs ⟨zE,zE,zE,trivial⟩⟩ ?_
 rintro ⟨a,b,d,m⟩ ⟨hal,hbl,hm,hJ⟩
 refine zK<|sReg rfl<|rMv rfl<|zA rfl (zR rfl el47 rfl)<|zA rfl (yA rfl rfl rfl)<|rMv rfl<|rLz [] rfl gv1 trivial (fun g0_3 => zN rfl rfl) rfl<|rLz [(10,_)] rfl gv1 ⟨rfl,rfl,trivial⟩ (fun g0_3 => zR rfl el47 rfl) rfl<|rLz [(11,_)] rfl gv1 ⟨rfl,rfl,trivial⟩ (fun g0_3 => yA rfl rfl rfl) rfl<|zA rfl (yB rfl rfl rfl rfl (fun h => (lzf h)))<|zB<|zH rfl (fun c1 => ?_) (fun c1 => ?_)
 ·try simp only [sx] at c1
  refine zJ<|zS<|zS<|zK<|yC 20 mixed (by kernel_rfl) rfl rfl<|zM rfl rfl (zN rfl rfl)<|zM rfl rfl (zR rfl el47 rfl)<|zM rfl rfl (qF rfl rfl rfl)<|zM rfl rfl (zN rfl rfl)<|qJ [] rfl rfl rfl rfl gv1 trivial (fun g3_3 => zN rfl rfl) rfl<|qJ [(37,_)] rfl rfl rfl rfl gv1 ⟨rfl,rfl,trivial⟩ (fun g3_3 => zR rfl el47 rfl) rfl<|qJ [(38,_)] rfl rfl rfl rfl gv1 ⟨rfl,rfl,trivial⟩ (fun g3_3 => yA rfl rfl rfl) rfl<|qJ [(39,_)] rfl rfl rfl rfl gv1 ⟨rfl,rfl,trivial⟩ (fun g3_3 => zN rfl rfl) rfl<|qJ [] rfl rfl rfl rfl gv2 trivial (fun g3_7 => zN rfl rfl) rfl<|qJ [(41,_)] rfl rfl rfl rfl gv2 ⟨rfl,rfl,trivial⟩ (fun g3_7 => zO rfl el47 rfl rfl (by simp only [Lz,cond_true,cond_false,Bool.and_eq_true,Bool.or_eq_true,Bool.not_eq_true',Bool.not_eq_false',Bool.or_eq_false_iff,Bool.and_eq_false_iff,decide_eq_true_eq,decide_eq_false_iff_not,Bool.not_eq_true,Bool.not_eq_false] at g3_7; omega) (getm (zGw (by simp only [Lz,cond_true,cond_false,Bool.and_eq_true,Bool.or_eq_true,Bool.not_eq_true',Bool.not_eq_false',Bool.or_eq_false_iff,Bool.and_eq_false_iff,decide_eq_true_eq,decide_eq_false_iff_not,Bool.not_eq_true,Bool.not_eq_false] at g3_7; omega)))) rfl<|qJ [(42,_)] rfl rfl rfl rfl gv2 ⟨rfl,rfl,trivial⟩ (fun g3_7 => zZ rfl wG rfl) rfl<|qJ [(43,_)] rfl rfl rfl rfl gv2 ⟨rfl,rfl,trivial⟩ (fun g3_7 => zD rfl one9 rfl qC rfl) rfl<|qJ [] rfl rfl rfl rfl gv2 trivial (fun g3_7 => zN rfl rfl) rfl<|qJ [(45,_)] rfl rfl rfl rfl gv2 ⟨rfl,rfl,trivial⟩ (fun g3_7 => zO rfl el47 rfl rfl (by simp only [Lz,cond_true,cond_false,Bool.and_eq_true,Bool.or_eq_true,Bool.not_eq_true',Bool.not_eq_false',Bool.or_eq_false_iff,Bool.and_eq_false_iff,decide_eq_true_eq,decide_eq_false_iff_not,Bool.not_eq_true,Bool.not_eq_false] at g3_7; omega) (getm (zGw (by simp only [Lz,cond_true,cond_false,Bool.and_eq_true,Bool.or_eq_true,Bool.not_eq_true',Bool.not_eq_false',Bool.or_eq_false_iff,Bool.and_eq_false_iff,decide_eq_true_eq,decide_eq_false_iff_not,Bool.not_eq_true,Bool.not_eq_false] at g3_7; omega)))) rfl<|qJ [(46,_)] rfl rfl rfl rfl gv2 ⟨rfl,rfl,trivial⟩ (fun g3_7 => zZ rfl wG rfl) rfl<|qJ [(47,_)] rfl rfl rfl rfl gv2 ⟨rfl,rfl,trivial⟩ (fun g3_7 => zD rfl one9 rfl qC rfl) rfl<|qJ [(44,_),(48,_)] rfl rfl rfl rfl gv2 ⟨rfl,rfl,rfl,rfl,trivial⟩ (fun g3_7 => det_slss rfl rfl rfl) rfl<|qJ [(40,_)] rfl rfl rfl rfl gv1 ⟨rfl,rfl,trivial⟩ (fun g3_3 => qK rfl rfl rfl (fun h => yV (by assumption) h) rfl) rfl<|zM rfl rfl (yB rfl rfl rfl rfl (fun h => (lzf h)))<|zM rfl rfl (yG rfl rfl)<|kA<|zB<|zH rfl (fun c2 => ?_) (fun c2 => ?_)
  ·have hL := merge_left (by omega) c2
   have hdec : (a.drop 1).length + (b).length < a.length + b.length:= by simp only [List.length_drop]; omega
   have hm1 : mergeL a0 b0 = (d ++ [((hdM a).Name,(hdM a).By,0)]) ++ mergeL (a.drop 1) (b):= by rw [hm,hL.2]; simp
   refine zK<|yC 9 mixed (by kernel_rfl) rfl rfl<|zM rfl rfl (zN rfl rfl)<|zM rfl rfl (zN rfl rfl)<|zM rfl rfl (zO rfl el47 rfl rfl (by omega) (getm (zGw (by omega))))<|zM rfl rfl (zZ rfl wG rfl)<|zM rfl rfl (zD rfl one9 rfl qC rfl)<|zM rfl rfl (zN rfl rfl)<|zM rfl rfl (zO rfl el47 rfl rfl (by omega) (getm (zGw (by omega))))<|zM rfl rfl (zZ rfl zDj rfl)<|zM rfl rfl (zD rfl one2 rfl qC rfl)<|kA<|qA rfl rfl (kT rfl rfl (hy d ((hdM a).Name,(hdM a).By,0) _ m (by rw [hm1,List.append_assoc]; rfl) hJ) ⟨zE,rfl,zE,rfl,zE,rfl,trivial⟩) ?_
   rintro _ m1 ⟨rfl,hJ1⟩
   refine zB<|zU rfl<|rMv rfl<|zA rfl (zDf (k := 1) rfl el47 rfl rfl (by omega))<|rMv rfl<|zB ?_
   refine ⟨⟨_,_,_,_⟩,⟨by first | omega | (simp only [List.length_drop]; omega),by first | omega | (simp only [List.length_drop]; omega),hm1,hJ1⟩,hdec,Weak.regs ⟨zE,zE,zE,trivial⟩⟩
  ·have hb1 := mC2_b c2
   refine zK<|yC 15 mixed (by kernel_rfl) rfl rfl<|zM rfl rfl (zN rfl rfl)<|zM rfl rfl (zR rfl el47 rfl)<|zM rfl rfl (qF rfl rfl rfl)<|zM rfl rfl (zN rfl rfl)<|qJ [] rfl rfl rfl rfl gv1 trivial (fun g6_3 => zN rfl rfl) rfl<|qJ [(69,_)] rfl rfl rfl rfl gv1 ⟨rfl,rfl,trivial⟩ (fun g6_3 => zO rfl el47 rfl rfl (by simp only [Lz,cond_true,cond_false,Bool.and_eq_true,Bool.or_eq_true,Bool.not_eq_true',Bool.not_eq_false',Bool.or_eq_false_iff,Bool.and_eq_false_iff,decide_eq_true_eq,decide_eq_false_iff_not,Bool.not_eq_true,Bool.not_eq_false] at g6_3; omega) (getm (zGw (by simp only [Lz,cond_true,cond_false,Bool.and_eq_true,Bool.or_eq_true,Bool.not_eq_true',Bool.not_eq_false',Bool.or_eq_false_iff,Bool.and_eq_false_iff,decide_eq_true_eq,decide_eq_false_iff_not,Bool.not_eq_true,Bool.not_eq_false] at g6_3; omega)))) rfl<|qJ [(70,_)] rfl rfl rfl rfl gv1 ⟨rfl,rfl,trivial⟩ (fun g6_3 => zZ rfl wG rfl) rfl<|qJ [(71,_)] rfl rfl rfl rfl gv1 ⟨rfl,rfl,trivial⟩ (fun g6_3 => zD rfl one9 rfl qC rfl) rfl<|qJ [] rfl rfl rfl rfl gv1 trivial (fun g6_3 => zN rfl rfl) rfl<|qJ [(73,_)] rfl rfl rfl rfl gv1 ⟨rfl,rfl,trivial⟩ (fun g6_3 => zO rfl el47 rfl rfl (by simp only [Lz,cond_true,cond_false,Bool.and_eq_true,Bool.or_eq_true,Bool.not_eq_true',Bool.not_eq_false',Bool.or_eq_false_iff,Bool.and_eq_false_iff,decide_eq_true_eq,decide_eq_false_iff_not,Bool.not_eq_true,Bool.not_eq_false] at g6_3; omega) (getm (zGw (by simp only [Lz,cond_true,cond_false,Bool.and_eq_true,Bool.or_eq_true,Bool.not_eq_true',Bool.not_eq_false',Bool.or_eq_false_iff,Bool.and_eq_false_iff,decide_eq_true_eq,decide_eq_false_iff_not,Bool.not_eq_true,Bool.not_eq_false] at g6_3; omega)))) rfl<|qJ [(74,_)] rfl rfl rfl rfl gv1 ⟨rfl,rfl,trivial⟩ (fun g6_3 => zZ rfl wG rfl) rfl<|qJ [(75,_)] rfl rfl rfl rfl gv1 ⟨rfl,rfl,trivial⟩ (fun g6_3 => zD rfl one9 rfl qC rfl) rfl<|qJ [(72,_),(76,_)] rfl rfl rfl rfl gv1 ⟨rfl,rfl,rfl,rfl,trivial⟩ (fun g6_3 => det_slss rfl rfl rfl) rfl<|zM rfl rfl (yB rfl rfl rfl rfl (fun h => (lzf h)))<|zM rfl rfl (yG rfl rfl)<|kA<|zB<|zH rfl (fun c3 => ?_) (fun c3 => ?_)
   ·have hL := merge_right (by omega) c2 c3
    have hdec : (a).length + (b.drop 1).length < a.length + b.length:= by simp only [List.length_drop]; omega
    have hm1 : mergeL a0 b0 = (d ++ [((hdM b).Name,0,(hdM b).By)]) ++ mergeL (a) (b.drop 1):= by rw [hm,hL.2]; simp
    refine zK<|yC 9 mixed (by kernel_rfl) rfl rfl<|zM rfl rfl (zN rfl rfl)<|zM rfl rfl (zN rfl rfl)<|zM rfl rfl (zO rfl el47 rfl rfl (by omega) (getm (zGw (by omega))))<|zM rfl rfl (zZ rfl wG rfl)<|zM rfl rfl (zD rfl one9 rfl qC rfl)<|zM rfl rfl (zN rfl rfl)<|zM rfl rfl (zO rfl el47 rfl rfl (by omega) (getm (zGw (by omega))))<|zM rfl rfl (zZ rfl zDj rfl)<|zM rfl rfl (zD rfl one2 rfl qC rfl)<|kA<|qA rfl rfl (kT rfl rfl (hy d ((hdM b).Name,0,(hdM b).By) _ m (by rw [hm1,List.append_assoc]; rfl) hJ) ⟨zE,rfl,zE,rfl,zE,rfl,trivial⟩) ?_
    rintro _ m1 ⟨rfl,hJ1⟩
    refine zB<|zU rfl<|rMv rfl<|zA rfl (zDf (k := 1) rfl el47 rfl rfl (by omega))<|rMv rfl<|zB ?_
    refine ⟨⟨_,_,_,_⟩,⟨by first | omega | (simp only [List.length_drop]; omega),by first | omega | (simp only [List.length_drop]; omega),hm1,hJ1⟩,hdec,Weak.regs ⟨zE,zE,zE,trivial⟩⟩
   ·have hL := merge_both c2 c3
    have hdec : (a.drop 1).length + (b.drop 1).length < a.length + b.length:= by simp only [List.length_drop]; omega
    have hm1 : mergeL a0 b0 = (d ++ [((hdM a).Name,(hdM a).By,(hdM b).By)]) ++ mergeL (a.drop 1) (b.drop 1):= by rw [hm,hL.2.2]; simp
    refine zK<|yC 13 mixed (by kernel_rfl) rfl rfl<|zM rfl rfl (zN rfl rfl)<|zM rfl rfl (zN rfl rfl)<|zM rfl rfl (zO rfl el47 rfl rfl (by omega) (getm (zGw (by omega))))<|zM rfl rfl (zZ rfl wG rfl)<|zM rfl rfl (zD rfl one9 rfl qC rfl)<|zM rfl rfl (zN rfl rfl)<|zM rfl rfl (zO rfl el47 rfl rfl (by omega) (getm (zGw (by omega))))<|zM rfl rfl (zZ rfl zDj rfl)<|zM rfl rfl (zD rfl one2 rfl qC rfl)<|zM rfl rfl (zN rfl rfl)<|zM rfl rfl (zO rfl el47 rfl rfl (by omega) (getm (zGw (by omega))))<|zM rfl rfl (zZ rfl zDj rfl)<|zM rfl rfl (zD rfl one2 rfl qC rfl)<|kA<|qA rfl rfl (kT rfl rfl (hy d ((hdM a).Name,(hdM a).By,(hdM b).By) _ m (by rw [hm1,List.append_assoc]; rfl) hJ) ⟨zE,rfl,zE,rfl,zE,rfl,trivial⟩) ?_
    rintro _ m1 ⟨rfl,hJ1⟩
    refine zB<|yC 6 mixed (by kernel_rfl) rfl rfl<|zM rfl rfl (zN rfl rfl)<|zM rfl rfl (zDf (k := 1) rfl el47 rfl rfl (by omega))<|zM rfl rfl (zN rfl rfl)<|zM rfl rfl (zDf (k := 1) rfl el47 rfl rfl (by omega))<|zM rfl rfl (yG rfl rfl)<|zM rfl rfl (yG rfl rfl)<|kA<|zB ?_
    refine ⟨⟨_,_,_,_⟩,⟨by first | omega | (simp only [List.length_drop]; omega),by first | omega | (simp only [List.length_drop]; omega),hm1,hJ1⟩,hdec,Weak.regs ⟨zE,zE,zE,trivial⟩⟩
 ·try simp only [sx] at c1
  refine qN ?_
  repeat (first | refine zFw ?_ | refine zDz ?_)
  refine zRa <| fin0 ?_
  exact ⟨rfl,by rw [hm,show a = [] from List.eq_nil_of_length_eq_zero (by omega),show b = [] from List.eq_nil_of_length_eq_zero (by omega),mergeL_nil,List.append_nil]; exact hJ⟩
theorem lin_Add_1 (bo bl : Nat) (ok : Bool) (K : Int) (sv : Value) (d : List Tr) (t : Tr) (h1 : r64 t.2.1) (h2 : r64 t.2.2) (hd : d.length ≤ 8589934592) :
    Con cfg 180 [vS t.1,vI t.2.1,vI t.2.2,.c (.lit (.pointer (some ⟨bo,0,none⟩))),.c (.lit (.pointer (some ⟨bl,0,none⟩)))] [E.row bo 4 [cB (okF ok (d))],E.vec sv 111 2 ((sumW (d)).map Mono.cells),E.row bl 49 [cI K,.lit sv]] fun r μ' => r = .tup [] ∧ ∃ sv',μ' = [E.row bo 4 [cB (okF ok (d ++ [t]))],E.vec sv' 111 2 ((sumW (d ++ [t])).map Mono.cells),E.row bl 49 [cI K,.lit sv']]:= by
 refine zV Tryz.func180 rfl Tryz.ntmps180 Tryz.results180 rfl ?_
 intro z hz
 refine sReg rfl<|rMv rfl<|rMv rfl<|zA rfl (zP rfl ok178 (lin_plus t.2.1 t.2.2 h1 h2) ⟨zE,rfl,zE,rfl,trivial⟩)<|zA rfl (qP rfl rfl)<|zA rfl (qU rfl rfl rfl)<|zA rfl (qU rfl rfl rfl)<|rMv rfl<|rMv rfl<|zB<|sReg rfl<|zA rfl (zD rfl one4 rfl (zF 0 rfl) rfl)<|rMv rfl<|rLz [] rfl gv1 trivial (fun g1_1 => zN rfl rfl) rfl<|zA rfl (qK rfl rfl rfl (fun h => h) rfl)<|zX rfl rfl (zT rfl sz4 rfl rfl rfl (qH 0 rfl rfl))<|zB<|sReg rfl<|rMv rfl<|zA rfl (qR rfl rfl rfl)<|zB<|zH rfl (fun c1 => ?_) (fun c1 => ?_)
 ·try simp only [sx] at c1
  refine zU rfl<|zA rfl (zC rfl kO rfl)<|zA rfl (zD rfl wZ rfl (zF 2 rfl) rfl)<|rMv rfl<|rMv rfl<|zA rfl (qV rfl zFu pl111 rfl)<|zA rfl (qZ rfl el47 zFu rfl rfl rfl rfl)<|qA rfl rfl (yI 1 rfl el47 rfl rfl rfl (by have := sumW_len d; simp only [List.length_map,List.length_append,List.length_cons,List.length_nil]; omega) (by have := sumW_len d; simp only [List.length_map,List.length_append,List.length_cons,List.length_nil]; omega)) ?_
  rintro _ _ ⟨sv1,rfl,rfl⟩
  refine zA rfl (zC rfl kO rfl)<|zX rfl rfl (zT rfl sz47 rfl rfl rfl (qH 2 rfl rfl))<|zB ?_
  repeat (first | refine zFw ?_ | refine zDz ?_)
  refine zRa <| fin0 ?_
  exact ⟨rfl,_,by rw [okF_next,sumW_next,if_neg (show ¬ w64 (trV t) = 0 from c1),List.map_append]; rfl⟩
 ·try simp only [sx] at c1
  refine zJ ?_
  repeat (first | refine zFw ?_ | refine zDz ?_)
  refine zRa <| fin0 ?_
  exact ⟨rfl,_,by rw [okF_next,sumW_next,if_pos (show w64 (trV t) = 0 from c1),List.append_nil]; rfl⟩
theorem lin_Add (a b : Lf) (ha : a.L.length ≤ 4294967296) (hb : b.L.length ≤ 4294967296) (hra : a.rng) (hrb : b.rng) :
    Pur cfg 143 [vLin a,vLin b] (.tup [vLin (addL a b).1,vI (addL a b).2]):= by
 refine zV Tryz.func143 rfl Tryz.ntmps143 Tryz.results143 rfl ?_
 intro z hz
 refine sReg rfl<|qA rfl rfl (qL rfl rfl) ?_
 rintro _ _ ⟨b1,rfl,rfl⟩
 refine qA rfl rfl (qL rfl rfl) ?_
 rintro _ _ ⟨b2,rfl,rfl⟩
 refine qA rfl rfl (qO [none,some 2] rfl zr49 rfl) ?_
 rintro _ _ ⟨b3,rfl,rfl⟩
 refine rMv rfl<|zB<|zK<|sReg rfl<|zA rfl (zG rfl kG rfl (zF 2 rfl) rfl)<|zA rfl (zP rfl ok140 (zBg a (by omega)) ⟨zE,rfl,trivial⟩)<|zA rfl (qR rfl rfl rfl)<|rMv rfl<|rLz [] rfl gv1 trivial (fun g1_3 => zG rfl kG rfl (zF 1 rfl) rfl) rfl<|rLz [(12,_)] rfl gv1 ⟨rfl,rfl,trivial⟩ (fun g1_3 => zP rfl ok140 (zBg b (by omega)) ⟨zE,rfl,trivial⟩) rfl<|rLz [(13,_)] rfl gv1 ⟨rfl,rfl,trivial⟩ (fun g1_3 => qR rfl rfl rfl) rfl<|zA rfl (yB rfl rfl rfl rfl (fun h => (lzf h)))<|zB<|zH rfl (fun c1 => ?_) (fun c1 => ?_)
 ·try simp only [sx] at c1
  refine sReg rfl<|zA rfl (yW [none,some 2] rfl zr49 pl49 rfl rfl)<|zX rfl rfl (zT rfl sz49 rfl rfl rfl (qH 0 rfl rfl))<|rMv rfl<|zB<|zI<|fin2 (qG kG rfl (zF 0 rfl) rfl) (rs_c rfl) ?_
  rw [add_c1 c1]; rfl
 ·try simp only [sx] at c1
  have hla := zLy c1.1
  have hlb := zLy c1.2
  refine zJ<|sReg rfl<|qA rfl rfl (yJ rfl zr49) ?_
  rintro _ _ ⟨b4,rfl,rfl⟩
  refine yK _ (kI 111 2)<|zB<|sReg rfl<|qA rfl rfl (yJ rfl zr4) ?_
  rintro _ _ ⟨b6,rfl,rfl⟩
  refine zB<|sReg rfl<|zA rfl (zC rfl zDc rfl)<|zA rfl (zD rfl one2 rfl (zF 5 rfl) rfl)<|zA rfl (zC rfl zDc rfl)<|zA rfl (zD rfl one2 rfl (zF 4 rfl) rfl)<|zA rfl (zP rfl ok178 (lin_plus a.K b.K hra.1 hrb.1) ⟨zE,rfl,zE,rfl,trivial⟩)<|zA rfl (qP rfl rfl)<|zA rfl (qU rfl rfl rfl)<|zA rfl (qU rfl rfl rfl)<|zA rfl (zC rfl zDc rfl)<|zX rfl rfl (zT rfl sz2 rfl rfl rfl (qH 2 rfl rfl))<|zX rfl rfl (zT rfl sz4 rfl rfl rfl (qH 0 rfl rfl))<|zB<|sReg rfl<|zA rfl (zC rfl kO rfl)<|zA rfl (zD rfl wZ rfl (zF 5 rfl) rfl)<|zA rfl (zC rfl kO rfl)<|zA rfl (zD rfl wZ rfl (zF 4 rfl) rfl)<|zA rfl (zAj rfl rfl rfl rfl rfl)<|qA rfl rfl (wT rfl ok179 (Con.frame (merge_con a.L b.L ha hb _ (fun d m => ∃ sv,m = [E.row b6 4 [cB (okF (decide (r64 (a.K + b.K))) (d))],E.vec sv 111 2 ((sumW (d)).map Mono.cells),E.row b4 49 [cI (w64 (a.K + b.K)),.lit sv]]) _ (fun d t s m he hj => by obtain ⟨sv,rfl⟩ := hj; obtain ⟨k1,k2,k3⟩ := merge_rng hra.2 hrb.2 he; exact FnCon.of_con (first := []) (cap := [.lit (.pointer (some ⟨b6,0,none⟩)),.lit (.pointer (some ⟨b4,0,none⟩))]) ok180 (lin_Add_1 b6 b4 (decide (r64 (a.K + b.K))) (w64 (a.K + b.K)) sv d t k1 k2 (by omega))) ⟨_,rfl⟩) _) ⟨zE,rfl,zE,rfl,zE,rfl,trivial⟩) ?_
  rintro _ _ ⟨_,⟨rfl,sv7,rfl⟩,rfl⟩
  refine zB<|zK<|sReg rfl<|zA rfl (zD rfl one4 rfl (zF 0 rfl) rfl)<|zA rfl (qT rfl rfl)<|zB<|zH rfl (fun c2 => ?_) (fun c2 => ?_)
  ·try simp only [sx] at c2
   refine sReg rfl<|zA rfl (yW [none,some 2] rfl zr49 pl49 rfl rfl)<|zX rfl rfl (zT rfl sz49 rfl rfl rfl (qH 3 rfl rfl))<|rMv rfl<|zB<|zI<|fin2 (qG kG rfl (zF 3 rfl) rfl) (rs_c rfl) ?_
   rw [add_no hla hlb c2]; rfl
  ·try simp only [sx] at c2
   refine zJ<|sReg rfl<|zA rfl (zG rfl kG rfl (zF 2 rfl) rfl)<|zX rfl rfl (zT rfl sz49 rfl rfl rfl (qH 3 rfl rfl))<|rMv rfl<|zB<|zY _ (yL 1 rfl (regs' := [(35,.agg [_,_])]) (μ' := [_,_,_,_,_]) ⟨FLe.agg ⟨.inl rfl,.inr ⟨rfl,rfl⟩,trivial⟩,trivial⟩ ⟨EFle.refl _,EFle.row (ds := [_,_]) ⟨.inl rfl,.inr ⟨rfl,rfl⟩,trivial⟩,EFle.row (ds := [_,_]) ⟨.inl rfl,.inr ⟨rfl,rfl⟩,trivial⟩,EFle.refl _,EFle.refl _,trivial⟩)<|zI<|fin2 (qG kG rfl (zF 2 rfl) rfl) (rs_c rfl) ?_
   rw [add_ok hla hlb c2]; rfl
theorem lin_Substitute (l : Lf) (s : ByteArray) (u : Lf) (hl : l.L.length ≤ 4294967296) (ht : u.L.length ≤ 4294967296) (hrl : l.rng) (hrt : u.rng) :
    Pur cfg 95 [vLin l,vS s,vLin u] (.tup [vLin (substP l s u).1,vI (substP l s u).2]):= by
 refine zV Tryz.func95 rfl Tryz.ntmps95 Tryz.results95 rfl ?_
 intro z hz
 obtain ⟨hs1,hs2⟩ := scale_rng u (lastBy l.L s)
 obtain ⟨hr1,hr2⟩ := rest_rng hrl s
 refine sReg rfl<|qA rfl rfl (qL rfl rfl) ?_
 rintro _ _ ⟨b1,rfl,rfl⟩
 refine qA rfl rfl (qL rfl rfl) ?_
 rintro _ _ ⟨b2,rfl,rfl⟩
 refine qA rfl rfl (qO [none,some 2] rfl zr49 rfl) ?_
 rintro _ _ ⟨b3,rfl,rfl⟩
 refine rMv rfl<|zB<|zK<|sReg rfl<|zA rfl (zG rfl kG rfl (zF 2 rfl) rfl)<|zA rfl (zP rfl ok140 (zBg l (by omega)) ⟨zE,rfl,trivial⟩)<|zA rfl (qR rfl rfl rfl)<|rMv rfl<|rLz [] rfl gv1 trivial (fun g1_3 => zN rfl rfl) rfl<|rLz [(18,_)] rfl gv1 ⟨rfl,rfl,trivial⟩ (fun g1_3 => zP rfl ok141 (zIf s) ⟨zE,rfl,trivial⟩) rfl<|rLz [(19,_)] rfl gv1 ⟨rfl,rfl,trivial⟩ (fun g1_3 => qT rfl rfl) rfl<|zA rfl (yB rfl rfl rfl rfl (fun h => (lzf h)))<|rMv rfl<|rLz [] rfl gv1 trivial (fun g1_8 => zG rfl kG rfl (zF 1 rfl) rfl) rfl<|rLz [(23,_)] rfl gv1 ⟨rfl,rfl,trivial⟩ (fun g1_8 => zP rfl ok140 (zBg u (by omega)) ⟨zE,rfl,trivial⟩) rfl<|rLz [(24,_)] rfl gv1 ⟨rfl,rfl,trivial⟩ (fun g1_8 => qR rfl rfl rfl) rfl<|zA rfl (yB rfl rfl rfl rfl (fun h => (lzf h)))<|zB<|zH rfl (fun c1 => ?_) (fun c1 => ?_)
 ·try simp only [sx] at c1
  refine sReg rfl<|zA rfl (yW [none,some 2] rfl zr49 pl49 rfl rfl)<|zX rfl rfl (zT rfl sz49 rfl rfl rfl (qH 0 rfl rfl))<|rMv rfl<|zB<|zI<|fin2 (qG kG rfl (zF 0 rfl) rfl) (rs_c rfl) ?_
  rw [subst_c1 c1]; rfl
 ·try simp only [sx] at c1
  refine zJ<|sReg rfl<|zA rfl (zC rfl zDc rfl)<|zA rfl (zD rfl one2 rfl (zF 2 rfl) rfl)<|zA rfl (qV rfl zr49 pl49 rfl)<|qA rfl rfl (yJ rfl zr49) ?_
  rintro _ _ ⟨b4,rfl,rfl⟩
  refine yK _ (kI 111 2)<|zX rfl rfl (zT rfl sz49 rfl rfl rfl (qH 1 rfl rfl))<|zB<|sReg rfl<|rMv rfl<|zB<|zK<|sReg rfl<|zA rfl (zC rfl kO rfl)<|zA rfl (zD rfl wZ rfl (zF 4 rfl) rfl)<|zA rfl (zR rfl el47 rfl)<|rMv rfl<|zB<|zS<|zY ⟨[(34,.c _),(9,.c _),(1,.c _),(5,.c _),(6,.c _),(8,.c _),(32,.c _),(33,.c _)],[_,_,_,_]⟩ (Weak.mk [true,true,true,true,false] ⟨zE,zE,zE,zE,zE,zE,zE,zE,trivial⟩ rfl)<|qI 2 2 rfl rfl (Nat × Value) (fun ⟨k,sv⟩ => [(34,vI k),(9,vI (lastBy (l.L.take k) s))]) (fun ⟨k,sv⟩ => [E.vec sv 111 2 (((l.L.take k).filter (fun m => !decide (m.Name = s))).map Mono.cells),E.row b4 49 [cI l.K,.lit sv]]) (fun ⟨k,sv⟩ => k ≤ l.L.length) (fun ⟨k,sv⟩ => l.L.length - k) ⟨⟨0,_⟩,(by omega),Weak.mk [true,true,true,true] ⟨zE,VLe.of_eq (rfl),zE,zE,zE,zE,zE,zE,trivial⟩ rfl⟩ ?_
  rintro ⟨k,sv⟩ hk
  show AWP _ _ _ _ _ ⟨[(34,vI k),(9,vI (lastBy (l.L.take k) s))] ++ _,[E.vec sv 111 2 (((l.L.take k).filter (fun m => !decide (m.Name = s))).map Mono.cells),E.row b4 49 [cI l.K,.lit sv]] ++ _⟩
  refine sReg rfl<|zA rfl (qM rfl rfl rfl)<|zB<|zK<|zH rfl (fun c2 => ?_) (fun c2 => ?_)
  ·try simp only [sx] at c2
   obtain ⟨x,hx⟩ := qX l.L k (by omega)
   refine zJ<|zK<|zS<|sReg rfl<|zA rfl (zO rfl el47 rfl rfl (by omega) (getm (by assumption)))<|zA rfl (zG rfl zEc rfl qC rfl)<|qA rfl rfl (yJ rfl zFu) ?_
   rintro _ _ ⟨b6,rfl,rfl⟩
   refine zX rfl rfl (zT rfl sz111 rfl rfl rfl (qH 0 rfl rfl))<|zB<|zK<|sReg rfl<|zA rfl (zC rfl wG rfl)<|zA rfl (zD rfl one9 rfl (zF 0 rfl) rfl)<|rMv rfl<|zA rfl (yP rfl rfl rfl)<|zB<|zH rfl (fun c3 => ?_) (fun c3 => ?_)
   ·try simp only [sx] at c3
    refine sReg rfl<|zA rfl (zC rfl zDj rfl)<|zA rfl (zD rfl one2 rfl (zF 0 rfl) rfl)<|rMv rfl<|zB<|qN<|zU rfl<|zA rfl (qB rfl rfl rfl ⟨by omega,by omega⟩)<|rMv rfl<|zB ?_
    refine ⟨⟨k + 1,_⟩,(by omega),(by show l.L.length - (k + 1) < l.L.length - k; omega),Weak.mk [false,true,true,true,true] ⟨zE,VLe.of_eq (by rw [zQu hx]; first | (rw [if_pos c3]; rfl) | (rw [if_neg c3]; rfl)),zE,zE,zE,zE,zE,zE,trivial⟩ (by exact mem2c_eq (by rw [rest_next hx]; first | (rw [if_pos c3,List.append_nil]) | (rw [if_neg c3,List.map_append]; rfl)))⟩
   ·try simp only [sx] at c3
    refine zJ<|zU rfl<|zA rfl (zC rfl kO rfl)<|zA rfl (zD rfl wZ rfl (zF 2 rfl) rfl)<|zA rfl (zG rfl zEc rfl (zF 0 rfl) rfl)<|zA rfl (qZ rfl el47 zFu rfl rfl rfl rfl)<|qA rfl rfl (yI 1 rfl el47 rfl rfl rfl (by have := List.length_filter_le (fun m : Mono => !decide (m.Name = s)) (l.L.take k); simp only [List.length_map,List.length_append,List.length_cons,List.length_nil,List.length_take] at *; omega) (by have := List.length_filter_le (fun m : Mono => !decide (m.Name = s)) (l.L.take k); simp only [List.length_map,List.length_append,List.length_cons,List.length_nil,List.length_take] at *; omega)) ?_
    rintro _ _ ⟨sv7,rfl,rfl⟩
    refine zA rfl (zC rfl kO rfl)<|zX rfl rfl (zT rfl sz47 rfl rfl rfl (qH 2 rfl rfl))<|zB<|zU rfl<|zA rfl (qB rfl rfl rfl ⟨by omega,by omega⟩)<|rMv rfl<|zB ?_
    refine ⟨⟨k + 1,_⟩,(by omega),(by show l.L.length - (k + 1) < l.L.length - k; omega),Weak.mk [false,true,true,true,true] ⟨zE,VLe.of_eq (by rw [zQu hx]; first | (rw [if_pos c3]; rfl) | (rw [if_neg c3]; rfl)),zE,zE,zE,zE,zE,zE,trivial⟩ (by exact mem2c_eq (by rw [rest_next hx]; first | (rw [if_pos c3,List.append_nil]) | (rw [if_neg c3,List.map_append]; rfl)))⟩
  ·try simp only [sx] at c2
   rw [yO (l := l.L) (k := k) (by omega)]
   refine qN<|sReg rfl<|zA rfl (zG rfl kG rfl (zF 3 rfl) rfl)<|rMv rfl<|zA rfl (zP rfl ok142 (lin_Scale u (lastBy l.L s) ht hrt (last_rng hrl s)) ⟨zE,rfl,zE,rfl,trivial⟩)<|zA rfl (qP rfl rfl)<|zA rfl (yF rfl rfl rfl)<|zA rfl (qU rfl rfl rfl)<|qA rfl rfl (qO [none,some 2] rfl zr49 rfl) ?_
   rintro _ _ ⟨b8,rfl,rfl⟩
   refine zX rfl rfl (zT rfl sz49 rfl rfl rfl (qH 0 rfl rfl))<|rMv rfl<|zB<|zK<|sReg rfl<|rMv rfl<|zA rfl (qR rfl rfl rfl)<|zB<|zH rfl (fun c4 => ?_) (fun c4 => ?_)
   ·try simp only [sx] at c4
    refine sReg rfl<|zA rfl (yW [none,some 2] rfl zr49 pl49 rfl rfl)<|rMv rfl<|zX rfl rfl (zT rfl sz49 rfl rfl rfl (qH 3 rfl rfl))<|rMv rfl<|zB<|zI<|fin2 (qG kG rfl (zF 3 rfl) rfl) (rs_c rfl) ?_
    rw [subst_c4 c1 c4]; rfl
   ·try simp only [sx] at c4
    refine zY _ (yL 1 rfl (regs' := []) (μ' := [_,_,_,_]) trivial ⟨EFle.refl _,EFle.row (ds := [_,_]) ⟨.inl rfl,.inr ⟨rfl,rfl⟩,trivial⟩,EFle.refl _,EFle.refl _,trivial⟩)<|zJ<|sReg rfl<|zA rfl (zG rfl kG rfl (zF 1 rfl) rfl)<|zA rfl (zG rfl kG rfl (zF 0 rfl) rfl)<|zA rfl (zP rfl ok143 (lin_Add (restL l s) (scaleL u (lastBy l.L s)).1 (by omega) (by omega) hr1 hs1) ⟨zE,rfl,zE,rfl,trivial⟩)<|zA rfl (yF rfl rfl rfl)<|zA rfl (qU rfl rfl rfl)<|zX rfl rfl (zT rfl sz49 rfl rfl rfl (qH 2 rfl rfl))<|rMv rfl<|zB<|zI<|fin2 (qG kG rfl (zF 2 rfl) rfl) (rs_c rfl) ?_
    rw [subst_ok c1 c4]; rfl
end Go.W
