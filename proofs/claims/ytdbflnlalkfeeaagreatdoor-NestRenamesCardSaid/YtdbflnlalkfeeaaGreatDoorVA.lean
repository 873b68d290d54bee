/-
  Walks: what functions of the program compute. Printed by wip/gen/mk2.py.
  Conditions: none.
-/
import Derived.Test.YtdbflnlalkfeeaaGreatDoorWZ
import Derived.Test.YtdbflnlalkfeeaaGreatDoorPlain2
import Derived.Test.YtdbflnlalkfeeaaGreatDoorEngZ
set_option maxRecDepth 10000
namespace Go.W
open Go Go.Eng Go.Proofs Go.L41 Go.Br
attribute [local irreducible] AWP RWP TD finQ
theorem ok97 : callOk Tryz.prog 97 = true:= by kernel_rfl
theorem ok144 : callOk Tryz.prog 144 = true:= by kernel_rfl
theorem ok145 : callOk Tryz.prog 145 = true:= by kernel_rfl
theorem ok182 : callOk Tryz.prog 182 = true:= by kernel_rfl
theorem ok183 : callOk Tryz.prog 183 = true:= by kernel_rfl
theorem pl52 : placesT Tryz.prog 52 = some [(0,1),(1,1),(2,2),(4,5),(9,2),(11,1),(12,1)]:= by kernel_rfl
theorem pl114 : placesT Tryz.prog 114 = some [(0,2),(2,1),(3,1)]:= by kernel_rfl
theorem sz44 : (Tryz.prog.info? 44).map (·.size) = some 1:= by kernel_rfl
theorem sz50 : (Tryz.prog.info? 50).map (·.size) = some 1:= by kernel_rfl
theorem sz112 : (Tryz.prog.info? 112).map (·.size) = some 1:= by kernel_rfl
theorem ref14_sum (a b : Lf) (c : Int) (ha : a.L.length ≤ 4294967296) (hb : b.L.length ≤ 4294967296) (hra : a.rng) (hrb : b.rng) (hc : r64 c) (hne : ∀ m,m ∈ a.L → m.By ≠ 0) :
    Pur cfg 183 [vLin a,vLin b,vI c] (.tup [vLin (addT (a.K + b.K * c) (mulT c (mergeL a.L b.L))).1,vI (addT (a.K + b.K * c) (mulT c (mergeL a.L b.L))).2]):= by
 refine zV Tryz.func183 rfl Tryz.ntmps183 Tryz.results183 rfl ?_
 intro z hz
 have z0 : r64 0:= by unfold r64; omega
 refine sReg rfl<|zY rfl rfl (qM rfl rfl) ?_
 rintro _ _ ⟨b1,rfl,rfl⟩
 refine zY rfl rfl (qM rfl rfl) ?_
 rintro _ _ ⟨b2,rfl,rfl⟩
 refine zY rfl rfl (qH [none,some 2] rfl zr49 rfl) ?_
 rintro _ _ ⟨b3,rfl,rfl⟩
 refine rMv rfl<|zB<|sReg rfl<|zA rfl rfl (zC rfl zCj rfl)<|zA rfl rfl (zD rfl one2 rfl (zE 2 rfl) rfl)<|zA rfl rfl (zC rfl zCj rfl)<|zA rfl rfl (zD rfl one2 rfl (zE 1 rfl) rfl)<|rMv rfl<|zA rfl rfl (zQ rfl ok203 (zCl a.K b.K c hra.1 hrb.1 hc) ⟨VLe.refl _,rfl,VLe.refl _,rfl,VLe.refl _,rfl,trivial⟩)<|zA rfl rfl (qK rfl rfl)<|zA rfl rfl (qN rfl rfl rfl)<|zA rfl rfl (qN rfl rfl rfl)<|rMv rfl<|rMv rfl<|zB<|sReg rfl<|rMv rfl<|zA rfl rfl (qU rfl zr49 pl49 rfl)<|zY rfl rfl (yJ rfl zr49) ?_
 rintro _ _ ⟨b4,rfl,rfl⟩
 refine qY _ (yR 111 2)<|zS rfl rfl (zO rfl sz49 rfl rfl rfl (qE 1 rfl rfl))<|zB<|sReg rfl<|rMv rfl<|rMv rfl<|zB<|zJ<|zU<|zX ⟨[(9,.c _),(11,.c _),(12,.c _),(2,.c _),(3,.c _),(4,.c _),(6,.c _),(10,.c _)],[_,_,_,_,_]⟩ (Weak.mk [true,true,true,true,true] ⟨VLe.of_eq rfl,VLe.of_eq rfl,VLe.of_eq rfl,VLe.of_eq rfl,VLe.of_eq rfl,VLe.of_eq rfl,VLe.of_eq rfl,VLe.of_eq rfl,trivial⟩ rfl)<|qI 3 2 rfl rfl (Nat × Nat × List Tr × Value) (fun ⟨i,n,d,sv⟩ => [(9,vB (okF (decide (r64 (a.K + b.K * c))) (mulT c d))),(11,vI i),(12,vI n)]) (fun ⟨i,n,d,sv⟩ => [E.vec sv 111 2 ((sumW (mulT c d)).map Mono.cells),E.row b4 49 [cI (w64 (a.K + b.K * c)),.lit sv]]) (fun ⟨i,n,d,sv⟩ => i ≤ a.L.length ∧ n ≤ b.L.length ∧ mergeL a.L b.L = d ++ mergeL (a.L.drop i) (b.L.drop n)) (fun ⟨i,n,d,sv⟩ => (a.L.length - i) + (b.L.length - n)) ⟨⟨0,0,[],.slice none 0 0⟩,⟨by omega,by omega,rfl⟩,Weak.mk [true,true,true,true,true] ⟨VLe.refl _,VLe.refl _,VLe.refl _,VLe.refl _,VLe.refl _,VLe.refl _,VLe.refl _,VLe.refl _,trivial⟩ rfl⟩ ?_
 rintro ⟨i,n,d,sv⟩ ⟨hia,hnb,hm⟩
 show AWP _ _ _ _ _ ⟨[(9,vB (okF (decide (r64 (a.K + b.K * c))) (mulT c d))),(11,vI i),(12,vI n)] ++ _,[E.vec sv 111 2 ((sumW (mulT c d)).map Mono.cells),E.row b4 49 [cI (w64 (a.K + b.K * c)),.lit sv]] ++ _⟩
 refine zJ<|sReg rfl<|rMv rfl<|zA rfl rfl (zC rfl yM rfl)<|zA rfl rfl (zD rfl kQ rfl (zE 4 rfl) rfl)<|zA rfl rfl (zT rfl el47 rfl)<|zA rfl rfl (qL rfl rfl rfl)<|rMv rfl<|rLz [] rfl gv1 trivial (fun g4_5 => zN rfl rfl) rfl<|rLz [] rfl gv1 trivial (fun g4_5 => zC rfl yM rfl) rfl<|rLz [(36,_)] rfl gv1 ⟨rfl,rfl,trivial⟩ (fun g4_5 => zD rfl kQ rfl (zE 3 rfl) rfl) rfl<|rLz [(37,_)] rfl gv1 ⟨rfl,rfl,trivial⟩ (fun g4_5 => zT rfl el47 rfl) rfl<|rLz [(35,_),(38,_)] rfl gv1 ⟨rfl,rfl,rfl,rfl,trivial⟩ (fun g4_5 => qL rfl rfl rfl) rfl<|zA rfl rfl (yP rfl rfl rfl rfl (fun h => (lzf h)))<|zB<|zG rfl (fun c1 => ?_) (fun c1 => ?_)
 ·try simp only [sx] at c1
  refine zK<|zU<|sReg rfl<|rMv rfl<|rMv rfl<|rMv rfl<|zB<|zJ<|zJ<|yG 27 mixed (by kernel_rfl) rfl rfl<|zM rfl rfl (zN rfl rfl)<|zM rfl rfl (zC rfl yM rfl)<|zM rfl rfl (zD rfl kQ rfl (zE 3 rfl) rfl)<|zM rfl rfl (zT rfl el47 rfl)<|zM rfl rfl (qJ rfl rfl rfl)<|zM rfl rfl (zN rfl rfl)<|qG [] rfl rfl rfl rfl gv1 trivial (fun g6_5 => zN rfl rfl) rfl<|qG [] rfl rfl rfl rfl gv1 trivial (fun g6_5 => zC rfl yM rfl) rfl<|qG [(48,_)] rfl rfl rfl rfl gv1 ⟨rfl,rfl,trivial⟩ (fun g6_5 => zD rfl kQ rfl (zE 4 rfl) rfl) rfl<|qG [(49,_)] rfl rfl rfl rfl gv1 ⟨rfl,rfl,trivial⟩ (fun g6_5 => zT rfl el47 rfl) rfl<|qG [(47,_),(50,_)] rfl rfl rfl rfl gv1 ⟨rfl,rfl,rfl,rfl,trivial⟩ (fun g6_5 => qL rfl rfl rfl) rfl<|qG [(51,_)] rfl rfl rfl rfl gv1 ⟨rfl,rfl,trivial⟩ (fun g6_5 => zN rfl rfl) rfl<|qG [] rfl rfl rfl rfl gv2 trivial (fun g6_11 => zC rfl yM rfl) rfl<|qG [(53,_)] rfl rfl rfl rfl gv2 ⟨rfl,rfl,trivial⟩ (fun g6_11 => zD rfl kQ rfl (zE 4 rfl) rfl) rfl<|qG [] rfl rfl rfl rfl gv2 trivial (fun g6_11 => zN rfl rfl) rfl<|qG [(54,_),(55,_)] rfl rfl rfl rfl gv2 ⟨rfl,rfl,rfl,rfl,trivial⟩ (fun g6_11 => zP rfl el47 rfl rfl (by simp only [Lz,cond_true,cond_false,Bool.and_eq_true,Bool.or_eq_true,Bool.not_eq_true',Bool.not_eq_false',Bool.or_eq_false_iff,Bool.and_eq_false_iff,decide_eq_true_eq,decide_eq_false_iff_not,Bool.not_eq_true,Bool.not_eq_false] at g6_11; omega) (getm (zBq (by simp only [Lz,cond_true,cond_false,Bool.and_eq_true,Bool.or_eq_true,Bool.not_eq_true',Bool.not_eq_false',Bool.or_eq_false_iff,Bool.and_eq_false_iff,decide_eq_true_eq,decide_eq_false_iff_not,Bool.not_eq_true,Bool.not_eq_false] at g6_11; omega)))) rfl<|qG [(56,_)] rfl rfl rfl rfl gv2 ⟨rfl,rfl,trivial⟩ (fun g6_11 => zZ rfl kN rfl) rfl<|qG [(57,_)] rfl rfl rfl rfl gv2 ⟨rfl,rfl,trivial⟩ (fun g6_11 => zD rfl one9 rfl qA rfl) rfl<|qG [] rfl rfl rfl rfl gv2 trivial (fun g6_11 => zC rfl yM rfl) rfl<|qG [(59,_)] rfl rfl rfl rfl gv2 ⟨rfl,rfl,trivial⟩ (fun g6_11 => zD rfl kQ rfl (zE 3 rfl) rfl) rfl<|qG [] rfl rfl rfl rfl gv2 trivial (fun g6_11 => zN rfl rfl) rfl<|qG [(60,_),(61,_)] rfl rfl rfl rfl gv2 ⟨rfl,rfl,rfl,rfl,trivial⟩ (fun g6_11 => zP rfl el47 rfl rfl (by simp only [Lz,cond_true,cond_false,Bool.and_eq_true,Bool.or_eq_true,Bool.not_eq_true',Bool.not_eq_false',Bool.or_eq_false_iff,Bool.and_eq_false_iff,decide_eq_true_eq,decide_eq_false_iff_not,Bool.not_eq_true,Bool.not_eq_false] at g6_11; omega) (getm (zBq (by simp only [Lz,cond_true,cond_false,Bool.and_eq_true,Bool.or_eq_true,Bool.not_eq_true',Bool.not_eq_false',Bool.or_eq_false_iff,Bool.and_eq_false_iff,decide_eq_true_eq,decide_eq_false_iff_not,Bool.not_eq_true,Bool.not_eq_false] at g6_11; omega)))) rfl<|qG [(62,_)] rfl rfl rfl rfl gv2 ⟨rfl,rfl,trivial⟩ (fun g6_11 => zZ rfl kN rfl) rfl<|qG [(63,_)] rfl rfl rfl rfl gv2 ⟨rfl,rfl,trivial⟩ (fun g6_11 => zD rfl one9 rfl qA rfl) rfl<|qG [(58,_),(64,_)] rfl rfl rfl rfl gv2 ⟨rfl,rfl,rfl,rfl,trivial⟩ (fun g6_11 => det_sleq rfl rfl rfl) rfl<|qG [(52,_)] rfl rfl rfl rfl gv1 ⟨rfl,rfl,trivial⟩ (fun g6_5 => qP rfl rfl rfl (fun h => kF (by assumption) h) rfl) rfl<|zM rfl rfl (yP rfl rfl rfl rfl (fun h => (lzf h)))<|kI<|zB<|zG rfl (fun c2 => ?_) (fun c2 => ?_)
  ·have hi := sum_t (a := a.L) (b := b.L) (i := i) (n := n) (by omega) hnb c2
   refine sReg rfl<|zA rfl rfl (zC rfl yM rfl)<|zA rfl rfl (zD rfl kQ rfl (zE 4 rfl) rfl)<|rMv rfl<|zA rfl rfl (zP rfl el47 rfl rfl (by omega) (getm (zBq (by omega))))<|zA rfl rfl (zZ rfl kN rfl)<|zA rfl rfl (zD rfl one9 rfl qA rfl)<|rMv rfl<|zB<|zR rfl<|zA rfl rfl (zC rfl yM rfl)<|zA rfl rfl (zD rfl kQ rfl (zE 4 rfl) rfl)<|rMv rfl<|zA rfl rfl (zP rfl el47 rfl rfl (by omega) (getm (zBq (by omega))))<|zA rfl rfl (zZ rfl zAz rfl)<|zA rfl rfl (zD rfl one2 rfl qA rfl)<|rMv rfl<|zB<|zJ<|sReg rfl<|rMv rfl<|zA rfl rfl (zC rfl yM rfl)<|zA rfl rfl (zD rfl kQ rfl (zE 3 rfl) rfl)<|zA rfl rfl (zT rfl el47 rfl)<|zA rfl rfl (qL rfl rfl rfl)<|rMv rfl<|rLz [] rfl gv1 trivial (fun g10_5 => zC rfl yM rfl) rfl<|rLz [(92,_)] rfl gv1 ⟨rfl,rfl,trivial⟩ (fun g10_5 => zD rfl kQ rfl (zE 3 rfl) rfl) rfl<|rLz [] rfl gv1 trivial (fun g10_5 => zN rfl rfl) rfl<|rLz [(93,_),(94,_)] rfl gv1 ⟨rfl,rfl,rfl,rfl,trivial⟩ (fun g10_5 => zP rfl el47 rfl rfl (by simp only [Lz,cond_true,cond_false,Bool.and_eq_true,Bool.or_eq_true,Bool.not_eq_true',Bool.not_eq_false',Bool.or_eq_false_iff,Bool.and_eq_false_iff,decide_eq_true_eq,decide_eq_false_iff_not,Bool.not_eq_true,Bool.not_eq_false] at g10_5; omega) (getm (zBq (by simp only [Lz,cond_true,cond_false,Bool.and_eq_true,Bool.or_eq_true,Bool.not_eq_true',Bool.not_eq_false',Bool.or_eq_false_iff,Bool.and_eq_false_iff,decide_eq_true_eq,decide_eq_false_iff_not,Bool.not_eq_true,Bool.not_eq_false] at g10_5; omega)))) rfl<|rLz [(95,_)] rfl gv1 ⟨rfl,rfl,trivial⟩ (fun g10_5 => zZ rfl kN rfl) rfl<|rLz [(96,_)] rfl gv1 ⟨rfl,rfl,trivial⟩ (fun g10_5 => zD rfl one9 rfl qA rfl) rfl<|rLz [] rfl gv1 trivial (fun g10_5 => zN rfl rfl) rfl<|rLz [(97,_),(98,_)] rfl gv1 ⟨rfl,rfl,rfl,rfl,trivial⟩ (fun g10_5 => yL rfl rfl rfl) rfl<|zA rfl rfl (qP rfl rfl rfl (fun h => h) rfl)<|zB<|zG rfl (fun c3 => ?_) (fun c3 => ?_)
   ·obtain ⟨hn1,hL⟩ := sum_tt (a := a.L) (b := b.L) (i := i) (n := n) hi c3
    have hm1 : mergeL a.L b.L = (d ++ [((atM a.L i).Name,(atM a.L i).By,(atM b.L n).By)]) ++ mergeL (a.L.drop (i + 1)) (b.L.drop (n + 1)):= by rw [hm,hL]; simp
    refine sReg rfl<|zA rfl rfl (zC rfl yM rfl)<|zA rfl rfl (zD rfl kQ rfl (zE 3 rfl) rfl)<|rMv rfl<|zA rfl rfl (zP rfl el47 rfl rfl (by omega) (getm (zBq (by omega))))<|zA rfl rfl (zZ rfl zAz rfl)<|zA rfl rfl (zD rfl one2 rfl qA rfl)<|rMv rfl<|zB<|zR rfl<|rMv rfl<|zA rfl rfl (qC rfl rfl rfl ⟨by omega,by omega⟩)<|rMv rfl<|zB<|zJ<|sReg rfl<|rMv rfl<|zA rfl rfl (qS rfl rfl rfl)<|zB<|zG rfl (fun c4 => ?_) (fun c4 => ?_)
    ·try simp only [sx] at c4
     refine zR rfl<|rMv rfl<|zA rfl rfl (qC rfl rfl rfl ⟨by omega,by omega⟩)<|rMv rfl<|zB<|sReg rfl<|rMv rfl<|rMv rfl<|rMv rfl<|zA rfl rfl (zQ rfl ok203 (zCl _ _ c (by first | exact z0 | exact hra.2 _ (zMg hi)) (by first | exact z0 | exact hrb.2 _ (zMg hn1)) hc) ⟨VLe.refl _,rfl,VLe.refl _,rfl,VLe.refl _,rfl,trivial⟩)<|zA rfl rfl (qK rfl rfl)<|zA rfl rfl (qN rfl rfl rfl)<|zA rfl rfl (qN rfl rfl rfl)<|rMv rfl<|rMv rfl<|zB<|sReg rfl<|rMv rfl<|rMv rfl<|rLz [] rfl gv1 trivial (fun g16_1 => zN rfl rfl) rfl<|zA rfl rfl (qP rfl rfl rfl (fun h => h) rfl)<|rMv rfl<|zB<|sReg rfl<|rMv rfl<|zA rfl rfl (qS rfl rfl rfl)<|zB<|zG rfl (fun c5 => ?_) (fun c5 => ?_)
     ·try simp only [sx] at c5
      refine zR rfl<|zA rfl rfl (zC rfl yM rfl)<|zA rfl rfl (zD rfl kQ rfl (zE 1 rfl) rfl)<|rMv rfl<|rMv rfl<|zA rfl rfl (qU rfl zCc pl111 rfl)<|zA rfl rfl (qV rfl el47 zCc rfl rfl rfl rfl)<|zY rfl rfl (yB 0 rfl el47 rfl rfl rfl (by have := zEd c d; have := congrArg List.length hm1; have := zBc a.L b.L; simp only [List.length_map,List.length_append,List.length_cons,List.length_nil] at *; omega) (by have := zEd c d; have := congrArg List.length hm1; have := zBc a.L b.L; simp only [List.length_map,List.length_append,List.length_cons,List.length_nil] at *; omega)) ?_
      rintro _ _ ⟨sv6,rfl,rfl⟩
      refine zA rfl rfl (zC rfl yM rfl)<|zS rfl rfl (zO rfl sz47 rfl rfl rfl (qE 1 rfl rfl))<|zB ?_
      refine ⟨⟨i + 1,n + 1,d ++ [((atM a.L i).Name,(atM a.L i).By,(atM b.L n).By)],sv6⟩,⟨by omega,by omega,hm1⟩,(by dsimp only; omega),Weak.mk [true,true,true,true,true] ⟨VLe.of_eq (by rw [zAv,zDa]; rfl),VLe.refl _,VLe.refl _,VLe.refl _,VLe.refl _,VLe.refl _,VLe.refl _,VLe.refl _,trivial⟩ (by exact zBx (by rw [zAv,zCd]; rw [if_neg (show ¬ w64 (trV ((atM a.L i).Name,(atM a.L i).By,(atM b.L n).By * c)) = 0 from c5),List.map_append]; rfl))⟩
     ·try simp only [sx] at c5
      refine zK ?_
      refine ⟨⟨i + 1,n + 1,d ++ [((atM a.L i).Name,(atM a.L i).By,(atM b.L n).By)],sv⟩,⟨by omega,by omega,hm1⟩,(by dsimp only; omega),Weak.mk [true,true,true,true,true] ⟨VLe.of_eq (by rw [zAv,zDa]; rfl),VLe.refl _,VLe.refl _,VLe.refl _,VLe.refl _,VLe.refl _,VLe.refl _,VLe.refl _,trivial⟩ (by exact zBx (by rw [zAv,zCd]; rw [if_pos (show w64 (trV ((atM a.L i).Name,(atM a.L i).By,(atM b.L n).By * c)) = 0 from c5),List.append_nil]))⟩
    ·try simp only [sx] at c4
     exact absurd c4 (hne _ (zMg hi))
   ·have hL := sum_tf (a := a.L) (b := b.L) (i := i) (n := n) hi hnb c2 c3
    have hm1 : mergeL a.L b.L = (d ++ [((atM a.L i).Name,(atM a.L i).By,0)]) ++ mergeL (a.L.drop (i + 1)) (b.L.drop n):= by rw [hm,hL]; simp
    refine zK<|zJ<|sReg rfl<|rMv rfl<|zA rfl rfl (qS rfl rfl rfl)<|zB<|zG rfl (fun c4 => ?_) (fun c4 => ?_)
    ·try simp only [sx] at c4
     refine zR rfl<|rMv rfl<|zA rfl rfl (qC rfl rfl rfl ⟨by omega,by omega⟩)<|rMv rfl<|zB<|sReg rfl<|rMv rfl<|rMv rfl<|rMv rfl<|zA rfl rfl (zQ rfl ok203 (zCl _ _ c (by first | exact z0 | exact hra.2 _ (zMg hi)) (by first | exact z0 | exact hrb.2 _ (zMg hn1)) hc) ⟨VLe.refl _,rfl,VLe.refl _,rfl,VLe.refl _,rfl,trivial⟩)<|zA rfl rfl (qK rfl rfl)<|zA rfl rfl (qN rfl rfl rfl)<|zA rfl rfl (qN rfl rfl rfl)<|rMv rfl<|rMv rfl<|zB<|sReg rfl<|rMv rfl<|rMv rfl<|rLz [] rfl gv1 trivial (fun g16_1 => zN rfl rfl) rfl<|zA rfl rfl (qP rfl rfl rfl (fun h => h) rfl)<|rMv rfl<|zB<|sReg rfl<|rMv rfl<|zA rfl rfl (qS rfl rfl rfl)<|zB<|zG rfl (fun c5 => ?_) (fun c5 => ?_)
     ·try simp only [sx] at c5
      refine zR rfl<|zA rfl rfl (zC rfl yM rfl)<|zA rfl rfl (zD rfl kQ rfl (zE 1 rfl) rfl)<|rMv rfl<|rMv rfl<|zA rfl rfl (qU rfl zCc pl111 rfl)<|zA rfl rfl (qV rfl el47 zCc rfl rfl rfl rfl)<|zY rfl rfl (yB 0 rfl el47 rfl rfl rfl (by have := zEd c d; have := congrArg List.length hm1; have := zBc a.L b.L; simp only [List.length_map,List.length_append,List.length_cons,List.length_nil] at *; omega) (by have := zEd c d; have := congrArg List.length hm1; have := zBc a.L b.L; simp only [List.length_map,List.length_append,List.length_cons,List.length_nil] at *; omega)) ?_
      rintro _ _ ⟨sv7,rfl,rfl⟩
      refine zA rfl rfl (zC rfl yM rfl)<|zS rfl rfl (zO rfl sz47 rfl rfl rfl (qE 1 rfl rfl))<|zB ?_
      refine ⟨⟨i + 1,n,d ++ [((atM a.L i).Name,(atM a.L i).By,0)],sv7⟩,⟨by omega,by omega,hm1⟩,(by dsimp only; omega),Weak.mk [true,true,true,true,true] ⟨VLe.of_eq (by rw [zAv,zDa]; rfl),VLe.refl _,VLe.refl _,VLe.refl _,VLe.refl _,VLe.refl _,VLe.refl _,VLe.refl _,trivial⟩ (by exact zBx (by rw [zAv,zCd]; rw [if_neg (show ¬ w64 (trV ((atM a.L i).Name,(atM a.L i).By,0 * c)) = 0 from c5),List.map_append]; rfl))⟩
     ·try simp only [sx] at c5
      refine zK ?_
      refine ⟨⟨i + 1,n,d ++ [((atM a.L i).Name,(atM a.L i).By,0)],sv⟩,⟨by omega,by omega,hm1⟩,(by dsimp only; omega),Weak.mk [true,true,true,true,true] ⟨VLe.of_eq (by rw [zAv,zDa]; rfl),VLe.refl _,VLe.refl _,VLe.refl _,VLe.refl _,VLe.refl _,VLe.refl _,VLe.refl _,trivial⟩ (by exact zBx (by rw [zAv,zCd]; rw [if_pos (show w64 (trV ((atM a.L i).Name,(atM a.L i).By,0 * c)) = 0 from c5),List.append_nil]))⟩
    ·try simp only [sx] at c4
     exact absurd c4 (hne _ (zMg hi))
  ·have hn1 := sum_f (a := a.L) (b := b.L) (i := i) (n := n) hnb c2
   obtain ⟨hL,hs3⟩ := sum_fx (a := a.L) (b := b.L) (i := i) (n := n) hn1 c2
   refine zR rfl<|zA rfl rfl (zC rfl yM rfl)<|zA rfl rfl (zD rfl kQ rfl (zE 3 rfl) rfl)<|rMv rfl<|zA rfl rfl (zP rfl el47 rfl rfl (by omega) (getm (zBq (by omega))))<|zA rfl rfl (zZ rfl kN rfl)<|zA rfl rfl (zD rfl one9 rfl qA rfl)<|rMv rfl<|zB<|zJ<|sReg rfl<|rMv rfl<|zA rfl rfl (zC rfl yM rfl)<|zA rfl rfl (zD rfl kQ rfl (zE 3 rfl) rfl)<|zA rfl rfl (zT rfl el47 rfl)<|zA rfl rfl (qL rfl rfl rfl)<|rMv rfl<|rLz [] rfl gv1 trivial (fun g10_5 => zC rfl yM rfl) rfl<|rLz [(92,_)] rfl gv1 ⟨rfl,rfl,trivial⟩ (fun g10_5 => zD rfl kQ rfl (zE 3 rfl) rfl) rfl<|rLz [] rfl gv1 trivial (fun g10_5 => zN rfl rfl) rfl<|rLz [(93,_),(94,_)] rfl gv1 ⟨rfl,rfl,rfl,rfl,trivial⟩ (fun g10_5 => zP rfl el47 rfl rfl (by simp only [Lz,cond_true,cond_false,Bool.and_eq_true,Bool.or_eq_true,Bool.not_eq_true',Bool.not_eq_false',Bool.or_eq_false_iff,Bool.and_eq_false_iff,decide_eq_true_eq,decide_eq_false_iff_not,Bool.not_eq_true,Bool.not_eq_false] at g10_5; omega) (getm (zBq (by simp only [Lz,cond_true,cond_false,Bool.and_eq_true,Bool.or_eq_true,Bool.not_eq_true',Bool.not_eq_false',Bool.or_eq_false_iff,Bool.and_eq_false_iff,decide_eq_true_eq,decide_eq_false_iff_not,Bool.not_eq_true,Bool.not_eq_false] at g10_5; omega)))) rfl<|rLz [(95,_)] rfl gv1 ⟨rfl,rfl,trivial⟩ (fun g10_5 => zZ rfl kN rfl) rfl<|rLz [(96,_)] rfl gv1 ⟨rfl,rfl,trivial⟩ (fun g10_5 => zD rfl one9 rfl qA rfl) rfl<|rLz [] rfl gv1 trivial (fun g10_5 => zN rfl rfl) rfl<|rLz [(97,_),(98,_)] rfl gv1 ⟨rfl,rfl,rfl,rfl,trivial⟩ (fun g10_5 => yL rfl rfl rfl) rfl<|zA rfl rfl (qP rfl rfl rfl (fun h => h) rfl)<|zB<|zG rfl (fun c3 => ?_) (fun c3 => ?_)
   ·have hm1 : mergeL a.L b.L = (d ++ [((atM b.L n).Name,0,(atM b.L n).By)]) ++ mergeL (a.L.drop i) (b.L.drop (n + 1)):= by rw [hm,hL]; simp
    refine sReg rfl<|zA rfl rfl (zC rfl yM rfl)<|zA rfl rfl (zD rfl kQ rfl (zE 3 rfl) rfl)<|rMv rfl<|zA rfl rfl (zP rfl el47 rfl rfl (by omega) (getm (zBq (by omega))))<|zA rfl rfl (zZ rfl zAz rfl)<|zA rfl rfl (zD rfl one2 rfl qA rfl)<|rMv rfl<|zB<|zR rfl<|rMv rfl<|zA rfl rfl (qC rfl rfl rfl ⟨by omega,by omega⟩)<|rMv rfl<|zB<|zJ<|sReg rfl<|rMv rfl<|zA rfl rfl (qS rfl rfl rfl)<|zB<|zG rfl (fun c4 => ?_) (fun c4 => ?_)
    ·try simp only [sx] at c4
     exact absurd trivial c4
    ·try simp only [sx] at c4
     refine zK<|sReg rfl<|rMv rfl<|rMv rfl<|rMv rfl<|zA rfl rfl (zQ rfl ok203 (zCl _ _ c (by first | exact z0 | exact hra.2 _ (zMg hi)) (by first | exact z0 | exact hrb.2 _ (zMg hn1)) hc) ⟨VLe.refl _,rfl,VLe.refl _,rfl,VLe.refl _,rfl,trivial⟩)<|zA rfl rfl (qK rfl rfl)<|zA rfl rfl (qN rfl rfl rfl)<|zA rfl rfl (qN rfl rfl rfl)<|rMv rfl<|rMv rfl<|zB<|sReg rfl<|rMv rfl<|rMv rfl<|rLz [] rfl gv1 trivial (fun g16_1 => zN rfl rfl) rfl<|zA rfl rfl (qP rfl rfl rfl (fun h => h) rfl)<|rMv rfl<|zB<|sReg rfl<|rMv rfl<|zA rfl rfl (qS rfl rfl rfl)<|zB<|zG rfl (fun c5 => ?_) (fun c5 => ?_)
     ·try simp only [sx] at c5
      refine zR rfl<|zA rfl rfl (zC rfl yM rfl)<|zA rfl rfl (zD rfl kQ rfl (zE 1 rfl) rfl)<|rMv rfl<|rMv rfl<|zA rfl rfl (qU rfl zCc pl111 rfl)<|zA rfl rfl (qV rfl el47 zCc rfl rfl rfl rfl)<|zY rfl rfl (yB 0 rfl el47 rfl rfl rfl (by have := zEd c d; have := congrArg List.length hm1; have := zBc a.L b.L; simp only [List.length_map,List.length_append,List.length_cons,List.length_nil] at *; omega) (by have := zEd c d; have := congrArg List.length hm1; have := zBc a.L b.L; simp only [List.length_map,List.length_append,List.length_cons,List.length_nil] at *; omega)) ?_
      rintro _ _ ⟨sv8,rfl,rfl⟩
      refine zA rfl rfl (zC rfl yM rfl)<|zS rfl rfl (zO rfl sz47 rfl rfl rfl (qE 1 rfl rfl))<|zB ?_
      refine ⟨⟨i,n + 1,d ++ [((atM b.L n).Name,0,(atM b.L n).By)],sv8⟩,⟨by omega,by omega,hm1⟩,(by dsimp only; omega),Weak.mk [true,true,true,true,true] ⟨VLe.of_eq (by rw [zAv,zDa]; rfl),VLe.refl _,VLe.refl _,VLe.refl _,VLe.refl _,VLe.refl _,VLe.refl _,VLe.refl _,trivial⟩ (by exact zBx (by rw [zAv,zCd]; rw [if_neg (show ¬ w64 (trV ((atM b.L n).Name,0,(atM b.L n).By * c)) = 0 from c5),List.map_append]; rfl))⟩
     ·try simp only [sx] at c5
      refine zK ?_
      refine ⟨⟨i,n + 1,d ++ [((atM b.L n).Name,0,(atM b.L n).By)],sv⟩,⟨by omega,by omega,hm1⟩,(by dsimp only; omega),Weak.mk [true,true,true,true,true] ⟨VLe.of_eq (by rw [zAv,zDa]; rfl),VLe.refl _,VLe.refl _,VLe.refl _,VLe.refl _,VLe.refl _,VLe.refl _,VLe.refl _,trivial⟩ (by exact zBx (by rw [zAv,zCd]; rw [if_pos (show w64 (trV ((atM b.L n).Name,0,(atM b.L n).By * c)) = 0 from c5),List.append_nil]))⟩
   ·exact absurd (hs3.symm.trans c3) (by decide)
 ·try simp only [sx] at c1
  refine qO<|zJ<|sReg rfl<|rMv rfl<|zA rfl rfl (yA rfl rfl)<|zB<|zG rfl (fun c6 => ?_) (fun c6 => ?_)
  ·try simp only [sx] at c6
   refine sReg rfl<|zA rfl rfl (yK [none,some 2] rfl zr49 pl49 rfl rfl)<|zS rfl rfl (zO rfl sz49 rfl rfl rfl (qE 2 rfl rfl))<|rMv rfl<|zB<|zH<|fin2 (qF yI rfl (zE 2 rfl) rfl) (rs_c rfl) ?_
   rw [hm,sum_end (by omega) (by omega),List.append_nil,add_no' c6]; rfl
  ·try simp only [sx] at c6
   refine zK<|sReg rfl<|zA rfl rfl (zF rfl yI rfl (zE 1 rfl) rfl)<|zS rfl rfl (zO rfl sz49 rfl rfl rfl (qE 2 rfl rfl))<|rMv rfl<|zB<|zX _ (qX 0 rfl (regs' := [(137,.agg [_,_])]) (μ' := [_,_,_,_]) ⟨FLe.agg ⟨.inl rfl,.inr ⟨rfl,rfl⟩,trivial⟩,trivial⟩ ⟨EFle.row (ds := [_,_]) ⟨.inl rfl,.inr ⟨rfl,rfl⟩,trivial⟩,EFle.row (ds := [_,_]) ⟨.inl rfl,.inr ⟨rfl,rfl⟩,trivial⟩,EFle.refl _,EFle.refl _,trivial⟩)<|zH<|fin2 (qF yI rfl (zE 1 rfl) rfl) (rs_c rfl) ?_
   rw [hm,sum_end (by omega) (by omega),List.append_nil,add_ok' c6]; rfl
theorem wO (l : Lf) (s : ByteArray) (u : Lf) (hl : l.L.length ≤ 4294967296) (ht : u.L.length ≤ 4294967296) (hrl : l.rng) (hrt : u.rng) :
    Pur cfg 144 [vLin l,vS s,vLin u] (.tup [vLin (substR l s u).1,vI (substR l s u).2]):= by
 refine zV Tryz.func144 rfl Tryz.ntmps144 Tryz.results144 rfl ?_
 intro z hz
 obtain ⟨hr1,hr2⟩ := rest_rng hrl s
 refine sReg rfl<|zY rfl rfl (qM rfl rfl) ?_
 rintro _ _ ⟨b1,rfl,rfl⟩
 refine zY rfl rfl (qM rfl rfl) ?_
 rintro _ _ ⟨b2,rfl,rfl⟩
 refine zY rfl rfl (qH [none,some 2] rfl zr49 rfl) ?_
 rintro _ _ ⟨b3,rfl,rfl⟩
 refine rMv rfl<|zB<|zJ<|sReg rfl<|zA rfl rfl (zF rfl yI rfl (zE 2 rfl) rfl)<|zA rfl rfl (zQ rfl ok181 (zKk l (by omega)) ⟨VLe.refl _,rfl,trivial⟩)<|zA rfl rfl (yA rfl rfl)<|rMv rfl<|rLz [] rfl gv1 trivial (fun g1_3 => zF rfl yI rfl (zE 1 rfl) rfl) rfl<|rLz [(15,_)] rfl gv1 ⟨rfl,rfl,trivial⟩ (fun g1_3 => zQ rfl ok181 (zKk u (by omega)) ⟨VLe.refl _,rfl,trivial⟩) rfl<|rLz [(16,_)] rfl gv1 ⟨rfl,rfl,trivial⟩ (fun g1_3 => yA rfl rfl) rfl<|zA rfl rfl (yP rfl rfl rfl rfl (fun h => (lzf h)))<|rMv rfl<|rLz [] rfl gv1 trivial (fun g1_8 => zN rfl rfl) rfl<|rLz [(20,_)] rfl gv1 ⟨rfl,rfl,trivial⟩ (fun g1_8 => zQ rfl ok50 (base_Name s) ⟨VLe.refl _,rfl,trivial⟩) rfl<|rLz [(21,_)] rfl gv1 ⟨rfl,rfl,trivial⟩ (fun g1_8 => yA rfl rfl) rfl<|zA rfl rfl (yP rfl rfl rfl rfl (fun h => (lzf h)))<|zB<|zG rfl (fun c1 => ?_) (fun c1 => ?_)
 ·try simp only [sx] at c1
  have hS : substR l s u = (zL,1) := substR_bad c1
  refine sReg rfl<|zA rfl rfl (yK [none,some 2] rfl zr49 pl49 rfl rfl)<|zS rfl rfl (zO rfl sz49 rfl rfl rfl (qE 0 rfl rfl))<|rMv rfl<|zB<|zH<|fin2 (qF yI rfl (zE 0 rfl) rfl) (rs_c rfl) ?_
  rw [hS]; rfl
 ·try simp only [sx] at c1
  obtain ⟨hl1,hl2,hl3⟩ := substR_c1 c1
  refine zK<|sReg rfl<|rMv rfl<|zB<|sReg rfl<|zA rfl rfl (zC rfl zCj rfl)<|zA rfl rfl (zD rfl one2 rfl (zE 2 rfl) rfl)<|zA rfl rfl (qU rfl zr49 pl49 rfl)<|zY rfl rfl (yJ rfl zr49) ?_
  rintro _ _ ⟨b4,rfl,rfl⟩
  refine qY _ (yR 111 2)<|zS rfl rfl (zO rfl sz49 rfl rfl rfl (qE 1 rfl rfl))<|zB<|zJ<|sReg rfl<|rMv rfl<|zB<|zU<|zX ⟨[(10,.c _),(8,.c _),(1,.c _),(3,.c _),(5,.c _),(6,.c _),(9,.c _)],[_,_,_,_,_]⟩ (Weak.mk [true,true,true,true,true] ⟨VLe.of_eq rfl,VLe.of_eq rfl,VLe.of_eq rfl,VLe.of_eq rfl,VLe.of_eq rfl,VLe.of_eq rfl,VLe.of_eq rfl,trivial⟩ rfl)<|qI 2 2 rfl rfl (Nat × Value) (fun ⟨k,sv⟩ => [(10,vI k),(8,vI (lastBy (l.L.take k) s))]) (fun ⟨k,sv⟩ => [E.vec sv 111 2 (((l.L.take k).filter (fun m => !decide (m.Name = s))).map Mono.cells),E.row b4 49 [cI l.K,.lit sv]]) (fun ⟨k,sv⟩ => k ≤ l.L.length) (fun ⟨k,sv⟩ => l.L.length - k) ⟨⟨0,_⟩,(by omega),Weak.mk [true,true,true,true,true] ⟨VLe.refl _,VLe.of_eq (rfl),VLe.refl _,VLe.refl _,VLe.refl _,VLe.refl _,VLe.refl _,trivial⟩ rfl⟩ ?_
  rintro ⟨k,sv⟩ hk
  show AWP _ _ _ _ _ ⟨[(10,vI k),(8,vI (lastBy (l.L.take k) s))] ++ _,[E.vec sv 111 2 (((l.L.take k).filter (fun m => !decide (m.Name = s))).map Mono.cells),E.row b4 49 [cI l.K,.lit sv]] ++ _⟩
  refine zJ<|sReg rfl<|rMv rfl<|zA rfl rfl (zC rfl yM rfl)<|zA rfl rfl (zD rfl kQ rfl (zE 4 rfl) rfl)<|zA rfl rfl (zT rfl el47 rfl)<|zA rfl rfl (qL rfl rfl rfl)<|zB<|zG rfl (fun c2 => ?_) (fun c2 => ?_)
  ·try simp only [sx] at c2
   obtain ⟨x,hx⟩ := qZ l.L k (by omega)
   refine zK<|zJ<|zU<|sReg rfl<|zA rfl rfl (zC rfl yM rfl)<|zA rfl rfl (zD rfl kQ rfl (zE 4 rfl) rfl)<|rMv rfl<|zA rfl rfl (zP rfl el47 rfl rfl (by omega) (getm (by assumption)))<|zA rfl rfl (zZ rfl kN rfl)<|zA rfl rfl (zD rfl one9 rfl qA rfl)<|rMv rfl<|zA rfl rfl (yL rfl rfl rfl)<|zB<|zG rfl (fun c3 => ?_) (fun c3 => ?_)
   ·try simp only [sx] at c3
    refine zR rfl<|zA rfl rfl (zC rfl yM rfl)<|zA rfl rfl (zD rfl kQ rfl (zE 4 rfl) rfl)<|rMv rfl<|zA rfl rfl (zP rfl el47 rfl rfl (by omega) (getm (by assumption)))<|zA rfl rfl (zZ rfl zAz rfl)<|zA rfl rfl (zD rfl one2 rfl qA rfl)<|rMv rfl<|zB<|zR rfl<|rMv rfl<|zA rfl rfl (qC rfl rfl rfl ⟨by omega,by omega⟩)<|rMv rfl<|zB ?_
    refine ⟨⟨k + 1,_⟩,(by omega),(by show l.L.length - (k + 1) < l.L.length - k; omega),Weak.mk [true,true,true,true,true] ⟨VLe.refl _,VLe.of_eq (by rw [zEq hx]; first | (rw [if_pos c3]; rfl) | (rw [if_neg c3]; rfl)),VLe.refl _,VLe.refl _,VLe.refl _,VLe.refl _,VLe.refl _,trivial⟩ (by exact zBx (by rw [zJh hx]; first | (rw [if_pos c3,List.append_nil]) | (rw [if_neg c3,List.map_append]; rfl)))⟩
   ·try simp only [sx] at c3
    refine yG 8 mixed (by kernel_rfl) rfl rfl<|zM rfl rfl (zC rfl yM rfl)<|zM rfl rfl (zD rfl kQ rfl (zE 1 rfl) rfl)<|zM rfl rfl (zC rfl yM rfl)<|zM rfl rfl (zD rfl kQ rfl (zE 4 rfl) rfl)<|zM rfl rfl (zN rfl rfl)<|zM rfl rfl (zP rfl el47 rfl rfl (by omega) (getm (by assumption)))<|zM rfl rfl (zF rfl zDh rfl qA rfl)<|zM rfl rfl (qV rfl el47 zCc rfl rfl rfl rfl)<|kI<|zY rfl rfl (yB 0 rfl el47 rfl rfl rfl (by have := List.length_filter_le (fun m : Mono => !decide (m.Name = s)) (l.L.take k); simp only [List.length_map,List.length_append,List.length_cons,List.length_nil,List.length_take] at *; omega) (by have := List.length_filter_le (fun m : Mono => !decide (m.Name = s)) (l.L.take k); simp only [List.length_map,List.length_append,List.length_cons,List.length_nil,List.length_take] at *; omega)) ?_
    rintro _ _ ⟨sv6,rfl,rfl⟩
    refine zA rfl rfl (zC rfl yM rfl)<|zS rfl rfl (zO rfl sz47 rfl rfl rfl (qE 1 rfl rfl))<|zB<|zR rfl<|rMv rfl<|zA rfl rfl (qC rfl rfl rfl ⟨by omega,by omega⟩)<|rMv rfl<|zB ?_
    refine ⟨⟨k + 1,_⟩,(by omega),(by show l.L.length - (k + 1) < l.L.length - k; omega),Weak.mk [true,true,true,true,true] ⟨VLe.refl _,VLe.of_eq (by rw [zEq hx]; first | (rw [if_pos c3]; rfl) | (rw [if_neg c3]; rfl)),VLe.refl _,VLe.refl _,VLe.refl _,VLe.refl _,VLe.refl _,trivial⟩ (by exact zBx (by rw [zJh hx]; first | (rw [if_pos c3,List.append_nil]) | (rw [if_neg c3,List.map_append]; rfl)))⟩
  ·try simp only [sx] at c2
   rw [yN (l := l.L) (k := k) (by omega)]
   refine qO<|zJ<|sReg rfl<|rMv rfl<|zA rfl rfl (qJ rfl rfl rfl)<|zB<|zG rfl (fun c4 => ?_) (fun c4 => ?_)
   ·try simp only [sx] at c4
    refine sReg rfl<|zA rfl rfl (zF rfl yI rfl (zE 4 rfl) rfl)<|zS rfl rfl (zO rfl sz49 rfl rfl rfl (qE 2 rfl rfl))<|rMv rfl<|zB<|zH<|fin2 (qF yI rfl (zE 2 rfl) rfl) (rs_c rfl) ?_
    rw [substR_same ⟨hl1,hl2,hl3⟩ c4]; rfl
   ·try simp only [sx] at c4
    refine zK<|zJ<|sReg rfl<|zA rfl rfl (zF rfl yI rfl (zE 3 rfl) rfl)<|rMv rfl<|zA rfl rfl (zQ rfl ok182 (ref14_scales u (lastBy l.L s) ht hrt (zMx hrl s)) ⟨VLe.refl _,rfl,VLe.refl _,rfl,trivial⟩)<|zA rfl rfl (yA rfl rfl)<|zB<|zG rfl (fun c5 => ?_) (fun c5 => ?_)
    ·try simp only [sx] at c5
     refine sReg rfl<|zA rfl rfl (yK [none,some 2] rfl zr49 pl49 rfl rfl)<|zS rfl rfl (zO rfl sz49 rfl rfl rfl (qE 2 rfl rfl))<|rMv rfl<|zB<|zH<|fin2 (qF yI rfl (zE 2 rfl) rfl) (rs_c rfl) ?_
     rw [substR_no ⟨hl1,hl2,hl3⟩ c4 c5]; rfl
    ·try simp only [sx] at c5
     refine zX _ (qX 0 rfl (regs' := []) (μ' := [_,_,_,_]) trivial ⟨EFle.row (ds := [_,_]) ⟨.inl rfl,.inr ⟨rfl,rfl⟩,trivial⟩,EFle.refl _,EFle.refl _,EFle.refl _,trivial⟩)<|zK<|sReg rfl<|zA rfl rfl (zF rfl yI rfl (zE 0 rfl) rfl)<|zA rfl rfl (zF rfl yI rfl (zE 2 rfl) rfl)<|rMv rfl<|zA rfl rfl (zQ rfl ok183 (ref14_sum (restL l s) u (lastBy l.L s) (by omega) ht hr1 hrt (zMx hrl s) (fun m hm => (zDs hl1 m (List.mem_filter.1 hm).1).1)) ⟨VLe.refl _,rfl,VLe.refl _,rfl,VLe.refl _,rfl,trivial⟩)<|zA rfl rfl (yE rfl rfl rfl)<|zA rfl rfl (qN rfl rfl rfl)<|zS rfl rfl (zO rfl sz49 rfl rfl rfl (qE 1 rfl rfl))<|rMv rfl<|zB<|zH<|fin2 (qF yI rfl (zE 1 rfl) rfl) (rs_c rfl) ?_
     rw [substR_yes ⟨hl1,hl2,hl3⟩ c4 c5]; rfl
theorem zFv (x : Ix) (s : ByteArray) (u : Lf) (ht : u.L.length ≤ 4294967296) (hrt : u.rng) (hx : x.wt ≤ 4294967296) (hr1 : x.Lin.rng) (hr2 : ∀ l,l ∈ x.At → l.rng) :
    Pur cfg 145 [vIndex x,vS s,vLin u] (.tup [vIndex (outI (mIx (fun l => substR l s u) x)),vI (errE (mIx (fun l => substR l s u) x))]):= by
 refine zV Tryz.func145 rfl Tryz.ntmps145 Tryz.results145 rfl ?_
 intro z hz
 have hxw := hx
 unfold Ix.wt at hxw
 refine sReg rfl<|zY rfl rfl (qM rfl rfl) ?_
 rintro _ _ ⟨b1,rfl,rfl⟩
 refine zY rfl rfl (qM rfl rfl) ?_
 rintro _ _ ⟨b2,rfl,rfl⟩
 refine zY rfl rfl (qH [none,some 2,none,some 2] rfl zCp rfl) ?_
 rintro _ _ ⟨b3,rfl,rfl⟩
 refine rMv rfl<|zB<|sReg rfl<|zA rfl rfl (zC rfl zAy rfl)<|zA rfl rfl (zF rfl yI rfl (zE 2 rfl) rfl)<|rMv rfl<|zA rfl rfl (zF rfl yI rfl (zE 1 rfl) rfl)<|zA rfl rfl (zQ rfl ok144 (wO x.Lin s u (by omega) ht hr1 hrt) ⟨VLe.refl _,rfl,VLe.refl _,rfl,VLe.refl _,rfl,trivial⟩)<|zA rfl rfl (qK rfl rfl)<|zA rfl rfl (yE rfl rfl rfl)<|zA rfl rfl (qN rfl rfl rfl)<|zY rfl rfl (qH [none,some 2] rfl zr49 rfl) ?_
 rintro _ _ ⟨b4,rfl,rfl⟩
 refine zS rfl rfl (zO rfl sz49 rfl rfl rfl (qE 0 rfl rfl))<|rMv rfl<|zB<|zJ<|sReg rfl<|rMv rfl<|zA rfl rfl (qS rfl rfl rfl)<|zB<|zG rfl (fun c1 => ?_) (fun c1 => ?_)
 ·try simp only [sx] at c1
  refine sReg rfl<|zA rfl rfl (yK [none,some 2,none,some 2] rfl zCp pl114 rfl rfl)<|rMv rfl<|zS rfl rfl (zO rfl zKs rfl rfl rfl (qE 1 rfl rfl))<|rMv rfl<|zB<|zH<|fin2 (qF zAq rfl (zE 1 rfl) rfl) (rs_c rfl) ?_
  rw [mIx_e1 c1]; rfl
 ·try simp only [sx] at c1
  refine zK<|sReg rfl<|zA rfl rfl (zF rfl yI rfl (zE 0 rfl) rfl)<|zA rfl rfl (zC rfl zCi rfl)<|zA rfl rfl (zD rfl one9 rfl (zE 3 rfl) rfl)<|zA rfl rfl (qU rfl zCp pl114 rfl)<|zY rfl rfl (yJ rfl zCp) ?_
  rintro _ _ ⟨b5,rfl,rfl⟩
  refine qY _ (yR 111 2)<|qY _ (yR 49 2)<|zS rfl rfl (zO rfl zKs rfl rfl rfl (qE 2 rfl rfl))<|zB<|zJ<|sReg rfl<|rMv rfl<|zB<|zU<|zX ⟨[(11,.c _),(1,.c _),(3,.c _),(5,.c _),(6,.c _),(10,.c _)],[_,_,_,_,_]⟩ (Weak.mk [true,false,true,false,true,true,true] ⟨VLe.of_eq rfl,VLe.of_eq rfl,VLe.of_eq rfl,VLe.of_eq rfl,VLe.of_eq rfl,VLe.of_eq rfl,trivial⟩ rfl)<|qI 1 2 rfl rfl (Nat × List Lf × Value) (fun ⟨k,outs,sv⟩ => [(11,vI k)]) (fun ⟨k,outs,sv⟩ => [E.vec sv 49 2 (outs.map Lf.cells),E.row b5 114 [cI (substR x.Lin s u).1.K,.sl 2 ((substR x.Lin s u).1.L.map Mono.cells),cS x.From,.lit sv]]) (fun ⟨k,outs,sv⟩ => k ≤ x.At.length ∧ (outs.length = k) ∧ (mLins (fun l => substR l s u) x.At = mapRest outs (mLins (fun l => substR l s u) (x.At.drop k)))) (fun ⟨k,outs,sv⟩ => x.At.length - k) ⟨⟨0,[],.slice none 0 0⟩,⟨by omega,rfl,(wY _).symm⟩,Weak.mk [true,true,true,true,true] ⟨VLe.refl _,VLe.refl _,VLe.refl _,VLe.refl _,VLe.refl _,VLe.refl _,trivial⟩ rfl⟩ ?_
  rintro ⟨k,outs,sv⟩ ⟨hk,ho,hp⟩
  show AWP _ _ _ _ _ ⟨[(11,vI k)] ++ _,[E.vec sv 49 2 (outs.map Lf.cells),E.row b5 114 [cI (substR x.Lin s u).1.K,.sl 2 ((substR x.Lin s u).1.L.map Mono.cells),cS x.From,.lit sv]] ++ _⟩
  refine zJ<|sReg rfl<|rMv rfl<|zA rfl rfl (zC rfl kG rfl)<|zA rfl rfl (zD rfl wI rfl (zE 4 rfl) rfl)<|zA rfl rfl (zT rfl wK rfl)<|zA rfl rfl (qL rfl rfl rfl)<|zB<|zG rfl (fun c2 => ?_) (fun c2 => ?_)
  ·try simp only [sx] at c2
   obtain ⟨l,hl⟩ := qZ x.At k (by omega)
   refine zK<|zJ<|zU<|zJ<|kH 13 1 [⟨0,.q []⟩,⟨1,.q [5]⟩,⟨2,.q []⟩,⟨3,.q []⟩,⟨4,.q []⟩,⟨5,.q []⟩,⟨6,.q [4]⟩,⟨7,.q []⟩,⟨8,.q []⟩,⟨9,.q []⟩,⟨10,.q []⟩,⟨11,.e 0 []⟩,⟨12,.e 0 []⟩] mixed (by kernel_rfl) (by kernel_rfl) rfl rfl rfl<|zW rfl<|zW rfl<|zW rfl<|zW rfl<|zW rfl<|zW rfl<|zW rfl<|zW rfl<|zW rfl<|zW rfl<|zW rfl<|zW rfl<|zW rfl<|zBl<|qD rfl (by decide) rfl rfl (zC rfl kG rfl)<|qD rfl (by decide) rfl rfl (zD rfl wI rfl (zE 0 rfl) rfl)<|qD rfl (by decide) rfl rfl (zN rfl rfl)<|qD rfl (by decide) rfl rfl (zP rfl wK rfl rfl (by omega) (getm (by assumption)))<|qD rfl (by decide) rfl rfl (zF rfl yI rfl qA rfl)<|qD rfl (by decide) rfl rfl (zN rfl rfl)<|qD rfl (by decide) rfl rfl (zF rfl yI rfl (zE 0 rfl) rfl)<|qD rfl (by decide) rfl rfl (zQ rfl ok144 (wO l s u (by have := wT (qB hl); omega) ht (hr2 l (qB hl)) hrt) ⟨VLe.refl _,rfl,VLe.refl _,rfl,VLe.refl _,rfl,trivial⟩)<|qD rfl (by decide) rfl rfl (qK rfl rfl)<|qD rfl (by decide) rfl rfl (yE rfl rfl rfl)<|qD rfl (by decide) rfl rfl (qN rfl rfl rfl)<|zJc rfl rfl (by decide) rfl rfl (qH [none,some 2] rfl zr49 rfl) ?_
   rintro _ _ ⟨b8,rfl,rfl⟩
   refine ⟨_,rfl,?_⟩
   refine zEy rfl rfl (by decide) rfl rfl (zO rfl sz49 rfl rfl rfl (qE 0 rfl rfl)) ?_
   rintro _ _ ⟨rfl,rfl⟩
   refine ⟨_,rfl,?_⟩
   refine zBi rfl<|rMv rfl<|zB<|zJ<|sReg rfl<|rMv rfl<|zA rfl rfl (qS rfl rfl rfl)<|zB<|zG rfl (fun c3 => ?_) (fun c3 => ?_)
   ·try simp only [sx] at c3
    refine sReg rfl<|zA rfl rfl (yK [none,some 2,none,some 2] rfl zCp pl114 rfl rfl)<|rMv rfl<|zS rfl rfl (zO rfl zKs rfl rfl rfl (qE 3 rfl rfl))<|rMv rfl<|zB<|zH<|fin2 (qF zAq rfl (zE 3 rfl) rfl) (rs_c rfl) ?_
    rw [mIx_e2 c1 (mLins_no hl hp c3)]; rfl
   ·try simp only [sx] at c3
    refine zK<|zR rfl<|zA rfl rfl (zC rfl kG rfl)<|zA rfl rfl (zD rfl wI rfl (zE 2 rfl) rfl)<|zA rfl rfl (zF rfl yI rfl (zE 0 rfl) rfl)<|zA rfl rfl (qV rfl wK zr49 rfl rfl rfl rfl)<|zY rfl rfl (yB 1 rfl wK rfl rfl rfl (by simp only [List.length_map,List.length_append,List.length_cons,List.length_nil]; omega) (by simp only [List.length_map,List.length_append,List.length_cons,List.length_nil]; omega)) ?_
    rintro _ _ ⟨sv9,rfl,rfl⟩
    refine zA rfl rfl (zC rfl kG rfl)<|zS rfl rfl (zO rfl sz112 rfl rfl rfl (qE 2 rfl rfl))<|zB<|zR rfl<|rMv rfl<|zA rfl rfl (qC rfl rfl rfl ⟨by omega,by omega⟩)<|rMv rfl<|zB ?_
    refine ⟨⟨k + 1,outs ++ [(substR l s u).1],sv9⟩,⟨by omega,by simp; omega,mLins_next hl hp c3⟩,(by show x.At.length - (k + 1) < x.At.length - k; omega),Weak.mk [false,true,true,true,true,true] ⟨VLe.refl _,VLe.refl _,VLe.refl _,VLe.refl _,VLe.refl _,VLe.refl _,trivial⟩ (by exact zHf (by rw [List.map_append]; rfl))⟩
  ·try simp only [sx] at c2
   have hml := mLins_end hp (by omega)
   refine zX _ (qX 0 rfl (regs' := []) (μ' := [_,_,_,_]) trivial ⟨EFle.row (ds := [_,_,_,_]) ⟨.inl rfl,.inl rfl,.inl rfl,.inr ⟨rfl,rfl⟩,trivial⟩,EFle.refl _,EFle.refl _,EFle.refl _,trivial⟩)<|qO<|sReg rfl<|zA rfl rfl (zF rfl zAq rfl (zE 0 rfl) rfl)<|zS rfl rfl (zO rfl zKs rfl rfl rfl (qE 1 rfl rfl))<|rMv rfl<|zB<|zH<|fin2 (qF zAq rfl (zE 1 rfl) rfl) (rs_c rfl) ?_
   rw [mIx_ok c1 hml]; rfl
theorem zFw (e : Ex) (s : ByteArray) (u : Lf) (ht : u.L.length ≤ 4294967296) (hrt : u.rng) (ih : ∀ a,a ∈ e.Args → a.allF Lf.rng → a.wt ≤ 4294967296 → Pur cfg 97 [vE a,vS s,vLin u] (.tup [vE (outE (mEx (fun l => substR l s u) a)),vI (errE (mEx (fun l => substR l s u) a))])) (hP : e.allF Lf.rng) (he : e.wt ≤ 4294967296) :
    Pur cfg 97 [vE e,vS s,vLin u] (.tup [vE (outE (mEx (fun l => substR l s u) e)),vI (errE (mEx (fun l => substR l s u) e))]):= by
 refine zV Tryz.func97 rfl Tryz.ntmps97 Tryz.results97 rfl ?_
 intro z hz
 obtain ⟨hL,hI,hA⟩ := e.parts he
 have hew := Ex.wt_eq e
 refine sReg rfl<|zY rfl rfl (qM rfl rfl) ?_
 rintro _ _ ⟨b1,rfl,rfl⟩
 refine zY rfl rfl (qM rfl rfl) ?_
 rintro _ _ ⟨b2,rfl,rfl⟩
 refine zY rfl rfl (qH [none,none,none,none,none,none,none,none,none,none,some 2,some 4,some 13] rfl zr52 rfl) ?_
 rintro _ _ ⟨b3,rfl,rfl⟩
 refine rMv rfl<|zB<|sReg rfl<|zA rfl rfl (zC rfl zAb rfl)<|zA rfl rfl (zD rfl one3 rfl (zE 2 rfl) rfl)<|zA rfl rfl (zC rfl zGl rfl)<|zA rfl rfl (zD rfl one9 rfl (zE 2 rfl) rfl)<|zA rfl rfl (zC rfl zHw rfl)<|zA rfl rfl (zF rfl agg46 rfl (zE 2 rfl) rfl)<|zA rfl rfl (zC rfl zGk rfl)<|zA rfl rfl (zF rfl yU rfl (zE 2 rfl) rfl)<|zA rfl rfl (qU rfl zr52 pl52 rfl)<|zY rfl rfl (yJ rfl zr52) ?_
 rintro _ _ ⟨b4,rfl,rfl⟩
 refine qY _ (yR 111 2)<|qY _ (yR 114 4)<|qY _ (yR 52 13)<|zS rfl rfl (zO rfl sz52 rfl rfl rfl (qE 3 rfl rfl))<|zB<|sReg rfl<|zA rfl rfl (zC rfl zCy rfl)<|zA rfl rfl (zF rfl yI rfl (zE 6 rfl) rfl)<|rMv rfl<|zA rfl rfl (zF rfl yI rfl (zE 5 rfl) rfl)<|zA rfl rfl (zQ rfl ok144 (wO e.Lin s u hL ht (Ex.allF_lin hP) hrt) ⟨VLe.refl _,rfl,VLe.refl _,rfl,VLe.refl _,rfl,trivial⟩)<|zA rfl rfl (qK rfl rfl)<|zA rfl rfl (yE rfl rfl rfl)<|zA rfl rfl (qN rfl rfl rfl)<|zY rfl rfl (qH [none,some 2] rfl zr49 rfl) ?_
 rintro _ _ ⟨b8,rfl,rfl⟩
 refine zS rfl rfl (zO rfl sz49 rfl rfl rfl (qE 0 rfl rfl))<|rMv rfl<|zB<|zJ<|sReg rfl<|rMv rfl<|zA rfl rfl (qS rfl rfl rfl)<|zB<|zG rfl (fun c1 => ?_) (fun c1 => ?_)
 ·try simp only [sx] at c1
  refine sReg rfl<|zA rfl rfl (yK [none,none,none,none,none,none,none,none,none,none,some 2,some 4,some 13] rfl zr52 pl52 rfl rfl)<|rMv rfl<|zS rfl rfl (zO rfl sz52 rfl rfl rfl (qE 5 rfl rfl))<|rMv rfl<|zB<|zH<|fin2 (qF yY rfl (zE 5 rfl) rfl) (rs_c rfl) ?_
  rw [mEx_e1 c1]; rfl
 ·try simp only [sx] at c1
  refine zK<|sReg rfl<|zA rfl rfl (zF rfl yI rfl (zE 0 rfl) rfl)<|zA rfl rfl (zC rfl zCy rfl)<|zS rfl rfl (zO rfl sz49 rfl rfl rfl (qE 4 rfl rfl))<|zB<|zJ<|sReg rfl<|rMv rfl<|zB<|zU<|zX ⟨[(11,.c _),(1,.c _),(3,.c _),(5,.c _),(6,.c _),(8,.c _)],[_,_,_,_,_,_]⟩ (Weak.mk [false,true,true,false,true,true,true,true] ⟨VLe.of_eq rfl,VLe.of_eq rfl,VLe.of_eq rfl,VLe.of_eq rfl,VLe.of_eq rfl,VLe.of_eq rfl,trivial⟩ rfl)<|qI 1 3 rfl rfl (Nat × List Ix × Value) (fun ⟨k,outs,sv⟩ => [(11,vI k)]) (fun ⟨k,outs,sv⟩ => [E.vec (.slice none 0 0) 52 13 [],E.vec sv 114 4 (outs.map Ix.cells),E.row b4 52 [cI e.Op,cS e.Name,cI e.Val.N,cI e.Val.D,cI e.Ty.Kind,cI e.Ty.Bits,cI e.Ty.Frac,cI e.Ty.Round,cI e.Ty.Over,cI (substR e.Lin s u).1.K,.sl 2 ((substR e.Lin s u).1.L.map Mono.cells),.lit sv,.lit (.slice none 0 0)]]) (fun ⟨k,outs,sv⟩ => k ≤ e.Idx.length ∧ (outs.length = k) ∧ (mIxs (fun l => substR l s u) e.Idx = mapRest outs (mIxs (fun l => substR l s u) (e.Idx.drop k)))) (fun ⟨k,outs,sv⟩ => e.Idx.length - k) ⟨⟨0,[],.slice none 0 0⟩,⟨by omega,rfl,(wY _).symm⟩,Weak.mk [true,true,true,true,true,true] ⟨VLe.refl _,VLe.refl _,VLe.refl _,VLe.refl _,VLe.refl _,VLe.refl _,trivial⟩ rfl⟩ ?_
  rintro ⟨k,outs,sv⟩ ⟨hk,ho,hp⟩
  show AWP _ _ _ _ _ ⟨[(11,vI k)] ++ _,[E.vec (.slice none 0 0) 52 13 [],E.vec sv 114 4 (outs.map Ix.cells),E.row b4 52 [cI e.Op,cS e.Name,cI e.Val.N,cI e.Val.D,cI e.Ty.Kind,cI e.Ty.Bits,cI e.Ty.Frac,cI e.Ty.Round,cI e.Ty.Over,cI (substR e.Lin s u).1.K,.sl 2 ((substR e.Lin s u).1.L.map Mono.cells),.lit sv,.lit (.slice none 0 0)]] ++ _⟩
  refine zJ<|sReg rfl<|rMv rfl<|zA rfl rfl (zC rfl kR rfl)<|zA rfl rfl (zD rfl wF rfl (zE 5 rfl) rfl)<|zA rfl rfl (zT rfl el44 rfl)<|zA rfl rfl (qL rfl rfl rfl)<|zB<|zG rfl (fun c2 => ?_) (fun c2 => ?_)
  ·try simp only [sx] at c2
   obtain ⟨x,hx⟩ := qZ e.Idx k (by omega)
   refine zK<|zJ<|zU<|zJ<|kH 13 1 [⟨0,.q []⟩,⟨1,.q [6]⟩,⟨2,.q []⟩,⟨3,.q []⟩,⟨4,.q []⟩,⟨5,.q []⟩,⟨6,.q [5]⟩,⟨7,.q []⟩,⟨8,.q []⟩,⟨9,.q []⟩,⟨10,.q []⟩,⟨11,.e 0 []⟩,⟨12,.e 0 []⟩] mixed (by kernel_rfl) (by kernel_rfl) rfl rfl rfl<|zW rfl<|zW rfl<|zW rfl<|zW rfl<|zW rfl<|zW rfl<|zW rfl<|zW rfl<|zW rfl<|zW rfl<|zW rfl<|zW rfl<|zW rfl<|zBl<|qD rfl (by decide) rfl rfl (zC rfl kR rfl)<|qD rfl (by decide) rfl rfl (zD rfl wF rfl (zE 0 rfl) rfl)<|qD rfl (by decide) rfl rfl (zN rfl rfl)<|qD rfl (by decide) rfl rfl (zP rfl el44 rfl rfl (by omega) (getm (by assumption)))<|qD rfl (by decide) rfl rfl (zF rfl zAq rfl qA rfl)<|qD rfl (by decide) rfl rfl (zN rfl rfl)<|qD rfl (by decide) rfl rfl (zF rfl yI rfl (zE 0 rfl) rfl)<|qD rfl (by decide) rfl rfl (zQ rfl ok145 (zFv x s u ht hrt (by have := zAn (qB hx); omega) (Ex.allF_ix hP (qB hx)) (fun l hl => Ex.allF_at hP (qB hx) hl)) ⟨VLe.refl _,rfl,VLe.refl _,rfl,VLe.refl _,rfl,trivial⟩)<|qD rfl (by decide) rfl rfl (qK rfl rfl)<|qD rfl (by decide) rfl rfl (yE rfl rfl rfl)<|qD rfl (by decide) rfl rfl (qN rfl rfl rfl)<|zJc rfl rfl (by decide) rfl rfl (qH [none,some 2,none,some 2] rfl zCp rfl) ?_
   rintro _ _ ⟨b9,rfl,rfl⟩
   refine ⟨_,rfl,?_⟩
   refine zEy rfl rfl (by decide) rfl rfl (zO rfl zKs rfl rfl rfl (qE 0 rfl rfl)) ?_
   rintro _ _ ⟨rfl,rfl⟩
   refine ⟨_,rfl,?_⟩
   refine zBi rfl<|rMv rfl<|zB<|zJ<|sReg rfl<|rMv rfl<|zA rfl rfl (qS rfl rfl rfl)<|zB<|zG rfl (fun c3 => ?_) (fun c3 => ?_)
   ·try simp only [sx] at c3
    refine sReg rfl<|zA rfl rfl (yK [none,none,none,none,none,none,none,none,none,none,some 2,some 4,some 13] rfl zr52 pl52 rfl rfl)<|rMv rfl<|zS rfl rfl (zO rfl sz52 rfl rfl rfl (qE 4 rfl rfl))<|rMv rfl<|zB<|zH<|fin2 (qF yY rfl (zE 4 rfl) rfl) (rs_c rfl) ?_
    rw [mEx_e2 c1 (mIxs_no' hx hp c3)]; rfl
   ·try simp only [sx] at c3
    refine zK<|zR rfl<|zA rfl rfl (zC rfl kR rfl)<|zA rfl rfl (zD rfl wF rfl (zE 3 rfl) rfl)<|zA rfl rfl (zF rfl zAq rfl (zE 0 rfl) rfl)<|zA rfl rfl (qV rfl el44 zCp rfl rfl rfl rfl)<|zY rfl rfl (yB 2 rfl el44 rfl rfl rfl (by simp only [List.length_map,List.length_append,List.length_cons,List.length_nil]; omega) (by simp only [List.length_map,List.length_append,List.length_cons,List.length_nil]; omega)) ?_
    rintro _ _ ⟨sv10,rfl,rfl⟩
    refine zA rfl rfl (zC rfl kR rfl)<|zS rfl rfl (zO rfl sz44 rfl rfl rfl (qE 3 rfl rfl))<|zB<|zR rfl<|rMv rfl<|zA rfl rfl (qC rfl rfl rfl ⟨by omega,by omega⟩)<|rMv rfl<|zB ?_
    refine ⟨⟨k + 1,outs ++ [outI (mIx (fun l => substR l s u) x)],sv10⟩,⟨by omega,by simp; omega,mIxs_next' hx hp c3⟩,(by show e.Idx.length - (k + 1) < e.Idx.length - k; omega),Weak.mk [false,true,true,true,true,true,true] ⟨VLe.refl _,VLe.refl _,VLe.refl _,VLe.refl _,VLe.refl _,VLe.refl _,trivial⟩ (by exact mem3_eq (by rw [List.map_append]; rfl))⟩
  ·try simp only [sx] at c2
   have hmi := mIxs_end hp (by omega)
   refine zX _ (qX 1 rfl (regs' := []) (μ' := [_,_,_,_,_]) trivial ⟨EFle.refl _,EFle.row (ds := [_,_,_,_,_,_,_,_,_,_,_,_,_]) ⟨.inl rfl,.inl rfl,.inl rfl,.inl rfl,.inl rfl,.inl rfl,.inl rfl,.inl rfl,.inl rfl,.inl rfl,.inl rfl,.inr ⟨rfl,rfl⟩,.inl rfl,trivial⟩,EFle.refl _,EFle.refl _,EFle.refl _,trivial⟩)<|qO<|zJ<|sReg rfl<|rMv rfl<|zB<|zU<|zX ⟨[(14,.c _),(1,.c _),(3,.c _),(5,.c _),(6,.c _),(8,.c _)],[_,_,_,_,_]⟩ (Weak.mk [true,true,true,true,true] ⟨VLe.of_eq rfl,VLe.of_eq rfl,VLe.of_eq rfl,VLe.of_eq rfl,VLe.of_eq rfl,VLe.of_eq rfl,trivial⟩ rfl)<|qI 1 2 rfl rfl (Nat × List Ex × Value) (fun ⟨n,exs,sw⟩ => [(14,vI n)]) (fun ⟨n,exs,sw⟩ => [E.vec sw 52 13 (exs.map Ex.cells),E.row b4 52 [cI e.Op,cS e.Name,cI e.Val.N,cI e.Val.D,cI e.Ty.Kind,cI e.Ty.Bits,cI e.Ty.Frac,cI e.Ty.Round,cI e.Ty.Over,cI (substR e.Lin s u).1.K,.sl 2 ((substR e.Lin s u).1.L.map Mono.cells),.sl 4 (outs.map Ix.cells),.lit sw]]) (fun ⟨n,exs,sw⟩ => n ≤ e.Args.length ∧ (exs.length = n) ∧ (mExs (fun l => substR l s u) e.Args = mapRest exs (mExs (fun l => substR l s u) (e.Args.drop n)))) (fun ⟨n,exs,sw⟩ => e.Args.length - n) ⟨⟨0,[],.slice none 0 0⟩,⟨by omega,rfl,(wY _).symm⟩,Weak.mk [true,true,true,true,true] ⟨VLe.refl _,VLe.refl _,VLe.refl _,VLe.refl _,VLe.refl _,VLe.refl _,trivial⟩ rfl⟩ ?_
   rintro ⟨n,exs,sw⟩ ⟨hn,hno,hr⟩
   show AWP _ _ _ _ _ ⟨[(14,vI n)] ++ _,[E.vec sw 52 13 (exs.map Ex.cells),E.row b4 52 [cI e.Op,cS e.Name,cI e.Val.N,cI e.Val.D,cI e.Ty.Kind,cI e.Ty.Bits,cI e.Ty.Frac,cI e.Ty.Round,cI e.Ty.Over,cI (substR e.Lin s u).1.K,.sl 2 ((substR e.Lin s u).1.L.map Mono.cells),.sl 4 (outs.map Ix.cells),.lit sw]] ++ _⟩
   refine zJ<|sReg rfl<|rMv rfl<|zA rfl rfl (zC rfl wM rfl)<|zA rfl rfl (zD rfl zCu rfl (zE 4 rfl) rfl)<|zA rfl rfl (zT rfl el50 rfl)<|zA rfl rfl (qL rfl rfl rfl)<|zB<|zG rfl (fun c4 => ?_) (fun c4 => ?_)
   ·try simp only [sx] at c4
    obtain ⟨a,ha⟩ := qZ e.Args n (by omega)
    refine zK<|zJ<|zU<|zJ<|kH 13 1 [⟨0,.q []⟩,⟨1,.q [5]⟩,⟨2,.q []⟩,⟨3,.q []⟩,⟨4,.q []⟩,⟨5,.q []⟩,⟨6,.q [4]⟩,⟨7,.q []⟩,⟨8,.q []⟩,⟨9,.q []⟩,⟨10,.q []⟩,⟨11,.e 0 []⟩,⟨12,.e 0 []⟩] mixed (by kernel_rfl) (by kernel_rfl) rfl rfl rfl<|zW rfl<|zW rfl<|zW rfl<|zW rfl<|zW rfl<|zW rfl<|zW rfl<|zW rfl<|zW rfl<|zW rfl<|zW rfl<|zW rfl<|zW rfl<|zBl<|qD rfl (by decide) rfl rfl (zC rfl wM rfl)<|qD rfl (by decide) rfl rfl (zD rfl zCu rfl (zE 0 rfl) rfl)<|qD rfl (by decide) rfl rfl (zN rfl rfl)<|qD rfl (by decide) rfl rfl (zP rfl el50 rfl rfl (by omega) (zLm (by assumption)))<|qD rfl (by decide) rfl rfl (zF rfl yY rfl qA rfl)<|qD rfl (by decide) rfl rfl (zN rfl rfl)<|qD rfl (by decide) rfl rfl (zF rfl yI rfl (zE 0 rfl) rfl)<|qD rfl (by decide) rfl rfl (zQ rfl ok97 (ih a (qB ha) (Ex.allF_arg hP (qB ha)) (by have := Ex.arg_wt (qB ha); omega)) ⟨VLe.refl _,rfl,VLe.refl _,rfl,VLe.refl _,rfl,trivial⟩)<|qD rfl (by decide) rfl rfl (qK rfl rfl)<|qD rfl (by decide) rfl rfl (yE rfl rfl rfl)<|qD rfl (by decide) rfl rfl (qN rfl rfl rfl)<|zJc rfl rfl (by decide) rfl rfl (qH [none,none,none,none,none,none,none,none,none,none,some 2,some 4,some 13] rfl zr52 rfl) ?_
    rintro _ _ ⟨b11,rfl,rfl⟩
    refine ⟨_,rfl,?_⟩
    refine zEy rfl rfl (by decide) rfl rfl (zO rfl sz52 rfl rfl rfl (qE 0 rfl rfl)) ?_
    rintro _ _ ⟨rfl,rfl⟩
    refine ⟨_,rfl,?_⟩
    refine zBi rfl<|rMv rfl<|zB<|zJ<|sReg rfl<|rMv rfl<|zA rfl rfl (qS rfl rfl rfl)<|zB<|zG rfl (fun c5 => ?_) (fun c5 => ?_)
    ·try simp only [sx] at c5
     refine sReg rfl<|zA rfl rfl (yK [none,none,none,none,none,none,none,none,none,none,some 2,some 4,some 13] rfl zr52 pl52 rfl rfl)<|rMv rfl<|zS rfl rfl (zO rfl sz52 rfl rfl rfl (qE 3 rfl rfl))<|rMv rfl<|zB<|zH<|fin2 (qF yY rfl (zE 3 rfl) rfl) (rs_c rfl) ?_
     rw [mEx_e3 c1 hmi (mExs_no ha hr c5)]; rfl
    ·try simp only [sx] at c5
     refine zK<|zR rfl<|zA rfl rfl (zC rfl wM rfl)<|zA rfl rfl (zD rfl zCu rfl (zE 2 rfl) rfl)<|zA rfl rfl (zF rfl yY rfl (zE 0 rfl) rfl)<|zA rfl rfl (qV rfl el50 zr52 rfl rfl rfl rfl)<|zY rfl rfl (yB 1 rfl el50 rfl rfl rfl (by simp only [List.length_map,List.length_append,List.length_cons,List.length_nil]; omega) (by simp only [List.length_map,List.length_append,List.length_cons,List.length_nil]; omega)) ?_
     rintro _ _ ⟨sv12,rfl,rfl⟩
     refine zA rfl rfl (zC rfl wM rfl)<|zS rfl rfl (zO rfl sz50 rfl rfl rfl (qE 2 rfl rfl))<|zB<|zR rfl<|rMv rfl<|zA rfl rfl (qC rfl rfl rfl ⟨by omega,by omega⟩)<|rMv rfl<|zB ?_
     refine ⟨⟨n + 1,exs ++ [outE (mEx (fun l => substR l s u) a)],sv12⟩,⟨by omega,by simp; omega,mExs_next ha hr c5⟩,(by show e.Args.length - (n + 1) < e.Args.length - n; omega),Weak.mk [false,true,true,true,true,true] ⟨VLe.refl _,VLe.refl _,VLe.refl _,VLe.refl _,VLe.refl _,VLe.refl _,trivial⟩ (by exact zHf (by rw [List.map_append]; simp only [List.map_cons,List.map_nil,Ex.cells_eq]; rfl))⟩
   ·try simp only [sx] at c4
    have hme := mExs_end hr (by omega)
    refine zX _ (qX 0 rfl (regs' := []) (μ' := [_,_,_,_]) trivial ⟨EFle.row (ds := [_,_,_,_,_,_,_,_,_,_,_,_,_]) ⟨.inl rfl,.inl rfl,.inl rfl,.inl rfl,.inl rfl,.inl rfl,.inl rfl,.inl rfl,.inl rfl,.inl rfl,.inl rfl,.inl rfl,.inr ⟨rfl,rfl⟩,trivial⟩,EFle.refl _,EFle.refl _,EFle.refl _,trivial⟩)<|qO<|sReg rfl<|zA rfl rfl (zF rfl yY rfl (zE 0 rfl) rfl)<|zS rfl rfl (zO rfl sz52 rfl rfl rfl (qE 1 rfl rfl))<|rMv rfl<|zB<|zH<|fin2 (qF yY rfl (zE 1 rfl) rfl) (rs_c rfl) ?_
    rw [mEx_ok c1 hmi hme]; rfl
theorem zFc (e : Ex) (s : ByteArray) (u : Lf) (ht : u.L.length ≤ 4294967296) (hrt : u.rng) (hP : e.allF Lf.rng) (he : e.wt ≤ 4294967296) : Pur cfg 97 [vE e,vS s,vLin u] (.tup [vE (outE (mEx (fun l => substR l s u) e)),vI (errE (mEx (fun l => substR l s u) e))]):= by
  induction e using Ex.ind with
  | _ e ih => exact zFw e s u ht hrt ih hP he
end Go.W
