/-
  Walks: what functions of the program compute. Printed by wip/gen/mk2.py.
  Walks: what functions of the program compute. Printed by wip/gen/mk2.py.
  Walks: what functions of the program compute. Printed by wip/gen/mk2.py.
  Conditions: none.
-/
import Derived.Test.YtlfjpejkoccibaaGreatDoorWalkX
import Derived.Test.YtlfjpejkoccibaaGreatDoorPlain2
import Derived.Test.YtlfjpejkoccibaaGreatDoorEngZ
import Derived.Test.YtlfjpejkoccibaaGreatDoorWV
set_option linter.unusedSimpArgs false
set_option linter.unusedVariables false
section
set_option maxRecDepth 10000
namespace Go.W
open Go Go.Eng Go.Proofs Go.L41 Go.Br
attribute [local irreducible] AWP RWP TD finQ
theorem ok119:callOk Tryz.prog 119=true:=by kernel_rfl
theorem ok155:callOk Tryz.prog 155=true:=by kernel_rfl
theorem ok156:callOk Tryz.prog 156=true:=by kernel_rfl
theorem ok185:callOk Tryz.prog 185=true:=by kernel_rfl
theorem ok186:callOk Tryz.prog 186=true:=by kernel_rfl
theorem pl44:placesT Tryz.prog 44=some [(0,1),(1,1),(2,2),(4,5),(9,2),(11,1),(12,1)]:=by kernel_rfl
theorem pl72:placesT Tryz.prog 72=some [(0,2),(2,1),(3,1)]:=by kernel_rfl
theorem sz34:(Tryz.prog.info? 34).map (·.size)=some 1:=by kernel_rfl
theorem sz42:(Tryz.prog.info? 42).map (·.size)=some 1:=by kernel_rfl
theorem sz70:(Tryz.prog.info? 70).map (·.size)=some 1:=by kernel_rfl
theorem ref14_sum (a b:Lf) (c:Int) (ha:a.L.length<=4294967296) (hb:b.L.length<=4294967296) (hra:a.rng) (hrb:b.rng) (hc:r64 c) (hne:∀m,m∈a.L->m.By≠0):
    Pur cfg 186 [vLin a,vLin b,vI c] (.tup [vLin (addT (a.K+b.K*c) (mulT c (mergeL a.L b.L))).1,vI (addT (a.K+b.K*c) (mulT c (mergeL a.L b.L))).2]):=by
 refine zT Tryz.func186 O Tryz.ntmps186 Tryz.results186 O ?_
 intro z hz
 have z0:r64 0:=by unfold r64;omega
 refine F O<|zX O O (qN O O) ?_
 rintro _ _ ⟨b1,rfl,rfl⟩
 refine zX O O (qN O O) ?_
 rintro _ _ ⟨b2,rfl,rfl⟩
 refine zX O O (qE [none,some 2] O U O) ?_
 rintro _ _ ⟨b3,rfl,rfl⟩
 refine A O<|G<|F O<|zH O zCg<|zM W (R 2 O) O<|zH O zCg<|zM W (R 1 O) O<|A O<|qI O ok204 (zEt a.K b.K c hra.1 hrb.1 hc) ⟨H,O,H,O,H,O,T⟩<|qO O<|qU O<|qU O<|A O<|A O<|G<|F O<|A O<|yP O U pl41<|zX O O (yX O U) ?_
 rintro _ _ ⟨b4,rfl,rfl⟩
 refine yI _ (kN 69 2)<|Y 1 g O<|G<|F O<|A O<|A O<|G<|zJ<|zR<|zY ⟨[(9,.c _),(11,.c _),(12,.c _),(2,.c _),(3,.c _),(4,.c _),(6,.c _),(10,.c _)],[_,_,_,_,_]⟩ (Weak.mk [true,true,true,true,true] ⟨H,H,H,H,H,H,H,H,T⟩ O)<|qK 3 2 O O (Nat×Nat×List Tr×Value) (fun ⟨i,n,d,sv⟩=>[(9,vB (okF (decide (r64 (a.K+b.K*c))) (mulT c d))),(11,vI i),(12,vI n)]) (fun ⟨i,n,d,sv⟩=>[E.vec sv 69 2 ((sumW (mulT c d)).map Mono.cells),E.row b4 41 [cI (w64 (a.K+b.K*c)),.lit sv]]) (fun ⟨i,n,d,sv⟩=>i<=a.L.length/\n<=b.L.length/\mergeL a.L b.L=d++mergeL (a.L.drop i) (b.L.drop n)) (fun ⟨i,n,d,sv⟩=>(a.L.length-i)+(b.L.length-n)) ⟨⟨0,0,[],.slice none 0 0⟩,⟨by omega,by omega,O⟩,Weak.mk [true,true,true,true,true] ⟨H,H,H,H,H,H,H,H,T⟩ O⟩ ?_
 rintro ⟨i,n,d,sv⟩ ⟨hia,hnb,hm⟩
 show AWP _ _ _ _ _ ⟨[(9,vB (okF (decide (r64 (a.K+b.K*c))) (mulT c d))),(11,vI i),(12,vI n)]++_,[E.vec sv 69 2 ((sumW (mulT c d)).map Mono.cells),E.row b4 41 [cI (w64 (a.K+b.K*c)),.lit sv]]++_⟩
 refine zJ<|F O<|A O<|zH O yT<|zM wE (R 4 O) O<|qC O N<|yD O<|A O<|rL0 O (fun g4_5=>w O O) O<|rL0 O (fun g4_5=>zE O yT O) O<|B 36 O (fun g4_5=>zF O wE O (R 3 O) O) O<|B 37 O (fun g4_5=>yC O N O) O<|rLz [(35,_),(38,_)] O gv1 ⟨O,O,O,O,T⟩ (fun g4_5=>zBa O O O) O<|r_or O (fun h=>(lzf h))<|G<|zD O (fun c1=>?_) (fun c1=>?_)
 ·try simp only [I] at c1
  refine zK<|zR<|F O<|A O<|A O<|A O<|G<|zJ<|zJ<|qY 27 mixed (by kernel_rfl) O O<|M O O (w O O)<|M O O (zE O yT O)<|M O O (zF O wE O (R 3 O) O)<|M O O (yC O N O)<|M O O (yL O O O)<|M O O (w O O)<|f [] O O O O gv1 T (fun g6_5=>w O O) O<|f [] O O O O gv1 T (fun g6_5=>zE O yT O) O<|f [(48,_)] O O O O gv1 ⟨O,O,T⟩ (fun g6_5=>zF O wE O (R 4 O) O) O<|f [(49,_)] O O O O gv1 ⟨O,O,T⟩ (fun g6_5=>yC O N O) O<|f [(47,_),(50,_)] O O O O gv1 ⟨O,O,O,O,T⟩ (fun g6_5=>zBa O O O) O<|f [(51,_)] O O O O gv1 ⟨O,O,T⟩ (fun g6_5=>w O O) O<|f [] O O O O P T (fun g6_11=>zE O yT O) O<|f [(53,_)] O O O O P ⟨O,O,T⟩ (fun g6_11=>zF O wE O (R 4 O) O) O<|f [] O O O O P T (fun g6_11=>w O O) O<|f [(54,_),(55,_)] O O O O P ⟨O,O,O,O,T⟩ (fun g6_11=>qG O N O O (by simp only [Lz,cond_true,cond_false,Bool.and_eq_true,Bool.or_eq_true,Bool.not_eq_true',Bool.not_eq_false',Bool.or_eq_false_iff,Bool.and_eq_false_iff,decide_eq_true_eq,decide_eq_false_iff_not,Bool.not_eq_true,Bool.not_eq_false] at g6_11;omega) (Q (zDn (by simp only [Lz,cond_true,cond_false,Bool.and_eq_true,Bool.or_eq_true,Bool.not_eq_true',Bool.not_eq_false',Bool.or_eq_false_iff,Bool.and_eq_false_iff,decide_eq_true_eq,decide_eq_false_iff_not,Bool.not_eq_true,Bool.not_eq_false] at g6_11;omega)))) O<|f [(56,_)] O O O O P ⟨O,O,T⟩ (fun g6_11=>qL O zAc O) O<|f [(57,_)] O O O O P ⟨O,O,T⟩ (fun g6_11=>zF O one9 O qA O) O<|f [] O O O O P T (fun g6_11=>zE O yT O) O<|f [(59,_)] O O O O P ⟨O,O,T⟩ (fun g6_11=>zF O wE O (R 3 O) O) O<|f [] O O O O P T (fun g6_11=>w O O) O<|f [(60,_),(61,_)] O O O O P ⟨O,O,O,O,T⟩ (fun g6_11=>qG O N O O (by simp only [Lz,cond_true,cond_false,Bool.and_eq_true,Bool.or_eq_true,Bool.not_eq_true',Bool.not_eq_false',Bool.or_eq_false_iff,Bool.and_eq_false_iff,decide_eq_true_eq,decide_eq_false_iff_not,Bool.not_eq_true,Bool.not_eq_false] at g6_11;omega) (Q (zDn (by simp only [Lz,cond_true,cond_false,Bool.and_eq_true,Bool.or_eq_true,Bool.not_eq_true',Bool.not_eq_false',Bool.or_eq_false_iff,Bool.and_eq_false_iff,decide_eq_true_eq,decide_eq_false_iff_not,Bool.not_eq_true,Bool.not_eq_false] at g6_11;omega)))) O<|f [(62,_)] O O O O P ⟨O,O,T⟩ (fun g6_11=>qL O zAc O) O<|f [(63,_)] O O O O P ⟨O,O,T⟩ (fun g6_11=>zF O one9 O qA O) O<|f [(58,_),(64,_)] O O O O P ⟨O,O,O,O,T⟩ (fun g6_11=>det_sleq O O O) O<|f [(52,_)] O O O O gv1 ⟨O,O,T⟩ (fun g6_5=>kU O O O (fun h=>kE (by assumption) h) O) O<|M O O (zAs O O O O (fun h=>(lzf h)))<|kD<|G<|zD O (fun c2=>?_) (fun c2=>?_)
  ·have hi:=sum_t (a:=a.L) (b:=b.L) (i:=i) (n:=n) (by omega) hnb c2
   refine F O<|zH O yT<|zM wE (R 4 O) O<|A O<|qD O N (by omega) (Q (zDn (by omega)))<|qP O zAc<|zM one9 qA O<|A O<|G<|zQ O<|zH O yT<|zM wE (R 4 O) O<|A O<|qD O N (by omega) (Q (zDn (by omega)))<|qP O zDd<|zM W qA O<|A O<|G<|zJ<|F O<|A O<|zH O yT<|zM wE (R 3 O) O<|qC O N<|yD O<|A O<|rL0 O (fun g10_5=>zE O yT O) O<|B 92 O (fun g10_5=>zF O wE O (R 3 O) O) O<|rL0 O (fun g10_5=>w O O) O<|rLz [(93,_),(94,_)] O gv1 ⟨O,O,O,O,T⟩ (fun g10_5=>qG O N O O (by simp only [Lz,cond_true,cond_false,Bool.and_eq_true,Bool.or_eq_true,Bool.not_eq_true',Bool.not_eq_false',Bool.or_eq_false_iff,Bool.and_eq_false_iff,decide_eq_true_eq,decide_eq_false_iff_not,Bool.not_eq_true,Bool.not_eq_false] at g10_5;omega) (Q (zDn (by simp only [Lz,cond_true,cond_false,Bool.and_eq_true,Bool.or_eq_true,Bool.not_eq_true',Bool.not_eq_false',Bool.or_eq_false_iff,Bool.and_eq_false_iff,decide_eq_true_eq,decide_eq_false_iff_not,Bool.not_eq_true,Bool.not_eq_false] at g10_5;omega)))) O<|B 95 O (fun g10_5=>qL O zAc O) O<|B 96 O (fun g10_5=>zF O one9 O qA O) O<|rL0 O (fun g10_5=>w O O) O<|rLz [(97,_),(98,_)] O gv1 ⟨O,O,O,O,T⟩ (fun g10_5=>yV O O O) O<|yS O (fun h=>h)<|G<|zD O (fun c3=>?_) (fun c3=>?_)
   ·obtain ⟨hn1,hL⟩:=sum_tt (a:=a.L) (b:=b.L) (i:=i) (n:=n) hi c3
    have hm1:mergeL a.L b.L=(d++[((atM a.L i).Name,(atM a.L i).By,(atM b.L n).By)])++mergeL (a.L.drop (i+1)) (b.L.drop (n+1)):=by rw [hm,hL];simp
    refine F O<|zH O yT<|zM wE (R 3 O) O<|A O<|qD O N (by omega) (Q (zDn (by omega)))<|qP O zDd<|zM W qA O<|A O<|G<|zQ O<|A O<|qJ O ⟨by omega,by omega⟩<|A O<|G<|zJ<|F O<|A O<|yN O<|G<|zD O (fun c4=>?_) (fun c4=>?_)
    ·try simp only [I] at c4
     refine zQ O<|A O<|qJ O ⟨by omega,by omega⟩<|A O<|G<|F O<|A O<|A O<|A O<|qI O ok204 (zEt _ _ c (by first|exact z0|exact hra.2 _ (zQd hi)) (by first|exact z0|exact hrb.2 _ (zQd hn1)) hc) ⟨H,O,H,O,H,O,T⟩<|qO O<|qU O<|qU O<|A O<|A O<|G<|F O<|A O<|A O<|rL0 O (fun g16_1=>w O O) O<|yS O (fun h=>h)<|A O<|G<|F O<|A O<|yN O<|G<|zD O (fun c5=>?_) (fun c5=>?_)
     ·try simp only [I] at c5
      refine zQ O<|zH O yT<|zM wE (R 1 O) O<|A O<|A O<|yP O zr69 pl69<|yZ O N zr69<|zX O O (qX 0 O N O O O (by have:=zHc c d;have:=congrArg List.length hm1;have:=zCc a.L b.L;simp only [List.length_map,List.length_append,List.length_cons,List.length_nil] at *;omega) (by have:=zHc c d;have:=congrArg List.length hm1;have:=zCc a.L b.L;simp only [List.length_map,List.length_append,List.length_cons,List.length_nil] at *;omega)) ?_
      rintro _ _ ⟨sv6,rfl,rfl⟩
      refine zH O yT<|Y 1 sz39 O<|G ?_
      refine ⟨⟨i+1,n+1,d++[((atM a.L i).Name,(atM a.L i).By,(atM b.L n).By)],sv6⟩,⟨by omega,by omega,hm1⟩,(by dsimp only;omega),Weak.mk [true,true,true,true,true] ⟨VLe.of_eq (by rw [zCq,zFt];rfl),H,H,H,H,H,H,H,T⟩ (by exact zDx (by rw [zCq,zEb];rw [if_neg (show ¬w64 (trV ((atM a.L i).Name,(atM a.L i).By,(atM b.L n).By*c))=0 from c5),List.map_append];rfl))⟩
     ·try simp only [I] at c5
      refine zK ?_
      refine ⟨⟨i+1,n+1,d++[((atM a.L i).Name,(atM a.L i).By,(atM b.L n).By)],sv⟩,⟨by omega,by omega,hm1⟩,(by dsimp only;omega),Weak.mk [true,true,true,true,true] ⟨VLe.of_eq (by rw [zCq,zFt];rfl),H,H,H,H,H,H,H,T⟩ (by exact zDx (by rw [zCq,zEb];rw [if_pos (show w64 (trV ((atM a.L i).Name,(atM a.L i).By,(atM b.L n).By*c))=0 from c5),List.append_nil]))⟩
    ·try simp only [I] at c4
     exact absurd c4 (hne _ (zQd hi))
   ·have hL:=sum_tf (a:=a.L) (b:=b.L) (i:=i) (n:=n) hi hnb c2 c3
    have hm1:mergeL a.L b.L=(d++[((atM a.L i).Name,(atM a.L i).By,0)])++mergeL (a.L.drop (i+1)) (b.L.drop n):=by rw [hm,hL];simp
    refine zK<|zJ<|F O<|A O<|yN O<|G<|zD O (fun c4=>?_) (fun c4=>?_)
    ·try simp only [I] at c4
     refine zQ O<|A O<|qJ O ⟨by omega,by omega⟩<|A O<|G<|F O<|A O<|A O<|A O<|qI O ok204 (zEt _ _ c (by first|exact z0|exact hra.2 _ (zQd hi)) (by first|exact z0|exact hrb.2 _ (zQd hn1)) hc) ⟨H,O,H,O,H,O,T⟩<|qO O<|qU O<|qU O<|A O<|A O<|G<|F O<|A O<|A O<|rL0 O (fun g16_1=>w O O) O<|yS O (fun h=>h)<|A O<|G<|F O<|A O<|yN O<|G<|zD O (fun c5=>?_) (fun c5=>?_)
     ·try simp only [I] at c5
      refine zQ O<|zH O yT<|zM wE (R 1 O) O<|A O<|A O<|yP O zr69 pl69<|yZ O N zr69<|zX O O (qX 0 O N O O O (by have:=zHc c d;have:=congrArg List.length hm1;have:=zCc a.L b.L;simp only [List.length_map,List.length_append,List.length_cons,List.length_nil] at *;omega) (by have:=zHc c d;have:=congrArg List.length hm1;have:=zCc a.L b.L;simp only [List.length_map,List.length_append,List.length_cons,List.length_nil] at *;omega)) ?_
      rintro _ _ ⟨sv7,rfl,rfl⟩
      refine zH O yT<|Y 1 sz39 O<|G ?_
      refine ⟨⟨i+1,n,d++[((atM a.L i).Name,(atM a.L i).By,0)],sv7⟩,⟨by omega,by omega,hm1⟩,(by dsimp only;omega),Weak.mk [true,true,true,true,true] ⟨VLe.of_eq (by rw [zCq,zFt];rfl),H,H,H,H,H,H,H,T⟩ (by exact zDx (by rw [zCq,zEb];rw [if_neg (show ¬w64 (trV ((atM a.L i).Name,(atM a.L i).By,0*c))=0 from c5),List.map_append];rfl))⟩
     ·try simp only [I] at c5
      refine zK ?_
      refine ⟨⟨i+1,n,d++[((atM a.L i).Name,(atM a.L i).By,0)],sv⟩,⟨by omega,by omega,hm1⟩,(by dsimp only;omega),Weak.mk [true,true,true,true,true] ⟨VLe.of_eq (by rw [zCq,zFt];rfl),H,H,H,H,H,H,H,T⟩ (by exact zDx (by rw [zCq,zEb];rw [if_pos (show w64 (trV ((atM a.L i).Name,(atM a.L i).By,0*c))=0 from c5),List.append_nil]))⟩
    ·try simp only [I] at c4
     exact absurd c4 (hne _ (zQd hi))
  ·have hn1:=sum_f (a:=a.L) (b:=b.L) (i:=i) (n:=n) hnb c2
   obtain ⟨hL,hs3⟩:=sum_fx (a:=a.L) (b:=b.L) (i:=i) (n:=n) hn1 c2
   refine zQ O<|zH O yT<|zM wE (R 3 O) O<|A O<|qD O N (by omega) (Q (zDn (by omega)))<|qP O zAc<|zM one9 qA O<|A O<|G<|zJ<|F O<|A O<|zH O yT<|zM wE (R 3 O) O<|qC O N<|yD O<|A O<|rL0 O (fun g10_5=>zE O yT O) O<|B 92 O (fun g10_5=>zF O wE O (R 3 O) O) O<|rL0 O (fun g10_5=>w O O) O<|rLz [(93,_),(94,_)] O gv1 ⟨O,O,O,O,T⟩ (fun g10_5=>qG O N O O (by simp only [Lz,cond_true,cond_false,Bool.and_eq_true,Bool.or_eq_true,Bool.not_eq_true',Bool.not_eq_false',Bool.or_eq_false_iff,Bool.and_eq_false_iff,decide_eq_true_eq,decide_eq_false_iff_not,Bool.not_eq_true,Bool.not_eq_false] at g10_5;omega) (Q (zDn (by simp only [Lz,cond_true,cond_false,Bool.and_eq_true,Bool.or_eq_true,Bool.not_eq_true',Bool.not_eq_false',Bool.or_eq_false_iff,Bool.and_eq_false_iff,decide_eq_true_eq,decide_eq_false_iff_not,Bool.not_eq_true,Bool.not_eq_false] at g10_5;omega)))) O<|B 95 O (fun g10_5=>qL O zAc O) O<|B 96 O (fun g10_5=>zF O one9 O qA O) O<|rL0 O (fun g10_5=>w O O) O<|rLz [(97,_),(98,_)] O gv1 ⟨O,O,O,O,T⟩ (fun g10_5=>yV O O O) O<|yS O (fun h=>h)<|G<|zD O (fun c3=>?_) (fun c3=>?_)
   ·have hm1:mergeL a.L b.L=(d++[((atM b.L n).Name,0,(atM b.L n).By)])++mergeL (a.L.drop i) (b.L.drop (n+1)):=by rw [hm,hL];simp
    refine F O<|zH O yT<|zM wE (R 3 O) O<|A O<|qD O N (by omega) (Q (zDn (by omega)))<|qP O zDd<|zM W qA O<|A O<|G<|zQ O<|A O<|qJ O ⟨by omega,by omega⟩<|A O<|G<|zJ<|F O<|A O<|yN O<|G<|zD O (fun c4=>?_) (fun c4=>?_)
    ·try simp only [I] at c4
     exact absurd T c4
    ·try simp only [I] at c4
     refine zK<|F O<|A O<|A O<|A O<|qI O ok204 (zEt _ _ c (by first|exact z0|exact hra.2 _ (zQd hi)) (by first|exact z0|exact hrb.2 _ (zQd hn1)) hc) ⟨H,O,H,O,H,O,T⟩<|qO O<|qU O<|qU O<|A O<|A O<|G<|F O<|A O<|A O<|rL0 O (fun g16_1=>w O O) O<|yS O (fun h=>h)<|A O<|G<|F O<|A O<|yN O<|G<|zD O (fun c5=>?_) (fun c5=>?_)
     ·try simp only [I] at c5
      refine zQ O<|zH O yT<|zM wE (R 1 O) O<|A O<|A O<|yP O zr69 pl69<|yZ O N zr69<|zX O O (qX 0 O N O O O (by have:=zHc c d;have:=congrArg List.length hm1;have:=zCc a.L b.L;simp only [List.length_map,List.length_append,List.length_cons,List.length_nil] at *;omega) (by have:=zHc c d;have:=congrArg List.length hm1;have:=zCc a.L b.L;simp only [List.length_map,List.length_append,List.length_cons,List.length_nil] at *;omega)) ?_
      rintro _ _ ⟨sv8,rfl,rfl⟩
      refine zH O yT<|Y 1 sz39 O<|G ?_
      refine ⟨⟨i,n+1,d++[((atM b.L n).Name,0,(atM b.L n).By)],sv8⟩,⟨by omega,by omega,hm1⟩,(by dsimp only;omega),Weak.mk [true,true,true,true,true] ⟨VLe.of_eq (by rw [zCq,zFt];rfl),H,H,H,H,H,H,H,T⟩ (by exact zDx (by rw [zCq,zEb];rw [if_neg (show ¬w64 (trV ((atM b.L n).Name,0,(atM b.L n).By*c))=0 from c5),List.map_append];rfl))⟩
     ·try simp only [I] at c5
      refine zK ?_
      refine ⟨⟨i,n+1,d++[((atM b.L n).Name,0,(atM b.L n).By)],sv⟩,⟨by omega,by omega,hm1⟩,(by dsimp only;omega),Weak.mk [true,true,true,true,true] ⟨VLe.of_eq (by rw [zCq,zFt];rfl),H,H,H,H,H,H,H,T⟩ (by exact zDx (by rw [zCq,zEb];rw [if_pos (show w64 (trV ((atM b.L n).Name,0,(atM b.L n).By*c))=0 from c5),List.append_nil]))⟩
   ·exact absurd (hs3.symm.trans c3) (by decide)
 ·try simp only [I] at c1
  refine qQ<|zJ<|F O<|A O<|kO O<|G<|zD O (fun c6=>?_) (fun c6=>?_)
  ·try simp only [I] at c6
   refine F O<|qT [none,some 2] O U pl41<|Y 2 g O<|A O<|G<|o<|p (zV yK O (R 2 O) O) (J O) ?_
   rw [hm,sum_end (by omega) (by omega),List.append_nil,add_no' c6];rfl
  ·try simp only [I] at c6
   refine zK<|F O<|zP yK (R 1 O) O<|Y 2 g O<|A O<|G<|zY _ (yH 0 O (regs':=[(137,.agg [_,_])]) (μ':=[_,_,_,_]) ⟨FLe.agg ⟨.inl O,.inr ⟨O,O⟩,T⟩,T⟩ ⟨EFle.row (ds:=[_,_]) ⟨.inl O,.inr ⟨O,O⟩,T⟩,EFle.row (ds:=[_,_]) ⟨.inl O,.inr ⟨O,O⟩,T⟩,EFle.refl _,EFle.refl _,T⟩)<|o<|p (zV yK O (R 1 O) O) (J O) ?_
   rw [hm,sum_end (by omega) (by omega),List.append_nil,add_ok' c6];rfl
theorem zCv (l:Lf) (s:ByteArray) (u:Lf) (hl:l.L.length<=4294967296) (ht:u.L.length<=4294967296) (hrl:l.rng) (hrt:u.rng):
    Pur cfg 155 [vLin l,vS s,vLin u] (.tup [vLin (substR l s u).1,vI (substR l s u).2]):=by
 refine zT Tryz.func155 O Tryz.ntmps155 Tryz.results155 O ?_
 intro z hz
 obtain ⟨hr1,hr2⟩:=rest_rng hrl s
 refine F O<|zX O O (qN O O) ?_
 rintro _ _ ⟨b1,rfl,rfl⟩
 refine zX O O (qN O O) ?_
 rintro _ _ ⟨b2,rfl,rfl⟩
 refine zX O O (qE [none,some 2] O U O) ?_
 rintro _ _ ⟨b3,rfl,rfl⟩
 refine A O<|G<|zJ<|F O<|zP yK (R 2 O) O<|qI O ok183 (zCe l (by omega)) ⟨H,O,T⟩<|kO O<|A O<|rL0 O (fun g1_3=>zZ O yK O (R 1 O) O) O<|B 15 O (fun g1_3=>qM O ok183 (zCe u (by omega)) ⟨H,O,T⟩) O<|B 16 O (fun g1_3=>kX O O) O<|r_or O (fun h=>(lzf h))<|A O<|rL0 O (fun g1_8=>w O O) O<|B 20 O (fun g1_8=>qM O ok60 (zEk s) ⟨H,O,T⟩) O<|B 21 O (fun g1_8=>kX O O) O<|r_or O (fun h=>(lzf h))<|G<|zD O (fun c1=>?_) (fun c1=>?_)
 ·try simp only [I] at c1
  have hS:substR l s u=(zL,1):=substR_bad c1
  refine F O<|qT [none,some 2] O U pl41<|Y 0 g O<|A O<|G<|o<|p (zV yK O (R 0 O) O) (J O) ?_
  rw [hS];rfl
 ·try simp only [I] at c1
  obtain ⟨hl1,hl2,hl3⟩:=substR_c1 c1
  refine zK<|F O<|A O<|G<|F O<|zH O zCg<|zM W (R 2 O) O<|yP O U pl41<|zX O O (yX O U) ?_
  rintro _ _ ⟨b4,rfl,rfl⟩
  refine yI _ (kN 69 2)<|Y 1 g O<|G<|zJ<|F O<|A O<|G<|zR<|zY ⟨[(10,.c _),(8,.c _),(1,.c _),(3,.c _),(5,.c _),(6,.c _),(9,.c _)],[_,_,_,_,_]⟩ (Weak.mk [true,true,true,true,true] ⟨H,H,H,H,H,H,H,T⟩ O)<|qK 2 2 O O (Nat×Value) (fun ⟨k,sv⟩=>[(10,vI k),(8,vI (lastBy (l.L.take k) s))]) (fun ⟨k,sv⟩=>[E.vec sv 69 2 (((l.L.take k).filter (fun m=> !decide (m.Name=s))).map Mono.cells),E.row b4 41 [cI l.K,.lit sv]]) (fun ⟨k,sv⟩=>k<=l.L.length) (fun ⟨k,sv⟩=>l.L.length-k) ⟨⟨0,_⟩,(by omega),Weak.mk [true,true,true,true,true] ⟨H,VLe.of_eq (O),H,H,H,H,H,T⟩ O⟩ ?_
  rintro ⟨k,sv⟩ hk
  show AWP _ _ _ _ _ ⟨[(10,vI k),(8,vI (lastBy (l.L.take k) s))]++_,[E.vec sv 69 2 (((l.L.take k).filter (fun m=> !decide (m.Name=s))).map Mono.cells),E.row b4 41 [cI l.K,.lit sv]]++_⟩
  refine zJ<|F O<|A O<|zH O yT<|zM wE (R 4 O) O<|qC O N<|yD O<|G<|zD O (fun c2=>?_) (fun c2=>?_)
  ·try simp only [I] at c2
   obtain ⟨x,hx⟩:=qV l.L k (by omega)
   refine zK<|zJ<|zR<|F O<|zH O yT<|zM wE (R 4 O) O<|A O<|qD O N (by omega) (Q (by assumption))<|qP O zAc<|zM one9 qA O<|A O<|zU O (yV O O O)<|G<|zD O (fun c3=>?_) (fun c3=>?_)
   ·try simp only [I] at c3
    refine zQ O<|zH O yT<|zM wE (R 4 O) O<|A O<|qD O N (by omega) (Q (by assumption))<|qP O zDd<|zM W qA O<|A O<|G<|zQ O<|A O<|qJ O ⟨by omega,by omega⟩<|A O<|G ?_
    refine ⟨⟨k+1,_⟩,(by omega),(by show l.L.length-(k+1)<l.L.length-k;omega),Weak.mk [true,true,true,true,true] ⟨H,VLe.of_eq (by rw [zHt hx];first|(rw [if_pos c3];rfl)|(rw [if_neg c3];rfl)),H,H,H,H,H,T⟩ (by exact zDx (by rw [zMo hx];first|(rw [if_pos c3,List.append_nil])|(rw [if_neg c3,List.map_append];rfl)))⟩
   ·try simp only [I] at c3
    refine qY 8 mixed (by kernel_rfl) O O<|M O O (zE O yT O)<|M O O (zF O wE O (R 1 O) O)<|M O O (zE O yT O)<|M O O (zF O wE O (R 4 O) O)<|M O O (w O O)<|M O O (qG O N O O (by omega) (Q (by assumption)))<|M O O (zZ O zOd O qA O)<|M O O (wI O N zr69 O O O O)<|kD<|zX O O (qX 0 O N O O O (by have:=List.length_filter_le (fun m:Mono=> !decide (m.Name=s)) (l.L.take k);simp only [List.length_map,List.length_append,List.length_cons,List.length_nil,List.length_take] at *;omega) (by have:=List.length_filter_le (fun m:Mono=> !decide (m.Name=s)) (l.L.take k);simp only [List.length_map,List.length_append,List.length_cons,List.length_nil,List.length_take] at *;omega)) ?_
    rintro _ _ ⟨sv6,rfl,rfl⟩
    refine zH O yT<|Y 1 sz39 O<|G<|zQ O<|A O<|qJ O ⟨by omega,by omega⟩<|A O<|G ?_
    refine ⟨⟨k+1,_⟩,(by omega),(by show l.L.length-(k+1)<l.L.length-k;omega),Weak.mk [true,true,true,true,true] ⟨H,VLe.of_eq (by rw [zHt hx];first|(rw [if_pos c3];rfl)|(rw [if_neg c3];rfl)),H,H,H,H,H,T⟩ (by exact zDx (by rw [zMo hx];first|(rw [if_pos c3,List.append_nil])|(rw [if_neg c3,List.map_append];rfl)))⟩
  ·try simp only [I] at c2
   rw [yO (l:=l.L) (k:=k) (by omega)]
   refine qQ<|zJ<|F O<|A O<|yF O<|G<|zD O (fun c4=>?_) (fun c4=>?_)
   ·try simp only [I] at c4
    refine F O<|zP yK (R 4 O) O<|Y 2 g O<|A O<|G<|o<|p (zV yK O (R 2 O) O) (J O) ?_
    rw [substR_same ⟨hl1,hl2,hl3⟩ c4];rfl
   ·try simp only [I] at c4
    refine zK<|zJ<|F O<|zP yK (R 3 O) O<|A O<|qI O ok185 (ref14_scales u (lastBy l.L s) ht hrt (last_rng hrl s)) ⟨H,O,H,O,T⟩<|kO O<|G<|zD O (fun c5=>?_) (fun c5=>?_)
    ·try simp only [I] at c5
     refine F O<|qT [none,some 2] O U pl41<|Y 2 g O<|A O<|G<|o<|p (zV yK O (R 2 O) O) (J O) ?_
     rw [substR_no ⟨hl1,hl2,hl3⟩ c4 c5];rfl
    ·try simp only [I] at c5
     refine zY _ (yH 0 O (regs':=[]) (μ':=[_,_,_,_]) T ⟨EFle.row (ds:=[_,_]) ⟨.inl O,.inr ⟨O,O⟩,T⟩,EFle.refl _,EFle.refl _,EFle.refl _,T⟩)<|zK<|F O<|zP yK (R 0 O) O<|zP yK (R 2 O) O<|A O<|qI O ok186 (ref14_sum (restL l s) u (lastBy l.L s) (by omega) ht hr1 hrt (last_rng hrl s) (fun m hm=>(zKn hl1 m (List.mem_filter.1 hm).1).1)) ⟨H,O,H,O,H,O,T⟩<|yJ O<|qU O<|Y 1 g O<|A O<|G<|o<|p (zV yK O (R 1 O) O) (J O) ?_
     rw [substR_yes ⟨hl1,hl2,hl3⟩ c4 c5];rfl
theorem zJj (x:Ix) (s:ByteArray) (u:Lf) (ht:u.L.length<=4294967296) (hrt:u.rng) (hx:x.wt<=4294967296) (hr1:x.Lin.rng) (hr2:∀l,l∈x.At->l.rng):
    Pur cfg 156 [vIndex x,vS s,vLin u] (.tup [vIndex (outI (mIx (fun l=>substR l s u) x)),vI (errE (mIx (fun l=>substR l s u) x))]):=by
 refine zT Tryz.func156 O Tryz.ntmps156 Tryz.results156 O ?_
 intro z hz
 have hxw:=hx
 unfold Ix.wt at hxw
 refine F O<|zX O O (qN O O) ?_
 rintro _ _ ⟨b1,rfl,rfl⟩
 refine zX O O (qN O O) ?_
 rintro _ _ ⟨b2,rfl,rfl⟩
 refine zX O O (qE [none,some 2,none,some 2] O zr72 O) ?_
 rintro _ _ ⟨b3,rfl,rfl⟩
 refine A O<|G<|F O<|zH O zEp<|zP yK (R 2 O) O<|A O<|zP yK (R 1 O) O<|qI O ok155 (zCv x.Lin s u (by omega) ht hr1 hrt) ⟨H,O,H,O,H,O,T⟩<|qO O<|yJ O<|qU O<|zX O O (qE [none,some 2] O U O) ?_
 rintro _ _ ⟨b4,rfl,rfl⟩
 refine Y 0 g O<|A O<|G<|zJ<|F O<|A O<|yN O<|G<|zD O (fun c1=>?_) (fun c1=>?_)
 ·try simp only [I] at c1
  refine F O<|qT [none,some 2,none,some 2] O zr72 pl72<|A O<|Y 1 sz72 O<|A O<|G<|o<|p (zV zIb O (R 1 O) O) (J O) ?_
  rw [mIx_e1 c1];rfl
 ·try simp only [I] at c1
  refine zK<|F O<|zP yK (R 0 O) O<|zH O zEo<|zM one9 (R 3 O) O<|yP O zr72 pl72<|zX O O (yX O zr72) ?_
  rintro _ _ ⟨b5,rfl,rfl⟩
  refine yI _ (kN 69 2)<|yI _ (kN 41 2)<|Y 2 sz72 O<|G<|zJ<|F O<|A O<|G<|zR<|zY ⟨[(11,.c _),(1,.c _),(3,.c _),(5,.c _),(6,.c _),(10,.c _)],[_,_,_,_,_]⟩ (Weak.mk [true,false,true,false,true,true,true] ⟨H,H,H,H,H,H,T⟩ O)<|qK 1 2 O O (Nat×List Lf×Value) (fun ⟨k,outs,sv⟩=>[(11,vI k)]) (fun ⟨k,outs,sv⟩=>[E.vec sv 41 2 (outs.map Lf.cells),E.row b5 72 [cI (substR x.Lin s u).1.K,.sl 2 ((substR x.Lin s u).1.L.map Mono.cells),cS x.From,.lit sv]]) (fun ⟨k,outs,sv⟩=>k<=x.At.length/\(outs.length=k)/\(mLins (fun l=>substR l s u) x.At=mapRest outs (mLins (fun l=>substR l s u) (x.At.drop k)))) (fun ⟨k,outs,sv⟩=>x.At.length-k) ⟨⟨0,[],.slice none 0 0⟩,⟨by omega,O,(zBw _).symm⟩,Weak.mk [true,true,true,true,true] ⟨H,H,H,H,H,H,T⟩ O⟩ ?_
  rintro ⟨k,outs,sv⟩ ⟨hk,ho,hp⟩
  show AWP _ _ _ _ _ ⟨[(11,vI k)]++_,[E.vec sv 41 2 (outs.map Lf.cells),E.row b5 72 [cI (substR x.Lin s u).1.K,.sl 2 ((substR x.Lin s u).1.L.map Mono.cells),cS x.From,.lit sv]]++_⟩
  refine zJ<|F O<|A O<|zH O zAq<|zM zEh (R 4 O) O<|qC O el70<|yD O<|G<|zD O (fun c2=>?_) (fun c2=>?_)
  ·try simp only [I] at c2
   obtain ⟨l,hl⟩:=qV x.At k (by omega)
   refine zK<|zJ<|zR<|zJ<|kH 13 1 [⟨0,.q []⟩,⟨1,.q [5]⟩,⟨2,.q []⟩,⟨3,.q []⟩,⟨4,.q []⟩,⟨5,.q []⟩,⟨6,.q [4]⟩,⟨7,.q []⟩,⟨8,.q []⟩,⟨9,.q []⟩,⟨10,.q []⟩,⟨11,.e 0 []⟩,⟨12,.e 0 []⟩] mixed (by kernel_rfl) (by kernel_rfl) O O O<|t O<|t O<|t O<|t O<|t O<|t O<|t O<|t O<|t O<|t O<|t O<|t O<|t O<|zAz<|v O (by decide) O O (zE O zAq O)<|v O (by decide) O O (zF O zEh O (R 0 O) O)<|v O (by decide) O O (w O O)<|v O (by decide) O O (qG O el70 O O (by omega) (Q (by assumption)))<|v O (by decide) O O (zZ O yK O qA O)<|v O (by decide) O O (w O O)<|v O (by decide) O O (zZ O yK O (R 0 O) O)<|v O (by decide) O O (qM O ok155 (zCv l s u (by have:=zDb (qB hl);omega) ht (hr2 l (qB hl)) hrt) ⟨H,O,H,O,H,O,T⟩)<|v O (by decide) O O (kF O O)<|v O (by decide) O O (kY O O O)<|v O (by decide) O O (wA O O O)<|zHe O O (by decide) O O (qE [none,some 2] O U O) ?_
   rintro _ _ ⟨b8,rfl,rfl⟩
   refine ⟨_,O,?_⟩
   refine zEe O O (by decide) O O (yU O g O O O (zEd 0 O O)) ?_
   rintro _ _ ⟨rfl,rfl⟩
   refine ⟨_,O,?_⟩
   refine zAv O<|A O<|G<|zJ<|F O<|A O<|yN O<|G<|zD O (fun c3=>?_) (fun c3=>?_)
   ·try simp only [I] at c3
    refine F O<|qT [none,some 2,none,some 2] O zr72 pl72<|A O<|Y 3 sz72 O<|A O<|G<|o<|p (zV zIb O (R 3 O) O) (J O) ?_
    rw [mIx_e2 c1 (mLins_no hl hp c3)];rfl
   ·try simp only [I] at c3
    refine zK<|zQ O<|zH O zAq<|zM zEh (R 2 O) O<|zP yK (R 0 O) O<|yZ O el70 U<|zX O O (qX 1 O el70 O O O (by simp only [List.length_map,List.length_append,List.length_cons,List.length_nil];omega) (by simp only [List.length_map,List.length_append,List.length_cons,List.length_nil];omega)) ?_
    rintro _ _ ⟨sv9,rfl,rfl⟩
    refine zH O zAq<|Y 2 sz70 O<|G<|zQ O<|A O<|qJ O ⟨by omega,by omega⟩<|A O<|G ?_
    refine ⟨⟨k+1,outs++[(substR l s u).1],sv9⟩,⟨by omega,by simp;omega,mLins_next hl hp c3⟩,(by show x.At.length-(k+1)<x.At.length-k;omega),Weak.mk [false,true,true,true,true,true] ⟨H,H,H,H,H,H,T⟩ (by exact zRg (by rw [List.map_append];rfl))⟩
  ·try simp only [I] at c2
   have hml:=mLins_end hp (by omega)
   refine zY _ (yH 0 O (regs':=[]) (μ':=[_,_,_,_]) T ⟨EFle.row (ds:=[_,_,_,_]) ⟨.inl O,.inl O,.inl O,.inr ⟨O,O⟩,T⟩,EFle.refl _,EFle.refl _,EFle.refl _,T⟩)<|qQ<|F O<|zP zIb (R 0 O) O<|Y 1 sz72 O<|A O<|G<|o<|p (zV zIb O (R 1 O) O) (J O) ?_
   rw [mIx_ok c1 hml];rfl
theorem zJk (e:Ex) (s:ByteArray) (u:Lf) (ht:u.L.length<=4294967296) (hrt:u.rng) (ih:∀a,a∈e.Args->a.allF Lf.rng->a.wt<=4294967296->Pur cfg 119 [vE a,vS s,vLin u] (.tup [vE (outE (mEx (fun l=>substR l s u) a)),vI (errE (mEx (fun l=>substR l s u) a))])) (hP:e.allF Lf.rng) (he:e.wt<=4294967296):
    Pur cfg 119 [vE e,vS s,vLin u] (.tup [vE (outE (mEx (fun l=>substR l s u) e)),vI (errE (mEx (fun l=>substR l s u) e))]):=by
 refine zT Tryz.func119 O Tryz.ntmps119 Tryz.results119 O ?_
 intro z hz
 obtain ⟨hL,hI,hA⟩:=e.parts he
 have hew:=Ex.wt_eq e
 refine F O<|zX O O (qN O O) ?_
 rintro _ _ ⟨b1,rfl,rfl⟩
 refine zX O O (qN O O) ?_
 rintro _ _ ⟨b2,rfl,rfl⟩
 refine zX O O (qE [none,none,none,none,none,none,none,none,none,none,some 2,some 4,some 13] O zr44 O) ?_
 rintro _ _ ⟨b3,rfl,rfl⟩
 refine A O<|G<|F O<|zH O wF<|zM one3 (R 2 O) O<|zH O zFk<|zM one9 (R 2 O) O<|zH O zJw<|zP agg36 (R 2 O) O<|zH O zFj<|zP yR (R 2 O) O<|yP O zr44 pl44<|zX O O (yX O zr44) ?_
 rintro _ _ ⟨b4,rfl,rfl⟩
 refine yI _ (kN 69 2)<|yI _ (kN 72 4)<|yI _ (kN 44 13)<|Y 3 sz44 O<|G<|F O<|zH O zDj<|zP yK (R 6 O) O<|A O<|zP yK (R 5 O) O<|qI O ok155 (zCv e.Lin s u hL ht (Ex.allF_lin hP) hrt) ⟨H,O,H,O,H,O,T⟩<|qO O<|yJ O<|qU O<|zX O O (qE [none,some 2] O U O) ?_
 rintro _ _ ⟨b8,rfl,rfl⟩
 refine Y 0 g O<|A O<|G<|zJ<|F O<|A O<|yN O<|G<|zD O (fun c1=>?_) (fun c1=>?_)
 ·try simp only [I] at c1
  refine F O<|qT [none,none,none,none,none,none,none,none,none,none,some 2,some 4,some 13] O zr44 pl44<|A O<|Y 5 sz44 O<|A O<|G<|o<|p (zV kC O (R 5 O) O) (J O) ?_
  rw [mEx_e1 c1];rfl
 ·try simp only [I] at c1
  refine zK<|F O<|zP yK (R 0 O) O<|zH O zDj<|Y 4 g O<|G<|zJ<|F O<|A O<|G<|zR<|zY ⟨[(11,.c _),(1,.c _),(3,.c _),(5,.c _),(6,.c _),(8,.c _)],[_,_,_,_,_,_]⟩ (Weak.mk [false,true,true,false,true,true,true,true] ⟨H,H,H,H,H,H,T⟩ O)<|qK 1 3 O O (Nat×List Ix×Value) (fun ⟨k,outs,sv⟩=>[(11,vI k)]) (fun ⟨k,outs,sv⟩=>[E.vec (.slice none 0 0) 44 13 [],E.vec sv 72 4 (outs.map Ix.cells),E.row b4 44 [cI e.Op,cS e.Name,cI e.Val.N,cI e.Val.D,cI e.Ty.Kind,cI e.Ty.Bits,cI e.Ty.Frac,cI e.Ty.Round,cI e.Ty.Over,cI (substR e.Lin s u).1.K,.sl 2 ((substR e.Lin s u).1.L.map Mono.cells),.lit sv,.lit (.slice none 0 0)]]) (fun ⟨k,outs,sv⟩=>k<=e.Idx.length/\(outs.length=k)/\(mIxs (fun l=>substR l s u) e.Idx=mapRest outs (mIxs (fun l=>substR l s u) (e.Idx.drop k)))) (fun ⟨k,outs,sv⟩=>e.Idx.length-k) ⟨⟨0,[],.slice none 0 0⟩,⟨by omega,O,(zBw _).symm⟩,Weak.mk [true,true,true,true,true,true] ⟨H,H,H,H,H,H,T⟩ O⟩ ?_
  rintro ⟨k,outs,sv⟩ ⟨hk,ho,hp⟩
  show AWP _ _ _ _ _ ⟨[(11,vI k)]++_,[E.vec (.slice none 0 0) 44 13 [],E.vec sv 72 4 (outs.map Ix.cells),E.row b4 44 [cI e.Op,cS e.Name,cI e.Val.N,cI e.Val.D,cI e.Ty.Kind,cI e.Ty.Bits,cI e.Ty.Frac,cI e.Ty.Round,cI e.Ty.Over,cI (substR e.Lin s u).1.K,.sl 2 ((substR e.Lin s u).1.L.map Mono.cells),.lit sv,.lit (.slice none 0 0)]]++_⟩
  refine zJ<|F O<|A O<|zH O wD<|zM wQ (R 5 O) O<|qC O d<|yD O<|G<|zD O (fun c2=>?_) (fun c2=>?_)
  ·try simp only [I] at c2
   obtain ⟨x,hx⟩:=qV e.Idx k (by omega)
   refine zK<|zJ<|zR<|zJ<|kH 13 1 [⟨0,.q []⟩,⟨1,.q [6]⟩,⟨2,.q []⟩,⟨3,.q []⟩,⟨4,.q []⟩,⟨5,.q []⟩,⟨6,.q [5]⟩,⟨7,.q []⟩,⟨8,.q []⟩,⟨9,.q []⟩,⟨10,.q []⟩,⟨11,.e 0 []⟩,⟨12,.e 0 []⟩] mixed (by kernel_rfl) (by kernel_rfl) O O O<|t O<|t O<|t O<|t O<|t O<|t O<|t O<|t O<|t O<|t O<|t O<|t O<|t O<|zAz<|v O (by decide) O O (zE O wD O)<|v O (by decide) O O (zF O wQ O (R 0 O) O)<|v O (by decide) O O (w O O)<|v O (by decide) O O (qG O d O O (by omega) (Q (by assumption)))<|v O (by decide) O O (zZ O zIb O qA O)<|v O (by decide) O O (w O O)<|v O (by decide) O O (zZ O yK O (R 0 O) O)<|v O (by decide) O O (qM O ok156 (zJj x s u ht hrt (by have:=zAy (qB hx);omega) (Ex.allF_ix hP (qB hx)) (fun l hl=>Ex.allF_at hP (qB hx) hl)) ⟨H,O,H,O,H,O,T⟩)<|v O (by decide) O O (kF O O)<|v O (by decide) O O (kY O O O)<|v O (by decide) O O (wA O O O)<|zHe O O (by decide) O O (qE [none,some 2,none,some 2] O zr72 O) ?_
   rintro _ _ ⟨b9,rfl,rfl⟩
   refine ⟨_,O,?_⟩
   refine zEe O O (by decide) O O (yU O sz72 O O O (zEd 0 O O)) ?_
   rintro _ _ ⟨rfl,rfl⟩
   refine ⟨_,O,?_⟩
   refine zAv O<|A O<|G<|zJ<|F O<|A O<|yN O<|G<|zD O (fun c3=>?_) (fun c3=>?_)
   ·try simp only [I] at c3
    refine F O<|qT [none,none,none,none,none,none,none,none,none,none,some 2,some 4,some 13] O zr44 pl44<|A O<|Y 4 sz44 O<|A O<|G<|o<|p (zV kC O (R 4 O) O) (J O) ?_
    rw [mEx_e2 c1 (mIxs_no' hx hp c3)];rfl
   ·try simp only [I] at c3
    refine zK<|zQ O<|zH O wD<|zM wQ (R 3 O) O<|zP zIb (R 0 O) O<|yZ O d zr72<|zX O O (qX 2 O d O O O (by simp only [List.length_map,List.length_append,List.length_cons,List.length_nil];omega) (by simp only [List.length_map,List.length_append,List.length_cons,List.length_nil];omega)) ?_
    rintro _ _ ⟨sv10,rfl,rfl⟩
    refine zH O wD<|Y 3 sz34 O<|G<|zQ O<|A O<|qJ O ⟨by omega,by omega⟩<|A O<|G ?_
    refine ⟨⟨k+1,outs++[outI (mIx (fun l=>substR l s u) x)],sv10⟩,⟨by omega,by simp;omega,mIxs_next' hx hp c3⟩,(by show e.Idx.length-(k+1)<e.Idx.length-k;omega),Weak.mk [false,true,true,true,true,true,true] ⟨H,H,H,H,H,H,T⟩ (by exact mem3_eq (by rw [List.map_append];rfl))⟩
  ·try simp only [I] at c2
   have hmi:=mIxs_end hp (by omega)
   refine zY _ (yH 1 O (regs':=[]) (μ':=[_,_,_,_,_]) T ⟨EFle.refl _,EFle.row (ds:=[_,_,_,_,_,_,_,_,_,_,_,_,_]) ⟨.inl O,.inl O,.inl O,.inl O,.inl O,.inl O,.inl O,.inl O,.inl O,.inl O,.inl O,.inr ⟨O,O⟩,.inl O,T⟩,EFle.refl _,EFle.refl _,EFle.refl _,T⟩)<|qQ<|zJ<|F O<|A O<|G<|zR<|zY ⟨[(14,.c _),(1,.c _),(3,.c _),(5,.c _),(6,.c _),(8,.c _)],[_,_,_,_,_]⟩ (Weak.mk [true,true,true,true,true] ⟨H,H,H,H,H,H,T⟩ O)<|qK 1 2 O O (Nat×List Ex×Value) (fun ⟨n,exs,sw⟩=>[(14,vI n)]) (fun ⟨n,exs,sw⟩=>[E.vec sw 44 13 (exs.map Ex.cells),E.row b4 44 [cI e.Op,cS e.Name,cI e.Val.N,cI e.Val.D,cI e.Ty.Kind,cI e.Ty.Bits,cI e.Ty.Frac,cI e.Ty.Round,cI e.Ty.Over,cI (substR e.Lin s u).1.K,.sl 2 ((substR e.Lin s u).1.L.map Mono.cells),.sl 4 (outs.map Ix.cells),.lit sw]]) (fun ⟨n,exs,sw⟩=>n<=e.Args.length/\(exs.length=n)/\(mExs (fun l=>substR l s u) e.Args=mapRest exs (mExs (fun l=>substR l s u) (e.Args.drop n)))) (fun ⟨n,exs,sw⟩=>e.Args.length-n) ⟨⟨0,[],.slice none 0 0⟩,⟨by omega,O,(zBw _).symm⟩,Weak.mk [true,true,true,true,true] ⟨H,H,H,H,H,H,T⟩ O⟩ ?_
   rintro ⟨n,exs,sw⟩ ⟨hn,hno,hr⟩
   show AWP _ _ _ _ _ ⟨[(14,vI n)]++_,[E.vec sw 44 13 (exs.map Ex.cells),E.row b4 44 [cI e.Op,cS e.Name,cI e.Val.N,cI e.Val.D,cI e.Ty.Kind,cI e.Ty.Bits,cI e.Ty.Frac,cI e.Ty.Round,cI e.Ty.Over,cI (substR e.Lin s u).1.K,.sl 2 ((substR e.Lin s u).1.L.map Mono.cells),.sl 4 (outs.map Ix.cells),.lit sw]]++_⟩
   refine zJ<|F O<|A O<|zH O wN<|zM zBk (R 4 O) O<|qC O el42<|yD O<|G<|zD O (fun c4=>?_) (fun c4=>?_)
   ·try simp only [I] at c4
    obtain ⟨a,ha⟩:=qV e.Args n (by omega)
    refine zK<|zJ<|zR<|zJ<|kH 13 1 [⟨0,.q []⟩,⟨1,.q [5]⟩,⟨2,.q []⟩,⟨3,.q []⟩,⟨4,.q []⟩,⟨5,.q []⟩,⟨6,.q [4]⟩,⟨7,.q []⟩,⟨8,.q []⟩,⟨9,.q []⟩,⟨10,.q []⟩,⟨11,.e 0 []⟩,⟨12,.e 0 []⟩] mixed (by kernel_rfl) (by kernel_rfl) O O O<|t O<|t O<|t O<|t O<|t O<|t O<|t O<|t O<|t O<|t O<|t O<|t O<|t O<|zAz<|v O (by decide) O O (zE O wN O)<|v O (by decide) O O (zF O zBk O (R 0 O) O)<|v O (by decide) O O (w O O)<|v O (by decide) O O (qG O el42 O O (by omega) (zEm (by assumption)))<|v O (by decide) O O (zZ O kC O qA O)<|v O (by decide) O O (w O O)<|v O (by decide) O O (zZ O yK O (R 0 O) O)<|v O (by decide) O O (qM O ok119 (ih a (qB ha) (Ex.allF_arg hP (qB ha)) (by have:=Ex.arg_wt (qB ha);omega)) ⟨H,O,H,O,H,O,T⟩)<|v O (by decide) O O (kF O O)<|v O (by decide) O O (kY O O O)<|v O (by decide) O O (wA O O O)<|zHe O O (by decide) O O (qE [none,none,none,none,none,none,none,none,none,none,some 2,some 4,some 13] O zr44 O) ?_
    rintro _ _ ⟨b11,rfl,rfl⟩
    refine ⟨_,O,?_⟩
    refine zEe O O (by decide) O O (yU O sz44 O O O (zEd 0 O O)) ?_
    rintro _ _ ⟨rfl,rfl⟩
    refine ⟨_,O,?_⟩
    refine zAv O<|A O<|G<|zJ<|F O<|A O<|yN O<|G<|zD O (fun c5=>?_) (fun c5=>?_)
    ·try simp only [I] at c5
     refine F O<|qT [none,none,none,none,none,none,none,none,none,none,some 2,some 4,some 13] O zr44 pl44<|A O<|Y 3 sz44 O<|A O<|G<|o<|p (zV kC O (R 3 O) O) (J O) ?_
     rw [mEx_e3 c1 hmi (mExs_no ha hr c5)];rfl
    ·try simp only [I] at c5
     refine zK<|zQ O<|zH O wN<|zM zBk (R 2 O) O<|zP kC (R 0 O) O<|yZ O el42 zr44<|zX O O (qX 1 O el42 O O O (by simp only [List.length_map,List.length_append,List.length_cons,List.length_nil];omega) (by simp only [List.length_map,List.length_append,List.length_cons,List.length_nil];omega)) ?_
     rintro _ _ ⟨sv12,rfl,rfl⟩
     refine zH O wN<|Y 2 sz42 O<|G<|zQ O<|A O<|qJ O ⟨by omega,by omega⟩<|A O<|G ?_
     refine ⟨⟨n+1,exs++[outE (mEx (fun l=>substR l s u) a)],sv12⟩,⟨by omega,by simp;omega,mExs_next ha hr c5⟩,(by show e.Args.length-(n+1)<e.Args.length-n;omega),Weak.mk [false,true,true,true,true,true] ⟨H,H,H,H,H,H,T⟩ (by exact zRg (by rw [List.map_append];simp only [List.map_cons,List.map_nil,Ex.cells_eq];rfl))⟩
   ·try simp only [I] at c4
    have hme:=mExs_end hr (by omega)
    refine zY _ (yH 0 O (regs':=[]) (μ':=[_,_,_,_]) T ⟨EFle.row (ds:=[_,_,_,_,_,_,_,_,_,_,_,_,_]) ⟨.inl O,.inl O,.inl O,.inl O,.inl O,.inl O,.inl O,.inl O,.inl O,.inl O,.inl O,.inl O,.inr ⟨O,O⟩,T⟩,EFle.refl _,EFle.refl _,EFle.refl _,T⟩)<|qQ<|F O<|zP kC (R 0 O) O<|Y 1 sz44 O<|A O<|G<|o<|p (zV kC O (R 1 O) O) (J O) ?_
    rw [mEx_ok c1 hmi hme];rfl
theorem zIg (e:Ex) (s:ByteArray) (u:Lf) (ht:u.L.length<=4294967296) (hrt:u.rng) (hP:e.allF Lf.rng) (he:e.wt<=4294967296):Pur cfg 119 [vE e,vS s,vLin u] (.tup [vE (outE (mEx (fun l=>substR l s u) e)),vI (errE (mEx (fun l=>substR l s u) e))]):=by
  induction e using Ex.ind with
  |_ e ih=>exact zJk e s u ht hrt ih hP he
end Go.W
end
section
set_option maxRecDepth 10000
namespace Go.W
open Go Go.Eng Go.Proofs Go.L41 Go.Br
attribute [local irreducible] AWP RWP TD finQ
theorem zMw:oneT Tryz.prog 105=true:=by kernel_rfl
theorem sz105:(Tryz.prog.info? 105).map (·.size)=some 1:=by kernel_rfl
end Go.W
end
section
set_option maxRecDepth 10000
namespace Go.W
open Go Go.Eng Go.Proofs Go.L41 Go.Br
attribute [local irreducible] AWP RWP TD finQ
theorem ok201:callOk Tryz.prog 201=true:=by kernel_rfl
theorem ref14_All_step (e:Ex) (ih:∀a,a∈e.Args->a.wt<=1000000->OwnR cfg 201 [vE a] 44 13 ((nodes a).map Ex.cells)) (he:e.wt<=1000000):
    OwnR cfg 201 [vE e] 44 13 ((nodes e).map Ex.cells):=by
 refine zT Tryz.func201 O Tryz.ntmps201 Tryz.results201 O ?_
 intro z hz
 obtain ⟨hL,hI,hA⟩:=e.parts he
 have hn:=nodes_wt e
 refine F O<|zX O O (qN O O) ?_
 rintro _ _ ⟨b1,rfl,rfl⟩
 refine qZ 13 O<|G<|F O<|zP kC (R 0 O) O<|zX O O (zCz O el42 zr44 O O O O) ?_
 rintro _ _ ⟨sv2,rfl,rfl⟩
 refine A O<|G<|zJ<|F O<|A O<|G<|zR<|zY ⟨[(4,.c _),(3,.c _),(1,.c _)],[_,_]⟩ (Weak.mk [true,true] ⟨H,H,H,T⟩ O)<|qK 2 1 O O (Nat×Value) (fun ⟨k,sv⟩=>[(4,vI k),(3,.c (.lit sv))]) (fun ⟨k,sv⟩=>[E.vec sv 44 13 ((e::nodesL (e.Args.take k)).map Ex.cells)]) (fun ⟨k,sv⟩=>k<=e.Args.length) (fun ⟨k,sv⟩=>e.Args.length-k) ⟨⟨0,_⟩,(by omega),Weak.mk [true,true] ⟨H,H,H,T⟩ (by exact zHo (by simp [nodesL,Ex.cells_eq];rfl))⟩ ?_
 rintro ⟨k,sv⟩ hk
 show AWP _ _ _ _ _ ⟨[(4,vI k),(3,.c (.lit sv))]++_,[E.vec sv 44 13 ((e::nodesL (e.Args.take k)).map Ex.cells)]++_⟩
 refine zJ<|F O<|A O<|zH O wN<|zM zBk (R 1 O) O<|qC O el42<|yD O<|G<|zD O (fun c1=>?_) (fun c1=>?_)
 ·try simp only [I] at c1
  obtain ⟨x,hx⟩:=qV e.Args k (by omega)
  have hn1:=nodes_take hx
  refine zK<|zJ<|zR<|zQ O<|A O<|zH O wN<|zM zBk (R 1 O) O<|A O<|qD O el42 (by omega) (zEm (by assumption))<|zP kC qA O<|qI O ok201 (OwnR.pur (ih x (qB hx) (by have:=Ex.arg_wt (qB hx);omega))) ⟨H,O,T⟩<|zX O O (qX 0 O el42 O O O (by simp only [List.length_map,List.length_append,List.length_cons,List.length_nil];omega) (by simp only [List.length_map,List.length_append,List.length_cons,List.length_nil];omega)) ?_
  rintro _ _ ⟨sv3,rfl,rfl⟩
  refine A O<|G<|zQ O<|A O<|qJ O ⟨by omega,by omega⟩<|A O<|G ?_
  refine ⟨⟨k+1,sv3⟩,(by omega),(by show e.Args.length-(k+1)<e.Args.length-k;omega),Weak.mk [true,true] ⟨H,H,H,T⟩ (by exact zHo (by rw [zTr hx,←List.cons_append,List.map_append]))⟩
 ·try simp only [I] at c1
  refine qQ<|F O<|A O<|A O<|G<|zY _ (Weak.mem [true,false] O)<|o<|X O ?_
  exact ⟨_,O,by rw [yO (by omega),←zAa];rfl⟩
theorem ref14_All (e:Ex) (he:e.wt<=1000000):OwnR cfg 201 [vE e] 44 13 ((nodes e).map Ex.cells):=by
  induction e using Ex.ind with
  |_ e ih=>exact ref14_All_step e ih he
end Go.W
end
