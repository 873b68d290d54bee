/-
  What functions compute.
  What functions compute.
  What functions compute.
  Conditions: none.
-/
import Derived.Test.YtlfjpejkoccibaaGreatDoorWalkX
import Derived.Test.YtlfjpejkoccibaaGreatDoorPlain2
import Derived.Test.YtlfjpejkoccibaaGreatDoorEngZ
import Derived.Test.YtlfjpejkoccibaaGreatDoorWV
set_option linter.unusedSimpArgs false
set_option linter.unusedVariables false
section
set_option maxRecDepth 10000
namespace Go.W
open Go Go.Eng Go.Proofs Go.L41 Go.Br
attribute [local irreducible] AWP RWP TD fH
theorem ok119:bA Tryz.prog 119=true:=by kernel_rfl
theorem ok155:bA Tryz.prog 155=true:=by kernel_rfl
theorem ok156:bA Tryz.prog 156=true:=by kernel_rfl
theorem ok185:bA Tryz.prog 185=true:=by kernel_rfl
theorem ok186:bA Tryz.prog 186=true:=by kernel_rfl
theorem pl44:gG Tryz.prog 44=some [(0,1),(1,1),(2,2),(4,5),(9,2),(11,1),(12,1)]:=by kernel_rfl
theorem pl72:gG Tryz.prog 72=some [(0,2),(2,1),(3,1)]:=by kernel_rfl
theorem sz34:(Tryz.prog.info? 34).map (·.size)=some 1:=by kernel_rfl
theorem sz42:(Tryz.prog.info? 42).map (·.size)=some 1:=by kernel_rfl
theorem sz70:(Tryz.prog.info? 70).map (·.size)=some 1:=by kernel_rfl
theorem ref14_sum (a b:Lf) (c:Int) (ha:a.L.length<=4294967296) (hb:b.L.length<=4294967296) (hra:a.rng) (hrb:b.rng) (hc:r64 c) (hne:∀m,m∈a.L->m.By≠0):
    Pur cfg 186 [bZ a,bZ b,vI c] (.tup [bZ (lT (a.K+b.K*c) (jW c (bG a.L b.L))).1,vI (lT (a.K+b.K*c) (jW c (bG a.L b.L))).2]):=by
 refine zT Tryz.func186 O Tryz.ntmps186 Tryz.results186 O ?_
 intro z hz
 have z0:r64 0:=by unfold r64;omega
 refine F O<|zV O O (qN O O) ?_
 rintro _ _ ⟨b1,rfl,rfl⟩
 refine zV O O (qN O O) ?_
 rintro _ _ ⟨b2,rfl,rfl⟩
 refine zV O O (qE [none,some 2] O v O) ?_
 rintro _ _ ⟨b3,rfl,rfl⟩
 refine A O<|H<|F O<|zG O zDt<|zJ U (R 2 O) O<|zG O zDt<|zJ U (R 1 O) O<|A O<|qI O ok204 (zFe a.K b.K c hra.1 hrb.1 hc) ⟨G,O,G,O,G,O,T⟩<|qP O<|qU O<|qU O<|A O<|A O<|H<|F O<|A O<|yP O v pl41<|zV O O (yT O v) ?_
 rintro _ _ ⟨b4,rfl,rfl⟩
 refine yI _ (kR 69 2)<|Y 1 sz41 O<|H<|F O<|A O<|A O<|H<|zK<|zR<|zY ⟨[(9,.c _),(11,.c _),(12,.c _),(2,.c _),(3,.c _),(4,.c _),(6,.c _),(10,.c _)],[_,_,_,_,_]⟩ (Weak.mk [true,true,true,true,true] ⟨G,G,G,G,G,G,G,G,T⟩ O)<|qK 3 2 O O (Nat×Nat×List Tr×Value) (fun ⟨i,n,d,sv⟩=>[(9,vB (okF (decide (r64 (a.K+b.K*c))) (jW c d))),(11,vI i),(12,vI n)]) (fun ⟨i,n,d,sv⟩=>[E.vec sv 69 2 ((lM (jW c d)).map Mono.cells),E.row b4 41 [cI (w64 (a.K+b.K*c)),.lit sv]]) (fun ⟨i,n,d,sv⟩=>i<=a.L.length/\n<=b.L.length/\bG a.L b.L=d++bG (a.L.drop i) (b.L.drop n)) (fun ⟨i,n,d,sv⟩=>(a.L.length-i)+(b.L.length-n)) ⟨⟨0,0,[],.slice none 0 0⟩,⟨by omega,by omega,O⟩,Weak.mk [true,true,true,true,true] ⟨G,G,G,G,G,G,G,G,T⟩ O⟩ ?_
 rintro ⟨i,n,d,sv⟩ ⟨hia,hnb,hm⟩
 show AWP _ _ _ _ _ ⟨[(9,vB (okF (decide (r64 (a.K+b.K*c))) (jW c d))),(11,vI i),(12,vI n)]++_,[E.vec sv 69 2 ((lM (jW c d)).map Mono.cells),E.row b4 41 [cI (w64 (a.K+b.K*c)),.lit sv]]++_⟩
 refine zK<|F O<|A O<|zG O kC<|zJ wN (R 4 O) O<|qC O P<|yD O<|A O<|rL0 O (fun g4_5=>zN O O) O<|rL0 O (fun g4_5=>zE O kC O) O<|B 36 O (fun g4_5=>zF O wN O (R 3 O) O) O<|B 37 O (fun g4_5=>yB O P O) O<|rLz [(35,_),(38,_)] O gv1 ⟨O,O,O,O,T⟩ (fun g4_5=>zBr O O O) O<|r_or O (fun h=>(lzf h))<|H<|zD O (fun c1=>?_) (fun c1=>?_)
 ·try simp only [I] at c1
  refine zM<|zR<|F O<|A O<|A O<|A O<|H<|zK<|zK<|qZ 27 mixed (by kernel_rfl) O O<|M O O (zN O O)<|M O O (zE O kC O)<|M O O (zF O wN O (R 3 O) O)<|M O O (yB O P O)<|M O O (yH O O O)<|M O O (zN O O)<|f [] O O O O gv1 T (fun g6_5=>zN O O) O<|f [] O O O O gv1 T (fun g6_5=>zE O kC O) O<|f [(48,_)] O O O O gv1 ⟨O,O,T⟩ (fun g6_5=>zF O wN O (R 4 O) O) O<|f [(49,_)] O O O O gv1 ⟨O,O,T⟩ (fun g6_5=>yB O P O) O<|f [(47,_),(50,_)] O O O O gv1 ⟨O,O,O,O,T⟩ (fun g6_5=>zBr O O O) O<|f [(51,_)] O O O O gv1 ⟨O,O,T⟩ (fun g6_5=>zN O O) O<|f [] O O O O N T (fun g6_11=>zE O kC O) O<|f [(53,_)] O O O O N ⟨O,O,T⟩ (fun g6_11=>zF O wN O (R 4 O) O) O<|f [] O O O O N T (fun g6_11=>zN O O) O<|f [(54,_),(55,_)] O O O O N ⟨O,O,O,O,T⟩ (fun g6_11=>qF O P O O (by simp only [Lz,cond_true,cond_false,Bool.and_eq_true,Bool.or_eq_true,Bool.not_eq_true',Bool.not_eq_false',Bool.or_eq_false_iff,Bool.and_eq_false_iff,decide_eq_true_eq,decide_eq_false_iff_not,Bool.not_eq_true,Bool.not_eq_false] at g6_11;omega) (Q (zDu (by simp only [Lz,cond_true,cond_false,Bool.and_eq_true,Bool.or_eq_true,Bool.not_eq_true',Bool.not_eq_false',Bool.or_eq_false_iff,Bool.and_eq_false_iff,decide_eq_true_eq,decide_eq_false_iff_not,Bool.not_eq_true,Bool.not_eq_false] at g6_11;omega)))) O<|f [(56,_)] O O O O N ⟨O,O,T⟩ (fun g6_11=>qL O zAn O) O<|f [(57,_)] O O O O N ⟨O,O,T⟩ (fun g6_11=>zF O one9 O qA O) O<|f [] O O O O N T (fun g6_11=>zE O kC O) O<|f [(59,_)] O O O O N ⟨O,O,T⟩ (fun g6_11=>zF O wN O (R 3 O) O) O<|f [] O O O O N T (fun g6_11=>zN O O) O<|f [(60,_),(61,_)] O O O O N ⟨O,O,O,O,T⟩ (fun g6_11=>qF O P O O (by simp only [Lz,cond_true,cond_false,Bool.and_eq_true,Bool.or_eq_true,Bool.not_eq_true',Bool.not_eq_false',Bool.or_eq_false_iff,Bool.and_eq_false_iff,decide_eq_true_eq,decide_eq_false_iff_not,Bool.not_eq_true,Bool.not_eq_false] at g6_11;omega) (Q (zDu (by simp only [Lz,cond_true,cond_false,Bool.and_eq_true,Bool.or_eq_true,Bool.not_eq_true',Bool.not_eq_false',Bool.or_eq_false_iff,Bool.and_eq_false_iff,decide_eq_true_eq,decide_eq_false_iff_not,Bool.not_eq_true,Bool.not_eq_false] at g6_11;omega)))) O<|f [(62,_)] O O O O N ⟨O,O,T⟩ (fun g6_11=>qL O zAn O) O<|f [(63,_)] O O O O N ⟨O,O,T⟩ (fun g6_11=>zF O one9 O qA O) O<|f [(58,_),(64,_)] O O O O N ⟨O,O,O,O,T⟩ (fun g6_11=>det_sleq O O O) O<|f [(52,_)] O O O O gv1 ⟨O,O,T⟩ (fun g6_5=>kZ O O O (fun h=>kD (by assumption) h) O) O<|M O O (zAu O O O O (fun h=>(lzf h)))<|kE<|H<|zD O (fun c2=>?_) (fun c2=>?_)
  ·have hi:=sum_t (a:=a.L) (b:=b.L) (i:=i) (n:=n) (by omega) hnb c2
   refine F O<|zG O kC<|zJ wN (R 4 O) O<|A O<|qD O P (by omega) (Q (zDu (by omega)))<|qO O zAn<|zJ one9 qA O<|A O<|H<|zQ O<|zG O kC<|zJ wN (R 4 O) O<|A O<|qD O P (by omega) (Q (zDu (by omega)))<|qO O zDn<|zJ U qA O<|A O<|H<|zK<|F O<|A O<|zG O kC<|zJ wN (R 3 O) O<|qC O P<|yD O<|A O<|rL0 O (fun g10_5=>zE O kC O) O<|B 92 O (fun g10_5=>zF O wN O (R 3 O) O) O<|rL0 O (fun g10_5=>zN O O) O<|rLz [(93,_),(94,_)] O gv1 ⟨O,O,O,O,T⟩ (fun g10_5=>qF O P O O (by simp only [Lz,cond_true,cond_false,Bool.and_eq_true,Bool.or_eq_true,Bool.not_eq_true',Bool.not_eq_false',Bool.or_eq_false_iff,Bool.and_eq_false_iff,decide_eq_true_eq,decide_eq_false_iff_not,Bool.not_eq_true,Bool.not_eq_false] at g10_5;omega) (Q (zDu (by simp only [Lz,cond_true,cond_false,Bool.and_eq_true,Bool.or_eq_true,Bool.not_eq_true',Bool.not_eq_false',Bool.or_eq_false_iff,Bool.and_eq_false_iff,decide_eq_true_eq,decide_eq_false_iff_not,Bool.not_eq_true,Bool.not_eq_false] at g10_5;omega)))) O<|B 95 O (fun g10_5=>qL O zAn O) O<|B 96 O (fun g10_5=>zF O one9 O qA O) O<|rL0 O (fun g10_5=>zN O O) O<|rLz [(97,_),(98,_)] O gv1 ⟨O,O,O,O,T⟩ (fun g10_5=>yR O O O) O<|yQ O (fun h=>h)<|H<|zD O (fun c3=>?_) (fun c3=>?_)
   ·obtain ⟨hn1,hL⟩:=sum_tt (a:=a.L) (b:=b.L) (i:=i) (n:=n) hi c3
    have hm1:bG a.L b.L=(d++[((atM a.L i).Name,(atM a.L i).By,(atM b.L n).By)])++bG (a.L.drop (i+1)) (b.L.drop (n+1)):=by rw [hm,hL];simp
    refine F O<|zG O kC<|zJ wN (R 3 O) O<|A O<|qD O P (by omega) (Q (zDu (by omega)))<|qO O zDn<|zJ U qA O<|A O<|H<|zQ O<|A O<|qJ O ⟨by omega,by omega⟩<|A O<|H<|zK<|F O<|A O<|yM O<|H<|zD O (fun c4=>?_) (fun c4=>?_)
    ·try simp only [I] at c4
     refine zQ O<|A O<|qJ O ⟨by omega,by omega⟩<|A O<|H<|F O<|A O<|A O<|A O<|qI O ok204 (zFe _ _ c (by first|exact z0|exact hra.2 _ (zRj hi)) (by first|exact z0|exact hrb.2 _ (zRj hn1)) hc) ⟨G,O,G,O,G,O,T⟩<|qP O<|qU O<|qU O<|A O<|A O<|H<|F O<|A O<|A O<|rL0 O (fun g16_1=>zN O O) O<|yQ O (fun h=>h)<|A O<|H<|F O<|A O<|yM O<|H<|zD O (fun c5=>?_) (fun c5=>?_)
     ·try simp only [I] at c5
      refine zQ O<|zG O kC<|zJ wN (R 1 O) O<|A O<|A O<|yP O zr69 pl69<|yV O P zr69<|zV O O (qV 0 O P O O O (by have:=zHp c d;have:=congrArg List.length hm1;have:=zCf a.L b.L;simp only [List.length_map,List.length_append,List.length_cons,List.length_nil] at *;omega) (by have:=zHp c d;have:=congrArg List.length hm1;have:=zCf a.L b.L;simp only [List.length_map,List.length_append,List.length_cons,List.length_nil] at *;omega)) ?_
      rintro _ _ ⟨sv6,rfl,rfl⟩
      refine zG O kC<|Y 1 sz39 O<|H ?_
      refine ⟨⟨i+1,n+1,d++[((atM a.L i).Name,(atM a.L i).By,(atM b.L n).By)],sv6⟩,⟨by omega,by omega,hm1⟩,(by dsimp only;omega),Weak.mk [true,true,true,true,true] ⟨VLe.of_eq (by rw [zCp,zGe];rfl),G,G,G,G,G,G,G,T⟩ (by exact zEc (by rw [zCp,zEg];rw [if_neg (show ¬w64 (trV ((atM a.L i).Name,(atM a.L i).By,(atM b.L n).By*c))=0 from c5),List.map_append];rfl))⟩
     ·try simp only [I] at c5
      refine zM ?_
      refine ⟨⟨i+1,n+1,d++[((atM a.L i).Name,(atM a.L i).By,(atM b.L n).By)],sv⟩,⟨by omega,by omega,hm1⟩,(by dsimp only;omega),Weak.mk [true,true,true,true,true] ⟨VLe.of_eq (by rw [zCp,zGe];rfl),G,G,G,G,G,G,G,T⟩ (by exact zEc (by rw [zCp,zEg];rw [if_pos (show w64 (trV ((atM a.L i).Name,(atM a.L i).By,(atM b.L n).By*c))=0 from c5),List.append_nil]))⟩
    ·try simp only [I] at c4
     exact absurd c4 (hne _ (zRj hi))
   ·have hL:=sum_tf (a:=a.L) (b:=b.L) (i:=i) (n:=n) hi hnb c2 c3
    have hm1:bG a.L b.L=(d++[((atM a.L i).Name,(atM a.L i).By,0)])++bG (a.L.drop (i+1)) (b.L.drop n):=by rw [hm,hL];simp
    refine zM<|zK<|F O<|A O<|yM O<|H<|zD O (fun c4=>?_) (fun c4=>?_)
    ·try simp only [I] at c4
     refine zQ O<|A O<|qJ O ⟨by omega,by omega⟩<|A O<|H<|F O<|A O<|A O<|A O<|qI O ok204 (zFe _ _ c (by first|exact z0|exact hra.2 _ (zRj hi)) (by first|exact z0|exact hrb.2 _ (zRj hn1)) hc) ⟨G,O,G,O,G,O,T⟩<|qP O<|qU O<|qU O<|A O<|A O<|H<|F O<|A O<|A O<|rL0 O (fun g16_1=>zN O O) O<|yQ O (fun h=>h)<|A O<|H<|F O<|A O<|yM O<|H<|zD O (fun c5=>?_) (fun c5=>?_)
     ·try simp only [I] at c5
      refine zQ O<|zG O kC<|zJ wN (R 1 O) O<|A O<|A O<|yP O zr69 pl69<|yV O P zr69<|zV O O (qV 0 O P O O O (by have:=zHp c d;have:=congrArg List.length hm1;have:=zCf a.L b.L;simp only [List.length_map,List.length_append,List.length_cons,List.length_nil] at *;omega) (by have:=zHp c d;have:=congrArg List.length hm1;have:=zCf a.L b.L;simp only [List.length_map,List.length_append,List.length_cons,List.length_nil] at *;omega)) ?_
      rintro _ _ ⟨sv7,rfl,rfl⟩
      refine zG O kC<|Y 1 sz39 O<|H ?_
      refine ⟨⟨i+1,n,d++[((atM a.L i).Name,(atM a.L i).By,0)],sv7⟩,⟨by omega,by omega,hm1⟩,(by dsimp only;omega),Weak.mk [true,true,true,true,true] ⟨VLe.of_eq (by rw [zCp,zGe];rfl),G,G,G,G,G,G,G,T⟩ (by exact zEc (by rw [zCp,zEg];rw [if_neg (show ¬w64 (trV ((atM a.L i).Name,(atM a.L i).By,0*c))=0 from c5),List.map_append];rfl))⟩
     ·try simp only [I] at c5
      refine zM ?_
      refine ⟨⟨i+1,n,d++[((atM a.L i).Name,(atM a.L i).By,0)],sv⟩,⟨by omega,by omega,hm1⟩,(by dsimp only;omega),Weak.mk [true,true,true,true,true] ⟨VLe.of_eq (by rw [zCp,zGe];rfl),G,G,G,G,G,G,G,T⟩ (by exact zEc (by rw [zCp,zEg];rw [if_pos (show w64 (trV ((atM a.L i).Name,(atM a.L i).By,0*c))=0 from c5),List.append_nil]))⟩
    ·try simp only [I] at c4
     exact absurd c4 (hne _ (zRj hi))
  ·have hn1:=sum_f (a:=a.L) (b:=b.L) (i:=i) (n:=n) hnb c2
   obtain ⟨hL,hs3⟩:=sum_fx (a:=a.L) (b:=b.L) (i:=i) (n:=n) hn1 c2
   refine zQ O<|zG O kC<|zJ wN (R 3 O) O<|A O<|qD O P (by omega) (Q (zDu (by omega)))<|qO O zAn<|zJ one9 qA O<|A O<|H<|zK<|F O<|A O<|zG O kC<|zJ wN (R 3 O) O<|qC O P<|yD O<|A O<|rL0 O (fun g10_5=>zE O kC O) O<|B 92 O (fun g10_5=>zF O wN O (R 3 O) O) O<|rL0 O (fun g10_5=>zN O O) O<|rLz [(93,_),(94,_)] O gv1 ⟨O,O,O,O,T⟩ (fun g10_5=>qF O P O O (by simp only [Lz,cond_true,cond_false,Bool.and_eq_true,Bool.or_eq_true,Bool.not_eq_true',Bool.not_eq_false',Bool.or_eq_false_iff,Bool.and_eq_false_iff,decide_eq_true_eq,decide_eq_false_iff_not,Bool.not_eq_true,Bool.not_eq_false] at g10_5;omega) (Q (zDu (by simp only [Lz,cond_true,cond_false,Bool.and_eq_true,Bool.or_eq_true,Bool.not_eq_true',Bool.not_eq_false',Bool.or_eq_false_iff,Bool.and_eq_false_iff,decide_eq_true_eq,decide_eq_false_iff_not,Bool.not_eq_true,Bool.not_eq_false] at g10_5;omega)))) O<|B 95 O (fun g10_5=>qL O zAn O) O<|B 96 O (fun g10_5=>zF O one9 O qA O) O<|rL0 O (fun g10_5=>zN O O) O<|rLz [(97,_),(98,_)] O gv1 ⟨O,O,O,O,T⟩ (fun g10_5=>yR O O O) O<|yQ O (fun h=>h)<|H<|zD O (fun c3=>?_) (fun c3=>?_)
   ·have hm1:bG a.L b.L=(d++[((atM b.L n).Name,0,(atM b.L n).By)])++bG (a.L.drop i) (b.L.drop (n+1)):=by rw [hm,hL];simp
    refine F O<|zG O kC<|zJ wN (R 3 O) O<|A O<|qD O P (by omega) (Q (zDu (by omega)))<|qO O zDn<|zJ U qA O<|A O<|H<|zQ O<|A O<|qJ O ⟨by omega,by omega⟩<|A O<|H<|zK<|F O<|A O<|yM O<|H<|zD O (fun c4=>?_) (fun c4=>?_)
    ·try simp only [I] at c4
     exact absurd T c4
    ·try simp only [I] at c4
     refine zM<|F O<|A O<|A O<|A O<|qI O ok204 (zFe _ _ c (by first|exact z0|exact hra.2 _ (zRj hi)) (by first|exact z0|exact hrb.2 _ (zRj hn1)) hc) ⟨G,O,G,O,G,O,T⟩<|qP O<|qU O<|qU O<|A O<|A O<|H<|F O<|A O<|A O<|rL0 O (fun g16_1=>zN O O) O<|yQ O (fun h=>h)<|A O<|H<|F O<|A O<|yM O<|H<|zD O (fun c5=>?_) (fun c5=>?_)
     ·try simp only [I] at c5
      refine zQ O<|zG O kC<|zJ wN (R 1 O) O<|A O<|A O<|yP O zr69 pl69<|yV O P zr69<|zV O O (qV 0 O P O O O (by have:=zHp c d;have:=congrArg List.length hm1;have:=zCf a.L b.L;simp only [List.length_map,List.length_append,List.length_cons,List.length_nil] at *;omega) (by have:=zHp c d;have:=congrArg List.length hm1;have:=zCf a.L b.L;simp only [List.length_map,List.length_append,List.length_cons,List.length_nil] at *;omega)) ?_
      rintro _ _ ⟨sv8,rfl,rfl⟩
      refine zG O kC<|Y 1 sz39 O<|H ?_
      refine ⟨⟨i,n+1,d++[((atM b.L n).Name,0,(atM b.L n).By)],sv8⟩,⟨by omega,by omega,hm1⟩,(by dsimp only;omega),Weak.mk [true,true,true,true,true] ⟨VLe.of_eq (by rw [zCp,zGe];rfl),G,G,G,G,G,G,G,T⟩ (by exact zEc (by rw [zCp,zEg];rw [if_neg (show ¬w64 (trV ((atM b.L n).Name,0,(atM b.L n).By*c))=0 from c5),List.map_append];rfl))⟩
     ·try simp only [I] at c5
      refine zM ?_
      refine ⟨⟨i,n+1,d++[((atM b.L n).Name,0,(atM b.L n).By)],sv⟩,⟨by omega,by omega,hm1⟩,(by dsimp only;omega),Weak.mk [true,true,true,true,true] ⟨VLe.of_eq (by rw [zCp,zGe];rfl),G,G,G,G,G,G,G,T⟩ (by exact zEc (by rw [zCp,zEg];rw [if_pos (show w64 (trV ((atM b.L n).Name,0,(atM b.L n).By*c))=0 from c5),List.append_nil]))⟩
   ·exact absurd (hs3.symm.trans c3) (by decide)
 ·try simp only [I] at c1
  refine qQ<|zK<|F O<|A O<|kQ O<|H<|zD O (fun c6=>?_) (fun c6=>?_)
  ·try simp only [I] at c6
   refine F O<|qT [none,some 2] O v pl41<|Y 2 sz41 O<|A O<|H<|o<|w (y yX O (R 2 O) O) (J O) ?_
   rw [hm,sum_end (by omega) (by omega),List.append_nil,add_no' c6];rfl
  ·try simp only [I] at c6
   refine zM<|F O<|zP yX (R 1 O) O<|Y 2 sz41 O<|A O<|H<|zY _ (yK 0 O (regs':=[(137,.agg [_,_])]) (μ':=[_,_,_,_]) ⟨FLe.agg ⟨.inl O,.inr ⟨O,O⟩,T⟩,T⟩ ⟨EFle.row (ds:=[_,_]) ⟨.inl O,.inr ⟨O,O⟩,T⟩,EFle.row (ds:=[_,_]) ⟨.inl O,.inr ⟨O,O⟩,T⟩,EFle.refl _,EFle.refl _,T⟩)<|o<|w (y yX O (R 1 O) O) (J O) ?_
   rw [hm,sum_end (by omega) (by omega),List.append_nil,add_ok' c6];rfl
theorem zCt (l:Lf) (s:ByteArray) (u:Lf) (hl:l.L.length<=4294967296) (ht:u.L.length<=4294967296) (hrl:l.rng) (hrt:u.rng):
    Pur cfg 155 [bZ l,vS s,bZ u] (.tup [bZ (bI l s u).1,vI (bI l s u).2]):=by
 refine zT Tryz.func155 O Tryz.ntmps155 Tryz.results155 O ?_
 intro z hz
 obtain ⟨hr1,hr2⟩:=rest_rng hrl s
 refine F O<|zV O O (qN O O) ?_
 rintro _ _ ⟨b1,rfl,rfl⟩
 refine zV O O (qN O O) ?_
 rintro _ _ ⟨b2,rfl,rfl⟩
 refine zV O O (qE [none,some 2] O v O) ?_
 rintro _ _ ⟨b3,rfl,rfl⟩
 refine A O<|H<|zK<|F O<|zP yX (R 2 O) O<|qI O ok183 (zDr l (by omega)) ⟨G,O,T⟩<|kQ O<|A O<|rL0 O (fun g1_3=>qB O yX O (R 1 O) O) O<|B 15 O (fun g1_3=>qM O ok183 (zDr u (by omega)) ⟨G,O,T⟩) O<|B 16 O (fun g1_3=>kW O O) O<|r_or O (fun h=>(lzf h))<|A O<|rL0 O (fun g1_8=>zN O O) O<|B 20 O (fun g1_8=>qM O ok60 (zEq s) ⟨G,O,T⟩) O<|B 21 O (fun g1_8=>kW O O) O<|r_or O (fun h=>(lzf h))<|H<|zD O (fun c1=>?_) (fun c1=>?_)
 ·try simp only [I] at c1
  have hS:bI l s u=(zL,1):=substR_bad c1
  refine F O<|qT [none,some 2] O v pl41<|Y 0 sz41 O<|A O<|H<|o<|w (y yX O (R 0 O) O) (J O) ?_
  rw [hS];rfl
 ·try simp only [I] at c1
  obtain ⟨hl1,hl2,hl3⟩:=substR_c1 c1
  refine zM<|F O<|A O<|H<|F O<|zG O zDt<|zJ U (R 2 O) O<|yP O v pl41<|zV O O (yT O v) ?_
  rintro _ _ ⟨b4,rfl,rfl⟩
  refine yI _ (kR 69 2)<|Y 1 sz41 O<|H<|zK<|F O<|A O<|H<|zR<|zY ⟨[(10,.c _),(8,.c _),(1,.c _),(3,.c _),(5,.c _),(6,.c _),(9,.c _)],[_,_,_,_,_]⟩ (Weak.mk [true,true,true,true,true] ⟨G,G,G,G,G,G,G,T⟩ O)<|qK 2 2 O O (Nat×Value) (fun ⟨k,sv⟩=>[(10,vI k),(8,vI (bS (l.L.take k) s))]) (fun ⟨k,sv⟩=>[E.vec sv 69 2 (((l.L.take k).filter (fun m=> !decide (m.Name=s))).map Mono.cells),E.row b4 41 [cI l.K,.lit sv]]) (fun ⟨k,sv⟩=>k<=l.L.length) (fun ⟨k,sv⟩=>l.L.length-k) ⟨⟨0,_⟩,(by omega),Weak.mk [true,true,true,true,true] ⟨G,VLe.of_eq (O),G,G,G,G,G,T⟩ O⟩ ?_
  rintro ⟨k,sv⟩ hk
  show AWP _ _ _ _ _ ⟨[(10,vI k),(8,vI (bS (l.L.take k) s))]++_,[E.vec sv 69 2 (((l.L.take k).filter (fun m=> !decide (m.Name=s))).map Mono.cells),E.row b4 41 [cI l.K,.lit sv]]++_⟩
  refine zK<|F O<|A O<|zG O kC<|zJ wN (R 4 O) O<|qC O P<|yD O<|H<|zD O (fun c2=>?_) (fun c2=>?_)
  ·try simp only [I] at c2
   obtain ⟨x,hx⟩:=qY l.L k (by omega)
   refine zM<|zK<|zR<|F O<|zG O kC<|zJ wN (R 4 O) O<|A O<|qD O P (by omega) (Q (by assumption))<|qO O zAn<|zJ one9 qA O<|A O<|zU O (yR O O O)<|H<|zD O (fun c3=>?_) (fun c3=>?_)
   ·try simp only [I] at c3
    refine zQ O<|zG O kC<|zJ wN (R 4 O) O<|A O<|qD O P (by omega) (Q (by assumption))<|qO O zDn<|zJ U qA O<|A O<|H<|zQ O<|A O<|qJ O ⟨by omega,by omega⟩<|A O<|H ?_
    refine ⟨⟨k+1,_⟩,(by omega),(by show l.L.length-(k+1)<l.L.length-k;omega),Weak.mk [true,true,true,true,true] ⟨G,VLe.of_eq (by rw [zIi hx];first|(rw [if_pos c3];rfl)|(rw [if_neg c3];rfl)),G,G,G,G,G,T⟩ (by exact zEc (by rw [zNu hx];first|(rw [if_pos c3,List.append_nil])|(rw [if_neg c3,List.map_append];rfl)))⟩
   ·try simp only [I] at c3
    refine qZ 8 mixed (by kernel_rfl) O O<|M O O (zE O kC O)<|M O O (zF O wN O (R 1 O) O)<|M O O (zE O kC O)<|M O O (zF O wN O (R 4 O) O)<|M O O (zN O O)<|M O O (qF O P O O (by omega) (Q (by assumption)))<|M O O (qB O zPk O qA O)<|M O O (wQ O P zr69 O O O O)<|kE<|zV O O (qV 0 O P O O O (by have:=List.length_filter_le (fun m:Mono=> !decide (m.Name=s)) (l.L.take k);simp only [List.length_map,List.length_append,List.length_cons,List.length_nil,List.length_take] at *;omega) (by have:=List.length_filter_le (fun m:Mono=> !decide (m.Name=s)) (l.L.take k);simp only [List.length_map,List.length_append,List.length_cons,List.length_nil,List.length_take] at *;omega)) ?_
    rintro _ _ ⟨sv6,rfl,rfl⟩
    refine zG O kC<|Y 1 sz39 O<|H<|zQ O<|A O<|qJ O ⟨by omega,by omega⟩<|A O<|H ?_
    refine ⟨⟨k+1,_⟩,(by omega),(by show l.L.length-(k+1)<l.L.length-k;omega),Weak.mk [true,true,true,true,true] ⟨G,VLe.of_eq (by rw [zIi hx];first|(rw [if_pos c3];rfl)|(rw [if_neg c3];rfl)),G,G,G,G,G,T⟩ (by exact zEc (by rw [zNu hx];first|(rw [if_pos c3,List.append_nil])|(rw [if_neg c3,List.map_append];rfl)))⟩
  ·try simp only [I] at c2
   rw [yU (l:=l.L) (k:=k) (by omega)]
   refine qQ<|zK<|F O<|A O<|yF O<|H<|zD O (fun c4=>?_) (fun c4=>?_)
   ·try simp only [I] at c4
    refine F O<|zP yX (R 4 O) O<|Y 2 sz41 O<|A O<|H<|o<|w (y yX O (R 2 O) O) (J O) ?_
    rw [substR_same ⟨hl1,hl2,hl3⟩ c4];rfl
   ·try simp only [I] at c4
    refine zM<|zK<|F O<|zP yX (R 3 O) O<|A O<|qI O ok185 (ref14_scales u (bS l.L s) ht hrt (last_rng hrl s)) ⟨G,O,G,O,T⟩<|kQ O<|H<|zD O (fun c5=>?_) (fun c5=>?_)
    ·try simp only [I] at c5
     refine F O<|qT [none,some 2] O v pl41<|Y 2 sz41 O<|A O<|H<|o<|w (y yX O (R 2 O) O) (J O) ?_
     rw [substR_no ⟨hl1,hl2,hl3⟩ c4 c5];rfl
    ·try simp only [I] at c5
     refine zY _ (yK 0 O (regs':=[]) (μ':=[_,_,_,_]) T ⟨EFle.row (ds:=[_,_]) ⟨.inl O,.inr ⟨O,O⟩,T⟩,EFle.refl _,EFle.refl _,EFle.refl _,T⟩)<|zM<|F O<|zP yX (R 0 O) O<|zP yX (R 2 O) O<|A O<|qI O ok186 (ref14_sum (lQ l s) u (bS l.L s) (by omega) ht hr1 hrt (last_rng hrl s) (fun m hm=>(zHa hl1 m (List.mem_filter.1 hm).1).1)) ⟨G,O,G,O,G,O,T⟩<|yJ O<|qU O<|Y 1 sz41 O<|A O<|H<|o<|w (y yX O (R 1 O) O) (J O) ?_
     rw [substR_yes ⟨hl1,hl2,hl3⟩ c4 c5];rfl
theorem zJz (x:Ix) (s:ByteArray) (u:Lf) (ht:u.L.length<=4294967296) (hrt:u.rng) (hx:x.wt<=4294967296) (hr1:x.Lin.rng) (hr2:∀l,l∈x.At->l.rng):
    Pur cfg 156 [jE x,vS s,bZ u] (.tup [jE (xJ (mIx (fun l=>bI l s u) x)),vI (dZ (mIx (fun l=>bI l s u) x))]):=by
 refine zT Tryz.func156 O Tryz.ntmps156 Tryz.results156 O ?_
 intro z hz
 have hxw:=hx
 unfold Ix.wt at hxw
 refine F O<|zV O O (qN O O) ?_
 rintro _ _ ⟨b1,rfl,rfl⟩
 refine zV O O (qN O O) ?_
 rintro _ _ ⟨b2,rfl,rfl⟩
 refine zV O O (qE [none,some 2,none,some 2] O zr72 O) ?_
 rintro _ _ ⟨b3,rfl,rfl⟩
 refine A O<|H<|F O<|zG O zEp<|zP yX (R 2 O) O<|A O<|zP yX (R 1 O) O<|qI O ok155 (zCt x.Lin s u (by omega) ht hr1 hrt) ⟨G,O,G,O,G,O,T⟩<|qP O<|yJ O<|qU O<|zV O O (qE [none,some 2] O v O) ?_
 rintro _ _ ⟨b4,rfl,rfl⟩
 refine Y 0 sz41 O<|A O<|H<|zK<|F O<|A O<|yM O<|H<|zD O (fun c1=>?_) (fun c1=>?_)
 ·try simp only [I] at c1
  refine F O<|qT [none,some 2,none,some 2] O zr72 pl72<|A O<|Y 1 sz72 O<|A O<|H<|o<|w (y zIn O (R 1 O) O) (J O) ?_
  rw [mIx_e1 c1];rfl
 ·try simp only [I] at c1
  refine zM<|F O<|zP yX (R 0 O) O<|zG O zEw<|zJ one9 (R 3 O) O<|yP O zr72 pl72<|zV O O (yT O zr72) ?_
  rintro _ _ ⟨b5,rfl,rfl⟩
  refine yI _ (kR 69 2)<|yI _ (kR 41 2)<|Y 2 sz72 O<|H<|zK<|F O<|A O<|H<|zR<|zY ⟨[(11,.c _),(1,.c _),(3,.c _),(5,.c _),(6,.c _),(10,.c _)],[_,_,_,_,_]⟩ (Weak.mk [true,false,true,false,true,true,true] ⟨G,G,G,G,G,G,T⟩ O)<|qK 1 2 O O (Nat×List Lf×Value) (fun ⟨k,outs,sv⟩=>[(11,vI k)]) (fun ⟨k,outs,sv⟩=>[E.vec sv 41 2 (outs.map Lf.cells),E.row b5 72 [cI (bI x.Lin s u).1.K,.sl 2 ((bI x.Lin s u).1.L.map Mono.cells),cS x.From,.lit sv]]) (fun ⟨k,outs,sv⟩=>k<=x.At.length/\(outs.length=k)/\(dU (fun l=>bI l s u) x.At=dE outs (dU (fun l=>bI l s u) (x.At.drop k)))) (fun ⟨k,outs,sv⟩=>x.At.length-k) ⟨⟨0,[],.slice none 0 0⟩,⟨by omega,O,(zBz _).symm⟩,Weak.mk [true,true,true,true,true] ⟨G,G,G,G,G,G,T⟩ O⟩ ?_
  rintro ⟨k,outs,sv⟩ ⟨hk,ho,hp⟩
  show AWP _ _ _ _ _ ⟨[(11,vI k)]++_,[E.vec sv 41 2 (outs.map Lf.cells),E.row b5 72 [cI (bI x.Lin s u).1.K,.sl 2 ((bI x.Lin s u).1.L.map Mono.cells),cS x.From,.lit sv]]++_⟩
  refine zK<|F O<|A O<|zG O zAr<|zJ zDw (R 4 O) O<|qC O el70<|yD O<|H<|zD O (fun c2=>?_) (fun c2=>?_)
  ·try simp only [I] at c2
   obtain ⟨l,hl⟩:=qY x.At k (by omega)
   refine zM<|zK<|zR<|zK<|kL 13 1 [⟨0,.q []⟩,⟨1,.q [5]⟩,⟨2,.q []⟩,⟨3,.q []⟩,⟨4,.q []⟩,⟨5,.q []⟩,⟨6,.q [4]⟩,⟨7,.q []⟩,⟨8,.q []⟩,⟨9,.q []⟩,⟨10,.q []⟩,⟨11,.e 0 []⟩,⟨12,.e 0 []⟩] mixed (by kernel_rfl) (by kernel_rfl) O O O<|p O<|p O<|p O<|p O<|p O<|p O<|p O<|p O<|p O<|p O<|p O<|p O<|p O<|zBo<|t O (by decide) O O (zE O zAr O)<|t O (by decide) O O (zF O zDw O (R 0 O) O)<|t O (by decide) O O (zN O O)<|t O (by decide) O O (qF O el70 O O (by omega) (Q (by assumption)))<|t O (by decide) O O (qB O yX O qA O)<|t O (by decide) O O (zN O O)<|t O (by decide) O O (qB O yX O (R 0 O) O)<|t O (by decide) O O (qM O ok155 (zCt l s u (by have:=zDc (zZ hl);omega) ht (hr2 l (zZ hl)) hrt) ⟨G,O,G,O,G,O,T⟩)<|t O (by decide) O O (kI O O)<|t O (by decide) O O (wH O O O)<|t O (by decide) O O (wG O O O)<|zHr O O (by decide) O O (qE [none,some 2] O v O) ?_
   rintro _ _ ⟨b8,rfl,rfl⟩
   refine ⟨_,O,?_⟩
   refine zFm O O (by decide) O O (kB O sz41 O O O (zFl 0 O O)) ?_
   rintro _ _ ⟨rfl,rfl⟩
   refine ⟨_,O,?_⟩
   refine zBl O<|A O<|H<|zK<|F O<|A O<|yM O<|H<|zD O (fun c3=>?_) (fun c3=>?_)
   ·try simp only [I] at c3
    refine F O<|qT [none,some 2,none,some 2] O zr72 pl72<|A O<|Y 3 sz72 O<|A O<|H<|o<|w (y zIn O (R 3 O) O) (J O) ?_
    rw [mIx_e2 c1 (mLins_no hl hp c3)];rfl
   ·try simp only [I] at c3
    refine zM<|zQ O<|zG O zAr<|zJ zDw (R 2 O) O<|zP yX (R 0 O) O<|yV O el70 v<|zV O O (qV 1 O el70 O O O (by simp only [List.length_map,List.length_append,List.length_cons,List.length_nil];omega) (by simp only [List.length_map,List.length_append,List.length_cons,List.length_nil];omega)) ?_
    rintro _ _ ⟨sv9,rfl,rfl⟩
    refine zG O zAr<|Y 2 sz70 O<|H<|zQ O<|A O<|qJ O ⟨by omega,by omega⟩<|A O<|H ?_
    refine ⟨⟨k+1,outs++[(bI l s u).1],sv9⟩,⟨by omega,by simp;omega,mLins_next hl hp c3⟩,(by show x.At.length-(k+1)<x.At.length-k;omega),Weak.mk [false,true,true,true,true,true] ⟨G,G,G,G,G,G,T⟩ (by exact zSg (by rw [List.map_append];rfl))⟩
  ·try simp only [I] at c2
   have hml:=mLins_end hp (by omega)
   refine zY _ (yK 0 O (regs':=[]) (μ':=[_,_,_,_]) T ⟨EFle.row (ds:=[_,_,_,_]) ⟨.inl O,.inl O,.inl O,.inr ⟨O,O⟩,T⟩,EFle.refl _,EFle.refl _,EFle.refl _,T⟩)<|qQ<|F O<|zP zIn (R 0 O) O<|Y 1 sz72 O<|A O<|H<|o<|w (y zIn O (R 1 O) O) (J O) ?_
   rw [mIx_ok c1 hml];rfl
theorem zKa (e:Ex) (s:ByteArray) (u:Lf) (ht:u.L.length<=4294967296) (hrt:u.rng) (ih:∀a,a∈e.Args->a.allF Lf.rng->a.wt<=4294967296->Pur cfg 119 [vE a,vS s,bZ u] (.tup [vE (nD (mEx (fun l=>bI l s u) a)),vI (dZ (mEx (fun l=>bI l s u) a))])) (hP:e.allF Lf.rng) (he:e.wt<=4294967296):
    Pur cfg 119 [vE e,vS s,bZ u] (.tup [vE (nD (mEx (fun l=>bI l s u) e)),vI (dZ (mEx (fun l=>bI l s u) e))]):=by
 refine zT Tryz.func119 O Tryz.ntmps119 Tryz.results119 O ?_
 intro z hz
 obtain ⟨hL,hI,hA⟩:=e.parts he
 have hew:=Ex.wt_eq e
 refine F O<|zV O O (qN O O) ?_
 rintro _ _ ⟨b1,rfl,rfl⟩
 refine zV O O (qN O O) ?_
 rintro _ _ ⟨b2,rfl,rfl⟩
 refine zV O O (qE [none,none,none,none,none,none,none,none,none,none,some 2,some 4,some 13] O zr44 O) ?_
 rintro _ _ ⟨b3,rfl,rfl⟩
 refine A O<|H<|F O<|zG O wF<|zJ one3 (R 2 O) O<|zG O zFu<|zJ one9 (R 2 O) O<|zG O zKn<|zP agg36 (R 2 O) O<|zG O zFt<|zP yN (R 2 O) O<|yP O zr44 pl44<|zV O O (yT O zr44) ?_
 rintro _ _ ⟨b4,rfl,rfl⟩
 refine yI _ (kR 69 2)<|yI _ (kR 72 4)<|yI _ (kR 44 13)<|Y 3 sz44 O<|H<|F O<|zG O zDe<|zP yX (R 6 O) O<|A O<|zP yX (R 5 O) O<|qI O ok155 (zCt e.Lin s u hL ht (Ex.allF_lin hP) hrt) ⟨G,O,G,O,G,O,T⟩<|qP O<|yJ O<|qU O<|zV O O (qE [none,some 2] O v O) ?_
 rintro _ _ ⟨b8,rfl,rfl⟩
 refine Y 0 sz41 O<|A O<|H<|zK<|F O<|A O<|yM O<|H<|zD O (fun c1=>?_) (fun c1=>?_)
 ·try simp only [I] at c1
  refine F O<|qT [none,none,none,none,none,none,none,none,none,none,some 2,some 4,some 13] O zr44 pl44<|A O<|Y 5 sz44 O<|A O<|H<|o<|w (y kA O (R 5 O) O) (J O) ?_
  rw [mEx_e1 c1];rfl
 ·try simp only [I] at c1
  refine zM<|F O<|zP yX (R 0 O) O<|zG O zDe<|Y 4 sz41 O<|H<|zK<|F O<|A O<|H<|zR<|zY ⟨[(11,.c _),(1,.c _),(3,.c _),(5,.c _),(6,.c _),(8,.c _)],[_,_,_,_,_,_]⟩ (Weak.mk [false,true,true,false,true,true,true,true] ⟨G,G,G,G,G,G,T⟩ O)<|qK 1 3 O O (Nat×List Ix×Value) (fun ⟨k,outs,sv⟩=>[(11,vI k)]) (fun ⟨k,outs,sv⟩=>[E.vec (.slice none 0 0) 44 13 [],E.vec sv 72 4 (outs.map Ix.cells),E.row b4 44 [cI e.Op,cS e.Name,cI e.Val.N,cI e.Val.D,cI e.Ty.Kind,cI e.Ty.Bits,cI e.Ty.Frac,cI e.Ty.Round,cI e.Ty.Over,cI (bI e.Lin s u).1.K,.sl 2 ((bI e.Lin s u).1.L.map Mono.cells),.lit sv,.lit (.slice none 0 0)]]) (fun ⟨k,outs,sv⟩=>k<=e.Idx.length/\(outs.length=k)/\(dL (fun l=>bI l s u) e.Idx=dE outs (dL (fun l=>bI l s u) (e.Idx.drop k)))) (fun ⟨k,outs,sv⟩=>e.Idx.length-k) ⟨⟨0,[],.slice none 0 0⟩,⟨by omega,O,(zBz _).symm⟩,Weak.mk [true,true,true,true,true,true] ⟨G,G,G,G,G,G,T⟩ O⟩ ?_
  rintro ⟨k,outs,sv⟩ ⟨hk,ho,hp⟩
  show AWP _ _ _ _ _ ⟨[(11,vI k)]++_,[E.vec (.slice none 0 0) 44 13 [],E.vec sv 72 4 (outs.map Ix.cells),E.row b4 44 [cI e.Op,cS e.Name,cI e.Val.N,cI e.Val.D,cI e.Ty.Kind,cI e.Ty.Bits,cI e.Ty.Frac,cI e.Ty.Round,cI e.Ty.Over,cI (bI e.Lin s u).1.K,.sl 2 ((bI e.Lin s u).1.L.map Mono.cells),.lit sv,.lit (.slice none 0 0)]]++_⟩
  refine zK<|F O<|A O<|zG O kX<|zJ wO (R 5 O) O<|qC O d<|yD O<|H<|zD O (fun c2=>?_) (fun c2=>?_)
  ·try simp only [I] at c2
   obtain ⟨x,hx⟩:=qY e.Idx k (by omega)
   refine zM<|zK<|zR<|zK<|kL 13 1 [⟨0,.q []⟩,⟨1,.q [6]⟩,⟨2,.q []⟩,⟨3,.q []⟩,⟨4,.q []⟩,⟨5,.q []⟩,⟨6,.q [5]⟩,⟨7,.q []⟩,⟨8,.q []⟩,⟨9,.q []⟩,⟨10,.q []⟩,⟨11,.e 0 []⟩,⟨12,.e 0 []⟩] mixed (by kernel_rfl) (by kernel_rfl) O O O<|p O<|p O<|p O<|p O<|p O<|p O<|p O<|p O<|p O<|p O<|p O<|p O<|p O<|zBo<|t O (by decide) O O (zE O kX O)<|t O (by decide) O O (zF O wO O (R 0 O) O)<|t O (by decide) O O (zN O O)<|t O (by decide) O O (qF O d O O (by omega) (Q (by assumption)))<|t O (by decide) O O (qB O zIn O qA O)<|t O (by decide) O O (zN O O)<|t O (by decide) O O (qB O yX O (R 0 O) O)<|t O (by decide) O O (qM O ok156 (zJz x s u ht hrt (by have:=zAq (zZ hx);omega) (Ex.allF_ix hP (zZ hx)) (fun l hl=>Ex.allF_at hP (zZ hx) hl)) ⟨G,O,G,O,G,O,T⟩)<|t O (by decide) O O (kI O O)<|t O (by decide) O O (wH O O O)<|t O (by decide) O O (wG O O O)<|zHr O O (by decide) O O (qE [none,some 2,none,some 2] O zr72 O) ?_
   rintro _ _ ⟨b9,rfl,rfl⟩
   refine ⟨_,O,?_⟩
   refine zFm O O (by decide) O O (kB O sz72 O O O (zFl 0 O O)) ?_
   rintro _ _ ⟨rfl,rfl⟩
   refine ⟨_,O,?_⟩
   refine zBl O<|A O<|H<|zK<|F O<|A O<|yM O<|H<|zD O (fun c3=>?_) (fun c3=>?_)
   ·try simp only [I] at c3
    refine F O<|qT [none,none,none,none,none,none,none,none,none,none,some 2,some 4,some 13] O zr44 pl44<|A O<|Y 4 sz44 O<|A O<|H<|o<|w (y kA O (R 4 O) O) (J O) ?_
    rw [mEx_e2 c1 (mIxs_no' hx hp c3)];rfl
   ·try simp only [I] at c3
    refine zM<|zQ O<|zG O kX<|zJ wO (R 3 O) O<|zP zIn (R 0 O) O<|yV O d zr72<|zV O O (qV 2 O d O O O (by simp only [List.length_map,List.length_append,List.length_cons,List.length_nil];omega) (by simp only [List.length_map,List.length_append,List.length_cons,List.length_nil];omega)) ?_
    rintro _ _ ⟨sv10,rfl,rfl⟩
    refine zG O kX<|Y 3 sz34 O<|H<|zQ O<|A O<|qJ O ⟨by omega,by omega⟩<|A O<|H ?_
    refine ⟨⟨k+1,outs++[xJ (mIx (fun l=>bI l s u) x)],sv10⟩,⟨by omega,by simp;omega,mIxs_next' hx hp c3⟩,(by show e.Idx.length-(k+1)<e.Idx.length-k;omega),Weak.mk [false,true,true,true,true,true,true] ⟨G,G,G,G,G,G,T⟩ (by exact mem3_eq (by rw [List.map_append];rfl))⟩
  ·try simp only [I] at c2
   have hmi:=mIxs_end hp (by omega)
   refine zY _ (yK 1 O (regs':=[]) (μ':=[_,_,_,_,_]) T ⟨EFle.refl _,EFle.row (ds:=[_,_,_,_,_,_,_,_,_,_,_,_,_]) ⟨.inl O,.inl O,.inl O,.inl O,.inl O,.inl O,.inl O,.inl O,.inl O,.inl O,.inl O,.inr ⟨O,O⟩,.inl O,T⟩,EFle.refl _,EFle.refl _,EFle.refl _,T⟩)<|qQ<|zK<|F O<|A O<|H<|zR<|zY ⟨[(14,.c _),(1,.c _),(3,.c _),(5,.c _),(6,.c _),(8,.c _)],[_,_,_,_,_]⟩ (Weak.mk [true,true,true,true,true] ⟨G,G,G,G,G,G,T⟩ O)<|qK 1 2 O O (Nat×List Ex×Value) (fun ⟨n,exs,sw⟩=>[(14,vI n)]) (fun ⟨n,exs,sw⟩=>[E.vec sw 44 13 (exs.map Ex.cells),E.row b4 44 [cI e.Op,cS e.Name,cI e.Val.N,cI e.Val.D,cI e.Ty.Kind,cI e.Ty.Bits,cI e.Ty.Frac,cI e.Ty.Round,cI e.Ty.Over,cI (bI e.Lin s u).1.K,.sl 2 ((bI e.Lin s u).1.L.map Mono.cells),.sl 4 (outs.map Ix.cells),.lit sw]]) (fun ⟨n,exs,sw⟩=>n<=e.Args.length/\(exs.length=n)/\(gA (fun l=>bI l s u) e.Args=dE exs (gA (fun l=>bI l s u) (e.Args.drop n)))) (fun ⟨n,exs,sw⟩=>e.Args.length-n) ⟨⟨0,[],.slice none 0 0⟩,⟨by omega,O,(zBz _).symm⟩,Weak.mk [true,true,true,true,true] ⟨G,G,G,G,G,G,T⟩ O⟩ ?_
   rintro ⟨n,exs,sw⟩ ⟨hn,hno,hr⟩
   show AWP _ _ _ _ _ ⟨[(14,vI n)]++_,[E.vec sw 44 13 (exs.map Ex.cells),E.row b4 44 [cI e.Op,cS e.Name,cI e.Val.N,cI e.Val.D,cI e.Ty.Kind,cI e.Ty.Bits,cI e.Ty.Frac,cI e.Ty.Round,cI e.Ty.Over,cI (bI e.Lin s u).1.K,.sl 2 ((bI e.Lin s u).1.L.map Mono.cells),.sl 4 (outs.map Ix.cells),.lit sw]]++_⟩
   refine zK<|F O<|A O<|zG O wL<|zJ zBa (R 4 O) O<|qC O g<|yD O<|H<|zD O (fun c4=>?_) (fun c4=>?_)
   ·try simp only [I] at c4
    obtain ⟨a,ha⟩:=qY e.Args n (by omega)
    refine zM<|zK<|zR<|zK<|kL 13 1 [⟨0,.q []⟩,⟨1,.q [5]⟩,⟨2,.q []⟩,⟨3,.q []⟩,⟨4,.q []⟩,⟨5,.q []⟩,⟨6,.q [4]⟩,⟨7,.q []⟩,⟨8,.q []⟩,⟨9,.q []⟩,⟨10,.q []⟩,⟨11,.e 0 []⟩,⟨12,.e 0 []⟩] mixed (by kernel_rfl) (by kernel_rfl) O O O<|p O<|p O<|p O<|p O<|p O<|p O<|p O<|p O<|p O<|p O<|p O<|p O<|p O<|zBo<|t O (by decide) O O (zE O wL O)<|t O (by decide) O O (zF O zBa O (R 0 O) O)<|t O (by decide) O O (zN O O)<|t O (by decide) O O (qF O g O O (by omega) (zEn (by assumption)))<|t O (by decide) O O (qB O kA O qA O)<|t O (by decide) O O (zN O O)<|t O (by decide) O O (qB O yX O (R 0 O) O)<|t O (by decide) O O (qM O ok119 (ih a (zZ ha) (Ex.allF_arg hP (zZ ha)) (by have:=Ex.arg_wt (zZ ha);omega)) ⟨G,O,G,O,G,O,T⟩)<|t O (by decide) O O (kI O O)<|t O (by decide) O O (wH O O O)<|t O (by decide) O O (wG O O O)<|zHr O O (by decide) O O (qE [none,none,none,none,none,none,none,none,none,none,some 2,some 4,some 13] O zr44 O) ?_
    rintro _ _ ⟨b11,rfl,rfl⟩
    refine ⟨_,O,?_⟩
    refine zFm O O (by decide) O O (kB O sz44 O O O (zFl 0 O O)) ?_
    rintro _ _ ⟨rfl,rfl⟩
    refine ⟨_,O,?_⟩
    refine zBl O<|A O<|H<|zK<|F O<|A O<|yM O<|H<|zD O (fun c5=>?_) (fun c5=>?_)
    ·try simp only [I] at c5
     refine F O<|qT [none,none,none,none,none,none,none,none,none,none,some 2,some 4,some 13] O zr44 pl44<|A O<|Y 3 sz44 O<|A O<|H<|o<|w (y kA O (R 3 O) O) (J O) ?_
     rw [mEx_e3 c1 hmi (mExs_no ha hr c5)];rfl
    ·try simp only [I] at c5
     refine zM<|zQ O<|zG O wL<|zJ zBa (R 2 O) O<|zP kA (R 0 O) O<|yV O g zr44<|zV O O (qV 1 O g O O O (by simp only [List.length_map,List.length_append,List.length_cons,List.length_nil];omega) (by simp only [List.length_map,List.length_append,List.length_cons,List.length_nil];omega)) ?_
     rintro _ _ ⟨sv12,rfl,rfl⟩
     refine zG O wL<|Y 2 sz42 O<|H<|zQ O<|A O<|qJ O ⟨by omega,by omega⟩<|A O<|H ?_
     refine ⟨⟨n+1,exs++[nD (mEx (fun l=>bI l s u) a)],sv12⟩,⟨by omega,by simp;omega,mExs_next ha hr c5⟩,(by show e.Args.length-(n+1)<e.Args.length-n;omega),Weak.mk [false,true,true,true,true,true] ⟨G,G,G,G,G,G,T⟩ (by exact zSg (by rw [List.map_append];simp only [List.map_cons,List.map_nil,Ex.cells_eq];rfl))⟩
   ·try simp only [I] at c4
    have hme:=mExs_end hr (by omega)
    refine zY _ (yK 0 O (regs':=[]) (μ':=[_,_,_,_]) T ⟨EFle.row (ds:=[_,_,_,_,_,_,_,_,_,_,_,_,_]) ⟨.inl O,.inl O,.inl O,.inl O,.inl O,.inl O,.inl O,.inl O,.inl O,.inl O,.inl O,.inl O,.inr ⟨O,O⟩,T⟩,EFle.refl _,EFle.refl _,EFle.refl _,T⟩)<|qQ<|F O<|zP kA (R 0 O) O<|Y 1 sz44 O<|A O<|H<|o<|w (y kA O (R 1 O) O) (J O) ?_
    rw [mEx_ok c1 hmi hme];rfl
theorem zIt (e:Ex) (s:ByteArray) (u:Lf) (ht:u.L.length<=4294967296) (hrt:u.rng) (hP:e.allF Lf.rng) (he:e.wt<=4294967296):Pur cfg 119 [vE e,vS s,bZ u] (.tup [vE (nD (mEx (fun l=>bI l s u) e)),vI (dZ (mEx (fun l=>bI l s u) e))]):=by
  induction e using Ex.ind with
  |_ e ih=>exact zKa e s u ht hrt ih hP he
end Go.W
end
section
set_option maxRecDepth 10000
namespace Go.W
open Go Go.Eng Go.Proofs Go.L41 Go.Br
attribute [local irreducible] AWP RWP TD fH
theorem zOc:lV Tryz.prog 105=true:=by kernel_rfl
theorem sz105:(Tryz.prog.info? 105).map (·.size)=some 1:=by kernel_rfl
end Go.W
end
section
set_option maxRecDepth 10000
namespace Go.W
open Go Go.Eng Go.Proofs Go.L41 Go.Br
attribute [local irreducible] AWP RWP TD fH
theorem ok201:bA Tryz.prog 201=true:=by kernel_rfl
theorem ref14_All_step (e:Ex) (ih:∀a,a∈e.Args->a.wt<=1000000->OwnR cfg 201 [vE a] 44 13 ((dG a).map Ex.cells)) (he:e.wt<=1000000):
    OwnR cfg 201 [vE e] 44 13 ((dG e).map Ex.cells):=by
 refine zT Tryz.func201 O Tryz.ntmps201 Tryz.results201 O ?_
 intro z hz
 obtain ⟨hL,hI,hA⟩:=e.parts he
 have hn:=nodes_wt e
 refine F O<|zV O O (qN O O) ?_
 rintro _ _ ⟨b1,rfl,rfl⟩
 refine qX 13 O<|H<|F O<|zP kA (R 0 O) O<|zV O O (zCe O g zr44 O O O O) ?_
 rintro _ _ ⟨sv2,rfl,rfl⟩
 refine A O<|H<|zK<|F O<|A O<|H<|zR<|zY ⟨[(4,.c _),(3,.c _),(1,.c _)],[_,_]⟩ (Weak.mk [true,true] ⟨G,G,G,T⟩ O)<|qK 2 1 O O (Nat×Value) (fun ⟨k,sv⟩=>[(4,vI k),(3,.c (.lit sv))]) (fun ⟨k,sv⟩=>[E.vec sv 44 13 ((e::bO (e.Args.take k)).map Ex.cells)]) (fun ⟨k,sv⟩=>k<=e.Args.length) (fun ⟨k,sv⟩=>e.Args.length-k) ⟨⟨0,_⟩,(by omega),Weak.mk [true,true] ⟨G,G,G,T⟩ (by exact zCv (by simp [bO,Ex.cells_eq];rfl))⟩ ?_
 rintro ⟨k,sv⟩ hk
 show AWP _ _ _ _ _ ⟨[(4,vI k),(3,.c (.lit sv))]++_,[E.vec sv 44 13 ((e::bO (e.Args.take k)).map Ex.cells)]++_⟩
 refine zK<|F O<|A O<|zG O wL<|zJ zBa (R 1 O) O<|qC O g<|yD O<|H<|zD O (fun c1=>?_) (fun c1=>?_)
 ·try simp only [I] at c1
  obtain ⟨x,hx⟩:=qY e.Args k (by omega)
  have hn1:=nodes_take hx
  refine zM<|zK<|zR<|zQ O<|A O<|zG O wL<|zJ zBa (R 1 O) O<|A O<|qD O g (by omega) (zEn (by assumption))<|zP kA qA O<|qI O ok201 (OwnR.pur (ih x (zZ hx) (by have:=Ex.arg_wt (zZ hx);omega))) ⟨G,O,T⟩<|zV O O (qV 0 O g O O O (by simp only [List.length_map,List.length_append,List.length_cons,List.length_nil];omega) (by simp only [List.length_map,List.length_append,List.length_cons,List.length_nil];omega)) ?_
  rintro _ _ ⟨sv3,rfl,rfl⟩
  refine A O<|H<|zQ O<|A O<|qJ O ⟨by omega,by omega⟩<|A O<|H ?_
  refine ⟨⟨k+1,sv3⟩,(by omega),(by show e.Args.length-(k+1)<e.Args.length-k;omega),Weak.mk [true,true] ⟨G,G,G,T⟩ (by exact zCv (by rw [zVc hx,←List.cons_append,List.map_append]))⟩
 ·try simp only [I] at c1
  refine qQ<|F O<|A O<|A O<|H<|zY _ (Weak.mem [true,false] O)<|o<|X O ?_
  exact ⟨_,O,by rw [yU (by omega),←wE];rfl⟩
theorem ref14_All (e:Ex) (he:e.wt<=1000000):OwnR cfg 201 [vE e] 44 13 ((dG e).map Ex.cells):=by
  induction e using Ex.ind with
  |_ e ih=>exact ref14_All_step e ih he
end Go.W
end
