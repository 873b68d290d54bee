/-
  Walks: what functions of the program compute. Printed by wip/gen/mk2.py.
  Conditions: none.
-/
import Derived.Test.YtkijgodlhljgdaaGreatDoorQD
set_option linter.unusedSimpArgs false
set_option linter.unusedVariables false
set_option maxRecDepth 10000
namespace Go.W
open Go Go.Eng Go.Proofs Go.L41 Go.Br
attribute [local irreducible] AWP RWP TD finQ
theorem zHe {s0 s1 s2 s4:Value} {t0 t1 t2 t4 u:TypeId} {n0 n1 n2 n4 b:Nat} {r0 q0 r1 q1 r2 q2 r4 q4:List (List C)} {cs:List C} {bμ:List E} (h0:r0=q0) (h1:r1=q1) (h2:r2=q2) (h4:r4=q4):
    E.vec s0 t0 n0 r0::E.vec s1 t1 n1 r1::E.vec s2 t2 n2 r2::E.row b u cs::E.vec s4 t4 n4 r4::bμ=[E.vec s0 t0 n0 q0,E.vec s1 t1 n1 q1,E.vec s2 t2 n2 q2,E.row b u cs,E.vec s4 t4 n4 q4]++bμ:=by rw [h0,h1,h2,h4];rfl
theorem ok12:callOk Tryz.prog 12=true:=by kernel_rfl
theorem ok18:callOk Tryz.prog 18=true:=by kernel_rfl
theorem ok47:callOk Tryz.prog 47=true:=by kernel_rfl
theorem r26_Prog (p:Pg) (h:p.Sm) (o_:List ByteArray) (ho:o_.length<=40) (hs:∀s,s∈o_->s.size<=100):
    Pur cfg 16 [vPg p,vSs o_] (.tup [vPg (progF p o_).1,vI (progF p o_).2]):=by
 refine zV Tryz.func16 O Tryz.ntmps16 Tryz.results16 O ?_
 intro z hz
 have hP:=h.ok
 have hdl:=h.defs
 have hpl:=h.params
 have hol:=h.outs
 obtain ⟨Rg,hR⟩:∃R,defG p.en [] o_ p.Defs=R:=⟨_,rfl⟩
 have hmr:(morR p o_).length<=40:=by unfold morR;rw [List.length_map];exact ho
 refine B O<|zW O O (qJ O O) ?_
 rintro _ _ ⟨b1,rfl,rfl⟩
 refine zW O O (qI [some 1,some 3,some 7,some 22,some 1] O zr27 O) ?_
 rintro _ _ ⟨b2,rfl,rfl⟩
 refine F O<|H<|U<|B O<|zL kC (K 1 O) O<|qK O ok18 (zHu p hP) ⟨G,O,T⟩<|qB O (qU O O)<|qB O (yG O O O)<|qB O (yG O O O)<|F O<|F O<|H<|B O<|F O<|yP O<|H<|g O (fun c1=>?_) (fun c1=>?_)
 ·try simp only [I] at c1
  refine B O<|yR [some 1,some 3,some 7,some 22,some 1] O zr27 pl27<|F O<|N 0 sz27 O<|F O<|H<|W<|fin2 (zS kC O (K 0 O) O) (o O) ?_
  rw [progF_1 (by rw [zEd];exact c1),zEd];rfl
 ·try simp only [I] at c1
  have c1m:(validM p).2=0:=by rw [zEd];exact c1
  refine zJ<|B O<|zL kC (K 1 O) O<|F O<|qK O ok47 (r26_params p hP o_ ho hs) ⟨G,O,G,O,T⟩<|qB O (qU O O)<|qB O (yG O O O)<|qB O (yG O O O)<|F O<|F O<|H<|U<|B O<|F O<|yP O<|H<|g O (fun c2=>?_) (fun c2=>?_)
  ·try simp only [I] at c2
   refine B O<|yR [some 1,some 3,some 7,some 22,some 1] O zr27 pl27<|F O<|N 0 sz27 O<|F O<|H<|W<|fin2 (zS kC O (K 0 O) O) (o O) ?_
   rw [progF_2 c1m c2];rfl
  ·try simp only [I] at c2
   rw [if_pos c2]
   have hmo:=mor_eq c1m c2
   refine zJ<|B O<|F O<|yV _ (kG 9 1)<|H<|B O<|F O<|F O<|zW O O (qS 0 O el22 O O O (by simp only [List.length_map,List.length_append,List.length_cons,List.length_nil,List.length_take,List.length_drop];omega) (by simp only [List.length_map,List.length_append,List.length_cons,List.length_nil,List.length_take,List.length_drop];omega)) ?_
   rintro _ _ ⟨sv4,rfl,rfl⟩
   refine F O<|H<|B O<|zG O zBy<|zK wT (K 2 O) O<|zG O zDz<|zK zKv (K 2 O) O<|kA O zr27 pl27<|zW O O (yA O zr27) ?_
   rintro _ _ ⟨b5,rfl,rfl⟩
   refine N 0 sz27 O<|H<|B O<|yV _ (kG 65 7)<|yV _ (kG 59 22)<|yV _ (kG 9 1)<|zG O kM<|zK zAl (K 3 O) O<|zG O kM<|zK zAl (K 6 O) O<|zW O O (qS 2 O el24 O O O (by simp only [List.length_map,List.length_append,List.length_cons,List.length_nil,List.length_take,List.length_drop];omega) (by simp only [List.length_map,List.length_append,List.length_cons,List.length_nil,List.length_take,List.length_drop];omega)) ?_
   rintro _ _ ⟨sv6,rfl,rfl⟩
   refine zG O kM<|N 3 sz24 O<|H<|B O<|zG O kM<|zK zAl (K 3 O) O<|F O<|zW O O (qS 2 O el24 O O O (by simp only [List.length_map,List.length_append,List.length_cons,List.length_nil,List.length_take,List.length_drop];omega) (by simp only [List.length_map,List.length_append,List.length_cons,List.length_nil,List.length_take,List.length_drop];omega)) ?_
   rintro _ _ ⟨sv7,rfl,rfl⟩
   refine zG O kM<|N 3 sz24 O<|H<|U<|B O<|F O<|H<|zP<|zT ⟨[(12,.c _),(10,.c _),(2,.c _),(4,.c _),(11,.c _)],[_,_,_,_,_,_,_]⟩ (Weak.mk [true,true,true,true,true,true,true] ⟨G,G,G,G,G,T⟩ O)<|qG 2 5 O O (Nat×List Df×List ByteArray×Value×Value) (fun ⟨k,oD,A,sa,su⟩=>[(12,vI k),(10,.c (.lit sa))]) (fun ⟨k,oD,A,sa,su⟩=>[E.vec (.slice none 0 0) 9 1 ([]),E.vec su 59 22 (oD.map Df.cells),E.vec sv7 65 7 ((p.Params++morR p o_).map Pm.cells),E.row b5 27 [.sl 1 ((p.Sizes).map fun s=>[cS s]),.sl 3 (p.Where.map Cn.cells),.lit sv7,.lit su,.lit (.slice none 0 0)],E.vec sa 9 1 ((A).map fun s=>[cS s])]) (fun ⟨k,oD,A,sa,su⟩=>k<=p.Defs.length/\(Rg=defG p.en oD A (p.Defs.drop k))/\(oD.length<=2*k)/\(A.length<=40+k)/\(∀s,s∈A->s.size<=1000000)) (fun ⟨k,oD,A,sa,su⟩=>p.Defs.length-k) ⟨⟨0,[],o_,sv4,(.slice none 0 0)⟩,⟨by omega,hR.symm,by simp,by omega,fun s hs2=>Nat.le_trans (hs s hs2) (by decide)⟩,Weak.mk [true,true,true,true,true,true,true] ⟨G,G,G,G,G,T⟩ (by exact zHe rfl rfl (by rw [List.map_append];rfl) rfl)⟩ ?_
   rintro ⟨k,oD,A,sa,su⟩ ⟨hk,hq,hOl,hAl,hAs⟩
   show AWP _ _ _ _ _ ⟨[(12,vI k),(10,.c (.lit sa))]++_,[E.vec (.slice none 0 0) 9 1 ([]),E.vec su 59 22 (oD.map Df.cells),E.vec sv7 65 7 ((p.Params++morR p o_).map Pm.cells),E.row b5 27 [.sl 1 ((p.Sizes).map fun s=>[cS s]),.sl 3 (p.Where.map Cn.cells),.lit sv7,.lit su,.lit (.slice none 0 0)],E.vec sa 9 1 ((A).map fun s=>[cS s])]++_⟩
   refine U<|B O<|F O<|zG O kE<|zK zAc (K 6 O) O<|zZ O el25<|yB O<|H<|g O (fun c3=>?_) (fun c3=>?_)
   ·try simp only [I] at c3
    obtain ⟨d,hd⟩:=qP p.Defs k (by omega)
    obtain ⟨X,hX⟩:∃X,exprF p.en A d.Body=X:=⟨_,rfl⟩
    have hdb:=valid_body c1m hd
    have hdn:=name_size (valid_defs c1m d (qD hd))
    refine zJ<|U<|zP<|B O<|zG O kE<|zK zAc (K 6 O) O<|F O<|qE O el25 (by omega) (Q hd)<|zL zCn qA O<|zW O O (qI [none,none,none,none,none,none,some 3,some 3,none,none,none,none,none,none,none,none,none,none,none,some 2,some 4,some 13] O zr59 O) ?_
    rintro _ _ ⟨b8,rfl,rfl⟩
    refine N 0 sz59 O<|H<|B O<|zG O kE<|zK zAc (K 4 O) O<|zL zCn (K 0 O) O<|qZ O el25 zr59<|zW O O (qS 2 O el25 O O O (by simp only [List.length_map,List.length_append,List.length_cons,List.length_nil,List.length_take,List.length_drop];omega) (by simp only [List.length_map,List.length_append,List.length_cons,List.length_nil,List.length_take,List.length_drop];omega)) ?_
    rintro _ _ ⟨sv9,rfl,rfl⟩
    refine zG O kE<|N 4 sz25 O<|H<|U<|B O<|zL kC (K 7 O) O<|zG O zCg<|zL qH (K 0 O) O<|F O<|qB O (yI [5] O ok35 (r26_losesM p hP sa A (by omega) d.Body hdb (Nat.le_trans (h.ds d (qD hd)).2.2 (by decide))) ⟨G,O,G,O,G,O,T⟩ O)<|H<|g O (fun c4=>?_) (fun c4=>?_)
    ·try simp only [I] at c4
     refine B O<|yR [some 1,some 3,some 7,some 22,some 1] O zr27 pl27<|N 6 sz27 O<|F O<|H<|W<|fin2 (zS kC O (K 6 O) O) (o O) ?_
     have hRx:=zMy hd hq (by rw [derF_1 c4];decide)
     rw [derF_1 c4] at hRx
     rw [progF_3 c1m c2 hR (by rw [hRx];decide),hRx];rfl
    ·try simp only [I] at c4
     have c4:losE (isFr p.en) A d.Body=false:=by simpa using c4
     refine zJ<|U<|B O<|zG O zHz<|zG O zAn<|zK w (K 0 O) O<|yP O<|F O<|u O (fun g19_4=>zD O zCg O) O<|J 86 O (fun g19_4=>zN O qH O (K 0 O) O) O<|u O (fun g19_4=>zQ O O) O<|rLz [(87,_),(88,_)] O P ⟨O,O,O,O,T⟩ (fun g19_4=>yI [5] O ok48 (r26_readsM sa A (by omega) d.Body hdb) ⟨G,O,G,O,T⟩ O) O<|J 89 O (fun g19_4=>kU O O) O<|r_or O (fun h=>(lzf h))<|H<|g O (fun c5=>?_) (fun c5=>?_)
     ·have c5:¬d.T.Kind=1∨rdsE A d.Body=false:=by simpa using c5
      have h9:=derF_2 (n:=p.en) c4 c5
      refine qM<|zU O<|F O<|qL O ⟨by omega,by omega⟩<|F O<|H ?_
      refine ⟨⟨k+1,oD++[d],A,sa,sv9⟩,⟨by omega,defG_no hd hq (by rw [h9]) (by rw [h9]),by simp;omega,by omega,hAs⟩,(by show p.Defs.length-(k+1)<p.Defs.length-k;omega),Weak.mk [false,true,true,true,true,true,true,true] ⟨G,G,G,G,G,T⟩ (by exact zHe rfl (by rw [List.map_append];rfl) rfl rfl)⟩
     ·have c5:¬(¬d.T.Kind=1∨rdsE A d.Body=false):=by simpa using c5
      refine zJ<|U<|B O<|zG O zDx<|zK w (K 0 O) O<|qX O<|F O<|u O (fun g20_3=>zD O zDx O) O<|J 96 O (fun g20_3=>zF O w O (K 0 O) O) O<|J 97 O (fun g20_3=>yL O O O) O<|r_or O (fun h=>(lzf h))<|F O<|u O (fun g20_8=>zD O zDx O) O<|J 101 O (fun g20_8=>zF O w O (K 0 O) O) O<|J 102 O (fun g20_8=>yL O O O) O<|r_or O (fun h=>(lzf h))<|H<|g O (fun c6=>?_) (fun c6=>?_)
      ·have c6:d.Fold=2∨d.Fold=3∨d.Fold=4:=by simp at c6;omega
       refine B O<|yR [some 1,some 3,some 7,some 22,some 1] O zr27 pl27<|N 6 sz27 O<|F O<|H<|W<|fin2 (zS kC O (K 6 O) O) (o O) ?_
       have h9:=derF_3 (n:=p.en) c4 c5 c6
       have hRx:=zMy hd hq (by rw [h9];decide)
       rw [h9] at hRx
       rw [progF_3 c1m c2 hR (by rw [hRx];decide),hRx];rfl
      ·have c6:¬(d.Fold=2∨d.Fold=3∨d.Fold=4):=by simp at c6;omega
       refine zJ<|B O<|zL kC (K 7 O) O<|zG O zCg<|zL qH (K 0 O) O<|F O<|qB O (yI [5] O ok12 (show Con cfg 12 [vPg p,vE d.Body,.c (.lit sa)] [E.vec sa 9 1 ((A).map fun s=>[cS s])] fun r μ'=>r=.tup [vE X.1,vI X.2]/\μ'=[E.vec sa 9 1 ((A).map fun s=>[cS s])] by rw [←hX];exact r26_ExprM p hP sa A (by omega) hAs d.Body (h.ds d (qD hd)).2.2) ⟨G,O,G,O,G,O,T⟩ O)<|qB O (qU O O)<|qB O (yN O O O)<|qB O (yG O O O)<|zW O O (qI [none,none,none,none,none,none,none,none,none,none,some 2,some 4,some 13] O zr38 O) ?_
       rintro _ _ ⟨b10,rfl,rfl⟩
       refine N 0 v O<|F O<|H<|U<|B O<|F O<|yP O<|H<|g O (fun c7=>?_) (fun c7=>?_)
       ·try simp only [I] at c7
        refine B O<|yR [some 1,some 3,some 7,some 22,some 1] O zr27 pl27<|F O<|N 7 sz27 O<|F O<|H<|W<|fin2 (zS kC O (K 7 O) O) (o O) ?_
        have h9:=derF_4 (n:=p.en) c4 c5 c6 hX c7
        have hRx:=zMy hd hq (by rw [h9];exact c7)
        rw [h9] at hRx
        rw [progF_3 c1m c2 hR (by rw [hRx];exact c7),hRx];rfl
       ·try simp only [I] at c7
        have h9:=derF_5 (n:=p.en) c4 c5 c6 hX c7
        refine zJ<|B O<|F O<|zG O zEk<|zK i (K 1 O) O<|qZ O el22 zr9<|zW O O (qS 6 O el22 O O O (by simp only [List.length_map,List.length_append,List.length_cons,List.length_nil,List.length_take,List.length_drop];omega) (by simp only [List.length_map,List.length_append,List.length_cons,List.length_nil,List.length_take,List.length_drop];omega)) ?_
        rintro _ _ ⟨sv11,rfl,rfl⟩
        refine F O<|H<|B O<|zG O zEk<|zK i (K 1 O) O<|qK O ok49 (zCd d.Name (by omega)) ⟨G,O,T⟩<|zG O zEk<|N 1 sz9 O<|H<|B O<|zL qH (K 0 O) O<|zG O zCg<|N 1 v O<|H<|zU O<|zG O kE<|zK zAc (K 5 O) O<|zL zCn (K 1 O) O<|qZ O el25 zr59<|zW O O (qS 3 O el25 O O O (by simp only [List.length_map,List.length_append,List.length_cons,List.length_nil,List.length_take,List.length_drop];omega) (by simp only [List.length_map,List.length_append,List.length_cons,List.length_nil,List.length_take,List.length_drop];omega)) ?_
        rintro _ _ ⟨sv12,rfl,rfl⟩
        refine zG O kE<|N 5 sz25 O<|H<|zU O<|F O<|qL O ⟨by omega,by omega⟩<|F O<|H ?_
        refine ⟨⟨k+1,oD++[d,dDf d X.1],A++[d.Name],sv11,sv12⟩,⟨by omega,(by have h8:=defG_yes hd hq (by rw [h9]) (by rw [h9]);rw [h9] at h8;exact h8),by simp;omega,by simp;omega,fun s hs2=>by rcases List.mem_append.1 hs2 with h9|h9;exact hAs s h9;rw [List.mem_singleton.1 h9];omega⟩,(by show p.Defs.length-(k+1)<p.Defs.length-k;omega),Weak.mk [false,false,true,true,true,true,true,true,true] ⟨G,G,G,G,G,T⟩ (by exact zHe rfl (by rw [List.map_append,List.append_assoc];rfl) rfl (by rw [List.map_append];rfl))⟩
   ·try simp only [I] at c3
    have hRe:=defG_end hq (by omega)
    have hsm:=zPm (n:=p.en) p.Defs [] o_ (fun d hd=>h.df hd) (fun d hd=>by cases hd)
    rw [hR,hRe] at hsm
    dsimp only at hsm
    have hOk:=outG_ok (A:=A) (l:=o_) (M:=morR p o_) h hsm.1 (by omega) (by omega) (by rw [←hmo];exact morP_sm h o_)
    refine qM<|B O<|zG O zAt<|zK wT (K 3 O) O<|zG O zAt<|zK wT (K 6 O) O<|zW O O (qS 0 O el22 O O O (by simp only [List.length_map,List.length_append,List.length_cons,List.length_nil,List.length_take,List.length_drop];omega) (by simp only [List.length_map,List.length_append,List.length_cons,List.length_nil,List.length_take,List.length_drop];omega)) ?_
    rintro _ _ ⟨sv13,rfl,rfl⟩
    refine zG O zAt<|N 3 sz22 O<|H<|U<|B O<|F O<|H<|zP<|zT ⟨[(16,.c _),(2,.c _),(4,.c _),(10,.c _),(11,.c _)],[_,_,_,_,_,_,_]⟩ (Weak.mk [true,true,true,true,true,true,true] ⟨G,G,G,G,G,T⟩ O)<|qG 1 5 O O (Nat×Value) (fun ⟨k,so⟩=>[(16,vI k)]) (fun ⟨k,so⟩=>[E.vec so 9 1 ((p.Outs++((p.Outs.take k).filter (hasB A)).map dNm).map fun s=>[cS s]),E.vec su 59 22 (oD.map Df.cells),E.vec sv7 65 7 ((p.Params++morR p o_).map Pm.cells),E.row b5 27 [.sl 1 ((p.Sizes).map fun s=>[cS s]),.sl 3 (p.Where.map Cn.cells),.lit sv7,.lit su,.lit so],E.vec sa 9 1 ((A).map fun s=>[cS s])]) (fun ⟨k,so⟩=>k<=p.Outs.length) (fun ⟨k,so⟩=>p.Outs.length-k) ⟨⟨0,sv13⟩,(by omega),Weak.mk [true,true,true,true,true,true,true] ⟨G,G,G,G,G,T⟩ (by exact zHe (by rw [List.take_zero];simp) rfl rfl rfl)⟩ ?_
    rintro ⟨k,so⟩ hk
    show AWP _ _ _ _ _ ⟨[(16,vI k)]++_,[E.vec so 9 1 ((p.Outs++((p.Outs.take k).filter (hasB A)).map dNm).map fun s=>[cS s]),E.vec su 59 22 (oD.map Df.cells),E.vec sv7 65 7 ((p.Params++morR p o_).map Pm.cells),E.row b5 27 [.sl 1 ((p.Sizes).map fun s=>[cS s]),.sl 3 (p.Where.map Cn.cells),.lit sv7,.lit su,.lit so],E.vec sa 9 1 ((A).map fun s=>[cS s])]++_⟩
    refine U<|B O<|F O<|zG O zAt<|zK wT (K 6 O) O<|zZ O el22<|yB O<|H<|g O (fun c8=>?_) (fun c8=>?_)
    ·try simp only [I] at c8
     obtain ⟨s,hs1⟩:=qP p.Outs k (by omega)
     have hxl:=out_len p.Outs A k
     refine zJ<|U<|zP<|B O<|F O<|zG O zAt<|zK wT (K 6 O) O<|F O<|qE O el22 (by omega) (Q hs1)<|zK i qA O<|qB O (wC 4 O ok50 O (zDf A s (by omega)) O ⟨.inl ⟨O,O⟩,.inr ⟨G,O⟩,T⟩)<|H<|g O (fun c9=>?_) (fun c9=>?_)
     ·try simp only [I] at c9
      have c9:hasB A s=true:=by simpa using c9
      refine qO 9 mixed (by kernel_rfl) O O<|Y O O (zD O zAt O)<|Y O O (zF O wT O (K 3 O) O)<|Y O O (zD O zAt O)<|Y O O (zF O wT O (K 6 O) O)<|Y O O (zQ O O)<|Y O O (zY O el22 O O (by omega) (Q hs1))<|Y O O (zF O i O qA O)<|Y O O (qF O ok49 (zCd s (hAs s (zFj.1 c9))) ⟨G,O,T⟩)<|Y O O (yD O el22 zr9 O O O O)<|yK<|zW O O (qS 0 O el22 O O O (by simp only [List.length_map,List.length_append,List.length_cons,List.length_nil,List.length_take,List.length_drop];omega) (by simp only [List.length_map,List.length_append,List.length_cons,List.length_nil,List.length_take,List.length_drop];omega)) ?_
      rintro _ _ ⟨sv14,rfl,rfl⟩
      refine zG O zAt<|N 3 sz22 O<|H<|zU O<|F O<|qL O ⟨by omega,by omega⟩<|F O<|H ?_
      refine ⟨⟨k+1,sv14⟩,(by omega),(by show p.Outs.length-(k+1)<p.Outs.length-k;omega),Weak.mk [true,true,true,true,true,true,true] ⟨G,G,G,G,G,T⟩ (by exact zHe (by rw [out_yes hs1 c9];simp) rfl rfl rfl)⟩
     ·try simp only [I] at c9
      have c9:¬hasB A s=true:=by simpa using c9
      refine zJ<|zU O<|F O<|qL O ⟨by omega,by omega⟩<|F O<|H ?_
      refine ⟨⟨k+1,so⟩,(by omega),(by show p.Outs.length-(k+1)<p.Outs.length-k;omega),Weak.mk [true,true,true,true,true,true,true] ⟨G,G,G,G,G,T⟩ (by exact zHe (by rw [out_no hs1 c9]) rfl rfl rfl)⟩
    ·try simp only [I] at c8
     rw [qY (l:=p.Outs) (k:=k) (by omega)]
     refine zT _ (kB 1 O (regs':=[]) (μ':=[_,_,_,_,_,_]) T ⟨EFle.refl _,EFle.refl _,EFle.row (ds:=[_,_,_,_,_]) ⟨.inl O,.inl O,.inl O,.inr ⟨O,O⟩,.inl O,T⟩,EFle.refl _,EFle.refl _,EFle.refl _,T⟩)<|zT _ (kB 1 O (regs':=[]) (μ':=[_,_,_,_,_]) T ⟨EFle.refl _,EFle.row (ds:=[_,_,_,_,_]) ⟨.inl O,.inl O,.inr ⟨O,O⟩,.inl O,.inl O,T⟩,EFle.refl _,EFle.refl _,EFle.refl _,T⟩)<|zT _ (kB 0 O (regs':=[]) (μ':=[_,_,_,_]) T ⟨EFle.row (ds:=[_,_,_,_,_]) ⟨.inl O,.inl O,.inl O,.inl O,.inr ⟨O,O⟩,T⟩,EFle.refl _,EFle.refl _,EFle.refl _,T⟩)<|qM<|U<|B O<|zL kC (K 0 O) O<|qK O ok18 (zHu (outG p oD A (morR p o_)) hOk) ⟨G,O,T⟩<|qB O (qU O O)<|qB O (yG O O O)<|qB O (yG O O O)<|F O<|F O<|H<|B O<|F O<|yP O<|H<|g O (fun c10=>?_) (fun c10=>?_)
     ·try simp only [I] at c10
      refine B O<|yR [some 1,some 3,some 7,some 22,some 1] O zr27 pl27<|F O<|N 2 sz27 O<|F O<|H<|W<|fin2 (zS kC O (K 2 O) O) (o O) ?_
      have h9:=progF_4 (o_:=o_) c1m c2 hR (by rw [hRe])
      rw [hRe,hmo,zEd] at h9
      rw [h9 c10];rfl
     ·try simp only [I] at c10
      refine zJ<|B O<|zL kC (K 0 O) O<|N 2 sz27 O<|F O<|H<|W<|fin2 (zS kC O (K 2 O) O) (o O) ?_
      have h9:=progF_5 (o_:=o_) c1m c2 hR (by rw [hRe])
      rw [hRe,hmo,zEd] at h9
      rw [h9 c10];rfl
end Go.W
