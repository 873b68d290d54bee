/-
  Walks: what functions of the program compute. Printed by wip/gen/mk2.py.
  Conditions: none.
-/
import Derived.Test.YtkijgodlhljgdaaGreatDoorQM
set_option linter.unusedSimpArgs false
set_option linter.unusedVariables false
set_option maxRecDepth 10000
namespace Go.W
open Go Go.Eng Go.Proofs Go.L41 Go.Br
attribute [local irreducible] AWP RWP TD finQ
theorem ok41:callOk Tryz.prog 41=true:=by kernel_rfl
theorem ok42:callOk Tryz.prog 42=true:=by kernel_rfl
theorem ok45:callOk Tryz.prog 45=true:=by kernel_rfl
theorem fwd_Prog (p:Pg) (h:p.Sm) (o_:List ByteArray) (ho:o_.length<=40) (hs:∀s,s∈o_->s.size<=100):
    Pur cfg 15 [vPg p,vSs o_] (.tup [vPg (progF p o_).1,vI (progF p o_).2]):=by
 refine zT Tryz.func15 O Tryz.ntmps15 Tryz.results15 O ?_
 intro z hz
 have hP:=h.ok
 have hdl:=h.defs
 have hpl:=h.params
 have hol:=h.outs
 obtain ⟨Rg,hR⟩:∃R,defG p.en [] o_ p.Defs=R:=⟨_,rfl⟩
 refine B O<|zV O O (qI O O) ?_
 rintro _ _ ⟨b1,rfl,rfl⟩
 refine zV O O (qG [some 1,some 3,some 7,some 22,some 1] O zr27 O) ?_
 rintro _ _ ⟨b2,rfl,rfl⟩
 refine F O<|H<|W<|B O<|zK kK (K 1 O) O<|qK O ok41 (zFf p hP) ⟨G,O,T⟩<|zX O (qU O O)<|zX O (yO O O O)<|zX O (yO O O O)<|F O<|F O<|H<|B O<|F O<|yU O<|H<|g O (fun c1=>?_) (fun c1=>?_)
 ·try simp only [I] at c1
  refine B O<|zX O (yA [some 1,some 3,some 7,some 22,some 1] O zr27 pl27 O O)<|F O<|N 0 sz27 O<|F O<|H<|U<|fin2 (zR kK O (K 0 O) O) (o O) ?_
  rw [progF_1 c1];rfl
 ·try simp only [I] at c1
  refine zJ<|W<|B O<|zK kK (K 1 O) O<|F O<|qK O ok42 (fwd_checkNames p hP o_ ho) ⟨G,O,G,O,T⟩<|F O<|H<|B O<|F O<|yU O<|H<|g O (fun c2=>?_) (fun c2=>?_)
  ·try simp only [I] at c2
   refine B O<|zX O (yA [some 1,some 3,some 7,some 22,some 1] O zr27 pl27 O O)<|F O<|N 0 sz27 O<|F O<|H<|U<|fin2 (zR kK O (K 0 O) O) (o O) ?_
   rw [progF_2 c1 c2];rfl
  ·try simp only [I] at c2
   refine zJ<|B O<|zK kK (K 1 O) O<|zV O O (zDl O ok43 (Con.frame (program_CopyQ p (pgOkC hP)) _) ⟨G,O,T⟩) ?_
   rintro _ _ ⟨_,⟨svP,svO,rfl,rfl⟩,rfl⟩
   refine zV O O (qG [some 1,some 3,some 7,some 22,some 1] O zr27 O) ?_
   rintro _ _ ⟨b4,rfl,rfl⟩
   refine N 0 sz27 O<|H<|B O<|zH O kW<|N 0 sz25 O<|H<|W<|B O<|yZ _ (kN 59 22)<|F O<|zZ O el22<|F O<|H<|zP<|zW ⟨[(45,.c _),(1,.c _),(2,.c _),(4,.c _),(9,.c _),(43,.c _),(44,.c _)],[_,_,_,_,_,_]⟩ (Weak.mk [true,true,true,true,true,true] ⟨G,G,G,G,G,G,G,T⟩ O)<|qJ 1 3 O O (Nat×Value) (fun ⟨k,sw⟩=>[(45,vI k)]) (fun ⟨k,sw⟩=>[E.vec (.slice none 0 0) 59 22 ([]),E.row b4 27 [.sl 1 ((p.Sizes).map fun s=>[cS s]),.sl 3 (p.Where.map Cn.cells),.lit sw,.lit (.slice none 0 0),.lit svO],E.vec sw 65 7 ((p.Params++morP p (o_.take k)).map Pm.cells)]) (fun ⟨k,sw⟩=>k<=o_.length) (fun ⟨k,sw⟩=>o_.length-k) ⟨⟨0,svP⟩,(by omega),Weak.mk [true,true,true,true,true,true] ⟨G,G,G,G,G,G,G,T⟩ (by exact mem3r_eq (by rw [List.take_zero,show morP p []=[] from rfl,List.append_nil]))⟩ ?_
   rintro ⟨k,sw⟩ hk
   show AWP _ _ _ _ _ ⟨[(45,vI k)]++_,[E.vec (.slice none 0 0) 59 22 ([]),E.row b4 27 [.sl 1 ((p.Sizes).map fun s=>[cS s]),.sl 3 (p.Where.map Cn.cells),.lit sw,.lit (.slice none 0 0),.lit svO],E.vec sw 65 7 ((p.Params++morP p (o_.take k)).map Pm.cells)]++_⟩
   refine B O<|yD O<|H<|W<|g O (fun c3=>?_) (fun c3=>?_)
   ·try simp only [I] at c3
    obtain ⟨s,hs0⟩:=qQ o_ k (by omega)
    have hml:(morP p (o_.take k)).length<=40:=by unfold morP;rw [List.length_map,List.length_take];omega
    refine zJ<|W<|zP<|B O<|qH O el22 (by omega) (X hs0)<|zL i qB O<|F O<|H<|B O<|zK kK (K 5 O) O<|F O<|qK O ok44 (fwd_param p s hP) ⟨G,O,G,O,T⟩<|zX O (qU O O)<|zX O (yI O O O)<|zX O (yO O O O)<|zV O O (qG [none,none,none,none,none,none,some 2] O zr65 O) ?_
    rintro _ _ ⟨b5,rfl,rfl⟩
    refine N 0 sz65 O<|F O<|H<|qP 10 mixed (by kernel_rfl) O O<|Y O O (zE O zAx O)<|Y O O (zG O zFl O (K 2 O) O)<|Y O O (zQ O O)<|Y O O (qF O ok14 (zAa s (by have:=hs s (qD hs0);omega)) ⟨G,O,T⟩)<|Y O O (zE O fd65_1 O)<|Y O O (zM O yC O (K 0 O) O)<|Y O O (zE O zHf O)<|Y O O (zG O zBf O (K 0 O) O)<|Y O O (kY O zr65 pl65 O)<|Y O O (qY O el24 zr65 O O O O)<|yK<|zV O O (yE 3 O el24 O O O (by simp only [List.length_map,List.length_append,List.length_cons,List.length_nil,List.length_take,List.length_drop];omega) (by simp only [List.length_map,List.length_append,List.length_cons,List.length_nil,List.length_take,List.length_drop];omega)) ?_
    rintro _ _ ⟨sv6,rfl,rfl⟩
    refine zH O zAx<|N 2 sz24 O<|H<|zU O<|qL O ⟨by omega,by omega⟩<|F O<|H ?_
    refine ⟨⟨k+1,sv6⟩,(by omega),(by show o_.length-(k+1)<o_.length-k;omega),Weak.mk [false,true,true,true,true,true,true] ⟨G,G,G,G,G,G,G,T⟩ (by exact mem3r_eq (by rw [morP_next hs0,←List.append_assoc,List.map_append (l₁:=p.Params++morP p (o_.take k))];rfl))⟩
   ·try simp only [I] at c3
    rw [qW (l:=o_) (k:=k) (by omega)]
    refine qN<|B O<|F O<|yZ _ (kN 9 1)<|zV O O (yE 0 O el22 O O O (by simp only [List.length_map,List.length_append,List.length_cons,List.length_nil,List.length_take,List.length_drop];omega) (by simp only [List.length_map,List.length_append,List.length_cons,List.length_nil,List.length_take,List.length_drop];omega)) ?_
    rintro _ _ ⟨sv7,rfl,rfl⟩
    refine F O<|H<|W<|B O<|zH O kW<|zL zBp (K 6 O) O<|zZ O el25<|F O<|H<|zP<|zW ⟨[(73,.c _),(14,.c _),(2,.c _),(4,.c _),(9,.c _),(71,.c _),(72,.c _)],[_,_,_,_,_,_,_]⟩ (Weak.mk [true,true,true,true,true,true,true] ⟨G,G,G,G,G,G,G,T⟩ O)<|qJ 2 3 O O (Nat×List Df×List ByteArray×Value×Value) (fun ⟨k,oD,A,sa,su⟩=>[(73,vI k),(14,.c (.lit sa))]) (fun ⟨k,oD,A,sa,su⟩=>[E.vec sa 9 1 ((A).map fun s=>[cS s]),E.vec su 59 22 (oD.map Df.cells),E.row b4 27 [.sl 1 ((p.Sizes).map fun s=>[cS s]),.sl 3 (p.Where.map Cn.cells),.lit sw,.lit su,.lit svO]]) (fun ⟨k,oD,A,sa,su⟩=>k<=p.Defs.length/\(Rg=defG p.en oD A (p.Defs.drop k))/\(oD.length<=2*k)/\(A.length<=40+k)/\(∀s,s∈A->s.size<=1000000)) (fun ⟨k,oD,A,sa,su⟩=>p.Defs.length-k) ⟨⟨0,[],o_,sv7,(.slice none 0 0)⟩,⟨by omega,hR.symm,by simp,by omega,fun s hs2=>Nat.le_trans (hs s hs2) (by decide)⟩,Weak.mk [true,true,true,true,true,true,true] ⟨G,G,G,G,G,G,G,T⟩ O⟩ ?_
    rintro ⟨k,oD,A,sa,su⟩ ⟨hk,hq,hOl,hAl,hAs⟩
    show AWP _ _ _ _ _ ⟨[(73,vI k),(14,.c (.lit sa))]++_,[E.vec sa 9 1 ((A).map fun s=>[cS s]),E.vec su 59 22 (oD.map Df.cells),E.row b4 27 [.sl 1 ((p.Sizes).map fun s=>[cS s]),.sl 3 (p.Where.map Cn.cells),.lit sw,.lit su,.lit svO]]++_⟩
    refine B O<|yD O<|H<|W<|g O (fun c4=>?_) (fun c4=>?_)
    ·try simp only [I] at c4
     obtain ⟨d,hd⟩:=qQ p.Defs k (by omega)
     obtain ⟨D,hD⟩:∃D,derF p.en d A=D:=⟨_,rfl⟩
     have hdb:=valid_body c1 hd
     have hdn:=name_size (valid_defs c1 d (qD hd))
     refine zJ<|W<|zP<|B O<|qH O el25 (by omega) (X hd)<|zK zFb qB O<|zV O O (qG [none,none,none,none,none,none,some 3,some 3,none,none,none,none,none,none,none,none,none,none,none,some 2,some 4,some 13] O zr59 O) ?_
     rintro _ _ ⟨b8,rfl,rfl⟩
     refine N 0 sz59 O<|H<|B O<|zH O kW<|zL zBp (K 3 O) O<|zK zFb (K 0 O) O<|yB O el25 zr59<|zV O O (yE 2 O el25 O O O (by simp only [List.length_map,List.length_append,List.length_cons,List.length_nil,List.length_take,List.length_drop];omega) (by simp only [List.length_map,List.length_append,List.length_cons,List.length_nil,List.length_take,List.length_drop];omega)) ?_
     rintro _ _ ⟨sv9,rfl,rfl⟩
     refine zH O kW<|N 3 sz25 O<|H<|B O<|zK kK (K 7 O) O<|zK zFb (K 0 O) O<|F O<|zX O (wC [1] O ok45 (show Con cfg 45 [vPg p,vDf d,.c (.lit sa)] [E.vec sa 9 1 ((A).map fun s=>[cS s])] fun r μ'=>r=.tup [vDf D.1,vB D.2.1,vI D.2.2]/\μ'=[E.vec sa 9 1 ((A).map fun s=>[cS s])] by rw [←hD];exact fwd_deriveM p hP d sa A (by omega) hAs hdb (h.ds d (qD hd)).2.2 (by omega)) ⟨G,O,G,O,G,O,T⟩ O)<|zX O (qU O O)<|zX O (yI O O O)<|zX O (yO O O O)<|zX O (yO O O O)<|zV O O (qG [none,none,none,none,none,none,some 3,some 3,none,none,none,none,none,none,none,none,none,none,none,some 2,some 4,some 13] O zr59 O) ?_
     rintro _ _ ⟨b10,rfl,rfl⟩
     refine N 0 sz59 O<|F O<|F O<|H<|W<|B O<|F O<|yU O<|H<|g O (fun c5=>?_) (fun c5=>?_)
     ·try simp only [I] at c5
      refine B O<|zX O (yA [some 1,some 3,some 7,some 22,some 1] O zr27 pl27 O O)<|F O<|N 7 sz27 O<|F O<|H<|U<|fin2 (zR kK O (K 7 O) O) (o O) ?_
      have hRx:=defG_err hd hq (by rw [hD];exact c5)
      rw [hD] at hRx
      rw [progF_3 c1 c2 hR (by rw [hRx];exact c5),hRx];rfl
     ·try simp only [I] at c5
      refine zJ<|B O<|F O<|H<|g O (fun c6=>?_) (fun c6=>?_)
      ·try simp only [I] at c6
       refine B O<|F O<|zH O zOc<|zL i (K 1 O) O<|yB O el22 zr9<|zV O O (yE 2 O el22 O O O (by simp only [List.length_map,List.length_append,List.length_cons,List.length_nil,List.length_take,List.length_drop];omega) (by simp only [List.length_map,List.length_append,List.length_cons,List.length_nil,List.length_take,List.length_drop];omega)) ?_
       rintro _ _ ⟨sv11,rfl,rfl⟩
       refine F O<|H<|zU O<|zH O kW<|zL zBp (K 4 O) O<|zK zFb (K 0 O) O<|yB O el25 zr59<|zV O O (yE 3 O el25 O O O (by simp only [List.length_map,List.length_append,List.length_cons,List.length_nil,List.length_take,List.length_drop];omega) (by simp only [List.length_map,List.length_append,List.length_cons,List.length_nil,List.length_take,List.length_drop];omega)) ?_
       rintro _ _ ⟨sv12,rfl,rfl⟩
       refine zH O kW<|N 4 sz25 O<|H<|zU O<|qL O ⟨by omega,by omega⟩<|F O<|H ?_
       refine ⟨⟨k+1,oD++[d,D.1],A++[d.Name],sv11,sv12⟩,⟨by omega,by rw [←hD] at c5 c6⊢;exact defG_yes hd hq c5 c6,by simp;omega,by simp;omega,fun s hs2=>by rcases List.mem_append.1 hs2 with h9|h9;exact hAs s h9;rw [List.mem_singleton.1 h9];omega⟩,(by show p.Defs.length-(k+1)<p.Defs.length-k;omega),Weak.mk [false,false,true,true,true,true,true,true,true] ⟨G,G,G,G,G,G,G,T⟩ (by exact mem2vr_eq (by rw [List.map_append];rfl) (by rw [List.map_append,List.append_assoc];rfl))⟩
      ·try simp only [I] at c6
       refine zJ<|zU O<|qL O ⟨by omega,by omega⟩<|F O<|H ?_
       refine ⟨⟨k+1,oD++[d],A,sa,sv9⟩,⟨by omega,by rw [←hD] at c5 c6;exact defG_no hd hq c5 c6,by simp;omega,by omega,hAs⟩,(by show p.Defs.length-(k+1)<p.Defs.length-k;omega),Weak.mk [false,false,true,true,true,true,true,true,true] ⟨G,G,G,G,G,G,G,T⟩ (by exact mem2vr_eq rfl (by rw [List.map_append];rfl))⟩
    ·try simp only [I] at c4
     have hRe:=defG_end hq (by omega)
     have hsm:=defG_sm (n:=p.en) p.Defs [] o_ (fun d hd=>h.df hd) (fun d hd=>by cases hd)
     rw [hR,hRe] at hsm
     dsimp only at hsm
     have hOk:=outG_ok (A:=A) (l:=o_) (M:=morP p o_) h hsm.1 (by omega) (by unfold morP;rw [List.length_map];omega) (morP_sm h o_)
     refine qN<|W<|B O<|zH O zHi<|zL zDv (K 6 O) O<|zZ O el22<|F O<|H<|zP<|zW ⟨[(111,.c _),(4,.c _),(9,.c _),(14,.c _),(109,.c _),(110,.c _)],[_,_,_,_,_,_]⟩ (Weak.mk [true,true,true,true,true,true,false] ⟨G,G,G,G,G,G,T⟩ O)<|qJ 1 5 O O (Nat×Value) (fun ⟨k,so⟩=>[(111,vI k)]) (fun ⟨k,so⟩=>[E.vec sa 9 1 ((A).map fun s=>[cS s]),E.vec su 59 22 (oD.map Df.cells),E.row b4 27 [.sl 1 ((p.Sizes).map fun s=>[cS s]),.sl 3 (p.Where.map Cn.cells),.lit sw,.lit su,.lit so],E.vec sw 65 7 ((p.Params++morP p o_).map Pm.cells),E.vec so 9 1 ((p.Outs++((p.Outs.take k).filter (hasB A)).map dNm).map fun s=>[cS s])]) (fun ⟨k,so⟩=>k<=p.Outs.length) (fun ⟨k,so⟩=>p.Outs.length-k) ⟨⟨0,svO⟩,(by omega),Weak.mk [true,true,true,true,true,true] ⟨G,G,G,G,G,G,T⟩ (by exact mem5_eq (by rw [List.take_zero];simp))⟩ ?_
     rintro ⟨k,so⟩ hk
     show AWP _ _ _ _ _ ⟨[(111,vI k)]++_,[E.vec sa 9 1 ((A).map fun s=>[cS s]),E.vec su 59 22 (oD.map Df.cells),E.row b4 27 [.sl 1 ((p.Sizes).map fun s=>[cS s]),.sl 3 (p.Where.map Cn.cells),.lit sw,.lit su,.lit so],E.vec sw 65 7 ((p.Params++morP p o_).map Pm.cells),E.vec so 9 1 ((p.Outs++((p.Outs.take k).filter (hasB A)).map dNm).map fun s=>[cS s])]++_⟩
     refine B O<|yD O<|H<|W<|g O (fun c7=>?_) (fun c7=>?_)
     ·try simp only [I] at c7
      obtain ⟨s,hs1⟩:=qQ p.Outs k (by omega)
      have hxl:=out_len p.Outs A k
      refine zJ<|W<|zP<|B O<|qH O el22 (by omega) (X hs1)<|zL i qB O<|F O<|H<|B O<|F O<|F O<|zX O (zEy 0 O ok46 O (kE A s (by omega)) O ⟨.inl ⟨O,O⟩,.inr ⟨G,O⟩,T⟩)<|H<|g O (fun c8=>?_) (fun c8=>?_)
      ·try simp only [I] at c8
       have c8:hasB A s=true:=by simpa using c8
       refine qP 5 mixed (by kernel_rfl) O O<|Y O O (zE O zHi O)<|Y O O (zG O zDv O (K 2 O) O)<|Y O O (zQ O O)<|Y O O (qF O ok14 (zAa s (hAs s (zGp.1 c8))) ⟨G,O,T⟩)<|Y O O (qY O el22 zr9 O O O O)<|yK<|zV O O (yE 4 O el22 O O O (by simp only [List.length_map,List.length_append,List.length_cons,List.length_nil,List.length_take,List.length_drop];omega) (by simp only [List.length_map,List.length_append,List.length_cons,List.length_nil,List.length_take,List.length_drop];omega)) ?_
       rintro _ _ ⟨sv13,rfl,rfl⟩
       refine zH O zHi<|N 2 sz22 O<|H<|zU O<|qL O ⟨by omega,by omega⟩<|F O<|H ?_
       refine ⟨⟨k+1,sv13⟩,(by omega),(by show p.Outs.length-(k+1)<p.Outs.length-k;omega),Weak.mk [true,true,true,true,true,true] ⟨G,G,G,G,G,G,T⟩ (by exact mem5_eq (by rw [out_yes hs1 c8];simp))⟩
      ·try simp only [I] at c8
       have c8:¬hasB A s=true:=by simpa using c8
       refine zJ<|zU O<|qL O ⟨by omega,by omega⟩<|F O<|H ?_
       refine ⟨⟨k+1,so⟩,(by omega),(by show p.Outs.length-(k+1)<p.Outs.length-k;omega),Weak.mk [true,true,true,true,true,true] ⟨G,G,G,G,G,G,T⟩ (by exact mem5_eq (by rw [out_no hs1 c8]))⟩
     ·try simp only [I] at c7
      rw [qW (l:=p.Outs) (k:=k) (by omega)]
      refine zW _ (kJ 1 O (regs':=[]) (μ':=[_,_,_,_,_]) T ⟨EFle.refl _,EFle.row (ds:=[_,_,_,_,_]) ⟨.inl O,.inl O,.inl O,.inr ⟨O,O⟩,.inl O,T⟩,EFle.refl _,EFle.refl _,EFle.refl _,T⟩)<|zW _ (kJ 2 O (regs':=[]) (μ':=[_,_,_,_]) T ⟨EFle.refl _,EFle.row (ds:=[_,_,_,_,_]) ⟨.inl O,.inl O,.inr ⟨O,O⟩,.inl O,.inl O,T⟩,EFle.refl _,EFle.refl _,T⟩)<|zW _ (kJ 2 O (regs':=[]) (μ':=[_,_,_]) T ⟨EFle.refl _,EFle.row (ds:=[_,_,_,_,_]) ⟨.inl O,.inl O,.inl O,.inl O,.inr ⟨O,O⟩,T⟩,EFle.refl _,T⟩)<|qN<|W<|B O<|zK kK (K 1 O) O<|qK O ok41 (zFf (outG p oD A (morP p o_)) hOk) ⟨G,O,T⟩<|zX O (qU O O)<|zX O (yO O O O)<|zX O (yO O O O)<|F O<|F O<|H<|B O<|F O<|yU O<|H<|g O (fun c9=>?_) (fun c9=>?_)
      ·try simp only [I] at c9
       refine B O<|zX O (yA [some 1,some 3,some 7,some 22,some 1] O zr27 pl27 O O)<|F O<|N 2 sz27 O<|F O<|H<|U<|fin2 (zR kK O (K 2 O) O) (o O) ?_
       have h9:=progF_4 (o_:=o_) c1 c2 hR (by rw [hRe])
       rw [hRe] at h9
       rw [h9 c9];rfl
      ·try simp only [I] at c9
       refine zJ<|B O<|zK kK (K 1 O) O<|qK O ok43 (program_Copy (outG p oD A (morP p o_)) (pgOkC hOk)) ⟨G,O,T⟩<|N 2 sz27 O<|F O<|H<|U<|fin2 (zR kK O (K 2 O) O) (o O) ?_
       have h9:=progF_5 (o_:=o_) c1 c2 hR (by rw [hRe])
       rw [hRe] at h9
       rw [h9 c9];rfl
end Go.W
