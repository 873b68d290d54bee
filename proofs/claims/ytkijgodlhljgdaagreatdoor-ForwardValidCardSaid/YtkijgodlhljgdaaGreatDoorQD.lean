/-
  Walks: what functions of the program compute. Printed by wip/gen/mk2.py.
  Conditions: none.
-/
import Derived.Test.YtkijgodlhljgdaaGreatDoorQM
set_option linter.unusedSimpArgs false
set_option linter.unusedVariables false
set_option maxRecDepth 10000
namespace Go.W
open Go Go.Eng Go.Proofs Go.L41 Go.Br
attribute [local irreducible] AWP RWP TD finQ
theorem ok41:callOk Tryz.prog 41=true:=by kernel_rfl
theorem ok42:callOk Tryz.prog 42=true:=by kernel_rfl
theorem ok45:callOk Tryz.prog 45=true:=by kernel_rfl
theorem fwd_Prog (p:Pg) (h:p.Sm) (o_:List ByteArray) (ho:o_.length<=40) (hs:∀s,s∈o_->s.size<=100):
    Pur cfg 15 [vPg p,vSs o_] (.tup [vPg (progF p o_).1,vI (progF p o_).2]):=by
 refine zT Tryz.func15 O Tryz.ntmps15 Tryz.results15 O ?_
 intro z hz
 have hP:=h.ok
 have hdl:=h.defs
 have hpl:=h.params
 have hol:=h.outs
 obtain ⟨Rg,hR⟩:∃R,defG p.en [] o_ p.Defs=R:=⟨_,rfl⟩
 refine B O<|zZ O O (qI O O) ?_
 rintro _ _ ⟨b1,rfl,rfl⟩
 refine zZ O O (qH [some 1,some 3,some 7,some 22,some 1] O zr27 O) ?_
 rintro _ _ ⟨b2,rfl,rfl⟩
 refine G O<|U<|zI<|B O<|zL kO (J 1 O) O<|qK O ok41 (zFd p hP) ⟨Y,O,T⟩<|zX O (qV O O)<|zX O (yI O O O)<|zX O (yI O O O)<|G O<|G O<|U<|B O<|G O<|yN O<|U<|zE O (fun c1=>?_) (fun c1=>?_)
 ·try simp only [W] at c1
  refine B O<|zX O (yK [some 1,some 3,some 7,some 22,some 1] O zr27 pl27 O O)<|G O<|N 0 sz27 O<|G O<|U<|zH<|fin2 (zV kO O (J 0 O) O) (v O) ?_
  rw [progF_1 c1];rfl
 ·try simp only [W] at c1
  refine zJ<|zI<|B O<|zL kO (J 1 O) O<|G O<|qK O ok42 (fwd_checkNames p hP o_ ho) ⟨Y,O,Y,O,T⟩<|G O<|U<|B O<|G O<|yN O<|U<|zE O (fun c2=>?_) (fun c2=>?_)
  ·try simp only [W] at c2
   refine B O<|zX O (yK [some 1,some 3,some 7,some 22,some 1] O zr27 pl27 O O)<|G O<|N 0 sz27 O<|G O<|U<|zH<|fin2 (zV kO O (J 0 O) O) (v O) ?_
   rw [progF_2 c1 c2];rfl
  ·try simp only [W] at c2
   refine zJ<|B O<|zL kO (J 1 O) O<|zZ O O (zDs O ok43 (Con.frame (program_CopyQ p (pgOkC hP)) _) ⟨Y,O,T⟩) ?_
   rintro _ _ ⟨_,⟨svP,svO,rfl,rfl⟩,rfl⟩
   refine zZ O O (qH [some 1,some 3,some 7,some 22,some 1] O zr27 O) ?_
   rintro _ _ ⟨b4,rfl,rfl⟩
   refine N 0 sz27 O<|U<|B O<|zG O kE<|N 0 sz25 O<|U<|zI<|B O<|yY _ (kM 59 22)<|G O<|zY O el22<|G O<|U<|zP<|zU ⟨[(45,.c _),(1,.c _),(2,.c _),(4,.c _),(9,.c _),(43,.c _),(44,.c _)],[_,_,_,_,_,_]⟩ (Weak.mk [true,true,true,true,true,true] ⟨Y,Y,Y,Y,Y,Y,Y,T⟩ O)<|qF 1 3 O O (Nat×Value) (fun ⟨k,sw⟩=>[(45,vI k)]) (fun ⟨k,sw⟩=>[E.vec (.slice none 0 0) 59 22 ([]),E.row b4 27 [.sl 1 ((p.Sizes).map fun s=>[cS s]),.sl 3 (p.Where.map Cn.cells),.lit sw,.lit (.slice none 0 0),.lit svO],E.vec sw 65 7 ((p.Params++morP p (o_.take k)).map Pm.cells)]) (fun ⟨k,sw⟩=>k<=o_.length) (fun ⟨k,sw⟩=>o_.length-k) ⟨⟨0,svP⟩,(by omega),Weak.mk [true,true,true,true,true,true] ⟨Y,Y,Y,Y,Y,Y,Y,T⟩ (by exact mem3r_eq (by rw [List.take_zero,show morP p []=[] from rfl,List.append_nil]))⟩ ?_
   rintro ⟨k,sw⟩ hk
   show AWP _ _ _ _ _ ⟨[(45,vI k)]++_,[E.vec (.slice none 0 0) 59 22 ([]),E.row b4 27 [.sl 1 ((p.Sizes).map fun s=>[cS s]),.sl 3 (p.Where.map Cn.cells),.lit sw,.lit (.slice none 0 0),.lit svO],E.vec sw 65 7 ((p.Params++morP p (o_.take k)).map Pm.cells)]++_⟩
   refine B O<|yA O<|U<|zI<|zE O (fun c3=>?_) (fun c3=>?_)
   ·try simp only [W] at c3
    obtain ⟨s,hs0⟩:=qQ o_ k (by omega)
    have hml:(morP p (o_.take k)).length<=40:=by unfold morP;rw [List.length_map,List.length_take];omega
    refine zJ<|zI<|zP<|B O<|qE O el22 (by omega) (getm hs0)<|zK one9 qB O<|G O<|U<|B O<|zL kO (J 5 O) O<|G O<|qK O ok44 (fwd_param p s hP) ⟨Y,O,Y,O,T⟩<|zX O (qV O O)<|zX O (yJ O O O)<|zX O (yI O O O)<|zZ O O (qH [none,none,none,none,none,none,some 2] O zr65 O) ?_
    rintro _ _ ⟨b5,rfl,rfl⟩
    refine N 0 sz65 O<|G O<|U<|qT 10 mixed (by kernel_rfl) O O<|zM O O (zD O wN O)<|zM O O (zF O zCk O (J 2 O) O)<|zM O O (zR O O)<|zM O O (qG O ok14 (zAq s (by have:=hs s (qD hs0);omega)) ⟨Y,O,T⟩)<|zM O O (zD O fd65_1 O)<|zM O O (zN O qZ O (J 0 O) O)<|zM O O (zD O zEm O)<|zM O O (zF O zBa O (J 0 O) O)<|zM O O (kX O zr65 pl65 O)<|zM O O (yT O el24 zr65 O O O O)<|yM<|zZ O O (qY 3 O el24 O O O (by simp only [List.length_map,List.length_append,List.length_cons,List.length_nil,List.length_take,List.length_drop];omega) (by simp only [List.length_map,List.length_append,List.length_cons,List.length_nil,List.length_take,List.length_drop];omega)) ?_
    rintro _ _ ⟨sv6,rfl,rfl⟩
    refine zG O wN<|N 2 sz24 O<|U<|zS O<|qJ O ⟨by omega,by omega⟩<|G O<|U ?_
    refine ⟨⟨k+1,sv6⟩,(by omega),(by show o_.length-(k+1)<o_.length-k;omega),Weak.mk [false,true,true,true,true,true,true] ⟨Y,Y,Y,Y,Y,Y,Y,T⟩ (by exact mem3r_eq (by rw [morP_next hs0,←List.append_assoc,List.map_append (l₁:=p.Params++morP p (o_.take k))];rfl))⟩
   ·try simp only [W] at c3
    rw [qX (l:=o_) (k:=k) (by omega)]
    refine qO<|B O<|G O<|yY _ (kM 9 1)<|zZ O O (qY 0 O el22 O O O (by simp only [List.length_map,List.length_append,List.length_cons,List.length_nil,List.length_take,List.length_drop];omega) (by simp only [List.length_map,List.length_append,List.length_cons,List.length_nil,List.length_take,List.length_drop];omega)) ?_
    rintro _ _ ⟨sv7,rfl,rfl⟩
    refine G O<|U<|zI<|B O<|zG O kE<|zK wX (J 6 O) O<|zY O el25<|G O<|U<|zP<|zU ⟨[(73,.c _),(14,.c _),(2,.c _),(4,.c _),(9,.c _),(71,.c _),(72,.c _)],[_,_,_,_,_,_,_]⟩ (Weak.mk [true,true,true,true,true,true,true] ⟨Y,Y,Y,Y,Y,Y,Y,T⟩ O)<|qF 2 3 O O (Nat×List Df×List ByteArray×Value×Value) (fun ⟨k,oD,A,sa,su⟩=>[(73,vI k),(14,.c (.lit sa))]) (fun ⟨k,oD,A,sa,su⟩=>[E.vec sa 9 1 ((A).map fun s=>[cS s]),E.vec su 59 22 (oD.map Df.cells),E.row b4 27 [.sl 1 ((p.Sizes).map fun s=>[cS s]),.sl 3 (p.Where.map Cn.cells),.lit sw,.lit su,.lit svO]]) (fun ⟨k,oD,A,sa,su⟩=>k<=p.Defs.length/\(Rg=defG p.en oD A (p.Defs.drop k))/\(oD.length<=2*k)/\(A.length<=40+k)/\(∀s,s∈A->s.size<=1000000)) (fun ⟨k,oD,A,sa,su⟩=>p.Defs.length-k) ⟨⟨0,[],o_,sv7,(.slice none 0 0)⟩,⟨by omega,hR.symm,by simp,by omega,fun s hs2=>Nat.le_trans (hs s hs2) (by decide)⟩,Weak.mk [true,true,true,true,true,true,true] ⟨Y,Y,Y,Y,Y,Y,Y,T⟩ O⟩ ?_
    rintro ⟨k,oD,A,sa,su⟩ ⟨hk,hq,hOl,hAl,hAs⟩
    show AWP _ _ _ _ _ ⟨[(73,vI k),(14,.c (.lit sa))]++_,[E.vec sa 9 1 ((A).map fun s=>[cS s]),E.vec su 59 22 (oD.map Df.cells),E.row b4 27 [.sl 1 ((p.Sizes).map fun s=>[cS s]),.sl 3 (p.Where.map Cn.cells),.lit sw,.lit su,.lit svO]]++_⟩
    refine B O<|yA O<|U<|zI<|zE O (fun c4=>?_) (fun c4=>?_)
    ·try simp only [W] at c4
     obtain ⟨d,hd⟩:=qQ p.Defs k (by omega)
     obtain ⟨D,hD⟩:∃D,derF p.en d A=D:=⟨_,rfl⟩
     have hdb:=valid_body c1 hd
     have hdn:=name_size (valid_defs c1 d (qD hd))
     refine zJ<|zI<|zP<|B O<|qE O el25 (by omega) (getm hd)<|zL zCv qB O<|zZ O O (qH [none,none,none,none,none,none,some 3,some 3,none,none,none,none,none,none,none,none,none,none,none,some 2,some 4,some 13] O zr59 O) ?_
     rintro _ _ ⟨b8,rfl,rfl⟩
     refine N 0 sz59 O<|U<|B O<|zG O kE<|zK wX (J 3 O) O<|zL zCv (J 0 O) O<|yE O el25 zr59<|zZ O O (qY 2 O el25 O O O (by simp only [List.length_map,List.length_append,List.length_cons,List.length_nil,List.length_take,List.length_drop];omega) (by simp only [List.length_map,List.length_append,List.length_cons,List.length_nil,List.length_take,List.length_drop];omega)) ?_
     rintro _ _ ⟨sv9,rfl,rfl⟩
     refine zG O kE<|N 3 sz25 O<|U<|B O<|zL kO (J 7 O) O<|zL zCv (J 0 O) O<|G O<|zX O (wE [1] O ok45 (show Con cfg 45 [vPg p,vDf d,.c (.lit sa)] [E.vec sa 9 1 ((A).map fun s=>[cS s])] fun r μ'=>r=.tup [vDf D.1,vB D.2.1,vI D.2.2]/\μ'=[E.vec sa 9 1 ((A).map fun s=>[cS s])] by rw [←hD];exact fwd_deriveM p hP d sa A (by omega) hAs hdb (h.ds d (qD hd)).2.2 (by omega)) ⟨Y,O,Y,O,Y,O,T⟩ O)<|zX O (qV O O)<|zX O (yJ O O O)<|zX O (yI O O O)<|zX O (yI O O O)<|zZ O O (qH [none,none,none,none,none,none,some 3,some 3,none,none,none,none,none,none,none,none,none,none,none,some 2,some 4,some 13] O zr59 O) ?_
     rintro _ _ ⟨b10,rfl,rfl⟩
     refine N 0 sz59 O<|G O<|G O<|U<|zI<|B O<|G O<|yN O<|U<|zE O (fun c5=>?_) (fun c5=>?_)
     ·try simp only [W] at c5
      refine B O<|zX O (yK [some 1,some 3,some 7,some 22,some 1] O zr27 pl27 O O)<|G O<|N 7 sz27 O<|G O<|U<|zH<|fin2 (zV kO O (J 7 O) O) (v O) ?_
      have hRx:=defG_err hd hq (by rw [hD];exact c5)
      rw [hD] at hRx
      rw [progF_3 c1 c2 hR (by rw [hRx];exact c5),hRx];rfl
     ·try simp only [W] at c5
      refine zJ<|B O<|G O<|U<|zE O (fun c6=>?_) (fun c6=>?_)
      ·try simp only [W] at c6
       refine B O<|G O<|zG O zEn<|zK one9 (J 1 O) O<|yE O el22 zr9<|zZ O O (qY 2 O el22 O O O (by simp only [List.length_map,List.length_append,List.length_cons,List.length_nil,List.length_take,List.length_drop];omega) (by simp only [List.length_map,List.length_append,List.length_cons,List.length_nil,List.length_take,List.length_drop];omega)) ?_
       rintro _ _ ⟨sv11,rfl,rfl⟩
       refine G O<|U<|zS O<|zG O kE<|zK wX (J 4 O) O<|zL zCv (J 0 O) O<|yE O el25 zr59<|zZ O O (qY 3 O el25 O O O (by simp only [List.length_map,List.length_append,List.length_cons,List.length_nil,List.length_take,List.length_drop];omega) (by simp only [List.length_map,List.length_append,List.length_cons,List.length_nil,List.length_take,List.length_drop];omega)) ?_
       rintro _ _ ⟨sv12,rfl,rfl⟩
       refine zG O kE<|N 4 sz25 O<|U<|zS O<|qJ O ⟨by omega,by omega⟩<|G O<|U ?_
       refine ⟨⟨k+1,oD++[d,D.1],A++[d.Name],sv11,sv12⟩,⟨by omega,by rw [←hD] at c5 c6⊢;exact defG_yes hd hq c5 c6,by simp;omega,by simp;omega,fun s hs2=>by rcases List.mem_append.1 hs2 with h9|h9;exact hAs s h9;rw [List.mem_singleton.1 h9];omega⟩,(by show p.Defs.length-(k+1)<p.Defs.length-k;omega),Weak.mk [false,false,true,true,true,true,true,true,true] ⟨Y,Y,Y,Y,Y,Y,Y,T⟩ (by exact mem2vr_eq (by rw [List.map_append];rfl) (by rw [List.map_append,List.append_assoc];rfl))⟩
      ·try simp only [W] at c6
       refine zJ<|zS O<|qJ O ⟨by omega,by omega⟩<|G O<|U ?_
       refine ⟨⟨k+1,oD++[d],A,sa,sv9⟩,⟨by omega,by rw [←hD] at c5 c6;exact defG_no hd hq c5 c6,by simp;omega,by omega,hAs⟩,(by show p.Defs.length-(k+1)<p.Defs.length-k;omega),Weak.mk [false,false,true,true,true,true,true,true,true] ⟨Y,Y,Y,Y,Y,Y,Y,T⟩ (by exact mem2vr_eq rfl (by rw [List.map_append];rfl))⟩
    ·try simp only [W] at c4
     have hRe:=defG_end hq (by omega)
     have hsm:=defG_sm (n:=p.en) p.Defs [] o_ (fun d hd=>h.df hd) (fun d hd=>by cases hd)
     rw [hR,hRe] at hsm
     dsimp only at hsm
     have hOk:=outG_ok (A:=A) (l:=o_) (M:=morP p o_) h hsm.1 (by omega) (by unfold morP;rw [List.length_map];omega) (morP_sm h o_)
     refine qO<|zI<|B O<|zG O zBb<|zK wY (J 6 O) O<|zY O el22<|G O<|U<|zP<|zU ⟨[(111,.c _),(4,.c _),(9,.c _),(14,.c _),(109,.c _),(110,.c _)],[_,_,_,_,_,_]⟩ (Weak.mk [true,true,true,true,true,true,false] ⟨Y,Y,Y,Y,Y,Y,T⟩ O)<|qF 1 5 O O (Nat×Value) (fun ⟨k,so⟩=>[(111,vI k)]) (fun ⟨k,so⟩=>[E.vec sa 9 1 ((A).map fun s=>[cS s]),E.vec su 59 22 (oD.map Df.cells),E.row b4 27 [.sl 1 ((p.Sizes).map fun s=>[cS s]),.sl 3 (p.Where.map Cn.cells),.lit sw,.lit su,.lit so],E.vec sw 65 7 ((p.Params++morP p o_).map Pm.cells),E.vec so 9 1 ((p.Outs++((p.Outs.take k).filter (hasB A)).map dNm).map fun s=>[cS s])]) (fun ⟨k,so⟩=>k<=p.Outs.length) (fun ⟨k,so⟩=>p.Outs.length-k) ⟨⟨0,svO⟩,(by omega),Weak.mk [true,true,true,true,true,true] ⟨Y,Y,Y,Y,Y,Y,T⟩ (by exact mem5_eq (by rw [List.take_zero];simp))⟩ ?_
     rintro ⟨k,so⟩ hk
     show AWP _ _ _ _ _ ⟨[(111,vI k)]++_,[E.vec sa 9 1 ((A).map fun s=>[cS s]),E.vec su 59 22 (oD.map Df.cells),E.row b4 27 [.sl 1 ((p.Sizes).map fun s=>[cS s]),.sl 3 (p.Where.map Cn.cells),.lit sw,.lit su,.lit so],E.vec sw 65 7 ((p.Params++morP p o_).map Pm.cells),E.vec so 9 1 ((p.Outs++((p.Outs.take k).filter (hasB A)).map dNm).map fun s=>[cS s])]++_⟩
     refine B O<|yA O<|U<|zI<|zE O (fun c7=>?_) (fun c7=>?_)
     ·try simp only [W] at c7
      obtain ⟨s,hs1⟩:=qQ p.Outs k (by omega)
      have hxl:=out_len p.Outs A k
      refine zJ<|zI<|zP<|B O<|qE O el22 (by omega) (getm hs1)<|zK one9 qB O<|G O<|U<|B O<|G O<|G O<|zX O (zAf 0 O ok46 O (kD A s (by omega)) O ⟨.inl ⟨O,O⟩,.inr ⟨Y,O⟩,T⟩)<|U<|zE O (fun c8=>?_) (fun c8=>?_)
      ·try simp only [W] at c8
       have c8:hasB A s=true:=by simpa using c8
       refine qT 5 mixed (by kernel_rfl) O O<|zM O O (zD O zBb O)<|zM O O (zF O wY O (J 2 O) O)<|zM O O (zR O O)<|zM O O (qG O ok14 (zAq s (hAs s (hasB_mem.1 c8))) ⟨Y,O,T⟩)<|zM O O (yT O el22 zr9 O O O O)<|yM<|zZ O O (qY 4 O el22 O O O (by simp only [List.length_map,List.length_append,List.length_cons,List.length_nil,List.length_take,List.length_drop];omega) (by simp only [List.length_map,List.length_append,List.length_cons,List.length_nil,List.length_take,List.length_drop];omega)) ?_
       rintro _ _ ⟨sv13,rfl,rfl⟩
       refine zG O zBb<|N 2 sz22 O<|U<|zS O<|qJ O ⟨by omega,by omega⟩<|G O<|U ?_
       refine ⟨⟨k+1,sv13⟩,(by omega),(by show p.Outs.length-(k+1)<p.Outs.length-k;omega),Weak.mk [true,true,true,true,true,true] ⟨Y,Y,Y,Y,Y,Y,T⟩ (by exact mem5_eq (by rw [out_yes hs1 c8];simp))⟩
      ·try simp only [W] at c8
       have c8:¬hasB A s=true:=by simpa using c8
       refine zJ<|zS O<|qJ O ⟨by omega,by omega⟩<|G O<|U ?_
       refine ⟨⟨k+1,so⟩,(by omega),(by show p.Outs.length-(k+1)<p.Outs.length-k;omega),Weak.mk [true,true,true,true,true,true] ⟨Y,Y,Y,Y,Y,Y,T⟩ (by exact mem5_eq (by rw [out_no hs1 c8]))⟩
     ·try simp only [W] at c7
      rw [qX (l:=p.Outs) (k:=k) (by omega)]
      refine zU _ (kJ 1 O (regs':=[]) (μ':=[_,_,_,_,_]) T ⟨EFle.refl _,EFle.row (ds:=[_,_,_,_,_]) ⟨.inl O,.inl O,.inl O,.inr ⟨O,O⟩,.inl O,T⟩,EFle.refl _,EFle.refl _,EFle.refl _,T⟩)<|zU _ (kJ 2 O (regs':=[]) (μ':=[_,_,_,_]) T ⟨EFle.refl _,EFle.row (ds:=[_,_,_,_,_]) ⟨.inl O,.inl O,.inr ⟨O,O⟩,.inl O,.inl O,T⟩,EFle.refl _,EFle.refl _,T⟩)<|zU _ (kJ 2 O (regs':=[]) (μ':=[_,_,_]) T ⟨EFle.refl _,EFle.row (ds:=[_,_,_,_,_]) ⟨.inl O,.inl O,.inl O,.inl O,.inr ⟨O,O⟩,T⟩,EFle.refl _,T⟩)<|qO<|zI<|B O<|zL kO (J 1 O) O<|qK O ok41 (zFd (outG p oD A (morP p o_)) hOk) ⟨Y,O,T⟩<|zX O (qV O O)<|zX O (yI O O O)<|zX O (yI O O O)<|G O<|G O<|U<|B O<|G O<|yN O<|U<|zE O (fun c9=>?_) (fun c9=>?_)
      ·try simp only [W] at c9
       refine B O<|zX O (yK [some 1,some 3,some 7,some 22,some 1] O zr27 pl27 O O)<|G O<|N 2 sz27 O<|G O<|U<|zH<|fin2 (zV kO O (J 2 O) O) (v O) ?_
       have h9:=progF_4 (o_:=o_) c1 c2 hR (by rw [hRe])
       rw [hRe] at h9
       rw [h9 c9];rfl
      ·try simp only [W] at c9
       refine zJ<|B O<|zL kO (J 1 O) O<|qK O ok43 (program_Copy (outG p oD A (morP p o_)) (pgOkC hOk)) ⟨Y,O,T⟩<|N 2 sz27 O<|G O<|U<|zH<|fin2 (zV kO O (J 2 O) O) (v O) ?_
       have h9:=progF_5 (o_:=o_) c1 c2 hR (by rw [hRe])
       rw [hRe] at h9
       rw [h9 c9];rfl
end Go.W
