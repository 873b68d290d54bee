/-
  Walks: what functions of the program compute. Printed by wip/gen/mk2.py.
  Conditions: none.
-/
import Derived.Test.YtkijgodlhljgdaaGreatDoorQM
set_option linter.unusedSimpArgs false
set_option linter.unusedVariables false
set_option maxRecDepth 10000
namespace Go.W
open Go Go.Eng Go.Proofs Go.L41 Go.Br
attribute [local irreducible] AWP RWP TD finQ
theorem ok41:callOk Tryz.prog 41=true:=by kernel_rfl
theorem ok42:callOk Tryz.prog 42=true:=by kernel_rfl
theorem ok45:callOk Tryz.prog 45=true:=by kernel_rfl
theorem r26_params (p:Pg) (hP:p.Ok) (o_:List ByteArray) (ho:o_.length<=40) (hs:∀s,s∈o_->s.size<=100):
    Pur cfg 47 [vPg p,vSs o_] (.tup [.c (.sl 7 ((if chkO p [] o_=0 then morR p o_ else []).map Pm.cells)),vI (chkO p [] o_)]):=by
 refine zV Tryz.func47 O Tryz.ntmps47 Tryz.results47 O ?_
 intro z hz
 have hpp:=hP.params
 refine B O<|zW O O (qJ O O) ?_
 rintro _ _ ⟨b1,rfl,rfl⟩
 refine qB O (yJ 7 O O)<|F O<|H<|B O<|F O<|yV _ (kG 65 7)<|H<|U<|B O<|F O<|H<|zP<|zT ⟨[(7,.c _),(6,.c _),(1,.c _),(2,.c _)],[_,_]⟩ (Weak.mk [true,true] ⟨G,G,G,G,T⟩ O)<|qG 2 1 O O (Nat×Value) (fun ⟨k,sv⟩=>[(7,vI k),(6,.c (.lit sv))]) (fun ⟨k,sv⟩=>[E.vec sv 65 7 ((morR p (o_.take k)).map Pm.cells)]) (fun ⟨k,sv⟩=>k<=o_.length/\(chkO p [] o_=chkO p (o_.take k) (o_.drop k))) (fun ⟨k,sv⟩=>o_.length-k) ⟨⟨0,(.slice none 0 0)⟩,⟨by omega,O⟩,Weak.mk [true,true] ⟨G,G,G,G,T⟩ O⟩ ?_
 rintro ⟨k,sv⟩ ⟨hk,hp⟩
 show AWP _ _ _ _ _ ⟨[(7,vI k),(6,.c (.lit sv))]++_,[E.vec sv 65 7 ((morR p (o_.take k)).map Pm.cells)]++_⟩
 refine U<|B O<|F O<|F O<|zZ O el22<|yB O<|H<|g O (fun c1=>?_) (fun c1=>?_)
 ·try simp only [I] at c1
  obtain ⟨s,hs0⟩:=qP o_ k (by omega)
  have hml:(morR p (o_.take k)).length<=40:=by unfold morR;rw [List.length_map,List.length_take];omega
  refine zJ<|U<|zP<|B O<|F O<|H<|U<|zP<|zT ⟨[(8,.c _),(1,.c _),(2,.c _),(6,.c _),(7,.c _)],[_,_]⟩ (Weak.mk [true,true] ⟨G,G,G,G,G,T⟩ O)<|qG 1 0 O O (Nat) (fun j=>[(8,vI j)]) (fun j=>[]) (fun j=>j<=p.Params.length/\fndP s p.Params=fndP s (p.Params.drop j)) (fun j=>p.Params.length-j) ⟨0,⟨by omega,O⟩,Weak.mk [true,true] ⟨G,G,G,G,G,T⟩ O⟩ ?_
  rintro j ⟨hj,hq⟩
  refine U<|U<|qO 18 mixed (by kernel_rfl) O O<|Y O O (zQ O O)<|Y O O (zD O kM O)<|Y O O (zF O zAl O (K 1 O) O)<|Y O O (qV O el24 O)<|Y O O (zFo O O O)<|Y O O (zQ O O)<|f [] O O O O P T (fun g6_5=>zD O kM O) O<|f [(21,_)] O O O O P ⟨O,O,T⟩ (fun g6_5=>zF O zAl O (K 1 O) O) O<|f [] O O O O P T (fun g6_5=>zQ O O) O<|f [(22,_),(23,_)] O O O O P ⟨O,O,O,O,T⟩ (fun g6_5=>zY O el24 O O (by simp only [Lz,cond_true,cond_false,Bool.and_eq_true,Bool.or_eq_true,Bool.not_eq_true',Bool.not_eq_false',Bool.or_eq_false_iff,Bool.and_eq_false_iff,decide_eq_true_eq,decide_eq_false_iff_not,Bool.not_eq_true,Bool.not_eq_false] at g6_5;omega) (Q (pmG (by simp only [Lz,cond_true,cond_false,Bool.and_eq_true,Bool.or_eq_true,Bool.not_eq_true',Bool.not_eq_false',Bool.or_eq_false_iff,Bool.and_eq_false_iff,decide_eq_true_eq,decide_eq_false_iff_not,Bool.not_eq_true,Bool.not_eq_false] at g6_5;omega)))) O<|f [(24,_)] O O O O P ⟨O,O,T⟩ (fun g6_5=>qT O zHy O) O<|f [(25,_)] O O O O P ⟨O,O,T⟩ (fun g6_5=>zF O i O qA O) O<|f [] O O O O P T (fun g6_5=>zQ O O) O<|f [] O O O O P T (fun g6_5=>zQ O O) O<|f [(27,_),(28,_)] O O O O P ⟨O,O,O,O,T⟩ (fun g6_5=>zY O el22 O O (by omega) (Q hs0)) O<|f [(29,_)] O O O O P ⟨O,O,T⟩ (fun g6_5=>zF O i O qA O) O<|f [(26,_),(30,_)] O O O O P ⟨O,O,O,O,T⟩ (fun g6_5=>zCi O O O) O<|Y O O (kR O O O (fun h=>h) O)<|yK<|H<|g O (fun c2=>?_) (fun c2=>?_)
  ·have c2:j<p.Params.length/\¬(p.Params.getD j nPm).Name=s:=by simpa using c2
   refine zJ<|zP<|zU O<|F O<|qL O ⟨by omega,by omega⟩<|F O<|H ?_
   refine ⟨j+1,⟨by omega,fndP_no (pmG c2.1) hq c2.2⟩,(by omega),Weak.mk [true,true] ⟨G,G,G,G,G,T⟩ O⟩
  ·have c2:¬(j<p.Params.length/\¬(p.Params.getD j nPm).Name=s):=by simpa using c2
   refine qM<|U<|B O<|F O<|zG O kM<|zK zAl (K 1 O) O<|zZ O el24<|qX O<|H<|g O (fun c3=>?_) (fun c3=>?_)
   ·try simp only [I] at c3
    have hf0:=fndP_end hq (by omega)
    refine B O<|qB O (yJ 7 O O)<|F O<|H<|W<|fin2 (o O) (o O) ?_
    rw [zLq (e:=9) hs0 hp (nmE_1 (by rw [hf0];rfl)) (by decide)];rfl
   ·try simp only [I] at c3
    have hjl:j<p.Params.length:=by omega
    have hnm:(p.Params.getD j nPm).Name=s:=Decidable.byContradiction fun h=>c2 ⟨hjl,h⟩
    have hfd:=fndP_yes (pmG hjl) hq hnm
    have hfs:(fndP s p.Params).isSome=true:=by rw [hfd];rfl
    have hfg:(fndP s p.Params).getD nPm=p.Params.getD j nPm:=by rw [hfd];rfl
    refine zJ<|U<|U<|qO 8 mixed (by kernel_rfl) O O<|Y O O (zQ O O)<|Y O O (zQ O O)<|Y O O (zAo O el22 O O (by omega))<|Y O O (zQ O O)<|Y O O (zQ O O)<|Y O O (zY O el22 O O (by omega) (Q hs0))<|Y O O (zF O i O qA O)<|Y O O (qF O ok50 (zDf (o_.take k) s (by rw [List.length_take];omega)) ⟨G,O,G,O,T⟩)<|yK<|H<|g O (fun c4=>?_) (fun c4=>?_)
    ·try simp only [I] at c4
     have c4:hasB (o_.take k) s=true:=by simpa using c4
     refine B O<|qB O (yJ 7 O O)<|F O<|H<|W<|fin2 (o O) (o O) ?_
     rw [zLq (e:=8) hs0 hp (by rw [c4];exact nmE_2 hfs) (by decide)];rfl
    ·try simp only [I] at c4
     have c4:hasB (o_.take k) s=false:=by simpa using c4
     refine zJ<|U<|B O<|zG O kM<|zK zAl (K 1 O) O<|F O<|qE O el24 (by omega) (Q (pmG hjl))<|qR O zJr<|qR O zAn<|zK w qA O<|yP O<|H<|g O (fun c5=>?_) (fun c5=>?_)
     ·try simp only [I] at c5
      refine B O<|qB O (yJ 7 O O)<|F O<|H<|W<|fin2 (o O) (o O) ?_
      rw [zLq (e:=20) hs0 hp (by rw [c4];exact nmE_3 hfs (by rw [hfg];exact c5)) (by decide)];rfl
     ·try simp only [I] at c5
      refine zJ<|qO 15 mixed (by kernel_rfl) O O<|Y O O (zQ O O)<|Y O O (zQ O O)<|Y O O (zQ O O)<|Y O O (zY O el22 O O (by omega) (Q hs0))<|Y O O (zF O i O qA O)<|Y O O (qF O ok49 (zCd s (by have:=hs s (qD hs0);omega)) ⟨G,O,T⟩)<|Y O O (qF O ok112 r26_frac T)<|Y O O (zD O kM O)<|Y O O (zF O zAl O (K 1 O) O)<|Y O O (zQ O O)<|Y O O (zY O el24 O O (by omega) (Q (pmG hjl)))<|Y O O (qT O zCy O)<|Y O O (zF O zAv O qA O)<|Y O O (kZ O zr65 pl65 O)<|Y O O (yD O el24 zr65 O O O O)<|yK<|zW O O (qS 0 O el24 O O O (by simp only [List.length_map,List.length_append,List.length_cons,List.length_nil,List.length_take,List.length_drop];omega) (by simp only [List.length_map,List.length_append,List.length_cons,List.length_nil,List.length_take,List.length_drop];omega)) ?_
      rintro _ _ ⟨sv3,rfl,rfl⟩
      refine F O<|H<|zU O<|F O<|qL O ⟨by omega,by omega⟩<|F O<|H ?_
      refine ⟨⟨k+1,sv3⟩,⟨by omega,chkO_next hs0 hp (by rw [c4];exact nmE_4 hfs (by rw [hfg];exact c5))⟩,(by show o_.length-(k+1)<o_.length-k;omega),Weak.mk [true,true] ⟨G,G,G,G,T⟩ (by exact mem1_eq (by rw [morR_next hs0,show pmOf p s=p.Params.getD j nPm from hfg,List.map_append];rfl))⟩
 ·try simp only [I] at c1
  rw [qY (l:=o_) (k:=k) (by omega)]
  have he:=chkO_end hp (by omega)
  refine qM<|B O<|F O<|F O<|F O<|H<|zT _ (kB 0 O (regs':=[(6,_),(72,_),(4,_)]) (μ':=[_]) ⟨FLe.sl,FLe.sl,FLe.sl,T⟩ ⟨EFle.refl _,T⟩)<|W<|fin2 (o O) (o O) ?_
  rw [he];rfl
theorem fwd_Prog (p:Pg) (h:p.Sm) (o_:List ByteArray) (ho:o_.length<=40) (hs:∀s,s∈o_->s.size<=100):
    Pur cfg 15 [vPg p,vSs o_] (.tup [vPg (progF p o_).1,vI (progF p o_).2]):=by
 refine zV Tryz.func15 O Tryz.ntmps15 Tryz.results15 O ?_
 intro z hz
 have hP:=h.ok
 have hdl:=h.defs
 have hpl:=h.params
 have hol:=h.outs
 obtain ⟨Rg,hR⟩:∃R,defG p.en [] o_ p.Defs=R:=⟨_,rfl⟩
 refine B O<|zW O O (qJ O O) ?_
 rintro _ _ ⟨b1,rfl,rfl⟩
 refine zW O O (qI [some 1,some 3,some 7,some 22,some 1] O zr27 O) ?_
 rintro _ _ ⟨b2,rfl,rfl⟩
 refine F O<|H<|U<|B O<|zL kC (K 1 O) O<|qK O ok41 (zFv p hP) ⟨G,O,T⟩<|qB O (qU O O)<|qB O (yG O O O)<|qB O (yG O O O)<|F O<|F O<|H<|B O<|F O<|yP O<|H<|g O (fun c1=>?_) (fun c1=>?_)
 ·try simp only [I] at c1
  refine B O<|yR [some 1,some 3,some 7,some 22,some 1] O zr27 pl27<|F O<|N 0 sz27 O<|F O<|H<|W<|fin2 (zS kC O (K 0 O) O) (o O) ?_
  rw [progF_1 c1];rfl
 ·try simp only [I] at c1
  refine zJ<|U<|B O<|zL kC (K 1 O) O<|F O<|qK O ok42 (fwd_checkNames p hP o_ ho) ⟨G,O,G,O,T⟩<|F O<|H<|B O<|F O<|yP O<|H<|g O (fun c2=>?_) (fun c2=>?_)
  ·try simp only [I] at c2
   refine B O<|yR [some 1,some 3,some 7,some 22,some 1] O zr27 pl27<|F O<|N 0 sz27 O<|F O<|H<|W<|fin2 (zS kC O (K 0 O) O) (o O) ?_
   rw [progF_2 c1 c2];rfl
  ·try simp only [I] at c2
   refine zJ<|B O<|zL kC (K 1 O) O<|zW O O (zEg O ok43 (Con.frame (program_CopyQ p (pgOkC hP)) _) ⟨G,O,T⟩) ?_
   rintro _ _ ⟨_,⟨svP,svO,rfl,rfl⟩,rfl⟩
   refine zW O O (qI [some 1,some 3,some 7,some 22,some 1] O zr27 O) ?_
   rintro _ _ ⟨b4,rfl,rfl⟩
   refine N 0 sz27 O<|H<|B O<|zG O kE<|N 0 sz25 O<|H<|U<|B O<|yV _ (kG 59 22)<|F O<|zZ O el22<|F O<|H<|zP<|zT ⟨[(45,.c _),(1,.c _),(2,.c _),(4,.c _),(9,.c _),(43,.c _),(44,.c _)],[_,_,_,_,_,_]⟩ (Weak.mk [true,true,true,true,true,true] ⟨G,G,G,G,G,G,G,T⟩ O)<|qG 1 3 O O (Nat×Value) (fun ⟨k,sw⟩=>[(45,vI k)]) (fun ⟨k,sw⟩=>[E.vec (.slice none 0 0) 59 22 ([]),E.row b4 27 [.sl 1 ((p.Sizes).map fun s=>[cS s]),.sl 3 (p.Where.map Cn.cells),.lit sw,.lit (.slice none 0 0),.lit svO],E.vec sw 65 7 ((p.Params++morP p (o_.take k)).map Pm.cells)]) (fun ⟨k,sw⟩=>k<=o_.length) (fun ⟨k,sw⟩=>o_.length-k) ⟨⟨0,svP⟩,(by omega),Weak.mk [true,true,true,true,true,true] ⟨G,G,G,G,G,G,G,T⟩ (by exact mem3r_eq (by rw [List.take_zero,show morP p []=[] from rfl,List.append_nil]))⟩ ?_
   rintro ⟨k,sw⟩ hk
   show AWP _ _ _ _ _ ⟨[(45,vI k)]++_,[E.vec (.slice none 0 0) 59 22 ([]),E.row b4 27 [.sl 1 ((p.Sizes).map fun s=>[cS s]),.sl 3 (p.Where.map Cn.cells),.lit sw,.lit (.slice none 0 0),.lit svO],E.vec sw 65 7 ((p.Params++morP p (o_.take k)).map Pm.cells)]++_⟩
   refine B O<|yB O<|H<|U<|g O (fun c3=>?_) (fun c3=>?_)
   ·try simp only [I] at c3
    obtain ⟨s,hs0⟩:=qP o_ k (by omega)
    have hml:(morP p (o_.take k)).length<=40:=by unfold morP;rw [List.length_map,List.length_take];omega
    refine zJ<|U<|zP<|B O<|qE O el22 (by omega) (Q hs0)<|zK i qA O<|F O<|H<|B O<|zL kC (K 5 O) O<|F O<|qK O ok44 (fwd_param p s hP) ⟨G,O,G,O,T⟩<|qB O (qU O O)<|qB O (yN O O O)<|qB O (yG O O O)<|zW O O (qI [none,none,none,none,none,none,some 2] O zr65 O) ?_
    rintro _ _ ⟨b5,rfl,rfl⟩
    refine N 0 sz65 O<|F O<|H<|qO 10 mixed (by kernel_rfl) O O<|Y O O (zD O kM O)<|Y O O (zF O zAl O (K 2 O) O)<|Y O O (zQ O O)<|Y O O (qF O ok14 (zBb s (by have:=hs s (qD hs0);omega)) ⟨G,O,T⟩)<|Y O O (zD O zJr O)<|Y O O (zN O yF O (K 0 O) O)<|Y O O (zD O zCy O)<|Y O O (zF O zAv O (K 0 O) O)<|Y O O (kZ O zr65 pl65 O)<|Y O O (yD O el24 zr65 O O O O)<|yK<|zW O O (qS 3 O el24 O O O (by simp only [List.length_map,List.length_append,List.length_cons,List.length_nil,List.length_take,List.length_drop];omega) (by simp only [List.length_map,List.length_append,List.length_cons,List.length_nil,List.length_take,List.length_drop];omega)) ?_
    rintro _ _ ⟨sv6,rfl,rfl⟩
    refine zG O kM<|N 2 sz24 O<|H<|zU O<|qL O ⟨by omega,by omega⟩<|F O<|H ?_
    refine ⟨⟨k+1,sv6⟩,(by omega),(by show o_.length-(k+1)<o_.length-k;omega),Weak.mk [false,true,true,true,true,true,true] ⟨G,G,G,G,G,G,G,T⟩ (by exact mem3r_eq (by rw [morP_next hs0,←List.append_assoc,List.map_append (l₁:=p.Params++morP p (o_.take k))];rfl))⟩
   ·try simp only [I] at c3
    rw [qY (l:=o_) (k:=k) (by omega)]
    refine qM<|B O<|F O<|yV _ (kG 9 1)<|zW O O (qS 0 O el22 O O O (by simp only [List.length_map,List.length_append,List.length_cons,List.length_nil,List.length_take,List.length_drop];omega) (by simp only [List.length_map,List.length_append,List.length_cons,List.length_nil,List.length_take,List.length_drop];omega)) ?_
    rintro _ _ ⟨sv7,rfl,rfl⟩
    refine F O<|H<|U<|B O<|zG O kE<|zK zAc (K 6 O) O<|zZ O el25<|F O<|H<|zP<|zT ⟨[(73,.c _),(14,.c _),(2,.c _),(4,.c _),(9,.c _),(71,.c _),(72,.c _)],[_,_,_,_,_,_,_]⟩ (Weak.mk [true,true,true,true,true,true,true] ⟨G,G,G,G,G,G,G,T⟩ O)<|qG 2 3 O O (Nat×List Df×List ByteArray×Value×Value) (fun ⟨k,oD,A,sa,su⟩=>[(73,vI k),(14,.c (.lit sa))]) (fun ⟨k,oD,A,sa,su⟩=>[E.vec sa 9 1 ((A).map fun s=>[cS s]),E.vec su 59 22 (oD.map Df.cells),E.row b4 27 [.sl 1 ((p.Sizes).map fun s=>[cS s]),.sl 3 (p.Where.map Cn.cells),.lit sw,.lit su,.lit svO]]) (fun ⟨k,oD,A,sa,su⟩=>k<=p.Defs.length/\(Rg=defG p.en oD A (p.Defs.drop k))/\(oD.length<=2*k)/\(A.length<=40+k)/\(∀s,s∈A->s.size<=1000000)) (fun ⟨k,oD,A,sa,su⟩=>p.Defs.length-k) ⟨⟨0,[],o_,sv7,(.slice none 0 0)⟩,⟨by omega,hR.symm,by simp,by omega,fun s hs2=>Nat.le_trans (hs s hs2) (by decide)⟩,Weak.mk [true,true,true,true,true,true,true] ⟨G,G,G,G,G,G,G,T⟩ O⟩ ?_
    rintro ⟨k,oD,A,sa,su⟩ ⟨hk,hq,hOl,hAl,hAs⟩
    show AWP _ _ _ _ _ ⟨[(73,vI k),(14,.c (.lit sa))]++_,[E.vec sa 9 1 ((A).map fun s=>[cS s]),E.vec su 59 22 (oD.map Df.cells),E.row b4 27 [.sl 1 ((p.Sizes).map fun s=>[cS s]),.sl 3 (p.Where.map Cn.cells),.lit sw,.lit su,.lit svO]]++_⟩
    refine B O<|yB O<|H<|U<|g O (fun c4=>?_) (fun c4=>?_)
    ·try simp only [I] at c4
     obtain ⟨d,hd⟩:=qP p.Defs k (by omega)
     obtain ⟨D,hD⟩:∃D,derF p.en d A=D:=⟨_,rfl⟩
     have hdb:=valid_body c1 hd
     have hdn:=name_size (valid_defs c1 d (qD hd))
     refine zJ<|U<|zP<|B O<|qE O el25 (by omega) (Q hd)<|zL zCn qA O<|zW O O (qI [none,none,none,none,none,none,some 3,some 3,none,none,none,none,none,none,none,none,none,none,none,some 2,some 4,some 13] O zr59 O) ?_
     rintro _ _ ⟨b8,rfl,rfl⟩
     refine N 0 sz59 O<|H<|B O<|zG O kE<|zK zAc (K 3 O) O<|zL zCn (K 0 O) O<|qZ O el25 zr59<|zW O O (qS 2 O el25 O O O (by simp only [List.length_map,List.length_append,List.length_cons,List.length_nil,List.length_take,List.length_drop];omega) (by simp only [List.length_map,List.length_append,List.length_cons,List.length_nil,List.length_take,List.length_drop];omega)) ?_
     rintro _ _ ⟨sv9,rfl,rfl⟩
     refine zG O kE<|N 3 sz25 O<|H<|B O<|zL kC (K 7 O) O<|zL zCn (K 0 O) O<|F O<|qB O (yI [1] O ok45 (show Con cfg 45 [vPg p,vDf d,.c (.lit sa)] [E.vec sa 9 1 ((A).map fun s=>[cS s])] fun r μ'=>r=.tup [vDf D.1,vB D.2.1,vI D.2.2]/\μ'=[E.vec sa 9 1 ((A).map fun s=>[cS s])] by rw [←hD];exact fwd_deriveM p hP d sa A (by omega) hAs hdb (h.ds d (qD hd)).2.2 (by omega)) ⟨G,O,G,O,G,O,T⟩ O)<|qB O (qU O O)<|qB O (yN O O O)<|qB O (yG O O O)<|qB O (yG O O O)<|zW O O (qI [none,none,none,none,none,none,some 3,some 3,none,none,none,none,none,none,none,none,none,none,none,some 2,some 4,some 13] O zr59 O) ?_
     rintro _ _ ⟨b10,rfl,rfl⟩
     refine N 0 sz59 O<|F O<|F O<|H<|U<|B O<|F O<|yP O<|H<|g O (fun c5=>?_) (fun c5=>?_)
     ·try simp only [I] at c5
      refine B O<|yR [some 1,some 3,some 7,some 22,some 1] O zr27 pl27<|F O<|N 7 sz27 O<|F O<|H<|W<|fin2 (zS kC O (K 7 O) O) (o O) ?_
      have hRx:=zMy hd hq (by rw [hD];exact c5)
      rw [hD] at hRx
      rw [progF_3 c1 c2 hR (by rw [hRx];exact c5),hRx];rfl
     ·try simp only [I] at c5
      refine zJ<|B O<|F O<|H<|g O (fun c6=>?_) (fun c6=>?_)
      ·try simp only [I] at c6
       refine B O<|F O<|zG O zEk<|zK i (K 1 O) O<|qZ O el22 zr9<|zW O O (qS 2 O el22 O O O (by simp only [List.length_map,List.length_append,List.length_cons,List.length_nil,List.length_take,List.length_drop];omega) (by simp only [List.length_map,List.length_append,List.length_cons,List.length_nil,List.length_take,List.length_drop];omega)) ?_
       rintro _ _ ⟨sv11,rfl,rfl⟩
       refine F O<|H<|zU O<|zG O kE<|zK zAc (K 4 O) O<|zL zCn (K 0 O) O<|qZ O el25 zr59<|zW O O (qS 3 O el25 O O O (by simp only [List.length_map,List.length_append,List.length_cons,List.length_nil,List.length_take,List.length_drop];omega) (by simp only [List.length_map,List.length_append,List.length_cons,List.length_nil,List.length_take,List.length_drop];omega)) ?_
       rintro _ _ ⟨sv12,rfl,rfl⟩
       refine zG O kE<|N 4 sz25 O<|H<|zU O<|qL O ⟨by omega,by omega⟩<|F O<|H ?_
       refine ⟨⟨k+1,oD++[d,D.1],A++[d.Name],sv11,sv12⟩,⟨by omega,by rw [←hD] at c5 c6⊢;exact defG_yes hd hq c5 c6,by simp;omega,by simp;omega,fun s hs2=>by rcases List.mem_append.1 hs2 with h9|h9;exact hAs s h9;rw [List.mem_singleton.1 h9];omega⟩,(by show p.Defs.length-(k+1)<p.Defs.length-k;omega),Weak.mk [false,false,true,true,true,true,true,true,true] ⟨G,G,G,G,G,G,G,T⟩ (by exact mem2vr_eq (by rw [List.map_append];rfl) (by rw [List.map_append,List.append_assoc];rfl))⟩
      ·try simp only [I] at c6
       refine zJ<|zU O<|qL O ⟨by omega,by omega⟩<|F O<|H ?_
       refine ⟨⟨k+1,oD++[d],A,sa,sv9⟩,⟨by omega,by rw [←hD] at c5 c6;exact defG_no hd hq c5 c6,by simp;omega,by omega,hAs⟩,(by show p.Defs.length-(k+1)<p.Defs.length-k;omega),Weak.mk [false,false,true,true,true,true,true,true,true] ⟨G,G,G,G,G,G,G,T⟩ (by exact mem2vr_eq rfl (by rw [List.map_append];rfl))⟩
    ·try simp only [I] at c4
     have hRe:=defG_end hq (by omega)
     have hsm:=zPm (n:=p.en) p.Defs [] o_ (fun d hd=>h.df hd) (fun d hd=>by cases hd)
     rw [hR,hRe] at hsm
     dsimp only at hsm
     have hOk:=outG_ok (A:=A) (l:=o_) (M:=morP p o_) h hsm.1 (by omega) (by unfold morP;rw [List.length_map];omega) (morP_sm h o_)
     refine qM<|U<|B O<|zG O zAt<|zK wT (K 6 O) O<|zZ O el22<|F O<|H<|zP<|zT ⟨[(111,.c _),(4,.c _),(9,.c _),(14,.c _),(109,.c _),(110,.c _)],[_,_,_,_,_,_]⟩ (Weak.mk [true,true,true,true,true,true,false] ⟨G,G,G,G,G,G,T⟩ O)<|qG 1 5 O O (Nat×Value) (fun ⟨k,so⟩=>[(111,vI k)]) (fun ⟨k,so⟩=>[E.vec sa 9 1 ((A).map fun s=>[cS s]),E.vec su 59 22 (oD.map Df.cells),E.row b4 27 [.sl 1 ((p.Sizes).map fun s=>[cS s]),.sl 3 (p.Where.map Cn.cells),.lit sw,.lit su,.lit so],E.vec sw 65 7 ((p.Params++morP p o_).map Pm.cells),E.vec so 9 1 ((p.Outs++((p.Outs.take k).filter (hasB A)).map dNm).map fun s=>[cS s])]) (fun ⟨k,so⟩=>k<=p.Outs.length) (fun ⟨k,so⟩=>p.Outs.length-k) ⟨⟨0,svO⟩,(by omega),Weak.mk [true,true,true,true,true,true] ⟨G,G,G,G,G,G,T⟩ (by exact mem5_eq (by rw [List.take_zero];simp))⟩ ?_
     rintro ⟨k,so⟩ hk
     show AWP _ _ _ _ _ ⟨[(111,vI k)]++_,[E.vec sa 9 1 ((A).map fun s=>[cS s]),E.vec su 59 22 (oD.map Df.cells),E.row b4 27 [.sl 1 ((p.Sizes).map fun s=>[cS s]),.sl 3 (p.Where.map Cn.cells),.lit sw,.lit su,.lit so],E.vec sw 65 7 ((p.Params++morP p o_).map Pm.cells),E.vec so 9 1 ((p.Outs++((p.Outs.take k).filter (hasB A)).map dNm).map fun s=>[cS s])]++_⟩
     refine B O<|yB O<|H<|U<|g O (fun c7=>?_) (fun c7=>?_)
     ·try simp only [I] at c7
      obtain ⟨s,hs1⟩:=qP p.Outs k (by omega)
      have hxl:=out_len p.Outs A k
      refine zJ<|U<|zP<|B O<|qE O el22 (by omega) (Q hs1)<|zK i qA O<|F O<|H<|B O<|F O<|F O<|qB O (wC 0 O ok46 O (kK A s (by omega)) O ⟨.inl ⟨O,O⟩,.inr ⟨G,O⟩,T⟩)<|H<|g O (fun c8=>?_) (fun c8=>?_)
      ·try simp only [I] at c8
       have c8:hasB A s=true:=by simpa using c8
       refine qO 5 mixed (by kernel_rfl) O O<|Y O O (zD O zAt O)<|Y O O (zF O wT O (K 2 O) O)<|Y O O (zQ O O)<|Y O O (qF O ok14 (zBb s (hAs s (zFj.1 c8))) ⟨G,O,T⟩)<|Y O O (yD O el22 zr9 O O O O)<|yK<|zW O O (qS 4 O el22 O O O (by simp only [List.length_map,List.length_append,List.length_cons,List.length_nil,List.length_take,List.length_drop];omega) (by simp only [List.length_map,List.length_append,List.length_cons,List.length_nil,List.length_take,List.length_drop];omega)) ?_
       rintro _ _ ⟨sv13,rfl,rfl⟩
       refine zG O zAt<|N 2 sz22 O<|H<|zU O<|qL O ⟨by omega,by omega⟩<|F O<|H ?_
       refine ⟨⟨k+1,sv13⟩,(by omega),(by show p.Outs.length-(k+1)<p.Outs.length-k;omega),Weak.mk [true,true,true,true,true,true] ⟨G,G,G,G,G,G,T⟩ (by exact mem5_eq (by rw [out_yes hs1 c8];simp))⟩
      ·try simp only [I] at c8
       have c8:¬hasB A s=true:=by simpa using c8
       refine zJ<|zU O<|qL O ⟨by omega,by omega⟩<|F O<|H ?_
       refine ⟨⟨k+1,so⟩,(by omega),(by show p.Outs.length-(k+1)<p.Outs.length-k;omega),Weak.mk [true,true,true,true,true,true] ⟨G,G,G,G,G,G,T⟩ (by exact mem5_eq (by rw [out_no hs1 c8]))⟩
     ·try simp only [I] at c7
      rw [qY (l:=p.Outs) (k:=k) (by omega)]
      refine zT _ (kB 1 O (regs':=[]) (μ':=[_,_,_,_,_]) T ⟨EFle.refl _,EFle.row (ds:=[_,_,_,_,_]) ⟨.inl O,.inl O,.inl O,.inr ⟨O,O⟩,.inl O,T⟩,EFle.refl _,EFle.refl _,EFle.refl _,T⟩)<|zT _ (kB 2 O (regs':=[]) (μ':=[_,_,_,_]) T ⟨EFle.refl _,EFle.row (ds:=[_,_,_,_,_]) ⟨.inl O,.inl O,.inr ⟨O,O⟩,.inl O,.inl O,T⟩,EFle.refl _,EFle.refl _,T⟩)<|zT _ (kB 2 O (regs':=[]) (μ':=[_,_,_]) T ⟨EFle.refl _,EFle.row (ds:=[_,_,_,_,_]) ⟨.inl O,.inl O,.inl O,.inl O,.inr ⟨O,O⟩,T⟩,EFle.refl _,T⟩)<|qM<|U<|B O<|zL kC (K 1 O) O<|qK O ok41 (zFv (outG p oD A (morP p o_)) hOk) ⟨G,O,T⟩<|qB O (qU O O)<|qB O (yG O O O)<|qB O (yG O O O)<|F O<|F O<|H<|B O<|F O<|yP O<|H<|g O (fun c9=>?_) (fun c9=>?_)
      ·try simp only [I] at c9
       refine B O<|yR [some 1,some 3,some 7,some 22,some 1] O zr27 pl27<|F O<|N 2 sz27 O<|F O<|H<|W<|fin2 (zS kC O (K 2 O) O) (o O) ?_
       have h9:=progF_4 (o_:=o_) c1 c2 hR (by rw [hRe])
       rw [hRe] at h9
       rw [h9 c9];rfl
      ·try simp only [I] at c9
       refine zJ<|B O<|zL kC (K 1 O) O<|qK O ok43 (program_Copy (outG p oD A (morP p o_)) (pgOkC hOk)) ⟨G,O,T⟩<|N 2 sz27 O<|F O<|H<|W<|fin2 (zS kC O (K 2 O) O) (o O) ?_
       have h9:=progF_5 (o_:=o_) c1 c2 hR (by rw [hRe])
       rw [hRe] at h9
       rw [h9 c9];rfl
end Go.W
