/-
  Walks: what functions of the program compute. Printed by wip/gen/mk2.py.
  Conditions: none.
-/
import Derived.Test.YtkijgodlhljgdaaGreatDoorQB
set_option linter.unusedSimpArgs false
set_option linter.unusedVariables false
set_option maxRecDepth 10000
namespace Go.W
open Go Go.Eng Go.Proofs Go.L41 Go.Br
attribute [local irreducible] AWP RWP TD finQ
theorem morP_next {p:Pg} {l:List ByteArray} {k:Nat} {s:ByteArray} (h:l[k]? =some s):morP p (l.take (k+1))=morP p (l.take k)++[⟨dNm s,(pmOf p s).T,(pmOf p s).Dims⟩]:=by unfold morP;rw [qR h,List.map_append];rfl
theorem out_yes {l A:List ByteArray} {k:Nat} {s:ByteArray} (h:l[k]? =some s) (c:hasB A s=true):((l.take (k+1)).filter (hasB A)).map dNm=((l.take k).filter (hasB A)).map dNm++[dNm s]:=by rw [qR h,List.filter_append,List.map_append];simp [c]
theorem out_no {l A:List ByteArray} {k:Nat} {s:ByteArray} (h:l[k]? =some s) (c:¬hasB A s=true):((l.take (k+1)).filter (hasB A)).map dNm=((l.take k).filter (hasB A)).map dNm:=by rw [qR h,List.filter_append,List.map_append];simp [c]
theorem out_len (l A:List ByteArray) (k:Nat):((l.take k).filter (hasB A)).length<=k:=by
  have h1:=List.length_filter_le (hasB A) (l.take k)
  have h2:=List.length_take_le k l
  omega
theorem pgOkC {p:Pg} (h:p.Ok):p.OkC:=
  ⟨h.sizes,h.wh,h.params,h.defs,h.outs,h.whs,h.ps,fun d hd=>⟨(h.ds d hd).1,(h.ds d hd).2.1,(h.ds d hd).2.2.1,(h.ds d hd).2.2.2.1,allF_wt (Nat.le_trans (h.ds d hd).2.2.2.2 (by decide)),Nat.le_trans (Ex.cnt_le d.Body) (h.ds d hd).2.2.2.2⟩⟩
theorem valid_body {p:Pg} (h:(validM p).2=0) {k:Nat} {d:Df} (hd:p.Defs[k]? =some d):partE d.Body=0:=zJj (by rw [(pre_def h hd).1])
theorem ok11:callOk Tryz.prog 11=true:=by kernel_rfl
theorem ok44:callOk Tryz.prog 44=true:=by kernel_rfl
theorem pl59:placesT Tryz.prog 59=some [(0,1),(1,5),(6,1),(7,1),(8,1),(9,13)]:=by kernel_rfl
theorem pl65:placesT Tryz.prog 65=some [(0,1),(1,5),(6,1)]:=by kernel_rfl
theorem fwd_param (p:Pg) (s:ByteArray) (hP:p.Ok):
    Pur cfg 44 [vPg p,vS s] (.tup [vPm (pmOf p s),vB (fndP s p.Params).isSome]):=by
 refine zT Tryz.func44 O Tryz.ntmps44 Tryz.results44 O ?_
 intro z hz
 have hpp:=hP.params
 refine B O<|zZ O O (qI O O) ?_
 rintro _ _ ⟨b1,rfl,rfl⟩
 refine zZ O O (qH [none,none,none,none,none,none,some 2] O zr65 O) ?_
 rintro _ _ ⟨b2,rfl,rfl⟩
 refine G O<|U<|zI<|B O<|zG O wN<|zK zCk (J 1 O) O<|zY O el24<|G O<|U<|zP<|zU ⟨[(11,.c _),(1,.c _),(4,.c _),(9,.c _),(10,.c _)],[_]⟩ (Weak.mk [true,false] ⟨Y,Y,Y,Y,Y,T⟩ O)<|qF 1 0 O O (Nat) (fun k=>[(11,vI k)]) (fun k=>[]) (fun k=>k<=p.Params.length/\(fndP s p.Params=fndP s (p.Params.drop k))) (fun k=>p.Params.length-k) ⟨0,⟨by omega,O⟩,Weak.mk [true] ⟨Y,Y,Y,Y,Y,T⟩ O⟩ ?_
 rintro k ⟨hk,hp⟩
 refine B O<|yA O<|U<|zI<|zE O (fun c1=>?_) (fun c1=>?_)
 ·try simp only [W] at c1
  obtain ⟨x,hx⟩:=qQ p.Params k (by omega)
  refine zJ<|zI<|zP<|B O<|qE O el24 (by omega) (getm hx)<|zL zLd qB O<|zZ O O (qH [none,none,none,none,none,none,some 2] O zr65 O) ?_
  rintro _ _ ⟨b3,rfl,rfl⟩
  refine N 0 sz65 O<|U<|B O<|zG O zNp<|zK one9 (J 0 O) O<|G O<|zX O (yL O O O)<|U<|zE O (fun c2=>?_) (fun c2=>?_)
  ·try simp only [W] at c2
   refine B O<|zL zLd (J 0 O) O<|N 1 sz65 O<|G O<|U<|zH<|fin2 (zV zLd O (J 1 O) O) (v O) ?_
   unfold pmOf
   rw [fndP_yes hx hp c2];rfl
  ·try simp only [W] at c2
   refine zJ<|zS O<|qJ O ⟨by omega,by omega⟩<|G O<|U ?_
   refine ⟨k+1,⟨by omega,fndP_no hx hp c2⟩,(by omega),Weak.mk [false,true] ⟨Y,Y,Y,Y,Y,T⟩ O⟩
 ·try simp only [W] at c1
  refine qO<|B O<|zX O (yK [none,none,none,none,none,none,some 2] O zr65 pl65 O O)<|N 0 sz65 O<|G O<|U<|zH<|fin2 (zV zLd O (J 0 O) O) (v O) ?_
  unfold pmOf
  rw [fndP_end hp (by omega)];rfl
theorem fwd_checkNames (p:Pg) (hP:p.Ok) (o_:List ByteArray) (ho:o_.length<=40):
    Pur cfg 42 [vPg p,vSs o_] (vI (chkO p [] o_)):=by
 refine zT Tryz.func42 O Tryz.ntmps42 Tryz.results42 O ?_
 intro z hz
 refine B O<|zZ O O (qI O O) ?_
 rintro _ _ ⟨b1,rfl,rfl⟩
 refine G O<|U<|zI<|B O<|G O<|zY O el22<|G O<|U<|zP<|zU ⟨[(11,.c _),(1,.c _),(2,.c _),(9,.c _),(10,.c _)],[_]⟩ (Weak.mk [true] ⟨Y,Y,Y,Y,Y,T⟩ O)<|qF 1 0 O O (Nat) (fun k=>[(11,vI k)]) (fun k=>[]) (fun k=>k<=o_.length/\(chkO p [] o_=chkO p (o_.take k) (o_.drop k))) (fun k=>o_.length-k) ⟨0,⟨by omega,O⟩,Weak.mk [true] ⟨Y,Y,Y,Y,Y,T⟩ O⟩ ?_
 rintro k ⟨hk,hp⟩
 refine B O<|yA O<|U<|zI<|zE O (fun c1=>?_) (fun c1=>?_)
 ·try simp only [W] at c1
  obtain ⟨s,hx⟩:=qQ o_ k (by omega)
  refine zJ<|zI<|zP<|B O<|G O<|qE O el22 (by omega) (getm hx)<|zK one9 qB O<|G O<|G O<|U<|B O<|zL kO (J 0 O) O<|G O<|qK O ok44 (fwd_param p s hP) ⟨Y,O,Y,O,T⟩<|zX O (qV O O)<|zX O (yJ O O O)<|zX O (yI O O O)<|zZ O O (qH [none,none,none,none,none,none,some 2] O zr65 O) ?_
  rintro _ _ ⟨b2,rfl,rfl⟩
  refine N 0 sz65 O<|G O<|U<|zP<|B O<|G O<|wB O<|G O<|U<|zE O (fun c2=>?_) (fun c2=>?_)
  ·try simp only [W] at c2
   have c2:(fndP s p.Params).isSome=false:=by simpa using c2
   refine B O<|G O<|U<|zH<|zQ O ?_
   rw [chkO_no (e:=9) hx hp (nmE_1 c2) (by decide)]
  ·try simp only [W] at c2
   have c2:(fndP s p.Params).isSome=true:=by simpa using c2
   refine B O<|G O<|G O<|zX O (zAr O el22 O O (by omega))<|G O<|qK O ok46 (kD (o_.take k) s (by rw [List.length_take];omega)) ⟨Y,O,Y,O,T⟩<|G O<|U<|zE O (fun c3=>?_) (fun c3=>?_)
   ·try simp only [W] at c3
    have c3:hasB (o_.take k) s=true:=by simpa using c3
    refine B O<|G O<|U<|zH<|zQ O ?_
    rw [chkO_no (e:=8) hx hp (by rw [c3];exact nmE_2 c2) (by decide)]
   ·try simp only [W] at c3
    have c3:hasB (o_.take k) s=false:=by simpa using c3
    refine B O<|zG O fd65_1<|zG O zBp<|zK one3 (J 0 O) O<|yN O<|G O<|U<|zE O (fun c4=>?_) (fun c4=>?_)
    ·try simp only [W] at c4
     refine B O<|G O<|U<|zH<|zQ O ?_
     rw [chkO_no (e:=20) hx hp (by rw [c3];exact nmE_3 c2 c4) (by decide)]
    ·try simp only [W] at c4
     refine zJ<|zS O<|qJ O ⟨by omega,by omega⟩<|G O<|U ?_
     refine ⟨k+1,⟨by omega,chkO_next hx hp (by rw [c3];exact nmE_4 c2 c4)⟩,(by omega),Weak.mk [false,true] ⟨Y,Y,Y,Y,Y,T⟩ O⟩
 ·try simp only [W] at c1
  refine qO<|B O<|G O<|U<|zH<|zQ O ?_
  rw [chkO_end hp (by omega)]
theorem program_CopyS (p:Pg) (hP:p.OkC):
    Con cfg 43 [vPg p] [] fun r μ'=>∃μ2,(∃ν1 ν2,μ'=ν1++(μ2++ν2))/\∃svP svO,r=.agg [.sl 1 (p.Sizes.map fun s=>[cS s]),.sl 3 (p.Where.map Cn.cells),.lit svP,.sl 22 (p.Defs.map Df.cells),.lit svO]/\μ2=[E.vec svP 65 7 (p.Params.map Pm.cells),E.vec svO 9 1 ((p.Outs.map fun s=>[cS s]))]:=by
 refine zT Tryz.func43 O Tryz.ntmps43 Tryz.results43 O ?_
 intro z hz
 have hP1:=hP.wh
 have hP2:=hP.params
 have hP3:=hP.defs
 refine B O<|zZ O O (qI O O) ?_
 rintro _ _ ⟨b1,rfl,rfl⟩
 refine zZ O O (qH [some 1,some 3,some 7,some 22,some 1] O zr27 O) ?_
 rintro _ _ ⟨b2,rfl,rfl⟩
 refine U<|zI<|yH 8 2 [⟨0,.q []⟩,⟨1,.q [3]⟩,⟨2,.q []⟩,⟨3,.q []⟩,⟨4,.q [3]⟩,⟨5,.e 1 []⟩,⟨6,.q []⟩,⟨7,.f 0⟩] mixed (by kernel_rfl) (by kernel_rfl) O O O<|zO O<|zO O<|zO O<|zO O<|zO O<|zO O<|zO O<|zIn O O (zAc (yB O zr27)) ⟨_,_,0,O,O⟩<|wM<|zW O (by decide) O O (zD O zCm O)<|zW O (by decide) O O (zF O wY O (J 0 O) O)<|zW O (by decide) O O (qG O ok107 (OwnR.pur (zBe p.Sizes hP.sizes)) ⟨Y,O,T⟩)<|zW O (by decide) O O (zD O zBb O)<|zW O (by decide) O O (zF O wY O (J 0 O) O)<|zMh O O (by decide) O O (zCj O ok107 (zBe p.Outs hP.outs) ⟨Y,O,T⟩) ?_
 rintro _ _ ⟨sv3,rfl,rfl⟩
 refine ⟨_,O,?_⟩
 refine zW O (by decide) O O (kX O zr27 pl27 O)<|zId O O ?_
 rintro _ _ ⟨b4,rfl,rfl⟩
 refine wJ O<|N 0 sz27 O<|U<|zI<|B O<|yY _ (kM 93 3)<|yY _ (kM 65 7)<|yY _ (kM 59 22)<|zG O zFg<|zK one23 (J 6 O) O<|zY O el23<|G O<|U<|zP<|zU ⟨[(20,.c _),(1,.c _),(2,.c _),(3,.c _),(18,.c _),(19,.c _)],[_,_,_,_,_,_,_]⟩ (Weak.mk [true,true,true,true,true,true,true] ⟨Y,Y,Y,Y,Y,Y,T⟩ O)<|qF 1 4 O O (Nat×Value) (fun ⟨k,sv⟩=>[(20,vI k)]) (fun ⟨k,sv⟩=>[E.vec (.slice none 0 0) 59 22 ([]),E.vec (.slice none 0 0) 65 7 ([]),E.vec sv 93 3 ((p.Where.take k).map Cn.cells),E.row b4 27 [.sl 1 (p.Sizes.map fun s=>[cS s]),.lit sv,.lit (.slice none 0 0),.lit (.slice none 0 0),.lit sv3]]) (fun ⟨k,sv⟩=>k<=p.Where.length) (fun ⟨k,sv⟩=>p.Where.length-k) ⟨⟨0,(.slice none 0 0)⟩,(by omega),Weak.mk [true,true,true,true,true,true,true] ⟨Y,Y,Y,Y,Y,Y,T⟩ O⟩ ?_
 rintro ⟨k,sv⟩ hk
 show AWP _ _ _ _ _ ⟨[(20,vI k)]++_,[E.vec (.slice none 0 0) 59 22 ([]),E.vec (.slice none 0 0) 65 7 ([]),E.vec sv 93 3 ((p.Where.take k).map Cn.cells),E.row b4 27 [.sl 1 (p.Sizes.map fun s=>[cS s]),.lit sv,.lit (.slice none 0 0),.lit (.slice none 0 0),.lit sv3]]++_⟩
 refine B O<|yA O<|U<|zI<|zE O (fun c1=>?_) (fun c1=>?_)
 ·try simp only [W] at c1
  obtain ⟨x,hx⟩:=qQ p.Where k (by omega)
  refine zJ<|zI<|zP<|B O<|qE O el23 (by omega) (getm (by assumption))<|zL agg93 qB O<|zZ O O (qH [none,some 2,none] O zr93 O) ?_
  rintro _ _ ⟨b5,rfl,rfl⟩
  refine N 0 sz93 O<|U<|qT 9 mixed (by kernel_rfl) O O<|zM O O (zD O zFg O)<|zM O O (zF O one23 O (J 4 O) O)<|zM O O (zD O fd93_0 O)<|zM O O (zN O kK O (J 0 O) O)<|zM O O (qG O ok108 (zAg x.Lin (hP.whs x (qD hx))) ⟨Y,O,T⟩)<|zM O O (zD O fd93_1 O)<|zM O O (zF O one4 O (J 0 O) O)<|zM O O (kX O zr93 pl93 O)<|zM O O (yT O el23 zr93 O O O O)<|yM<|zZ O O (qY 3 O el23 O O O (by simp only [List.length_take,List.length_map,List.length_append,List.length_cons,List.length_nil];omega) (by simp only [List.length_take,List.length_map,List.length_append,List.length_cons,List.length_nil];omega)) ?_
  rintro _ _ ⟨sv6,rfl,rfl⟩
  refine zG O zFg<|N 4 sz23 O<|U<|zS O<|qJ O ⟨by omega,by omega⟩<|G O<|U ?_
  refine ⟨⟨k+1,sv6⟩,(by omega),(by show p.Where.length-(k+1)<p.Where.length-k;omega),Weak.mk [false,true,true,true,true,true,true,true] ⟨Y,Y,Y,Y,Y,Y,T⟩ (by exact mem4_eq (by rw [qR hx,List.map_append];rfl))⟩
 ·try simp only [W] at c1
  rw [qX (l:=p.Where) (k:=k) (by omega)]
  refine zU _ (kJ 2 O (regs':=[]) (μ':=[_,_,_,_,_,_]) T ⟨EFle.refl _,EFle.refl _,EFle.row (ds:=[_,_,_,_,_]) ⟨.inl O,.inr ⟨O,O⟩,.inl O,.inl O,.inl O,T⟩,EFle.refl _,EFle.refl _,EFle.refl _,T⟩)<|qO<|zI<|B O<|zG O wN<|zK zCk (J 5 O) O<|zY O el24<|G O<|U<|zP<|zU ⟨[(39,.c _),(1,.c _),(2,.c _),(3,.c _),(37,.c _),(38,.c _)],[_,_,_,_,_,_]⟩ (Weak.mk [true,true,true,true,true,true] ⟨Y,Y,Y,Y,Y,Y,T⟩ O)<|qF 1 3 O O (Nat×Value) (fun ⟨k,sw⟩=>[(39,vI k)]) (fun ⟨k,sw⟩=>[E.vec (.slice none 0 0) 59 22 ([]),E.vec sw 65 7 ((p.Params.take k).map Pm.cells),E.row b4 27 [.sl 1 (p.Sizes.map fun s=>[cS s]),.sl 3 (p.Where.map Cn.cells),.lit sw,.lit (.slice none 0 0),.lit sv3]]) (fun ⟨k,sw⟩=>k<=p.Params.length) (fun ⟨k,sw⟩=>p.Params.length-k) ⟨⟨0,(.slice none 0 0)⟩,(by omega),Weak.mk [true,true,true,true,true,true] ⟨Y,Y,Y,Y,Y,Y,T⟩ O⟩ ?_
  rintro ⟨k,sw⟩ hk
  show AWP _ _ _ _ _ ⟨[(39,vI k)]++_,[E.vec (.slice none 0 0) 59 22 ([]),E.vec sw 65 7 ((p.Params.take k).map Pm.cells),E.row b4 27 [.sl 1 (p.Sizes.map fun s=>[cS s]),.sl 3 (p.Where.map Cn.cells),.lit sw,.lit (.slice none 0 0),.lit sv3]]++_⟩
  refine B O<|yA O<|U<|zI<|zE O (fun c2=>?_) (fun c2=>?_)
  ·try simp only [W] at c2
   obtain ⟨y,hy⟩:=qQ p.Params k (by omega)
   refine zJ<|zI<|zP<|B O<|qE O el24 (by omega) (getm (by assumption))<|zL zLd qB O<|zZ O O (qH [none,none,none,none,none,none,some 2] O zr65 O) ?_
   rintro _ _ ⟨b7,rfl,rfl⟩
   refine N 0 sz65 O<|U<|B O<|zG O zEm<|zK zBa (J 0 O) O<|qK O ok109 (OwnR.pur (zBy y.Dims (hP.ps y (qD hy)).1 (hP.ps y (qD hy)).2)) ⟨Y,O,T⟩<|zG O zEm<|N 0 sz63 O<|U<|zS O<|zG O wN<|zK zCk (J 3 O) O<|zL zLd (J 0 O) O<|yE O el24 zr65<|zZ O O (qY 2 O el24 O O O (by simp only [List.length_take,List.length_map,List.length_append,List.length_cons,List.length_nil];omega) (by simp only [List.length_take,List.length_map,List.length_append,List.length_cons,List.length_nil];omega)) ?_
   rintro _ _ ⟨sv8,rfl,rfl⟩
   refine zG O wN<|N 3 sz24 O<|U<|zS O<|qJ O ⟨by omega,by omega⟩<|G O<|U ?_
   refine ⟨⟨k+1,sv8⟩,(by omega),(by show p.Params.length-(k+1)<p.Params.length-k;omega),Weak.mk [false,true,true,true,true,true,true] ⟨Y,Y,Y,Y,Y,Y,T⟩ (by exact mem3_eq (by rw [qR hy,List.map_append];rfl))⟩
  ·try simp only [W] at c2
   rw [qX (l:=p.Params) (k:=k) (by omega)]
   refine qO<|zI<|B O<|zG O kE<|zK wX (J 5 O) O<|zY O el25<|G O<|U<|zP<|zU ⟨[(57,.c _),(2,.c _),(3,.c _),(55,.c _),(56,.c _)],[_,_,_,_,_]⟩ (Weak.mk [true,true,true,true,true,false] ⟨Y,Y,Y,Y,Y,T⟩ O)<|qF 1 3 O O (Nat×Value) (fun ⟨k,su⟩=>[(57,vI k)]) (fun ⟨k,su⟩=>[E.vec su 59 22 ((p.Defs.take k).map Df.cells),E.vec sw 65 7 (p.Params.map Pm.cells),E.row b4 27 [.sl 1 (p.Sizes.map fun s=>[cS s]),.sl 3 (p.Where.map Cn.cells),.lit sw,.lit su,.lit sv3]]) (fun ⟨k,su⟩=>k<=p.Defs.length) (fun ⟨k,su⟩=>p.Defs.length-k) ⟨⟨0,(.slice none 0 0)⟩,(by omega),Weak.mk [true,true,true,true,true] ⟨Y,Y,Y,Y,Y,T⟩ O⟩ ?_
   rintro ⟨k,su⟩ hk
   show AWP _ _ _ _ _ ⟨[(57,vI k)]++_,[E.vec su 59 22 ((p.Defs.take k).map Df.cells),E.vec sw 65 7 (p.Params.map Pm.cells),E.row b4 27 [.sl 1 (p.Sizes.map fun s=>[cS s]),.sl 3 (p.Where.map Cn.cells),.lit sw,.lit su,.lit sv3]]++_⟩
   refine B O<|yA O<|U<|zI<|zE O (fun c3=>?_) (fun c3=>?_)
   ·try simp only [W] at c3
    obtain ⟨d,hd⟩:=qQ p.Defs k (by omega)
    refine zJ<|zI<|zP<|B O<|qE O el25 (by omega) (getm (by assumption))<|zL zCv qB O<|zZ O O (qH [none,none,none,none,none,none,some 3,some 3,none,none,none,none,none,none,none,none,none,none,none,some 2,some 4,some 13] O zr59 O) ?_
    rintro _ _ ⟨b9,rfl,rfl⟩
    refine N 0 sz59 O<|U<|zI<|qT 10 mixed (by kernel_rfl) O O<|zM O O (zD O zAv O)<|zM O O (zF O wK O (J 0 O) O)<|zM O O (qG O ok110 (OwnR.pur (zBg d.Dims (by have:=(hP.ds d (qD hd)).1;omega) (hP.ds d (qD hd)).2.2.1)) ⟨Y,O,T⟩)<|zM O O (zD O zAm O)<|zM O O (zF O wK O (J 0 O) O)<|zM O O (qG O ok110 (OwnR.pur (zBg d.Red (by have:=(hP.ds d (qD hd)).2.1;omega) (hP.ds d (qD hd)).2.2.2.1)) ⟨Y,O,T⟩)<|zM O O (zD O zDl O)<|zM O O (zN O qN O (J 0 O) O)<|zM O O (qG O ok32 (zKf d.Body (hP.ds d (qD hd)).2.2.2.2.1 (hP.ds d (qD hd)).2.2.2.2.2) ⟨Y,O,T⟩)<|zM O O (zD O zAv O)<|yM<|N 0 sz57 O<|zG O zAm<|N 0 sz57 O<|zG O zDl<|N 0 sz38 O<|U<|zS O<|zG O kE<|zK wX (J 3 O) O<|zL zCv (J 0 O) O<|yE O el25 zr59<|zZ O O (qY 1 O el25 O O O (by simp only [List.length_take,List.length_map,List.length_append,List.length_cons,List.length_nil];omega) (by simp only [List.length_take,List.length_map,List.length_append,List.length_cons,List.length_nil];omega)) ?_
    rintro _ _ ⟨sv10,rfl,rfl⟩
    refine zG O kE<|N 3 sz25 O<|U<|zS O<|qJ O ⟨by omega,by omega⟩<|G O<|U ?_
    refine ⟨⟨k+1,sv10⟩,(by omega),(by show p.Defs.length-(k+1)<p.Defs.length-k;omega),Weak.mk [false,true,true,true,true,true] ⟨Y,Y,Y,Y,Y,T⟩ (by exact mem3v_eq (by rw [qR hd,List.map_append];rfl))⟩
   ·try simp only [W] at c3
    rw [qX (l:=p.Defs) (k:=k) (by omega)]
    refine zU _ (kJ 0 O (regs':=[]) (μ':=[_,_,_,_]) T ⟨EFle.refl _,EFle.row (ds:=[_,_,_,_,_]) ⟨.inl O,.inl O,.inl O,.inr ⟨O,O⟩,.inl O,T⟩,EFle.refl _,EFle.refl _,T⟩)<|qO<|B O<|zL kO (J 1 O) O<|N 3 sz27 O<|U<|zU _ (Weak.mem [true,false,true,true] O)<|zH<|fin1 (zV kO O (J 2 O) O) ?_
    exact ⟨[E.vec _ _ _ _,E.vec _ _ _ _],⟨[],[E.row _ _ _],O⟩,_,_,O,O⟩
theorem program_CopyQ (p:Pg) (hP:p.OkC):Con cfg 43 [vPg p] [] fun r μ'=>∃svP svO,r=.agg [.sl 1 (p.Sizes.map fun s=>[cS s]),.sl 3 (p.Where.map Cn.cells),.lit svP,.sl 22 (p.Defs.map Df.cells),.lit svO]/\μ'=[E.vec svP 65 7 (p.Params.map Pm.cells),E.vec svO 9 1 ((p.Outs.map fun s=>[cS s]))]:=
  Con.dropG (program_CopyS p hP)
end Go.W
