/-
  Walks: what functions of the program compute. Printed by wip/gen/mk2.py.
  Conditions: none.
-/
import Derived.Test.YtdldhbfgfkebjaaGreatDoorHG
set_option linter.unusedSimpArgs false
set_option linter.unusedVariables false
set_option maxRecDepth 10000
namespace Go.W
open Go Go.Eng Go.Proofs Go.L41 Go.Br
attribute [local irreducible] AWP RWP TD finQ
abbrev vUn (u:Un):V:=.agg [.sl 11 (u.Code.map In.cells),.sl 5 (u.Types.map tyC),.sl 3 (u.Slots.map Sl.cells),cI u.Words]
theorem cmp_1 {n:Ns} (h:¬(validN n).2=0):cmpT n=(zUn,(validN n).2):=by unfold cmpT;rw [if_pos h]
theorem cmp_2 {n:Ns} (h:(validN n).2=0) (h2:256<(typN n).length):cmpT n=(zUn,2):=by unfold cmpT;rw [if_neg (fun k=>k h),if_pos h2]
theorem cmp_3 {n:Ns} (h:(validN n).2=0) (h2:¬256<(typN n).length) (h3:fitTs n.Body=false):cmpT n=(zUn,3):=by unfold cmpT;rw [if_neg (fun k=>k h),if_neg h2,if_pos h3]
theorem cmp_4 {n:Ns} {code:List In} {full:Bool} (h:(validN n).2=0) (h2:¬256<(typN n).length) (h3:fitTs n.Body=true) (hE:Em (topC (gnN n) (lives n)) code full) (hf:full=true):cmpT n=(zUn,2):=by
  unfold cmpT;rw [if_neg (fun k=>k h),if_neg h2,if_neg (by rw [h3];simp),if_pos (hE.no hf).1]
theorem cmp_5 {n:Ns} {code:List In} {full:Bool} (h:(validN n).2=0) (h2:¬256<(typN n).length) (h3:fitTs n.Body=true) (hE:Em (topC (gnN n) (lives n)) code full) (hf:full=false):cmpT n=(⟨code,typN n,(planT (lives n)).1,(planT (lives n)).2⟩,0):=by
  obtain ⟨e,hl⟩:=hE.ok hf
  unfold cmpT;rw [if_neg (fun k=>k h),if_neg h2,if_neg (by rw [h3];simp),if_neg (by omega),e]
theorem sts_one (g:Gn) (s:St) (L:List ByteArray) (p:Int):stsC g [s] L p=stC g s L p:=by unfold stsC;exact seqC_one p _
theorem agg35:aggT Tryz.prog 35=some 4:=by kernel_rfl
theorem ok10:callOk Tryz.prog 10=true:=by kernel_rfl
theorem ok25:callOk Tryz.prog 25=true:=by kernel_rfl
theorem ok26:callOk Tryz.prog 26=true:=by kernel_rfl
theorem ok28:callOk Tryz.prog 28=true:=by kernel_rfl
theorem pl35:placesT Tryz.prog 35=some [(0,1),(1,1),(2,1),(3,1)]:=by kernel_rfl
theorem pl80:placesT Tryz.prog 80=some [(0,2),(2,2),(4,1),(5,1),(6,1)]:=by kernel_rfl
theorem sz35:(Tryz.prog.info? 35).map (·.size)=some 4:=by kernel_rfl
theorem zr35:zeroT Tryz.prog 35=some [(Value.slice none 0 0),(Value.slice none 0 0),(Value.slice none 0 0),(Value.int IntKind.i64 0)]:=by kernel_rfl
theorem zr80:zeroT Tryz.prog 80=some [(Value.slice none 0 0),(Value.bool false),(Value.slice none 0 0),(Value.slice none 0 0),(Value.slice none 0 0),(Value.slice none 0 0),(Value.slice none 0 0)]:=by kernel_rfl
set_option maxHeartbeats 4000000 in
theorem cg_Compile (n:Ns) (hn:n.Ok) (hw:stsWt n.Body<=800000) (hl:n.Bufs.length<=40):
    Pur cfg 12 [vNs n] (.tup [vUn (cmpT n).1,vI (cmpT n).2]):=by
 refine zW Tryz.func12 O Tryz.ntmps12 Tryz.results12 O ?_
 intro z hz
 have hbl:=wT n.Body
 refine R O<|zU O O (qT O O) ?_
 rintro _ _ ⟨b1,rfl,rfl⟩
 refine qS _ (qK 0 O 1 _ PLe.ptr)<|zU O O (qR [some 11,some 5,some 3,none] O zr35 O) ?_
 rintro _ _ ⟨b2,rfl,rfl⟩
 refine G O<|zA<|R O<|zP zFj Y O<|qW O ok25 (zLt n hn (by omega)) ⟨zB,O,T⟩<|v O (yW O O)<|v O (kO O O O)<|v O (kO O O O)<|G O<|G O<|zA<|zF<|R O<|G O<|wL O<|zA<|zC O (fun c1=>?_) (fun c1=>?_)
 ·try simp only [sx] at c1
  refine R O<|v O (wS [some 11,some 5,some 3,none] O zr35 pl35 O O)<|G O<|D 0 sz35 O<|G O<|zA<|zM<|fin2 (qQ agg35 O (A 0 O) O) (L O) ?_
  have hv:¬(validN n).2=0:=fun h=>by rw [zLb h] at c1;exact c1 rfl
  rw [zLc hv,cmp_1 hv];rfl
 ·try simp only [sx] at c1
  have hv:(validN n).2=0:=by by_cases h:(validN n).2=0;exact h;rw [zLc h] at c1;exact absurd h (by simpa using c1)
  rw [zLb hv]
  refine zH<|R O<|G O<|qW O ok26 (ar_Plan (lives n) (by rw [zCt];omega) (zIc hv)) ⟨zB,O,T⟩<|v O (yW O O)<|v O (kO O O O)<|v O (kO O O O)<|v O (kO O O O)<|G O<|G O<|G O<|zA<|zF<|R O<|G O<|wL O<|zA<|zC O (fun c2=>?_) (fun c2=>?_)
  ·exact absurd c2 (by decide)
  ·refine zH<|R O<|zP zFj Y O<|zU O O (ope_call_own O ok10 (cg_Types n (by omega) (by omega)) ⟨zB,O,T⟩) ?_
   rintro _ _ ⟨sv3,rfl,rfl⟩
   refine qS _ (zAb 0 O (regs':=[(34,_)]) (μ':=[_]) ⟨FLe.sl,T⟩ ⟨EFle.refl _,T⟩)<|G O<|zA<|zF<|R O<|G O<|v O (det_len_sl O el28 O)<|v O (kA O O O)<|zA<|zC O (fun c3=>?_) (fun c3=>?_)
   ·try simp only [sx] at c3
    have h3:256<(typN n).length:=by omega
    refine R O<|v O (wS [some 11,some 5,some 3,none] O zr35 pl35 O O)<|D 0 sz35 O<|G O<|zA<|zM<|fin2 (qQ agg35 O (A 0 O) O) (L O) ?_
    rw [cmp_2 hv h3];rfl
   ·try simp only [sx] at c3
    have h3:¬256<(typN n).length:=by omega
    refine zH<|zF<|R O<|zZ O zJh<|zL zDa Y O<|qW O ok27 (cg_fitStmts n.Body (by omega)) ⟨zB,O,T⟩<|wK O<|zA<|zC O (fun c4=>?_) (fun c4=>?_)
    ·try simp only [sx] at c4
     have h4:fitTs n.Body=false:=by simpa using c4
     refine R O<|v O (wS [some 11,some 5,some 3,none] O zr35 pl35 O O)<|D 0 sz35 O<|G O<|zA<|zM<|fin2 (qQ agg35 O (A 0 O) O) (L O) ?_
     rw [cmp_3 hv h3 h4];rfl
    ·try simp only [sx] at c4
     have h4:fitTs n.Body=true:=by simpa using c4
     have hG:=gnN_ok hn hv hl (by omega)
     have hR:RdSs (gnN n) n.Body []:=valid_rdy (g:=gnN n) hv rfl
     refine zH<|R O<|zP zFj Y O<|G O<|G O<|v O (yB O zr80 pl80 O)<|zU O O (qT O O) ?_
     rintro _ _ ⟨b4,rfl,rfl⟩
     refine qS _ (zAm 46 11)<|qS _ (zAm 9 1)<|G O<|zA<|zF<|R O<|zZ O zJh<|zL zDa Y O<|qH O el23<|G O<|zA<|zQ<|zS ⟨[(52,.c _),(1,.c _),(2,.c _),(4,.c _),(6,.c _),(7,.c _),(8,.c _),(9,.c _),(50,.c _),(51,.c _)],[_,_,_,_]⟩ (Weak.mk [true,true,true,true] ⟨zB,zB,zB,zB,zB,zB,zB,zB,zB,zB,T⟩ O)<|qJ 1 3 O O (Nat×Value×Value×List In×Bool) (fun ⟨k,sw,lw,cw,fw⟩=>[(52,vI k)]) (fun ⟨k,sw,lw,cw,fw⟩=>[E.vec lw 9 1 (([]:List ByteArray).map fun s=>[cS s]),E.vec sw 46 11 (cw.map In.cells),E.row b4 80 [.lit sw,.lit (.bool fw),.sl 8 (n.Bufs.map Bf.cells),.sl 20 (n.Body.map St.cells),.sl 5 ((typN n).map tyC),.sl 3 ((planT (lives n)).1.map Sl.cells),.lit lw]]) (fun ⟨k,sw,lw,cw,fw⟩=>k<=n.Body.length/\(Em (seqC 0 (mapI (topF (gnN n) (lives n)) 0 (n.Body.take k))) cw fw)) (fun ⟨k,sw,lw,cw,fw⟩=>n.Body.length-k) ⟨⟨0,(.slice none 0 0),(.slice none 0 0),[],false⟩,⟨by omega,(by rw [List.take_zero,mapI];exact Em.nil)⟩,Weak.mk [true,true,true,true] ⟨zB,zB,zB,zB,zB,zB,zB,zB,zB,zB,T⟩ O⟩ ?_
     rintro ⟨k,sw,lw,cw,fw⟩ ⟨hk,hq⟩
     show AWP _ _ _ _ _ ⟨[(52,vI k)]++_,[E.vec lw 9 1 (([]:List ByteArray).map fun s=>[cS s]),E.vec sw 46 11 (cw.map In.cells),E.row b4 80 [.lit sw,.lit (.bool fw),.sl 8 (n.Bufs.map Bf.cells),.sl 20 (n.Body.map St.cells),.sl 5 ((typN n).map tyC),.sl 3 ((planT (lives n)).1.map Sl.cells),.lit lw]]++_⟩
     refine R O<|yE O<|zA<|zF<|zC O (fun c5=>?_) (fun c5=>?_)
     ·try simp only [sx] at c5
      obtain ⟨s,hs⟩:=qX n.Body k (by omega)
      have hsm:=qB hs
      have hsw:=kY hsm
      have hrs:RdSs (gnN n) [s] []:=by rw [RdSs];exact ⟨zJx hR hsm,by rw [RdSs];trivial⟩
      refine zH<|zF<|zQ<|R O<|G O<|qI O el23 (by omega) (zLv (by assumption))<|zP zHc Y O<|zU O O (qR [none,none,none,none,none,some 4,none,none,none,none,none,none,none,none,none,none,some 2,some 4,some 13,some 20] O zr59 O) ?_
      rintro _ _ ⟨b5,rfl,rfl⟩
      refine G O<|D 0 sz59 O<|qS _ (qK 0 O 11 _ PLe.ptr)<|zA ?_
      refine zF<|R O<|zZ O zFb<|zL zLr Y O<|qH O el22<|G O<|zA<|zQ<|zS ⟨[(60,.c _),(1,.c _),(2,.c _),(4,.c _),(6,.c _),(7,.c _),(8,.c _),(9,.c _),(10,.c _),(11,.c _),(50,.c _),(51,.c _),(52,.c _),(58,.c _),(59,.c _)],[_,_,_,_]⟩ (Weak.mk [true,true,true,true] ⟨zB,zB,zB,zB,zB,zB,zB,zB,zB,zB,zB,zB,zB,zB,zB,T⟩ O)<|qJ 1 3 O O (Nat×Value×Value×List In×Bool) (fun ⟨j,su,lu,cu,fu0⟩=>[(60,vI j)]) (fun ⟨j,su,lu,cu,fu0⟩=>[E.vec lu 9 1 (([]:List ByteArray).map fun s=>[cS s]),E.vec su 46 11 (cu.map In.cells),E.row b4 80 [.lit su,.lit (.bool fu0),.sl 8 (n.Bufs.map Bf.cells),.sl 20 (n.Body.map St.cells),.sl 5 ((typN n).map tyC),.sl 3 ((planT (lives n)).1.map Sl.cells),.lit lu]]) (fun ⟨j,su,lu,cu,fu0⟩=>j<=n.Bufs.length/\(Em (seqC 0 (mapI (topF (gnN n) (lives n)) 0 (n.Body.take k)++mapI (clrF (gnN n) (lives n) k) 0 (n.Bufs.take j))) cu fu0)) (fun ⟨j,su,lu,cu,fu0⟩=>n.Bufs.length-j) ⟨⟨0,sw,lw,cw,fw⟩,⟨by omega,(by rw [List.take_zero,mapI,List.append_nil];exact hq)⟩,Weak.mk [true,true,true,true] ⟨zB,zB,zB,zB,zB,zB,zB,zB,zB,zB,zB,zB,zB,zB,zB,T⟩ O⟩ ?_
      rintro ⟨j,su,lu,cu,fu0⟩ ⟨hj,hx⟩
      show AWP _ _ _ _ _ ⟨[(60,vI j)]++_,[E.vec lu 9 1 (([]:List ByteArray).map fun s=>[cS s]),E.vec su 46 11 (cu.map In.cells),E.row b4 80 [.lit su,.lit (.bool fu0),.sl 8 (n.Bufs.map Bf.cells),.sl 20 (n.Body.map St.cells),.sl 5 ((typN n).map tyC),.sl 3 ((planT (lives n)).1.map Sl.cells),.lit lu]]++_⟩
      refine R O<|yE O<|zA<|zF<|zC O (fun c6=>?_) (fun c6=>?_)
      ·try simp only [sx] at c6
       obtain ⟨y,hy⟩:=qX n.Bufs j (by omega)
       have hlv:(lives n)[j]? =some (lifeOf n.Body y):=by unfold lives;rw [List.getElem?_map,hy];rfl
       refine zH<|zF<|zQ<|R O<|G O<|qI O el22 (by omega) (getm (by assumption))<|zP zPd Y O<|zU O O (qR [none,none,none,none,none,none,some 1,none] O zr69 O) ?_
       rintro _ _ ⟨b6,rfl,rfl⟩
       refine G O<|D 0 sz69 O<|qS _ (qK 0 O 13 _ PLe.ptr)<|zA ?_
       refine R O<|zZ O fd69_3<|zL one3 Y O<|wL O<|G O<|rL0 O (fun g19_3=>zG O O) O<|rL0 O (fun g19_3=>zG O O) O<|rLz [(69,_),(70,_)] O gv1 ⟨O,O,O,O,T⟩ (fun g19_3=>yA O el62 O O (by omega) (getm hlv)) O<|B 71 O (fun g19_3=>qA O fd82_1 O) O<|B 72 O (fun g19_3=>zD O one3 O Y O) O<|rL0 O (fun g19_3=>zG O O) O<|rLz [(73,_),(74,_)] O gv1 ⟨O,O,O,O,T⟩ (fun g19_3=>kJ O O O) O<|kE O (fun h=>h)<|zA<|zC O (fun c7=>?_) (fun c7=>?_)
       ·try simp only [sx] at c7
        refine zI O<|G O<|zZ O zJf<|zL one9 Y O<|zU O O (zT [2,1,0] O ok28 (cg_clear b4 su lu cu fu0 (gnN n) [] (seqC 0 (mapI (topF (gnN n) (lives n)) 0 (n.Body.take k)++mapI (clrF (gnN n) (lives n) k) 0 (n.Bufs.take j))) hx y.Name hG) ⟨zB,O,zB,O,T⟩ O) ?_
        rintro _ _ ⟨_,⟨rfl,sv21,cd21,fu21,hE21,rfl⟩,rfl⟩
        refine zA<|zI O<|qD O ⟨by omega,by omega⟩<|G O<|zA ?_
        refine ⟨⟨j+1,sv21,lu,cd21,fu21⟩,⟨by omega,(by rw [zBh _ hy,clrF,if_pos (by rw [zNv hlv];exact c7),←List.append_assoc,zMd,Int.zero_add];exact hE21)⟩,(by show n.Bufs.length-(j+1)<n.Bufs.length-j;omega),Weak.mk [true,true,true,true] ⟨zB,zB,zB,zB,zB,zB,zB,zB,zB,zB,zB,zB,zB,zB,zB,T⟩ O⟩
       ·try simp only [sx] at c7
        refine zH<|zI O<|qD O ⟨by omega,by omega⟩<|G O<|zA ?_
        refine ⟨⟨j+1,su,lu,cu,fu0⟩,⟨by omega,(by rw [zBh _ hy,clrF,if_neg (by rw [zNv hlv];exact fun h=>c7.elim h.1 fun q=>q h.2),List.append_nil];exact hx)⟩,(by show n.Bufs.length-(j+1)<n.Bufs.length-j;omega),Weak.mk [true,true,true,true] ⟨zB,zB,zB,zB,zB,zB,zB,zB,zB,zB,zB,zB,zB,zB,zB,T⟩ O⟩
      ·try simp only [sx] at c6
       rw [yI (l:=n.Bufs) (k:=j) (by omega)] at hx
       refine qL<|zI O<|G O<|zP zHc Y O<|v O (kF O el23 zr59 O O O O)<|zU O O (zT [2,1,0] O ok29 (cg_stmts b4 (gnN n) hG [s] su lu cu fu0 [] (seqC 0 (mapI (topF (gnN n) (lives n)) 0 (n.Body.take k)++mapI (clrF (gnN n) (lives n) k) 0 n.Bufs)) hx hrs (by simp only [stsWt,List.length_nil];omega)) ⟨zB,O,VLe.of_eq (show V.c (C.sl 20 [s.cs])=vSts [s] by rw [←St.cells_eq];rfl),O,T⟩ O) ?_
       rintro _ _ ⟨_,⟨rfl,sv22,cd22,fu22,sl22,hE22,rfl⟩,rfl⟩
       refine zA<|zI O<|qD O ⟨by omega,by omega⟩<|G O<|zA ?_
       refine ⟨⟨k+1,sv22,sl22,cd22,fu22⟩,⟨by omega,(by rw [zBh _ hs,topF,←List.append_assoc,zMd,Int.zero_add];rw [sts_one] at hE22;exact hE22)⟩,(by show n.Body.length-(k+1)<n.Body.length-k;omega),Weak.mk [true,true,true,true] ⟨zB,zB,zB,zB,zB,zB,zB,zB,zB,zB,T⟩ O⟩
     ·try simp only [sx] at c5
      rw [yI (l:=n.Body) (k:=k) (by omega)] at hq
      refine qL<|R O<|G O<|qE O<|zN O yQ<|v O (yB O zr46 pl46 O)<|zU O O (zT [2,1,0] O ok30 (zKw b4 sw lw cw fw (gnN n) [] (seqC 0 (mapI (topF (gnN n) (lives n)) 0 n.Body)) hq (iN 0 0 0 0) _ (fun _=>O)) ⟨zB,O,zB,O,T⟩ O) ?_
      rintro _ _ ⟨_,⟨rfl,sv24,cd24,fu24,hE24,rfl⟩,rfl⟩
      refine zA<|zF<|R O<|G O<|qE O<|zN O yQ<|zN O zOd<|zL one4 (A 2 O) O<|zA<|zC O (fun c8=>?_) (fun c8=>?_)
      ·try simp only [sx] at c8
       refine R O<|v O (wS [some 11,some 5,some 3,none] O zr35 pl35 O O)<|D 3 sz35 O<|G O<|zA<|zM<|fin2 (qQ agg35 O (A 3 O) O) (L O) ?_
       rw [cmp_4 hv h3 h4 hE24 (by simpa using c8)];rfl
      ·try simp only [sx] at c8
       refine zH<|zF<|zS _ (zAb 1 O (regs':=[]) (μ':=[_,_,_]) T ⟨EFle.refl _,EFle.row (ds:=[_,_,_,_,_,_,_]) ⟨.inr ⟨O,O⟩,.inl O,.inl O,.inl O,.inl O,.inl O,.inl O,T⟩,EFle.refl _,T⟩)<|zI O<|G O<|qE O<|zN O yQ<|zN O zLj<|zL zNl (A 1 O) O<|G O<|G O<|G O<|v O (yB O zr35 pl35 O)<|D 2 sz35 O<|G O<|zA<|zM<|fin2 (qQ agg35 O (A 2 O) O) (L O) ?_
       rw [cmp_5 hv h3 h4 hE24 (by simpa using c8)];rfl
end Go.W
