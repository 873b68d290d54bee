/-
  What functions compute.
  Conditions: none.
-/
import Derived.Test.YtdldhbfgfkebjaaGreatDoorHG
set_option linter.unusedSimpArgs false
set_option linter.unusedVariables false
set_option maxRecDepth 10000
namespace Go.W
open Go Go.Eng Go.Proofs Go.L41 Go.Br
attribute [local irreducible] AWP RWP TD fP
abbrev vUn (u:Un):V:=.agg [.sl 11 (u.Code.map In.cells),.sl 5 (u.Types.map tyC),.sl 3 (u.Slots.map Sl.cells),cI u.Words]
theorem cmp_1 {n:Ns} (h:¬(bY n).2=0):lJ n=(zUn,(bY n).2):=by unfold lJ;rw [if_pos h]
theorem cmp_2 {n:Ns} (h:(bY n).2=0) (h2:256<(jB n).length):lJ n=(zUn,2):=by unfold lJ;rw [if_neg (fun k=>k h),if_pos h2]
theorem cmp_3 {n:Ns} (h:(bY n).2=0) (h2:¬256<(jB n).length) (h3:gA n.Body=false):lJ n=(zUn,3):=by unfold lJ;rw [if_neg (fun k=>k h),if_neg h2,if_pos h3]
theorem cmp_4 {n:Ns} {code:List In} {full:Bool} (h:(bY n).2=0) (h2:¬256<(jB n).length) (h3:gA n.Body=true) (hE:Em (xE (gnN n) (bL n)) code full) (hf:full=true):lJ n=(zUn,2):=by
  unfold lJ;rw [if_neg (fun k=>k h),if_neg h2,if_neg (by rw [h3];simp),if_pos (hE.no hf).1]
theorem cmp_5 {n:Ns} {code:List In} {full:Bool} (h:(bY n).2=0) (h2:¬256<(jB n).length) (h3:gA n.Body=true) (hE:Em (xE (gnN n) (bL n)) code full) (hf:full=false):lJ n=(⟨code,jB n,(hC (bL n)).1,(hC (bL n)).2⟩,0):=by
  obtain ⟨e,hl⟩:=hE.ok hf
  unfold lJ;rw [if_neg (fun k=>k h),if_neg h2,if_neg (by rw [h3];simp),if_neg (by omega),e]
theorem sts_one (g:Gn) (s:St) (L:List ByteArray) (p:Int):gF g [s] L p=stC g s L p:=by unfold gF;exact seqC_one p _
theorem agg35:lK Tryz.prog 35=some 4:=by kernel_rfl
theorem ok10:bA Tryz.prog 10=true:=by kernel_rfl
theorem ok25:bA Tryz.prog 25=true:=by kernel_rfl
theorem ok26:bA Tryz.prog 26=true:=by kernel_rfl
theorem ok28:bA Tryz.prog 28=true:=by kernel_rfl
theorem pl35:dN Tryz.prog 35=some [(0,1),(1,1),(2,1),(3,1)]:=by kernel_rfl
theorem pl80:dN Tryz.prog 80=some [(0,2),(2,2),(4,1),(5,1),(6,1)]:=by kernel_rfl
theorem sz35:(Tryz.prog.info? 35).map (·.size)=some 4:=by kernel_rfl
theorem zr35:dL Tryz.prog 35=some [(Value.slice none 0 0),(Value.slice none 0 0),(Value.slice none 0 0),(Value.int IntKind.i64 0)]:=by kernel_rfl
theorem zr80:dL Tryz.prog 80=some [(Value.slice none 0 0),(Value.bool false),(Value.slice none 0 0),(Value.slice none 0 0),(Value.slice none 0 0),(Value.slice none 0 0),(Value.slice none 0 0)]:=by kernel_rfl
set_option maxHeartbeats 4000000 in
theorem cg_Compile (n:Ns) (hn:n.Ok) (hw:bE n.Body<=800000) (hl:n.Bufs.length<=40):
    Pur cfg 12 [vNs n] (.tup [vUn (lJ n).1,vI (lJ n).2]):=by
 refine zW Tryz.func12 O Tryz.ntmps12 Tryz.results12 O ?_
 intro z hz
 have hbl:=wH n.Body
 refine R O<|zS O O (qP O O) ?_
 rintro _ _ ⟨b1,rfl,rfl⟩
 refine qT _ (qM 0 O 1 _ PLe.ptr)<|zS O O (qQ [some 11,some 5,some 3,none] O zr35 O) ?_
 rintro _ _ ⟨b2,rfl,rfl⟩
 refine G O<|zA<|R O<|zQ zAm zO O<|qS O ok25 (zQe n hn (by omega)) ⟨zB,O,T⟩<|zZ O (yA O O)<|kP O<|kP O<|G O<|G O<|zA<|zF<|R O<|G O<|wA O<|zA<|zD O (fun c1=>?_) (fun c1=>?_)
 ·try simp only [sx] at c1
  refine R O<|zZ O (kT [some 11,some 5,some 3,none] O zr35 pl35 O O)<|G O<|Y 0 sz35 O<|G O<|zA<|zN<|fin2 (qN agg35 O (A 0 O) O) (D O) ?_
  have hv:¬(bY n).2=0:=fun h=>by rw [zGy h] at c1;exact c1 rfl
  rw [zKh hv,cmp_1 hv];rfl
 ·try simp only [sx] at c1
  have hv:(bY n).2=0:=by by_cases h:(bY n).2=0;exact h;rw [zKh h] at c1;exact absurd h (by simpa using c1)
  rw [zGy hv]
  refine zI<|R O<|G O<|qS O ok26 (ar_Plan (bL n) (by rw [zDs];omega) (zHo hv)) ⟨zB,O,T⟩<|zZ O (yA O O)<|kP O<|kP O<|kP O<|G O<|G O<|G O<|zA<|zF<|R O<|G O<|wA O<|zA<|zD O (fun c2=>?_) (fun c2=>?_)
  ·exact absurd c2 (by decide)
  ·refine zI<|R O<|zQ zAm zO O<|zS O O (zIz O ok10 (cg_Types n (by omega) (by omega)) ⟨zB,O,T⟩) ?_
   rintro _ _ ⟨sv3,rfl,rfl⟩
   refine qT _ (yT 0 O (regs':=[(34,_)]) (μ':=[_]) ⟨FLe.sl,T⟩ ⟨EFle.refl _,T⟩)<|G O<|zA<|zF<|R O<|G O<|zZ O (zPb O el28 O)<|zZ O (yH O O O)<|zA<|zD O (fun c3=>?_) (fun c3=>?_)
   ·try simp only [sx] at c3
    have h3:256<(jB n).length:=by omega
    refine R O<|zZ O (kT [some 11,some 5,some 3,none] O zr35 pl35 O O)<|Y 0 sz35 O<|G O<|zA<|zN<|fin2 (qN agg35 O (A 0 O) O) (D O) ?_
    rw [cmp_2 hv h3];rfl
   ·try simp only [sx] at c3
    have h3:¬256<(jB n).length:=by omega
    refine zI<|zF<|R O<|zT O zBs<|zE zAh zO O<|qS O ok27 (cg_fitStmts n.Body (by omega)) ⟨zB,O,T⟩<|wE O<|zA<|zD O (fun c4=>?_) (fun c4=>?_)
    ·try simp only [sx] at c4
     have h4:gA n.Body=false:=by simpa using c4
     refine R O<|zZ O (kT [some 11,some 5,some 3,none] O zr35 pl35 O O)<|Y 0 sz35 O<|G O<|zA<|zN<|fin2 (qN agg35 O (A 0 O) O) (D O) ?_
     rw [cmp_3 hv h3 h4];rfl
    ·try simp only [sx] at c4
     have h4:gA n.Body=true:=by simpa using c4
     have hG:=gnN_ok hn hv hl (by omega)
     have hR:mG (gnN n) n.Body []:=valid_rdy (g:=gnN n) hv rfl
     refine zI<|R O<|zQ zAm zO O<|G O<|G O<|yS O zr80 pl80<|zS O O (qP O O) ?_
     rintro _ _ ⟨b4,rfl,rfl⟩
     refine qT _ (kZ 46 11)<|qT _ (kZ 9 1)<|G O<|zA<|zF<|R O<|zT O zBs<|zE zAh zO O<|qD O el23<|G O<|zA<|zP<|zU ⟨[(52,.c _),(1,.c _),(2,.c _),(4,.c _),(6,.c _),(7,.c _),(8,.c _),(9,.c _),(50,.c _),(51,.c _)],[_,_,_,_]⟩ (Weak.mk [true,true,true,true] ⟨zB,zB,zB,zB,zB,zB,zB,zB,zB,zB,T⟩ O)<|qF 1 3 O O (Nat×Value×Value×List In×Bool) (fun ⟨k,sw,lw,cw,fw⟩=>[(52,vI k)]) (fun ⟨k,sw,lw,cw,fw⟩=>[E.vec lw 9 1 (([]:List ByteArray).map fun s=>[cS s]),E.vec sw 46 11 (cw.map In.cells),E.row b4 80 [.lit sw,.lit (.bool fw),.sl 8 (n.Bufs.map Bf.cells),.sl 20 (n.Body.map St.cells),.sl 5 ((jB n).map tyC),.sl 3 ((hC (bL n)).1.map Sl.cells),.lit lw]]) (fun ⟨k,sw,lw,cw,fw⟩=>k<=n.Body.length/\(Em (lD 0 (fR (sL (gnN n) (bL n)) 0 (n.Body.take k))) cw fw)) (fun ⟨k,sw,lw,cw,fw⟩=>n.Body.length-k) ⟨⟨0,(.slice none 0 0),(.slice none 0 0),[],false⟩,⟨by omega,(by rw [List.take_zero,fR];exact Em.nil)⟩,Weak.mk [true,true,true,true] ⟨zB,zB,zB,zB,zB,zB,zB,zB,zB,zB,T⟩ O⟩ ?_
     rintro ⟨k,sw,lw,cw,fw⟩ ⟨hk,hq⟩
     show AWP _ _ _ _ _ ⟨[(52,vI k)]++_,[E.vec lw 9 1 (([]:List ByteArray).map fun s=>[cS s]),E.vec sw 46 11 (cw.map In.cells),E.row b4 80 [.lit sw,.lit (.bool fw),.sl 8 (n.Bufs.map Bf.cells),.sl 20 (n.Body.map St.cells),.sl 5 ((jB n).map tyC),.sl 3 ((hC (bL n)).1.map Sl.cells),.lit lw]]++_⟩
     refine R O<|yC O<|zA<|zF<|zD O (fun c5=>?_) (fun c5=>?_)
     ·try simp only [sx] at c5
      obtain ⟨s,hs⟩:=qU n.Body k (by omega)
      have hsm:=qE hs
      have hsw:=kC hsm
      have hrs:mG (gnN n) [s] []:=by rw [mG];exact ⟨zNz hR hsm,by rw [mG];trivial⟩
      refine zI<|zF<|zP<|R O<|G O<|zY O el23 (by omega) (zCc (by assumption))<|zQ zEi zO O<|zS O O (qQ [none,none,none,none,none,some 4,none,none,none,none,none,none,none,none,none,none,some 2,some 4,some 13,some 20] O zr59 O) ?_
      rintro _ _ ⟨b5,rfl,rfl⟩
      refine G O<|Y 0 sz59 O<|qT _ (qM 0 O 11 _ PLe.ptr)<|zA<|zF<|zF ?_
      skip
      refine zK O<|zT O zAn<|zE zDg zO O<|qD O el22<|G O<|zA<|zP<|zU ⟨[(60,.c _),(1,.c _),(2,.c _),(4,.c _),(6,.c _),(7,.c _),(8,.c _),(9,.c _),(10,.c _),(11,.c _),(50,.c _),(51,.c _),(52,.c _),(58,.c _),(59,.c _)],[_,_,_,_]⟩ (Weak.mk [true,true,true,true] ⟨zB,zB,zB,zB,zB,zB,zB,zB,zB,zB,zB,zB,zB,zB,zB,T⟩ O)<|qF 1 3 O O (Nat×Value×Value×List In×Bool) (fun ⟨j,su,lu,cu,fu0⟩=>[(60,vI j)]) (fun ⟨j,su,lu,cu,fu0⟩=>[E.vec lu 9 1 (([]:List ByteArray).map fun s=>[cS s]),E.vec su 46 11 (cu.map In.cells),E.row b4 80 [.lit su,.lit (.bool fu0),.sl 8 (n.Bufs.map Bf.cells),.sl 20 (n.Body.map St.cells),.sl 5 ((jB n).map tyC),.sl 3 ((hC (bL n)).1.map Sl.cells),.lit lu]]) (fun ⟨j,su,lu,cu,fu0⟩=>j<=n.Bufs.length/\(Em (lD 0 (fR (sL (gnN n) (bL n)) 0 (n.Body.take k)++fR (sV (gnN n) (bL n) k) 0 (n.Bufs.take j))) cu fu0)) (fun ⟨j,su,lu,cu,fu0⟩=>n.Bufs.length-j) ⟨⟨0,sw,lw,cw,fw⟩,⟨by omega,(by rw [List.take_zero,fR,List.append_nil];exact hq)⟩,Weak.mk [true,true,true,true] ⟨zB,zB,zB,zB,zB,zB,zB,zB,zB,zB,zB,zB,zB,zB,zB,T⟩ O⟩ ?_
      rintro ⟨j,su,lu,cu,fu0⟩ ⟨hj,hx⟩
      show AWP _ _ _ _ _ ⟨[(60,vI j)]++_,[E.vec lu 9 1 (([]:List ByteArray).map fun s=>[cS s]),E.vec su 46 11 (cu.map In.cells),E.row b4 80 [.lit su,.lit (.bool fu0),.sl 8 (n.Bufs.map Bf.cells),.sl 20 (n.Body.map St.cells),.sl 5 ((jB n).map tyC),.sl 3 ((hC (bL n)).1.map Sl.cells),.lit lu]]++_⟩
      refine R O<|yC O<|zA<|zF<|zD O (fun c6=>?_) (fun c6=>?_)
      ·try simp only [sx] at c6
       obtain ⟨y,hy⟩:=qU n.Bufs j (by omega)
       have hlv:(bL n)[j]? =some (dU n.Body y):=by unfold bL;rw [List.getElem?_map,hy];rfl
       refine zI<|zF<|zP<|R O<|G O<|zY O el22 (by omega) (v (by assumption))<|zQ zIm zO O<|zS O O (qQ [none,none,none,none,none,none,some 1,none] O zr69 O) ?_
       rintro _ _ ⟨b6,rfl,rfl⟩
       refine G O<|Y 0 sz69 O<|qT _ (qM 0 O 13 _ PLe.ptr)<|zA<|zF ?_
       skip
       refine zK O<|zT O zIb<|zE one3 zO O<|wA O<|G O<|rL0 O (fun g19_3=>zM O O) O<|rL0 O (fun g19_3=>zM O O) O<|rLz [(69,_),(70,_)] O gv1 ⟨O,O,O,O,T⟩ (fun g19_3=>qH O el62 O O (by omega) (v hlv)) O<|B 71 O (fun g19_3=>qB O zIa O) O<|B 72 O (fun g19_3=>zC O one3 O zO O) O<|rL0 O (fun g19_3=>zM O O) O<|rLz [(73,_),(74,_)] O gv1 ⟨O,O,O,O,T⟩ (fun g19_3=>kH O O O) O<|yW O (fun h=>h)<|zA<|zD O (fun c7=>?_) (fun c7=>?_)
       ·try simp only [sx] at c7
        refine zK O<|G O<|zT O zEc<|zE one9 zO O<|zS O O (yF [2,1,0] O ok28 (cg_clear hx y.Name hG) ⟨zB,O,zB,O,T⟩ O) ?_
        rintro _ _ ⟨_,⟨rfl,sv21,cd21,fu21,hE21,rfl⟩,rfl⟩
        refine zA<|zK O<|qA O ⟨by omega,by omega⟩<|G O<|zA ?_
        refine ⟨⟨j+1,sv21,lu,cd21,fu21⟩,⟨by omega,(by rw [wS _ hy,sV,if_pos (by rw [zLo hlv];exact c7),←List.append_assoc,zJu,Int.zero_add];exact hE21)⟩,(by show n.Bufs.length-(j+1)<n.Bufs.length-j;omega),Weak.mk [true,true,true,true] ⟨zB,zB,zB,zB,zB,zB,zB,zB,zB,zB,zB,zB,zB,zB,zB,T⟩ O⟩
       ·try simp only [sx] at c7
        refine zI<|zK O<|qA O ⟨by omega,by omega⟩<|G O<|zA ?_
        refine ⟨⟨j+1,su,lu,cu,fu0⟩,⟨by omega,(by rw [wS _ hy,sV,if_neg (by rw [zLo hlv];exact fun h=>c7.elim h.1 fun q=>q h.2),List.append_nil];exact hx)⟩,(by show n.Bufs.length-(j+1)<n.Bufs.length-j;omega),Weak.mk [true,true,true,true] ⟨zB,zB,zB,zB,zB,zB,zB,zB,zB,zB,zB,zB,zB,zB,zB,T⟩ O⟩
      ·try simp only [sx] at c6
       rw [qX (l:=n.Bufs) (k:=j) (by omega)] at hx
       refine qK<|zK O<|G O<|zQ zEi zO O<|zZ O (yJ O el23 zr59 O O O O)<|zS O O (yF [2,1,0] O ok29 (cg_stmts b4 (gnN n) hG [s] su lu cu fu0 [] (lD 0 (fR (sL (gnN n) (bL n)) 0 (n.Body.take k)++fR (sV (gnN n) (bL n) k) 0 n.Bufs)) hx hrs (by simp only [bE,List.length_nil];omega)) ⟨zB,O,VLe.of_eq (show V.c (C.sl 20 [s.cs])=dM [s] by rw [←St.cells_eq];rfl),O,T⟩ O) ?_
       rintro _ _ ⟨_,⟨rfl,sv22,cd22,fu22,sl22,hE22,rfl⟩,rfl⟩
       refine zA<|zK O<|qA O ⟨by omega,by omega⟩<|G O<|zA ?_
       refine ⟨⟨k+1,sv22,sl22,cd22,fu22⟩,⟨by omega,(by rw [wS _ hs,sL,←List.append_assoc,zJu,Int.zero_add];rw [sts_one] at hE22;exact hE22)⟩,(by show n.Body.length-(k+1)<n.Body.length-k;omega),Weak.mk [true,true,true,true] ⟨zB,zB,zB,zB,zB,zB,zB,zB,zB,zB,T⟩ O⟩
     ·try simp only [sx] at c5
      rw [qX (l:=n.Body) (k:=k) (by omega)] at hq
      refine qK<|R O<|G O<|qI O<|zJ O kJ<|yS O zr46 pl46<|zS O O (yF [2,1,0] O ok30 (zPh (g:=gnN n) hq (iN 0 0 0 0) _ (fun _=>O)) ⟨zB,O,zB,O,T⟩ O) ?_
      rintro _ _ ⟨_,⟨rfl,sv24,cd24,fu24,hE24,rfl⟩,rfl⟩
      refine zA<|zF<|R O<|G O<|qI O<|zJ O kJ<|zJ O zTn<|zE one4 (A 2 O) O<|zA<|zD O (fun c8=>?_) (fun c8=>?_)
      ·try simp only [sx] at c8
       refine R O<|zZ O (kT [some 11,some 5,some 3,none] O zr35 pl35 O O)<|Y 3 sz35 O<|G O<|zA<|zN<|fin2 (qN agg35 O (A 3 O) O) (D O) ?_
       rw [cmp_4 hv h3 h4 hE24 (by simpa using c8)];rfl
      ·try simp only [sx] at c8
       refine zI<|zF<|zU _ (yT 1 O (regs':=[]) (μ':=[_,_,_]) T ⟨EFle.refl _,EFle.row (ds:=[_,_,_,_,_,_,_]) ⟨.inr ⟨O,O⟩,.inl O,.inl O,.inl O,.inl O,.inl O,.inl O,T⟩,EFle.refl _,T⟩)<|zK O<|G O<|qI O<|zJ O kJ<|zJ O zPs<|zE zIk (A 1 O) O<|G O<|G O<|G O<|yS O zr35 pl35<|Y 2 sz35 O<|G O<|zA<|zN<|fin2 (qN agg35 O (A 2 O) O) (D O) ?_
       rw [cmp_5 hv h3 h4 hE24 (by simpa using c8)];rfl
end Go.W
