/-
  What functions compute.
  Conditions: none.
-/
import Derived.Test.YtdldhbfgfkebjaaGreatDoorHG
set_option linter.unusedSimpArgs false
set_option linter.unusedVariables false
set_option maxRecDepth 10000
namespace Go.W
open Go Go.Eng Go.Proofs Go.L41 Go.Br
attribute [local irreducible] AWP RWP TD fY
abbrev vUn (u:Un):V:=.agg [.sl 11 (u.Code.map In.cells),.sl 5 (u.Types.map tyC),.sl 3 (u.Slots.map Sl.cells),cI u.Words]
theorem cmp_1 {n:Ns} (h:¬(bZ n).2=0):lA n=(zUn,(bZ n).2):=by unfold lA;rw [if_pos h]
theorem cmp_2 {n:Ns} (h:(bZ n).2=0) (h2:256<(jA n).length):lA n=(zUn,2):=by unfold lA;rw [if_neg (fun k=>k h),if_pos h2]
theorem cmp_3 {n:Ns} (h:(bZ n).2=0) (h2:¬256<(jA n).length) (h3:jF n.Body=false):lA n=(zUn,3):=by unfold lA;rw [if_neg (fun k=>k h),if_neg h2,if_pos h3]
theorem cmp_4 {n:Ns} {code:List In} {full:Bool} (h:(bZ n).2=0) (h2:¬256<(jA n).length) (h3:jF n.Body=true) (hE:Em (nB (gnN n) (bE n)) code full) (hf:full=true):lA n=(zUn,2):=by
  unfold lA;rw [if_neg (fun k=>k h),if_neg h2,if_neg (by rw [h3];simp),if_pos (hE.no hf).1]
theorem cmp_5 {n:Ns} {code:List In} {full:Bool} (h:(bZ n).2=0) (h2:¬256<(jA n).length) (h3:jF n.Body=true) (hE:Em (nB (gnN n) (bE n)) code full) (hf:full=false):lA n=(⟨code,jA n,(fF (bE n)).1,(fF (bE n)).2⟩,0):=by
  obtain ⟨e,hl⟩:=hE.ok hf
  unfold lA;rw [if_neg (fun k=>k h),if_neg h2,if_neg (by rw [h3];simp),if_neg (by omega),e]
theorem sts_one (g:Gn) (s:St) (L:List ByteArray) (p:Int):jB g [s] L p=stC g s L p:=by unfold jB;exact seqC_one p _
theorem agg35:lI Tryz.prog 35=some 4:=by kernel_rfl
theorem ok10:bA Tryz.prog 10=true:=by kernel_rfl
theorem ok25:bA Tryz.prog 25=true:=by kernel_rfl
theorem ok26:bA Tryz.prog 26=true:=by kernel_rfl
theorem ok28:bA Tryz.prog 28=true:=by kernel_rfl
theorem pl35:fL Tryz.prog 35=some [(0,1),(1,1),(2,1),(3,1)]:=by kernel_rfl
theorem pl80:fL Tryz.prog 80=some [(0,2),(2,2),(4,1),(5,1),(6,1)]:=by kernel_rfl
theorem sz35:(Tryz.prog.info? 35).map (·.size)=some 4:=by kernel_rfl
theorem zr35:dS Tryz.prog 35=some [(Value.slice none 0 0),(Value.slice none 0 0),(Value.slice none 0 0),(Value.int IntKind.i64 0)]:=by kernel_rfl
theorem zr80:dS Tryz.prog 80=some [(Value.slice none 0 0),(Value.bool false),(Value.slice none 0 0),(Value.slice none 0 0),(Value.slice none 0 0),(Value.slice none 0 0),(Value.slice none 0 0)]:=by kernel_rfl
set_option maxHeartbeats 4000000 in
theorem cg_Compile (n:Ns) (hn:n.Ok) (hw:bL n.Body<=800000) (hl:n.Bufs.length<=40):
    Pur cfg 12 [vNs n] (.tup [vUn (lA n).1,vI (lA n).2]):=by
 refine zU Tryz.func12 O Tryz.ntmps12 Tryz.results12 O ?_
 intro z hz
 have hbl:=wL n.Body
 refine R O<|zV O O (qO O O) ?_
 rintro _ _ ⟨b1,rfl,rfl⟩
 refine qX _ (qK 0 O 1 _ PLe.ptr)<|zV O O (qR [some 11,some 5,some 3,none] O zr35 O) ?_
 rintro _ _ ⟨b2,rfl,rfl⟩
 refine G O<|zA<|R O<|zO zBi zQ O<|qN O ok25 (zPe n hn (by omega)) ⟨zB,O,T⟩<|zW O (yD O O)<|zW O (yR O O O)<|zW O (yR O O O)<|G O<|G O<|zA<|zI<|R O<|G O<|kU O<|zA<|zC O (fun c1=>?_) (fun c1=>?_)
 ·try simp only [sx] at c1
  refine R O<|zW O (kY [some 11,some 5,some 3,none] O zr35 pl35 O O)<|G O<|D 0 sz35 O<|G O<|zA<|zK<|fin2 (qM agg35 O (Y 0 O) O) (L O) ?_
  have hv:¬(bZ n).2=0:=fun h=>by rw [zGe h] at c1;exact c1 rfl
  rw [zJn hv,cmp_1 hv];rfl
 ·try simp only [sx] at c1
  have hv:(bZ n).2=0:=by by_cases h:(bZ n).2=0;exact h;rw [zJn h] at c1;exact absurd h (by simpa using c1)
  rw [zGe hv]
  refine zJ<|R O<|G O<|qN O ok26 (ar_Plan (bE n) (by rw [zCm];omega) (zGt hv)) ⟨zB,O,T⟩<|zW O (yD O O)<|zW O (yR O O O)<|zW O (yR O O O)<|zW O (yR O O O)<|G O<|G O<|G O<|zA<|zI<|R O<|G O<|kU O<|zA<|zC O (fun c2=>?_) (fun c2=>?_)
  ·exact absurd c2 (by decide)
  ·refine zJ<|R O<|zO zBi zQ O<|zV O O (ope_call_own O ok10 (cg_Types n (by omega) (by omega)) ⟨zB,O,T⟩) ?_
   rintro _ _ ⟨sv3,rfl,rfl⟩
   refine qX _ (wD 0 O (regs':=[(34,_)]) (μ':=[_]) ⟨FLe.sl,T⟩ ⟨EFle.refl _,T⟩)<|G O<|zA<|zI<|R O<|G O<|zW O (det_len_sl O el28 O)<|zW O (yG O O O)<|zA<|zC O (fun c3=>?_) (fun c3=>?_)
   ·try simp only [sx] at c3
    have h3:256<(jA n).length:=by omega
    refine R O<|zW O (kY [some 11,some 5,some 3,none] O zr35 pl35 O O)<|D 0 sz35 O<|G O<|zA<|zK<|fin2 (qM agg35 O (Y 0 O) O) (L O) ?_
    rw [cmp_2 hv h3];rfl
   ·try simp only [sx] at c3
    have h3:¬256<(jA n).length:=by omega
    refine zJ<|zI<|R O<|zX O zEn<|zH zBm zQ O<|qN O ok27 (cg_fitStmts n.Body (by omega)) ⟨zB,O,T⟩<|kP O<|zA<|zC O (fun c4=>?_) (fun c4=>?_)
    ·try simp only [sx] at c4
     have h4:jF n.Body=false:=by simpa using c4
     refine R O<|zW O (kY [some 11,some 5,some 3,none] O zr35 pl35 O O)<|D 0 sz35 O<|G O<|zA<|zK<|fin2 (qM agg35 O (Y 0 O) O) (L O) ?_
     rw [cmp_3 hv h3 h4];rfl
    ·try simp only [sx] at c4
     have h4:jF n.Body=true:=by simpa using c4
     have hG:=gnN_ok hn hv hl (by omega)
     have hR:mX (gnN n) n.Body []:=valid_rdy (g:=gnN n) hv rfl
     refine zJ<|R O<|zO zBi zQ O<|G O<|G O<|yZ O zr80 pl80<|zV O O (qO O O) ?_
     rintro _ _ ⟨b4,rfl,rfl⟩
     refine qX _ (wV 46 11)<|qX _ (wV 9 1)<|G O<|zA<|zI<|R O<|zX O zEn<|zH zBm zQ O<|zZ O el23<|G O<|zA<|zP<|zT ⟨[(52,.c _),(1,.c _),(2,.c _),(4,.c _),(6,.c _),(7,.c _),(8,.c _),(9,.c _),(50,.c _),(51,.c _)],[_,_,_,_]⟩ (Weak.mk [true,true,true,true] ⟨zB,zB,zB,zB,zB,zB,zB,zB,zB,zB,T⟩ O)<|qG 1 3 O O (Nat×Value×Value×List In×Bool) (fun ⟨k,sw,lw,cw,fw⟩=>[(52,vI k)]) (fun ⟨k,sw,lw,cw,fw⟩=>[E.vec lw 9 1 (([]:List ByteArray).map fun s=>[cS s]),E.vec sw 46 11 (cw.map In.cells),E.row b4 80 [.lit sw,.lit (.bool fw),.sl 8 (n.Bufs.map Bf.cells),.sl 20 (n.Body.map St.cells),.sl 5 ((jA n).map tyC),.sl 3 ((fF (bE n)).1.map Sl.cells),.lit lw]]) (fun ⟨k,sw,lw,cw,fw⟩=>k<=n.Body.length/\(Em (lE 0 (gK (tA (gnN n) (bE n)) 0 (n.Body.take k))) cw fw)) (fun ⟨k,sw,lw,cw,fw⟩=>n.Body.length-k) ⟨⟨0,(.slice none 0 0),(.slice none 0 0),[],false⟩,⟨by omega,(by rw [List.take_zero,gK];exact Em.nil)⟩,Weak.mk [true,true,true,true] ⟨zB,zB,zB,zB,zB,zB,zB,zB,zB,zB,T⟩ O⟩ ?_
     rintro ⟨k,sw,lw,cw,fw⟩ ⟨hk,hq⟩
     show AWP _ _ _ _ _ ⟨[(52,vI k)]++_,[E.vec lw 9 1 (([]:List ByteArray).map fun s=>[cS s]),E.vec sw 46 11 (cw.map In.cells),E.row b4 80 [.lit sw,.lit (.bool fw),.sl 8 (n.Bufs.map Bf.cells),.sl 20 (n.Body.map St.cells),.sl 5 ((jA n).map tyC),.sl 3 ((fF (bE n)).1.map Sl.cells),.lit lw]]++_⟩
     refine R O<|yB O<|zA<|zI<|zC O (fun c5=>?_) (fun c5=>?_)
     ·try simp only [sx] at c5
      obtain ⟨s,hs⟩:=qU n.Body k (by omega)
      have hsm:=qA hs
      have hsw:=kL hsm
      have hrs:mX (gnN n) [s] []:=by rw [mX];exact ⟨zNe hR hsm,by rw [mX];trivial⟩
      refine zJ<|zI<|zP<|R O<|G O<|qD O el23 (by omega) (zEl (by assumption))<|zO zFo zQ O<|zV O O (qR [none,none,none,none,none,some 4,none,none,none,none,none,none,none,none,none,none,some 2,some 4,some 13,some 20] O zr59 O) ?_
      rintro _ _ ⟨b5,rfl,rfl⟩
      refine G O<|D 0 sz59 O<|qX _ (qK 0 O 11 _ PLe.ptr)<|zA<|zI<|zI ?_
      skip
      refine zM O<|zX O zDh<|zH zHq zQ O<|zZ O el22<|G O<|zA<|zP<|zT ⟨[(60,.c _),(1,.c _),(2,.c _),(4,.c _),(6,.c _),(7,.c _),(8,.c _),(9,.c _),(10,.c _),(11,.c _),(50,.c _),(51,.c _),(52,.c _),(58,.c _),(59,.c _)],[_,_,_,_]⟩ (Weak.mk [true,true,true,true] ⟨zB,zB,zB,zB,zB,zB,zB,zB,zB,zB,zB,zB,zB,zB,zB,T⟩ O)<|qG 1 3 O O (Nat×Value×Value×List In×Bool) (fun ⟨j,su,lu,cu,fu0⟩=>[(60,vI j)]) (fun ⟨j,su,lu,cu,fu0⟩=>[E.vec lu 9 1 (([]:List ByteArray).map fun s=>[cS s]),E.vec su 46 11 (cu.map In.cells),E.row b4 80 [.lit su,.lit (.bool fu0),.sl 8 (n.Bufs.map Bf.cells),.sl 20 (n.Body.map St.cells),.sl 5 ((jA n).map tyC),.sl 3 ((fF (bE n)).1.map Sl.cells),.lit lu]]) (fun ⟨j,su,lu,cu,fu0⟩=>j<=n.Bufs.length/\(Em (lE 0 (gK (tA (gnN n) (bE n)) 0 (n.Body.take k)++gK (vW (gnN n) (bE n) k) 0 (n.Bufs.take j))) cu fu0)) (fun ⟨j,su,lu,cu,fu0⟩=>n.Bufs.length-j) ⟨⟨0,sw,lw,cw,fw⟩,⟨by omega,(by rw [List.take_zero,gK,List.append_nil];exact hq)⟩,Weak.mk [true,true,true,true] ⟨zB,zB,zB,zB,zB,zB,zB,zB,zB,zB,zB,zB,zB,zB,zB,T⟩ O⟩ ?_
      rintro ⟨j,su,lu,cu,fu0⟩ ⟨hj,hx⟩
      show AWP _ _ _ _ _ ⟨[(60,vI j)]++_,[E.vec lu 9 1 (([]:List ByteArray).map fun s=>[cS s]),E.vec su 46 11 (cu.map In.cells),E.row b4 80 [.lit su,.lit (.bool fu0),.sl 8 (n.Bufs.map Bf.cells),.sl 20 (n.Body.map St.cells),.sl 5 ((jA n).map tyC),.sl 3 ((fF (bE n)).1.map Sl.cells),.lit lu]]++_⟩
      refine R O<|yB O<|zA<|zI<|zC O (fun c6=>?_) (fun c6=>?_)
      ·try simp only [sx] at c6
       obtain ⟨y,hy⟩:=qU n.Bufs j (by omega)
       have hlv:(bE n)[j]? =some (fD n.Body y):=by unfold bE;rw [List.getElem?_map,hy];rfl
       refine zJ<|zI<|zP<|R O<|G O<|qD O el22 (by omega) (B (by assumption))<|zO zJs zQ O<|zV O O (qR [none,none,none,none,none,none,some 1,none] O zr69 O) ?_
       rintro _ _ ⟨b6,rfl,rfl⟩
       refine G O<|D 0 sz69 O<|qX _ (qK 0 O 13 _ PLe.ptr)<|zA<|zI ?_
       skip
       refine zM O<|zX O zIo<|zH one3 zQ O<|kU O<|G O<|rL0 O (fun g19_3=>zN O O) O<|rL0 O (fun g19_3=>zN O O) O<|rLz [(69,_),(70,_)] O J ⟨O,O,O,O,T⟩ (fun g19_3=>qL O el62 O O (by omega) (B hlv)) O<|A 71 O (fun g19_3=>qF O zSs O) O<|A 72 O (fun g19_3=>zF O one3 O zQ O) O<|rL0 O (fun g19_3=>zN O O) O<|rLz [(73,_),(74,_)] O J ⟨O,O,O,O,T⟩ (fun g19_3=>yO O O O) O<|yK O (fun h=>h)<|zA<|zC O (fun c7=>?_) (fun c7=>?_)
       ·try simp only [sx] at c7
        refine zM O<|G O<|zX O zEm<|zH one9 zQ O<|zV O O (yE [2,1,0] O ok28 (cg_clear hx y.Name hG) ⟨zB,O,zB,O,T⟩ O) ?_
        rintro _ _ ⟨_,⟨rfl,sv21,cd21,fu21,hE21,rfl⟩,rfl⟩
        refine zA<|zM O<|qB O ⟨by omega,by omega⟩<|G O<|zA ?_
        refine ⟨⟨j+1,sv21,lu,cd21,fu21⟩,⟨by omega,(by rw [zCa _ hy,vW,if_pos (by rw [zGv hlv];exact c7),←List.append_assoc,zPt,Int.zero_add];exact hE21)⟩,(by show n.Bufs.length-(j+1)<n.Bufs.length-j;omega),Weak.mk [true,true,true,true] ⟨zB,zB,zB,zB,zB,zB,zB,zB,zB,zB,zB,zB,zB,zB,zB,T⟩ O⟩
       ·try simp only [sx] at c7
        refine zJ<|zM O<|qB O ⟨by omega,by omega⟩<|G O<|zA ?_
        refine ⟨⟨j+1,su,lu,cu,fu0⟩,⟨by omega,(by rw [zCa _ hy,vW,if_neg (by rw [zGv hlv];exact fun h=>c7.elim h.1 fun q=>q h.2),List.append_nil];exact hx)⟩,(by show n.Bufs.length-(j+1)<n.Bufs.length-j;omega),Weak.mk [true,true,true,true] ⟨zB,zB,zB,zB,zB,zB,zB,zB,zB,zB,zB,zB,zB,zB,zB,T⟩ O⟩
      ·try simp only [sx] at c6
       rw [yA (l:=n.Bufs) (k:=j) (by omega)] at hx
       refine qH<|zM O<|G O<|zO zFo zQ O<|zW O (yM O el23 zr59 O O O O)<|zV O O (yE [2,1,0] O ok29 (cg_stmts b4 (gnN n) hG [s] su lu cu fu0 [] (lE 0 (gK (tA (gnN n) (bE n)) 0 (n.Body.take k)++gK (vW (gnN n) (bE n) k) 0 n.Bufs)) hx hrs (by simp only [bL,List.length_nil];omega)) ⟨zB,O,VLe.of_eq (show V.c (C.sl 20 [s.cs])=fV [s] by rw [←St.cells_eq];rfl),O,T⟩ O) ?_
       rintro _ _ ⟨_,⟨rfl,sv22,cd22,fu22,sl22,hE22,rfl⟩,rfl⟩
       refine zA<|zM O<|qB O ⟨by omega,by omega⟩<|G O<|zA ?_
       refine ⟨⟨k+1,sv22,sl22,cd22,fu22⟩,⟨by omega,(by rw [zCa _ hs,tA,←List.append_assoc,zPt,Int.zero_add];rw [sts_one] at hE22;exact hE22)⟩,(by show n.Body.length-(k+1)<n.Body.length-k;omega),Weak.mk [true,true,true,true] ⟨zB,zB,zB,zB,zB,zB,zB,zB,zB,zB,T⟩ O⟩
     ·try simp only [sx] at c5
      rw [yA (l:=n.Body) (k:=k) (by omega)] at hq
      refine qH<|R O<|G O<|qE O<|zG O kB<|yZ O zr46 pl46<|zV O O (yE [2,1,0] O ok30 (zOh (g:=gnN n) hq (iN 0 0 0 0) _ (fun _=>O)) ⟨zB,O,zB,O,T⟩ O) ?_
      rintro _ _ ⟨_,⟨rfl,sv24,cd24,fu24,hE24,rfl⟩,rfl⟩
      refine zA<|zI<|R O<|G O<|qE O<|zG O kB<|zG O zSt<|zH one4 (Y 2 O) O<|zA<|zC O (fun c8=>?_) (fun c8=>?_)
      ·try simp only [sx] at c8
       refine R O<|zW O (kY [some 11,some 5,some 3,none] O zr35 pl35 O O)<|D 3 sz35 O<|G O<|zA<|zK<|fin2 (qM agg35 O (Y 3 O) O) (L O) ?_
       rw [cmp_4 hv h3 h4 hE24 (by simpa using c8)];rfl
      ·try simp only [sx] at c8
       refine zJ<|zI<|zT _ (wD 1 O (regs':=[]) (μ':=[_,_,_]) T ⟨EFle.refl _,EFle.row (ds:=[_,_,_,_,_,_,_]) ⟨.inr ⟨O,O⟩,.inl O,.inl O,.inl O,.inl O,.inl O,.inl O,T⟩,EFle.refl _,T⟩)<|zM O<|G O<|qE O<|zG O kB<|zG O zOv<|zH one32 (Y 1 O) O<|G O<|G O<|G O<|yZ O zr35 pl35<|D 2 sz35 O<|G O<|zA<|zK<|fin2 (qM agg35 O (Y 2 O) O) (L O) ?_
       rw [cmp_5 hv h3 h4 hE24 (by simpa using c8)];rfl
end Go.W
