/-
  What functions compute.
  Conditions: none.
-/
import Derived.Test.YtdldhbfgfkebjaaGreatDoorHK
set_option linter.unusedSimpArgs false
set_option linter.unusedVariables false
set_option maxRecDepth 10000
namespace Go.W
open Go Go.Eng Go.Proofs Go.L41 Go.Br
attribute [local irreducible] AWP RWP TD fP
def SR (b:Nat) (g:Gn) (l:List St):Prop:=∀(sv sl:Value) (code:List In) (full:Bool) (L:List ByteArray) (pre:List In),Em pre code full->mG g l L->L.length+bE l<=900000->Con cfg 85 [vPt b,dM l] (fJ b sv sl code full g L) fun r μ'=>r=.tup []/\∃sv' code' full' sl',Em (pre++gF g l L pre.length) code' full'/\μ'=fJ b sv' sl' code' full' g L
theorem ok35:bA Tryz.prog 35=true:=by kernel_rfl
theorem ok84:bA Tryz.prog 84=true:=by kernel_rfl
theorem ok85:bA Tryz.prog 85=true:=by kernel_rfl
set_option maxHeartbeats 4000000 in
theorem r48_stmt {b:Nat} {sv sl:Value} {code:List In} {full:Bool} {g:Gn} {L:List ByteArray} {pre:List In} (hE:Em pre code full) (hg:g.Ok) (s:St) (hr:RdS g s L) (hw:L.length+s.wt<=900000) (ih:SR b g s.Body):
    Con cfg 35 [vPt b,vSt s] (fJ b sv sl code full g L) fun r μ'=>r=.tup []/\∃sv' code' full' sl',Em (pre++stC g s L pre.length) code' full'/\μ'=fJ b sv' sl' code' full' g L:=by
 refine zW Tryz.func35 O Tryz.ntmps35 Tryz.results35 O ?_
 intro z hz
 have hwt:=St.wt_eq s
 rw [RdS_eq] at hr
 have hLn:(L++[s.Name]).length=L.length+1:=by simp
 have hL:L.length<=1000000:=by omega
 refine R O<|zS O O (qP O O) ?_
 rintro _ _ ⟨b1,rfl,rfl⟩
 refine qT _ (qM 0 O 3 _ PLe.ptr)<|zA<|zF<|R O<|G O<|qI O<|zJ O fd90_5<|zE one4 (A 0 O) O<|zA<|zD O (fun c1=>?_) (fun c1=>?_)
 ·try simp only [sx] at c1
  refine zN<|U ?_
  have hfl:full=true:=by simpa using c1
  subst hfl
  exact ⟨O,sv,code,true,sl,hE.skip _,O⟩
 ·try simp only [sx] at c1
  refine zI<|R O<|zT O zBr<|zE one3 zO O<|zA<|zP<|R O<|yE O<|G O<|zA<|zD O (fun c2=>?_) (fun c2=>?_)
  ·try simp only [sx] at c2
   have ho:s.Op=2∨s.Op=3:=.inl c2
   obtain ⟨hrv,hcv,hrd⟩:=hr.2.2.1 ho
   obtain ⟨q1,q2,q3⟩:=hrd.read rfl
   refine R O<|G O<|zT O zBi<|zQ yN zO O<|zS O O (W O ok81 ((r48_vt b sl g L hL hg s.E).1 sv code full pre 0 120 hE hrv hcv (by omega) (by omega) (by omega) (by omega)) ⟨zB,O,zB,O,zB,O,zB,O,T⟩) ?_
   rintro _ _ ⟨rfl,sv1,cd1,fu1,hE1,rfl⟩
   refine zA<|R O<|G O<|zT O zBq<|zE one9 zO O<|zT O zEz<|zE wI zO O<|zS O O (W O ok82 (zLi hE1 hL s.Name s.Idx hg q1 q2 q3 (by omega)) ⟨zB,O,zB,O,zB,O,T⟩) ?_
   rintro _ _ ⟨rfl,sv2,cd2,fu2,hE2,rfl⟩
   refine zZ O (yA O O)<|kP O<|kP O<|G O<|G O<|zA<|zK O<|G O<|G O<|G O<|zS O O (W O ok79 (zEa hE2 (11) (0) (100) (g.bs_ s.Name) (g.en s.Name)) ⟨zB,O,zB,O,zB,O,zB,O,zB,O,zB,O,T⟩) ?_
   rintro _ _ ⟨rfl,sv3,cd3,fu3,hE3,rfl⟩
   refine zA ?_
   repeat (first|refine qZ ?_|refine qV ?_)
   refine yP<|U ?_
   refine ⟨O,sv3,cd3,fu3,sl,?_,O⟩
   rw [stC_s ho]
   unfold sP
   rw [if_neg (by omega)]
   have h9:=hE3
   exact r9
  ·try simp only [sx] at c2
   refine R O<|yE O<|G O<|zA<|zD O (fun c3=>?_) (fun c3=>?_)
   ·try simp only [sx] at c3
    have ho:s.Op=2∨s.Op=3:=.inr c3
    obtain ⟨hrv,hcv,hrd⟩:=hr.2.2.1 ho
    obtain ⟨q1,q2,q3⟩:=hrd.read rfl
    refine R O<|G O<|zT O zBi<|zQ yN zO O<|zS O O (W O ok81 ((r48_vt b sl g L hL hg s.E).1 sv code full pre 0 120 hE hrv hcv (by omega) (by omega) (by omega) (by omega)) ⟨zB,O,zB,O,zB,O,zB,O,T⟩) ?_
    rintro _ _ ⟨rfl,sv1,cd1,fu1,hE1,rfl⟩
    refine zA<|R O<|G O<|zT O zBq<|zE one9 zO O<|zT O zEz<|zE wI zO O<|zS O O (W O ok82 (zLi hE1 hL s.Name s.Idx hg q1 q2 q3 (by omega)) ⟨zB,O,zB,O,zB,O,T⟩) ?_
    rintro _ _ ⟨rfl,sv2,cd2,fu2,hE2,rfl⟩
    refine zZ O (yA O O)<|kP O<|kP O<|G O<|G O<|zA<|R O<|G O<|G O<|G O<|zS O O (W O ok79 (zEa hE2 (10) (1) (100) (g.bs_ s.Name) (g.en s.Name)) ⟨zB,O,zB,O,zB,O,zB,O,zB,O,zB,O,T⟩) ?_
    rintro _ _ ⟨rfl,sv3,cd3,fu3,hE3,rfl⟩
    refine zA<|zF<|yL 12 1 [⟨0,.q []⟩,⟨1,.q []⟩,⟨2,.q []⟩,⟨3,.q [1]⟩,⟨4,.q []⟩,⟨5,.q []⟩,⟨6,.q []⟩,⟨7,.q []⟩,⟨8,.q []⟩,⟨9,.q []⟩,⟨10,.e 0 []⟩,⟨11,.e 0 []⟩] mixed (by kernel_rfl) (by kernel_rfl) O O O<|J O<|J O<|J O<|J O<|J O<|J O<|J O<|J O<|J O<|J O<|J O<|J O<|wQ<|zX O (by decide) O O (zM O O)<|zX O (by decide) O O (qL O O)<|zX O (by decide) O O (zH O fd90_0 O)<|zX O (by decide) O O (qC O zAm O (A 0 O) O)<|zX O (by decide) O O (qB O zBq O)<|zX O (by decide) O O (zC O one9 O zO O)<|zX O (by decide) O O (qR O ok83 (zBc g.n s.Name hg.hn) ⟨zB,O,zB,O,T⟩)<|zX O (by decide) O O (yA O O)<|zX O (by decide) O O (kB O O O)<|zX O (by decide) O O (zBt O O O)<|zEs O O (by decide) O O (qQ [none,none,none,none,none,none,some 1,none] O zr69 O) ?_
    rintro _ _ ⟨b2,rfl,rfl⟩
    refine ⟨_,O,?_⟩
    refine zEj O O (by decide) O O (kN O sz69 O O O (zGd 0 O O)) ?_
    rintro _ _ ⟨rfl,rfl⟩
    refine ⟨_,O,?_⟩
    refine wP O<|G O<|zA<|zF<|zU _ (qM 0 O 8 _ PLe.ptr)<|qW 8 mixed (by kernel_rfl) O O<|zL O O (zM O O)<|zL O O (qB O zPt O)<|zL O O (zC O one3 O zO O)<|zL O O (qR O ok84 (r48_operator s.Fold) ⟨zB,O,T⟩)<|zL O O (kU O zr44 pl44 O)<|zL O O (qB O zEy O)<|zL O O (qC O yG O zO O)<|zL O O (kU O zr46 pl46 O)<|yM<|zS O O (W O ok77 (zDf hE3 (iO 12 (pE s.Fold) 1 1 0 (dF g.n.Bufs s.Name).T) _ (fun _=>O)) ⟨zB,O,zB,O,T⟩) ?_
    rintro _ _ ⟨rfl,sv4,cd4,fu4,hE4,rfl⟩
    refine zA<|zK O<|G O<|G O<|G O<|zS O O (W O ok79 (zEa hE4 (11) (1) (100) (g.bs_ s.Name) (g.en s.Name)) ⟨zB,O,zB,O,zB,O,zB,O,zB,O,zB,O,T⟩) ?_
    rintro _ _ ⟨rfl,sv5,cd5,fu5,hE5,rfl⟩
    refine zA ?_
    repeat (first|refine qZ ?_|refine qV ?_)
    refine yP<|U ?_
    refine ⟨O,sv5,cd5,fu5,sl,?_,O⟩
    rw [stC_s ho]
    unfold sP
    rw [if_pos c3]
    have h9:=hE5
    exact r9
   ·try simp only [sx] at c3
    refine R O<|yE O<|G O<|zA<|zD O (fun c4=>?_) (fun c4=>?_)
    ·try simp only [sx] at c4
     obtain ⟨hm,hrb⟩:=hr.1 c4
     refine R O<|G O<|qI O<|zJ O zNe<|zE zEu (A 0 O) O<|zZ O (yK 2 O el78 O O)<|G O<|zA<|zF ?_
     rw [List.length_map]
     refine yL 9 0 [⟨0,.q []⟩,⟨1,.q []⟩,⟨2,.q []⟩,⟨3,.q []⟩,⟨4,.q [0]⟩,⟨5,.q []⟩,⟨6,.q []⟩,⟨7,.q []⟩,⟨8,.e 2 []⟩] mixed (by kernel_rfl) (by kernel_rfl) O O O<|J O<|J O<|J O<|J O<|J O<|J O<|J O<|J O<|J O<|wQ<|zX O (by decide) O O (zM O O)<|zX O (by decide) O O (zM O O)<|zX O (by decide) O O (qL O O)<|zX O (by decide) O O (zH O zNe O)<|zX O (by decide) O O (zC O zEu O (A 0 O) O)<|zX O (by decide) O O (qB O zBq O)<|zX O (by decide) O O (zC O one9 O zO O)<|zX O (by decide) O O (yJ O el78 zr9 O O O O)<|zEs O O (by decide) O O (yI 0 O el78 O O O (by simp only [List.length_map,List.length_cons,List.length_nil];omega) (by simp only [List.length_map,List.length_cons,List.length_nil];omega)) ?_
     rintro _ _ ⟨sv3,rfl,rfl⟩
     refine ⟨_,O,?_⟩
     refine wP O<|qI O<|zJ O zNe<|Y 0 sz78 O<|zA<|zF<|zF<|zU _ (Weak.vecEq 2 O (rows':=(L++[s.Name]).map fun s=>[cS s]) (by first|rfl|simp|rw [List.take_of_length_le (by simp)]))<|zK O<|zT O zNg<|zE one3 zO O<|yE O<|zA<|zD O (fun c5=>?_) (fun c5=>?_)
     ·try simp only [sx] at c5
      refine R O<|G O<|zA<|zP<|zU ⟨[(11,.c _),(0,.c _),(3,.c _),(10,.c _)],[_,_,_]⟩ (Weak.mk [true,true,true] ⟨zB,zB,zB,zB,T⟩ O)<|qF 1 3 O O (Nat×Value×Value×List In×Bool) (fun ⟨i,sw,lw,cw,fw⟩=>[(11,vI i)]) (fun ⟨i,sw,lw,cw,fw⟩=>[E.row b 90 [.sl 8 (g.n.Bufs.map Bf.cells),.sl 20 (g.n.Body.map St.cells),.sl 5 (g.ty.map tyC),.sl 3 (g.sl.map Sl.cells),.lit lw,.lit sw,.lit (.bool fw)],E.vec sw 46 11 (cw.map In.cells),E.vec lw 9 1 ((L++[s.Name]).map fun s=>[cS s])]) (fun ⟨i,sw,lw,cw,fw⟩=>i<=s.Many.toNat/\Em (pre++lV (gF g s.Body (L++[s.Name])) L.length pre.length i) cw fw) (fun ⟨i,sw,lw,cw,fw⟩=>s.Many.toNat-i) ⟨⟨0,sv,sv3,code,full⟩,⟨by omega,by simpa [lV] using hE⟩,Weak.mk [true,true,true] ⟨zB,zB,zB,zB,T⟩ O⟩ ?_
      rintro ⟨i,sw,lw,cw,fw⟩ ⟨hi,hq⟩
      refine zF<|R O<|G O<|zT O zIc<|zE one3 zO O<|yC O<|G O<|rL0 O (fun g19_4=>zM O O) O<|B 107 O (fun g19_4=>qL O O) O<|B 108 O (fun g19_4=>zH O fd90_5 O) O<|B 109 O (fun g19_4=>zC O one4 O (A 0 O) O) O<|B 110 O (fun g19_4=>wJ O O) O<|yW O (fun h=>h)<|zA<|zD O (fun c6=>?_) (fun c6=>?_)
      ·try simp only [sx] at c6
       refine zI<|zF<|zP<|R O<|G O<|G O<|G O<|zS O O (W O ok36 (kV hq (1) (L.length) (i) (0) _ (fun _=>O)) ⟨zB,O,zB,O,zB,O,zB,O,zB,O,T⟩) ?_
       rintro _ _ ⟨rfl,sv21,cd21,fu21,hE21,rfl⟩
       refine zA<|zK O<|G O<|zT O zBb<|zE zAh zO O<|zS O O (W O ok85 (ih sv21 lw cd21 fu21 (L++[s.Name]) (pre++lV (gF g s.Body (L++[s.Name])) L.length pre.length i++[iN 1 L.length i 0]) hE21 hrb (by omega)) ⟨zB,O,zB,O,T⟩) ?_
       exact v11
      ·try simp only [sx] at c6
       refine qK<|zK O<|G O<|G O<|qI O<|zJ O zNe<|zE zEu (A 0 O) O<|G O<|zS O O (zCx (k:=L.length) 2 O el78 O O O O (by simp)) ?_
       rintro _ _ ⟨sv4,rfl,rfl⟩
       refine qI O<|zJ O zNe<|Y 0 sz78 O<|zA ?_
       repeat (first|refine qZ ?_|refine qV ?_)
       refine yP<|U ?_
       have e9:List.take L.length (List.map (fun s=>[cS s]) (L++[s.Name]))=L.map (fun s=>[cS s]):=by rw [List.map_append,List.take_left' (by simp)]
       refine ⟨O,sw,cw,fw,sv4,?_,congrArg (fun q=>[E.row b 90 [.sl 8 (g.n.Bufs.map Bf.cells),.sl 20 (g.n.Body.map St.cells),.sl 5 (g.ty.map tyC),.sl 3 (g.sl.map Sl.cells),.lit sv4,.lit sw,.lit (.bool fw)],E.vec sw 46 11 (cw.map In.cells),E.vec sv4 9 1 q]) e9⟩
       rw [stC_1u c4 c5]
       by_cases c9:fw=true
       · rw [c9] at hq⊢;exact unr_skip hi hq
       · have e9:i=s.Many.toNat:=by simp only [c9] at c6;simp at c6;omega
         rw [←e9];exact hq
     ·try simp only [sx] at c5
      refine R O<|G O<|G O<|zS O O (W O ok36 (kV hE (1) (L.length) (0) (0) _ (fun _=>O)) ⟨zB,O,zB,O,zB,O,zB,O,zB,O,T⟩) ?_
      rintro _ _ ⟨rfl,sv21,cd21,fu21,hE21,rfl⟩
      refine zA<|R O<|G O<|zZ O (qY [0,0,0] O ok78 (zHi) ⟨zB,O,T⟩ O)<|G O<|zA<|R O<|G O<|zT O zBb<|zE zAh zO O<|zS O O (W O ok85 (ih sv21 sv3 cd21 fu21 (L++[s.Name]) (pre++[iN 1 L.length 0 0]) hE21 hrb (by omega)) ⟨zB,O,zB,O,T⟩) ?_
      rintro _ _ ⟨rfl,sv22,cd22,fu22,sl22,hE22,rfl⟩
      refine zA<|zK O<|G O<|G O<|G O<|zT O zIc<|zE one3 zO O<|zS O O (W O ok80 (r48_repeat hE22 cd21.length (pre.length+1) L.length s.Many (fun h9=>by have h8:=hE21.hr;simp only [List.length_append,List.length_cons,List.length_nil] at h9 h8;rw [h8,hr_in (by omega)];rfl)) ⟨zB,O,zB,O,zB,O,zB,O,T⟩) ?_
      rintro _ _ ⟨rfl,sv23,cd23,fu23,hE23,rfl⟩
      refine zA<|zK O<|G O<|G O<|qI O<|zJ O zNe<|zE zEu (A 0 O) O<|G O<|zS O O (zCx (k:=L.length) 2 O el78 O O O O (by simp)) ?_
      rintro _ _ ⟨sv5,rfl,rfl⟩
      refine qI O<|zJ O zNe<|Y 0 sz78 O<|zA ?_
      repeat (first|refine qZ ?_|refine qV ?_)
      refine yP<|U ?_
      have e9:List.take L.length (List.map (fun s=>[cS s]) (L++[s.Name]))=L.map (fun s=>[cS s]):=by rw [List.map_append,List.take_left' (by simp)]
      refine ⟨O,sv23,cd23,fu23,sv5,?_,congrArg (fun q=>[E.row b 90 [.sl 8 (g.n.Bufs.map Bf.cells),.sl 20 (g.n.Body.map St.cells),.sl 5 (g.ty.map tyC),.sl 3 (g.sl.map Sl.cells),.lit sv5,.lit sv23,.lit (.bool fu23)],E.vec sv23 46 11 (cd23.map In.cells),E.vec sv5 9 1 q]) e9⟩
      rw [stC_1 c4 c5]
      unfold vW
      have h9:=hE23
      simp only [lenI,len1,List.append_assoc,List.cons_append,List.nil_append,List.append_nil] at h9⊢
      exact h9
    ·try simp only [sx] at c4
     refine R O<|yE O<|G O<|zA<|zD O (fun c7=>?_) (fun c7=>?_)
     ·try simp only [sx] at c7
      obtain ⟨hrt,hct,hrb⟩:=hr.2.1 c7
      refine R O<|G O<|zT O zBi<|zQ yN zO O<|zS O O (W O ok86 ((r48_vt b sl g L hL hg s.E).2 sv code full pre 0 120 hE hrt hct (by omega) (by omega) (by omega) (by omega)) ⟨zB,O,zB,O,zB,O,zB,O,T⟩) ?_
      rintro _ _ ⟨rfl,sv1,cd1,fu1,hE1,rfl⟩
      refine zA<|R O<|G O<|zS O O (W O ok36 (kV hE1 (1) (121) (1) (0) _ (fun _=>O)) ⟨zB,O,zB,O,zB,O,zB,O,zB,O,T⟩) ?_
      rintro _ _ ⟨rfl,sv2,cd2,fu2,hE2,rfl⟩
      refine zA<|R O<|G O<|zZ O (qY [0,0,0] O ok78 (zHi ) ⟨zB,O,T⟩ O)<|G O<|zA<|R O<|G O<|zS O O (W O ok36 (kV hE2 (8) (0) (120) (121) _ (fun _=>O)) ⟨zB,O,zB,O,zB,O,zB,O,zB,O,T⟩) ?_
      rintro _ _ ⟨rfl,sv3,cd3,fu3,hE3,rfl⟩
      refine zA<|R O<|G O<|zT O zBb<|zE zAh zO O<|zS O O (W O ok85 (ih sv3 sl cd3 fu3 L (pre++jC g L s.E pre.length 0 120++[iN 1 121 1 0]++[iN 8 0 120 121]) hE3 hrb (by omega)) ⟨zB,O,zB,O,T⟩) ?_
      rintro _ _ ⟨rfl,sv24,cd24,fu24,sl24,hE24,rfl⟩
      refine zA<|zK O<|G O<|G O<|zS O O (W O ok87 (zMm hE24 (pre++jC g L s.E pre.length 0 120++[iN 1 121 1 0]).length (by simp only [List.length_append,List.length_singleton];omega) _ hE2.hr) ⟨zB,O,zB,O,T⟩) ?_
      rintro _ _ ⟨rfl,sv25,cd25,fu25,hE25,rfl⟩
      refine zA ?_
      repeat (first|refine qZ ?_|refine qV ?_)
      refine yP<|U ?_
      exact ⟨O,sv25,cd25,fu25,sl24,by rw [stC_4 c7,←cf_set (fun p=>jC g L s.E p 0 120)];exact hE25,O⟩
     ·try simp only [sx] at c7
      exact absurd hr.2.2.2 (by omega)
set_option maxHeartbeats 4000000 in
theorem r48_stmts_step {b:Nat} {sv sl:Value} {code:List In} {full:Bool} {g:Gn} {L:List ByteArray} {pre:List In} (hE:Em pre code full) (hg:g.Ok) (l:List St) (hr:mG g l L) (hw:L.length+bE l<=900000) (ih:∀x,x∈l->SR b g x.Body):
    Con cfg 85 [vPt b,dM l] (fJ b sv sl code full g L) fun r μ'=>r=.tup []/\∃sv' code' full' sl',Em (pre++gF g l L pre.length) code' full'/\μ'=fJ b sv' sl' code' full' g L:=by
 refine zW Tryz.func85 O Tryz.ntmps85 Tryz.results85 O ?_
 intro z hz
 have hll:=wH l
 refine R O<|G O<|zA<|zP<|zU ⟨[(4,.c _),(0,.c _),(1,.c _)],[_,_,_]⟩ (Weak.mk [true,true,true] ⟨zB,zB,zB,T⟩ O)<|qF 1 3 O O (Nat×Value×Value×List In×Bool) (fun ⟨k,sw,lw,cw,fw⟩=>[(4,vI k)]) (fun ⟨k,sw,lw,cw,fw⟩=>[E.row b 90 [.sl 8 (g.n.Bufs.map Bf.cells),.sl 20 (g.n.Body.map St.cells),.sl 5 (g.ty.map tyC),.sl 3 (g.sl.map Sl.cells),.lit lw,.lit sw,.lit (.bool fw)],E.vec sw 46 11 (cw.map In.cells),E.vec lw 9 1 (L.map fun s=>[cS s])]) (fun ⟨k,sw,lw,cw,fw⟩=>k<=l.length/\(Em (pre++gF g (l.take k) L pre.length) cw fw)) (fun ⟨k,sw,lw,cw,fw⟩=>l.length-k) ⟨⟨0,sv,sl,code,full⟩,⟨by omega,(by simpa [gF,lD] using hE)⟩,Weak.mk [true,true,true] ⟨zB,zB,zB,T⟩ O⟩ ?_
 rintro ⟨k,sw,lw,cw,fw⟩ ⟨hk,hq⟩
 show AWP _ _ _ _ _ ⟨[(4,vI k)]++_,[E.row b 90 [.sl 8 (g.n.Bufs.map Bf.cells),.sl 20 (g.n.Body.map St.cells),.sl 5 (g.ty.map tyC),.sl 3 (g.sl.map Sl.cells),.lit lw,.lit sw,.lit (.bool fw)],E.vec sw 46 11 (cw.map In.cells),E.vec lw 9 1 (L.map fun s=>[cS s])]++_⟩
 refine zF<|R O<|G O<|G O<|qD O el23<|yC O<|zA<|zD O (fun c1=>?_) (fun c1=>?_)
 ·try simp only [sx] at c1
  obtain ⟨x,hx⟩:=qU l k (by omega)
  refine zI<|zF<|zP<|zK O<|G O<|G O<|G O<|zY O el23 (by omega) (zCc hx)<|zQ zEi zO O<|zS O O (W O ok35 (r48_stmt hq hg x (zNz hr (qE hx)) (by have:=kC (qE hx);omega) (ih x (qE hx))) ⟨zB,O,zB,O,T⟩) ?_
  rintro _ _ ⟨rfl,sv5,cd5,fu5,sl5,hE5,rfl⟩
  refine zA<|zK O<|G O<|qA O ⟨by omega,by omega⟩<|G O<|zA ?_
  refine ⟨⟨k+1,sv5,sl5,cd5,fu5⟩,⟨by omega,(by rw [zLw hx];exact hE5)⟩,(by show l.length-(k+1)<l.length-k;omega),Weak.mk [true,true,true] ⟨zB,zB,zB,T⟩ O⟩
 ·try simp only [sx] at c1
  refine qK ?_
  repeat (first|refine qZ ?_|refine qV ?_)
  refine yP<|U ?_
  rw [qX (l:=l) (k:=k) (by omega)] at hq
  exact ⟨O,sw,cw,fw,lw,hq,O⟩
theorem r48_body (b:Nat) (g:Gn) (hg:g.Ok) (s:St):SR b g s.Body:=by
  induction s using St.ind with
  |_ s ih=>exact fun sv sl code full L pre hE hr hw=>r48_stmts_step hE hg s.Body hr hw ih
end Go.W
