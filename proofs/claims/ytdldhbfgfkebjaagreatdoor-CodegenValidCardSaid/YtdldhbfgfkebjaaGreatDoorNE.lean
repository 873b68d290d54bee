/-
  What functions compute.
  Conditions: none.
-/
import Derived.Test.YtdldhbfgfkebjaaGreatDoorND
set_option linter.unusedSimpArgs false
set_option linter.unusedVariables false
set_option maxRecDepth 10000
namespace Go.W
open Go Go.Eng Go.Proofs Go.L41 Go.Br
attribute [local irreducible] AWP RWP TD fY
theorem agg108:lI Tryz.prog 108=some 2:=by kernel_rfl
theorem zTa:bD Tryz.prog 108 0=some (0,3):=by kernel_rfl
theorem zNy:bD Tryz.prog 108 1=some (1,3):=by kernel_rfl
theorem ok31:bA Tryz.prog 31=true:=by kernel_rfl
theorem ok41:bA Tryz.prog 41=true:=by kernel_rfl
theorem ok50:bA Tryz.prog 50=true:=by kernel_rfl
theorem ok51:bA Tryz.prog 51=true:=by kernel_rfl
theorem ok52:bA Tryz.prog 52=true:=by kernel_rfl
theorem ok53:bA Tryz.prog 53=true:=by kernel_rfl
theorem ok102:bA Tryz.prog 102=true:=by kernel_rfl
theorem one105:jQ Tryz.prog 105=true:=by kernel_rfl
theorem pl82:fL Tryz.prog 82=some [(0,1),(1,1),(2,1),(3,1)]:=by kernel_rfl
theorem sm105:pR Tryz.prog 105=some (Value.agg #[(Value.int IntKind.i64 0),(Value.int IntKind.i64 0)]):=by kernel_rfl
theorem sz105:(Tryz.prog.info? 105).map (·.size)=some 1:=by kernel_rfl
theorem sz108:(Tryz.prog.info? 108).map (·.size)=some 2:=by kernel_rfl
theorem zr105:dS Tryz.prog 105=some [(Value.map none)]:=by kernel_rfl
theorem zr108:dS Tryz.prog 108=some [(Value.int IntKind.i64 0),(Value.int IntKind.i64 0)]:=by kernel_rfl
theorem ref41_Analyze (n:Ns) (hn:n.Ok) (hw:bL n.Body<=900000):
    Pur cfg 18 [vNs n] (.tup [vLs (jW n).1,vI (jW n).2]):=by
 refine zU Tryz.func18 O Tryz.ntmps18 Tryz.results18 O ?_
 intro z hz
 have hnb:=hn.bufs
 have hll:=wL n.Body
 refine R O<|zV O O (qO O O) ?_
 rintro _ _ ⟨b1,rfl,rfl⟩
 refine G O<|G O<|zA<|zI<|R O<|zO zBi (Y 0 O) O<|qN O ok31 (ref30_Validate n hn hw) ⟨zB,O,T⟩<|zW O (yD O O)<|zW O (yR O O O)<|zW O (yR O O O)<|G O<|G O<|zA<|R O<|G O<|kU O<|zA<|zC O (fun c1=>?_) (fun c1=>?_)
 ·try simp only [sx] at c1
  have ha:=zJn c1
  refine R O<|G O<|zW O (yX 4 O O)<|G O<|zA<|zK<|fin2 (L O) (L O) ?_
  rw [ha];rfl
 ·try simp only [sx] at c1
  have ha:=zGe c1
  refine zJ<|R O<|G O<|qX _ (wV 82 4)<|zA<|zI<|R O<|G O<|zA<|zP<|zT ⟨[(7,.c _),(6,.c _),(1,.c _)],[_,_]⟩ (Weak.mk [true,true] ⟨zB,zB,zB,T⟩ O)<|qG 2 1 O O (Nat×Value) (fun ⟨k,sv⟩=>[(7,vI k),(6,.c (.lit sv))]) (fun ⟨k,sv⟩=>[E.vec sv 82 4 ((n.Bufs.take k).map fun b=>(fD n.Body b).cells)]) (fun ⟨k,sv⟩=>k<=n.Bufs.length) (fun ⟨k,sv⟩=>n.Bufs.length-k) ⟨⟨0,(.slice none 0 0)⟩,(by omega),Weak.mk [true,true] ⟨zB,zB,zB,T⟩ O⟩ ?_
  rintro ⟨k,sv⟩ hk
  show AWP _ _ _ _ _ ⟨[(7,vI k),(6,.c (.lit sv))]++_,[E.vec sv 82 4 ((n.Bufs.take k).map fun b=>(fD n.Body b).cells)]++_⟩
  refine zI<|R O<|G O<|zG O zDh<|zH zHq (Y 1 O) O<|zZ O el22<|yB O<|zA<|zC O (fun c2=>?_) (fun c2=>?_)
  ·try simp only [sx] at c2
   obtain ⟨b,hb⟩:=qU n.Bufs k (by omega)
   refine zJ<|zI<|zP<|R O<|zG O zDh<|zH zHq (Y 1 O) O<|G O<|qD O el22 (by omega) (B (by assumption))<|zO zJs zQ O<|zV O O (qR [none,none,none,none,none,none,some 1,none] O zr69 O) ?_
   rintro _ _ ⟨b3,rfl,rfl⟩
   refine D 0 sz69 O<|zA<|zI<|yS 7 1 [⟨0,.q []⟩,⟨1,.q [1]⟩,⟨2,.q []⟩,⟨3,.q [1]⟩,⟨4,.q []⟩,⟨5,.q []⟩,⟨6,.f 0⟩] mixed (by kernel_rfl) (by kernel_rfl) O O O<|v O<|v O<|v O<|v O<|v O<|v O<|zQe O O (zFb (yN O zr82)) ⟨_,_,0,O,O⟩<|zAg<|zY O (by decide) O O (zD O zEm O)<|zY O (by decide) O O (zF O one9 O (Y 0 O) O)<|zY O (by decide) O O (zD O zDe O)<|zY O (by decide) O O (zF O zCt O (Y 0 O) O)<|zY O (by decide) O O (qS O ok41 (ref11_Size b.Dims (hn.dims b (qA hb))) ⟨zB,O,T⟩)<|zY O (by decide) O O (zAb O zr82 pl82 O)<|zPq O O ?_
   rintro _ _ ⟨b4,rfl,rfl⟩
   refine zAe O<|D 0 sz82 O<|zA<|R O<|G O<|zA<|zI<|R O<|G O<|zA<|zP<|zT ⟨[(11,.c _),(10,.c _),(1,.c _),(6,.c _),(7,.c _),(8,.c _),(9,.c _)],[_,_,_,_]⟩ (Weak.mk [true,true,true,true] ⟨zB,zB,zB,zB,zB,zB,zB,T⟩ O)<|qG 2 1 O O (Nat) (fun j=>[(11,vI j),(10,vB (dZ b.Name (n.Body.take j)).1)]) (fun j=>[E.row b4 82 [cS b.Name,cI (dZ b.Name (n.Body.take j)).2.1.From,cI (dZ b.Name (n.Body.take j)).2.1.To,cI (dJ b.Dims)]]) (fun j=>j<=n.Body.length) (fun j=>n.Body.length-j) ⟨0,(by omega),Weak.mk [true,true,true,true] ⟨zB,VLe.of_eq (O),zB,zB,zB,zB,zB,T⟩ O⟩ ?_
   rintro j hj
   refine zI<|R O<|G O<|zG O zEn<|zH zBm (Y 3 O) O<|zZ O el23<|yB O<|zA<|zC O (fun c3=>?_) (fun c3=>?_)
   ·try simp only [sx] at c3
    obtain ⟨s,hs⟩:=qU n.Body j (by omega)
    have hfk:=foldA_k b.Name (l:=n.Body) (k:=j) (by omega)
    refine zJ<|zI<|zP<|zI<|qW 8 mixed (by kernel_rfl) O O<|zL O O (zD O zEn O)<|zL O O (zF O zBm O (Y 3 O) O)<|zL O O (zN O O)<|zL O O (qL O el23 O O (by omega) (zEl hs))<|zL O O (qC O zFo O zQ O)<|zL O O (zD O zEm O)<|zL O O (zF O one9 O (Y 1 O) O)<|zL O O (qS O ok42 (ref41_Accesses s b.Name (by have:=kL (qA hs);omega)) ⟨zB,O,zB,O,T⟩)<|yJ<|zA<|zC O (fun c4=>?_) (fun c4=>?_)
    ·try simp only [sx] at c4
     refine zI<|R O<|G O<|kP O<|zA<|zC O (fun c5=>?_) (fun c5=>?_)
     ·try simp only [sx] at c5
      refine zM O<|G O<|zG O zSs<|D 0 sz3 O<|zA<|R O<|G O<|zG O fd82_2<|D 0 sz3 O<|zA<|zM O<|G O<|zA<|zM O<|G O<|qB O ⟨by omega,by omega⟩<|G O<|zA ?_
      exact r6
     ·try simp only [sx] at c5
      refine zJ<|R O<|G O<|zG O fd82_2<|D 0 sz3 O<|zA<|zM O<|G O<|zA<|zM O<|G O<|qB O ⟨by omega,by omega⟩<|G O<|zA ?_
      exact r6
    ·try simp only [sx] at c4
     refine zJ<|zM O<|G O<|qB O ⟨by omega,by omega⟩<|G O<|zA ?_
     exact r6
   ·try simp only [sx] at c3
    rw [yA (l:=n.Body) (k:=j) (by omega)]
    refine qH<|zI<|R O<|zG O zIo<|zH one3 (Y 1 O) O<|qZ O<|zA<|zC O (fun c6=>?_) (fun c6=>?_)
    ·try simp only [sx] at c6
     refine zM O<|zG O zSs<|D 0 sz3 O<|zA<|zI<|R O<|zG O zIo<|zH one3 (Y 1 O) O<|qZ O<|zA<|zC O (fun c7=>?_) (fun c7=>?_)
     ·try simp only [sx] at c7
      exact absurd c7 (by omega)
     ·try simp only [sx] at c7
      refine zJ<|zM O<|G O<|zO agg82 (Y 0 O) O<|zW O (yM O el62 zr82 O O O O)<|zV O O (yQ 2 O el62 O O O (by simp only [List.length_map,List.length_append,List.length_cons,List.length_nil,List.length_take,List.length_drop];omega) (by simp only [List.length_map,List.length_append,List.length_cons,List.length_nil,List.length_take,List.length_drop];omega)) ?_
      rintro _ _ ⟨sv5,rfl,rfl⟩
      refine G O<|zA<|zM O<|G O<|qB O ⟨by omega,by omega⟩<|G O<|zA ?_
      refine ⟨⟨k+1,sv5⟩,(by omega),(by show n.Bufs.length-(k+1)<n.Bufs.length-k;omega),Weak.mk [false,false,true,true] ⟨zB,zB,zB,T⟩ (by exact kC (by rw [zEf hb];unfold fD nQ;first|(rw [if_pos c6,if_neg (by omega)];rfl)|(rw [if_neg c6,if_pos c7,Int.max_comm];rfl)|(rw [if_neg c6,if_neg c7];rfl)))⟩
    ·try simp only [sx] at c6
     refine zJ<|zI<|R O<|zG O zIo<|zH one3 (Y 1 O) O<|qZ O<|zA<|zC O (fun c7=>?_) (fun c7=>?_)
     ·try simp only [sx] at c7
      refine zM O<|zG O zEn<|zH zBm (Y 3 O) O<|zZ O el23<|yY O ⟨by omega,by omega⟩<|zW O (zFn O O O)<|zG O fd82_2<|D 0 sz3 O<|zA<|zM O<|G O<|zO agg82 (Y 0 O) O<|zW O (yM O el62 zr82 O O O O)<|zV O O (yQ 2 O el62 O O O (by simp only [List.length_map,List.length_append,List.length_cons,List.length_nil,List.length_take,List.length_drop];omega) (by simp only [List.length_map,List.length_append,List.length_cons,List.length_nil,List.length_take,List.length_drop];omega)) ?_
      rintro _ _ ⟨sv6,rfl,rfl⟩
      refine G O<|zA<|zM O<|G O<|qB O ⟨by omega,by omega⟩<|G O<|zA ?_
      refine ⟨⟨k+1,sv6⟩,(by omega),(by show n.Bufs.length-(k+1)<n.Bufs.length-k;omega),Weak.mk [false,false,true,true] ⟨zB,zB,zB,T⟩ (by exact kC (by rw [zEf hb];unfold fD nQ;first|(rw [if_pos c6,if_neg (by omega)];rfl)|(rw [if_neg c6,if_pos c7,Int.max_comm];rfl)|(rw [if_neg c6,if_neg c7];rfl)))⟩
     ·try simp only [sx] at c7
      refine zJ<|zM O<|G O<|zO agg82 (Y 0 O) O<|zW O (yM O el62 zr82 O O O O)<|zV O O (yQ 2 O el62 O O O (by simp only [List.length_map,List.length_append,List.length_cons,List.length_nil,List.length_take,List.length_drop];omega) (by simp only [List.length_map,List.length_append,List.length_cons,List.length_nil,List.length_take,List.length_drop];omega)) ?_
      rintro _ _ ⟨sv7,rfl,rfl⟩
      refine G O<|zA<|zM O<|G O<|qB O ⟨by omega,by omega⟩<|G O<|zA ?_
      refine ⟨⟨k+1,sv7⟩,(by omega),(by show n.Bufs.length-(k+1)<n.Bufs.length-k;omega),Weak.mk [false,false,true,true] ⟨zB,zB,zB,T⟩ (by exact kC (by rw [zEf hb];unfold fD nQ;first|(rw [if_pos c6,if_neg (by omega)];rfl)|(rw [if_neg c6,if_pos c7,Int.max_comm];rfl)|(rw [if_neg c6,if_neg c7];rfl)))⟩
  ·try simp only [sx] at c2
   refine qH<|zI<|zT _ (wD 0 O (regs':=[(6,_)]) (μ':=[_]) ⟨FLe.sl,T⟩ ⟨EFle.refl _,T⟩)<|zM O<|G O<|G O<|G O<|zA<|zK<|fin2 (L O) (L O) ?_
   rw [ha,yA (l:=n.Bufs) (k:=k) (by omega)];simp only [bE,vLs,List.map_map];rfl
theorem touch_step (y:C) (J:List ByteArray->List E->Prop) (hy:∀(pre:List ByteArray) (t:ByteArray) (μ:List E),J pre μ->FnCon cfg y [vS t] μ fun r μ'=>r=.tup []/\J (pre++[t]) μ') (l:List St) (hl:bL l<=900000) (ih:∀s,s∈l->∀(pre0:List ByteArray) (μ:List E),J pre0 μ->Con cfg 51 [fV s.Body,.c y] μ fun r μ'=>r=.tup []/\J (pre0++lL s.Body) μ') (pre0:List ByteArray) (μ:List E) (h0:J pre0 μ):
    Con cfg 51 [fV l,.c y] μ fun r μ'=>r=.tup []/\J (pre0++lL l) μ':=by
 refine zU Tryz.func51 O Tryz.ntmps51 Tryz.results51 O ?_
 intro z hz
 have hll:=wL l
 refine R O<|G O<|zZ O el23<|G O<|zA<|zP<|zT ⟨[(12,.c _),(1,.c _),(10,.c _),(11,.c _)],_⟩ (Weak.regs ⟨zB,zB,zB,zB,T⟩)<|zBe 1 O (Nat×List E) (fun ⟨k,m⟩=>[(12,vI k)]) (fun ⟨k,m⟩=>m) (fun ⟨k,m⟩=>k<=l.length/\(J (pre0++lL (l.take k)) m)) (fun ⟨k,m⟩=>l.length-k) ⟨⟨0,μ⟩,⟨by omega,by simpa [lL] using h0⟩,Weak.regs ⟨zB,zB,zB,zB,T⟩⟩ ?_
 rintro ⟨k,m⟩ ⟨hk,hJ⟩
 refine R O<|yB O<|zA<|zI<|zC O (fun c1=>?_) (fun c1=>?_)
 ·try simp only [sx] at c1
  obtain ⟨s,hs⟩:=qU l k (by omega)
  have hsw:=kL (qA hs)
  have hse:=St.wt_eq s
  have hrl:=thin_len (lM (bR (bF s.E)))
  have hrs:=sortB_len (bR (bF s.E))
  have hra:=zFt s.E
  have hrt:(gC s.E).length<=2*s.E.wt:=by unfold gC;omega
  refine zJ<|zI<|zP<|R O<|qD O el23 (by omega) (zEl (by assumption))<|zO zFo zQ O<|zV O O (qR [none,none,none,none,none,some 4,none,none,none,none,none,none,none,none,none,none,some 2,some 4,some 13,some 20] O zr59 O) ?_
  rintro _ _ ⟨b1,rfl,rfl⟩
  refine D 0 sz59 O<|qX _ (qK 0 O 5 _ PLe.ptr)<|zA<|zI<|R O<|zX O zBu<|zH one3 zQ O<|qZ O<|G O<|rL0 O (fun g3_3=>qF O zBu O) O<|A 20 O (fun g3_3=>zF O one3 O zQ O) O<|A 21 O (fun g3_3=>yO O O O) O<|r_or O (fun h=>(lzf h))<|zA<|zC O (fun c2=>?_) (fun c2=>?_)
  ·have hP0:tC s=[s.Name]:=tch_sto c2
   refine zM O<|G O<|zX O zCp<|zH one9 zQ O<|zV O O (wR O O (hy _ s.Name _ hJ) ⟨zB,O,T⟩) ?_
   rintro _ m1 ⟨rfl,g1⟩
   refine zA<|zI<|R O<|zX O zKa<|zH wJ zQ O<|zZ O el51<|G O<|zA<|zP<|zT ⟨[(31,.c _),(1,.c _),(5,.c _),(10,.c _),(11,.c _),(12,.c _),(29,.c _),(30,.c _)],_⟩ (Weak.regs ⟨zB,zB,zB,zB,zB,zB,zB,zB,T⟩)<|zBe 1 O (Nat×List E) (fun ⟨j,m2⟩=>[(31,vI j)]) (fun ⟨j,m2⟩=>m2) (fun ⟨j,m2⟩=>j<=s.Idx.length/\(J (pre0++lL (l.take k)++tC s++bQ (s.Idx.take j)) m2)) (fun ⟨j,m2⟩=>s.Idx.length-j) ⟨⟨0,_⟩,⟨by omega,by rw [hP0];simp only [List.take_zero,bQ,List.flatMap_nil,List.append_nil];first|exact g1|exact hJ⟩,Weak.regs ⟨zB,zB,zB,zB,zB,zB,zB,zB,T⟩⟩ ?_
   rintro ⟨j,m2⟩ ⟨hj,hJ2⟩
   refine R O<|yB O<|zA<|zI<|zC O (fun c3=>?_) (fun c3=>?_)
   ·try simp only [sx] at c3
    obtain ⟨i,hi⟩:=qU s.Idx j (by omega)
    refine zJ<|zI<|zP<|R O<|qD O el51 (by omega) (B (by assumption))<|zO zDc zQ O<|zV O O (qR [none,some 2,none,some 2] O zPb O) ?_
    rintro _ _ ⟨b2,rfl,rfl⟩
    exact r4
   ·exact t7
  ·have hP0:tC s=[]:=tch_no c2
   refine zJ<|zI<|R O<|zX O zKa<|zH wJ zQ O<|zZ O el51<|G O<|zA<|zP<|zT ⟨[(31,.c _),(1,.c _),(5,.c _),(10,.c _),(11,.c _),(12,.c _),(29,.c _),(30,.c _)],_⟩ (Weak.regs ⟨zB,zB,zB,zB,zB,zB,zB,zB,T⟩)<|zBe 1 O (Nat×List E) (fun ⟨j,m2⟩=>[(31,vI j)]) (fun ⟨j,m2⟩=>m2) (fun ⟨j,m2⟩=>j<=s.Idx.length/\(J (pre0++lL (l.take k)++tC s++bQ (s.Idx.take j)) m2)) (fun ⟨j,m2⟩=>s.Idx.length-j) ⟨⟨0,_⟩,⟨by omega,by rw [hP0];simp only [List.take_zero,bQ,List.flatMap_nil,List.append_nil];first|exact g1|exact hJ⟩,Weak.regs ⟨zB,zB,zB,zB,zB,zB,zB,zB,T⟩⟩ ?_
   rintro ⟨j,m2⟩ ⟨hj,hJ2⟩
   refine R O<|yB O<|zA<|zI<|zC O (fun c3=>?_) (fun c3=>?_)
   ·try simp only [sx] at c3
    obtain ⟨i,hi⟩:=qU s.Idx j (by omega)
    refine zJ<|zI<|zP<|R O<|qD O el51 (by omega) (B (by assumption))<|zO zDc zQ O<|zV O O (qR [none,some 2,none,some 2] O zPb O) ?_
    rintro _ _ ⟨b3,rfl,rfl⟩
    exact r4
   ·exact t7
 ·try simp only [sx] at c1
  rw [yA (l:=l) (k:=k) (by omega)] at hJ
  refine qH ?_
  repeat (first|refine qV ?_|refine qT ?_)
  refine yF<|U ?_
  exact ⟨O,hJ⟩
theorem touch_body (y:C) (J:List ByteArray->List E->Prop) (hy:∀(pre:List ByteArray) (t:ByteArray) (μ:List E),J pre μ->FnCon cfg y [vS t] μ fun r μ'=>r=.tup []/\J (pre++[t]) μ') (s:St) (hl:bL s.Body<=900000):∀(pre0:List ByteArray) (μ:List E),J pre0 μ->Con cfg 51 [fV s.Body,.c y] μ fun r μ'=>r=.tup []/\J (pre0++lL s.Body) μ':=by
  induction s using St.ind with
  |_ s ih=>exact fun pre0 μ h0=>touch_step y J hy s.Body hl (fun a ha=>ih a ha (by have:=kL ha;have:=St.body_wt a;omega)) pre0 μ h0
theorem touch_con (y:C) (J:List ByteArray->List E->Prop) (hy:∀(pre:List ByteArray) (t:ByteArray) (μ:List E),J pre μ->FnCon cfg y [vS t] μ fun r μ'=>r=.tup []/\J (pre++[t]) μ') (l:List St) (hl:bL l<=900000) (pre0:List ByteArray) (μ:List E) (h0:J pre0 μ):Con cfg 51 [fV l,.c y] μ fun r μ'=>r=.tup []/\J (pre0++lL l) μ':=
  touch_step y J hy l hl (fun s hs=>touch_body y J hy s (by have:=kL hs;have:=St.body_wt s;omega)) pre0 μ h0
theorem analyze_1 (mb:Nat) (m:SpM) (t:ByteArray) (i:Int):
    Con cfg 52 [vS t,.c (.iptr [.lit (.map (some mb))]),.c (.iptr [cI i])] [E.blk mb (MapR vSp m)] fun r μ'=>r=.tup []/\μ'=[E.blk mb (MapR vSp (lV i m t))]:=by
 refine Con.drop<|zU Tryz.func52 O Tryz.ntmps52 Tryz.results52 O ?_
 intro z hz
 refine R O<|zH one105 zQ O<|G O<|zW O (det_lookup_ok 0 (⟨0,0⟩:Sp) O sm105 O O O (fun _ _=>⟨_,O,.cons (.lit _ O) (.cons (.lit _ O) .nil)⟩))<|zW O (yD O O)<|zW O (kD O O O)<|zW O (yR O O O)<|zV O O (yN O zr108) ?_
 rintro _ _ ⟨b1,rfl,rfl⟩
 refine D 0 sz108 O<|G O<|zA<|zI<|R O<|G O<|kP O<|zA<|zC O (fun c1=>?_) (fun c1=>?_)
 ·try simp only [sx] at c1
  have hsp:=putSp_new (i:=i) c1
  refine zM O<|zH one3 zQ O<|zG O zTa<|D 0 sz3 O<|zA<|R O<|zH one3 zQ O<|zG O zNy<|D 0 sz3 O<|zA<|zM O<|zH one105 zQ O<|G O<|zO agg108 (Y 0 O) O<|zCs O O (zOb 1 ⟨i,i⟩ O sm105 O O O (zB) O)<|zA ?_
  repeat (first|refine qV ?_|refine qT ?_)
  refine yF<|U ?_
  exact ⟨O,[_],by rw [←hsp];rfl⟩
 ·try simp only [sx] at c1
  have hsp:=putSp_old (i:=i) c1
  refine zJ<|R O<|zH one3 zQ O<|zG O zNy<|D 0 sz3 O<|zA<|zM O<|zH one105 zQ O<|G O<|zO agg108 (Y 0 O) O<|zCs O O (zOb 1 ⟨((fP m t).getD ⟨0,0⟩).From,i⟩ O sm105 O O O (zB) O)<|zA ?_
  repeat (first|refine qV ?_|refine qT ?_)
  refine yF<|U ?_
  exact ⟨O,[_],by rw [←hsp];rfl⟩
set_option maxRecDepth 100000 in
theorem analyze_touch (s:St) (i:Int) (mb:Nat) (m:SpM) (hs:s.wt<=800000):Con cfg 51 [.c (.sl 20 [s.cs]),.c (.fn (.func 52) [] [.iptr [.lit (.map (some mb))],.iptr [cI i]])] [E.blk mb (MapR vSp m)] fun r μ'=>r=.tup []/\μ'=[E.blk mb (MapR vSp ((pK s).foldl (lV i) m))]:=by
  have h:=touch_con (.fn (.func 52) [] [.iptr [.lit (.map (some mb))],.iptr [cI i]]) (fun pre μ=>μ=[E.blk mb (MapR vSp (pre.foldl (lV i) m))]) (fun pre t μ hJ=>by
    subst hJ
    refine (FnCon.of_con (first:=[]) (cap:=[.iptr [.lit (.map (some mb))],.iptr [cI i]]) ok52 (analyze_1 mb (pre.foldl (lV i) m) t i)).mono ?_
    rintro r μ' ⟨h1,h2⟩
    exact ⟨h1,by rw [h2,List.foldl_append];rfl⟩) [s] (by simp only [bL];omega) [] [E.blk mb (MapR vSp m)] O
  rw [cells_one] at h
  refine h.mono ?_
  rintro r μ' ⟨h1,h2⟩
  exact ⟨h1,by rw [h2,List.nil_append,tchL_one]⟩
theorem zPe (n:Ns) (hn:n.Ok) (hw:bL n.Body<=800000):
    Pur cfg 25 [vNs n] (.tup [vLs (jW n).1,vI (jW n).2]):=by
 refine zU Tryz.func25 O Tryz.ntmps25 Tryz.results25 O ?_
 intro z hz
 have hnb:=hn.bufs
 have hll:=wL n.Body
 refine R O<|zV O O (qO O O) ?_
 rintro _ _ ⟨b1,rfl,rfl⟩
 refine G O<|G O<|zA<|zI<|R O<|zO zBi (Y 0 O) O<|qN O ok50 (zNs n hn) ⟨zB,O,T⟩<|zW O (yD O O)<|zW O (yR O O O)<|zW O (yR O O O)<|G O<|G O<|zA<|R O<|G O<|kU O<|zA<|zC O (fun c1=>?_) (fun c1=>?_)
 ·try simp only [sx] at c1
  have ha:=zJn c1
  refine R O<|G O<|zW O (yX 4 O O)<|G O<|zA<|zK<|fin2 (L O) (L O) ?_
  rw [ha];rfl
 ·try simp only [sx] at c1
  have ha:=zGe c1
  refine zJ<|R O<|zV O O (ope_mkmap vSp O O) ?_
  rintro _ _ ⟨b2,rfl,rfl⟩
  refine zV O O (yN O zr105) ?_
  rintro _ _ ⟨b3,rfl,rfl⟩
  refine D 0 sz105 O<|qX _ (qK 0 O 6 _ PLe.ptr)<|zA<|zI<|R O<|zG O zEn<|zH zBm (Y 1 O) O<|zZ O el23<|G O<|zA<|zP<|zT ⟨[(25,.c _),(1,.c _),(6,.c _),(23,.c _),(24,.c _)],[_,_]⟩ (Weak.mk [true,true] ⟨zB,zB,zB,zB,zB,T⟩ O)<|qG 1 1 O O (Nat) (fun k=>[(25,vI k)]) (fun k=>[E.blk b2 (MapR vSp (jO [] 0 (n.Body.take k)))]) (fun k=>k<=n.Body.length) (fun k=>n.Body.length-k) ⟨0,(by omega),Weak.mk [true,true] ⟨zB,zB,zB,zB,zB,T⟩ O⟩ ?_
  rintro k hk
  refine R O<|yB O<|zA<|zI<|zC O (fun c2=>?_) (fun c2=>?_)
  ·try simp only [sx] at c2
   obtain ⟨s,hs⟩:=qU n.Body k (by omega)
   refine zJ<|zI<|zP<|R O<|G O<|qD O el23 (by omega) (zEl (by assumption))<|zO zFo zQ O<|zV O O (yN O zr3) ?_
   rintro _ _ ⟨b4,rfl,rfl⟩
   refine zV O O (qR [none,none,none,none,none,some 4,none,none,none,none,none,none,none,none,none,none,some 2,some 4,some 13,some 20] O zr59 O) ?_
   rintro _ _ ⟨b5,rfl,rfl⟩
   refine D 1 sz3 O<|qX _ (qK 1 O 7 _ PLe.ptr)<|D 0 sz59 O<|zA<|zM O<|zO zFo (Y 0 O) O<|zW O (yM O el23 zr59 O O O O)<|zW O (zFe O O O O O)<|zV O O (ope_call_reg 1 O O ok51 (analyze_touch s k _ _ (by have:=kL (qA hs);omega)) ⟨zB,O,zB,O,T⟩) ?_
   rintro _ _ ⟨rfl,rfl⟩
   refine zA<|zM O<|qB O ⟨by omega,by omega⟩<|G O<|zA ?_
   refine ⟨k+1,(by omega),(by omega),Weak.mk [false,true,true] ⟨zB,zB,zB,zB,zB,T⟩ (by show _=[E.blk b2 (MapR vSp (jO [] 0 (n.Body.take (k+1))))]++_;rw [sp_next hs];rfl)⟩
  ·try simp only [sx] at c2
   rw [yA (l:=n.Body) (k:=k) (by omega)]
   refine qH<|R O<|G O<|qX _ (wV 82 4)<|zA<|zI<|R O<|zG O zDh<|zH zHq (Y 2 O) O<|zZ O el22<|G O<|zA<|zP<|zT ⟨[(38,.c _),(9,.c _),(1,.c _),(6,.c _),(36,.c _),(37,.c _)],[_,_,_]⟩ (Weak.mk [true,true,true] ⟨zB,zB,zB,zB,zB,zB,T⟩ O)<|qG 2 1 O O (Nat×Value) (fun ⟨j,sv⟩=>[(38,vI j),(9,.c (.lit sv))]) (fun ⟨j,sv⟩=>[E.vec sv 82 4 ((n.Bufs.take j).map fun b=>(fD n.Body b).cells)]) (fun ⟨j,sv⟩=>j<=n.Bufs.length) (fun ⟨j,sv⟩=>n.Bufs.length-j) ⟨⟨0,(.slice none 0 0)⟩,(by omega),Weak.mk [true,true,true] ⟨zB,zB,zB,zB,zB,zB,T⟩ O⟩ ?_
   rintro ⟨j,sv⟩ hj
   show AWP _ _ _ _ _ ⟨[(38,vI j),(9,.c (.lit sv))]++_,[E.vec sv 82 4 ((n.Bufs.take j).map fun b=>(fD n.Body b).cells)]++_⟩
   refine R O<|yB O<|zA<|zI<|zC O (fun c3=>?_) (fun c3=>?_)
   ·try simp only [sx] at c3
    obtain ⟨b,hb⟩:=qU n.Bufs j (by omega)
    refine zJ<|zI<|zP<|R O<|qD O el22 (by omega) (B (by assumption))<|zO zJs zQ O<|zV O O (qR [none,none,none,none,none,none,some 1,none] O zr69 O) ?_
    rintro _ _ ⟨b7,rfl,rfl⟩
    refine D 0 sz69 O<|zA<|R O<|zH one105 zQ O<|zG O zEm<|zH one9 (Y 0 O) O<|zW O (det_lookup 2 (⟨0,0⟩:Sp) O sm105 O O O (fun _ _=>⟨_,O,.cons (.lit _ O) (.cons (.lit _ O) .nil)⟩))<|zV O O (yN O zr108) ?_
    rintro _ _ ⟨b8,rfl,rfl⟩
    refine D 0 sz108 O<|zA<|zI<|R O<|zG O zIo<|zH one3 (Y 1 O) O<|zA<|zP<|R O<|qZ O<|G O<|zA<|zC O (fun c4=>?_) (fun c4=>?_)
    ·try simp only [sx] at c4
     refine zM O<|zG O zTa<|D 0 sz3 O<|zA<|qW 12 mixed (by kernel_rfl) O O<|zL O O (zN O O)<|zL O O (zD O zEm O)<|zL O O (zF O one9 O (Y 1 O) O)<|zL O O (zD O zTa O)<|zL O O (zF O one3 O (Y 0 O) O)<|zL O O (zD O zNy O)<|zL O O (zF O one3 O (Y 0 O) O)<|zL O O (zD O zDe O)<|zL O O (zF O zCt O (Y 1 O) O)<|zL O O (qS O ok53 (zNk b.Dims (hn.dims b (qA hb))) ⟨zB,O,T⟩)<|zL O O (zAb O zr82 pl82 O)<|zL O O (yM O el62 zr82 O O O O)<|yJ<|zV O O (yQ 2 O el62 O O O (by simp only [List.length_map,List.length_append,List.length_cons,List.length_nil,List.length_take,List.length_drop];omega) (by simp only [List.length_map,List.length_append,List.length_cons,List.length_nil,List.length_take,List.length_drop];omega)) ?_
     rintro _ _ ⟨sv9,rfl,rfl⟩
     refine G O<|zA<|zM O<|qB O ⟨by omega,by omega⟩<|G O<|zA ?_
     refine ⟨⟨j+1,sv9⟩,(by omega),(by show n.Bufs.length-(j+1)<n.Bufs.length-j;omega),Weak.mk [false,false,true,true,true] ⟨zB,zB,zB,zB,zB,zB,T⟩ (by exact kC (by rw [zEf hb];unfold fD;rw [←span_get];first|(rw [if_pos c4,if_neg (by omega)];rfl)|(rw [if_neg c4,if_pos c5];rfl)|(rw [if_neg c4,if_neg c5];rfl)))⟩
    ·try simp only [sx] at c4
     refine R O<|qZ O<|G O<|zA<|zC O (fun c5=>?_) (fun c5=>?_)
     ·try simp only [sx] at c5
      refine zM O<|zG O zEn<|zH zBm (Y 4 O) O<|zZ O el23<|yY O ⟨by omega,by omega⟩<|zW O (zFn O O O)<|zG O zNy<|D 0 sz3 O<|zA<|qW 12 mixed (by kernel_rfl) O O<|zL O O (zN O O)<|zL O O (zD O zEm O)<|zL O O (zF O one9 O (Y 1 O) O)<|zL O O (zD O zTa O)<|zL O O (zF O one3 O (Y 0 O) O)<|zL O O (zD O zNy O)<|zL O O (zF O one3 O (Y 0 O) O)<|zL O O (zD O zDe O)<|zL O O (zF O zCt O (Y 1 O) O)<|zL O O (qS O ok53 (zNk b.Dims (hn.dims b (qA hb))) ⟨zB,O,T⟩)<|zL O O (zAb O zr82 pl82 O)<|zL O O (yM O el62 zr82 O O O O)<|yJ<|zV O O (yQ 2 O el62 O O O (by simp only [List.length_map,List.length_append,List.length_cons,List.length_nil,List.length_take,List.length_drop];omega) (by simp only [List.length_map,List.length_append,List.length_cons,List.length_nil,List.length_take,List.length_drop];omega)) ?_
      rintro _ _ ⟨sv10,rfl,rfl⟩
      refine G O<|zA<|zM O<|qB O ⟨by omega,by omega⟩<|G O<|zA ?_
      refine ⟨⟨j+1,sv10⟩,(by omega),(by show n.Bufs.length-(j+1)<n.Bufs.length-j;omega),Weak.mk [false,false,true,true,true] ⟨zB,zB,zB,zB,zB,zB,T⟩ (by exact kC (by rw [zEf hb];unfold fD;rw [←span_get];first|(rw [if_pos c4,if_neg (by omega)];rfl)|(rw [if_neg c4,if_pos c5];rfl)|(rw [if_neg c4,if_neg c5];rfl)))⟩
     ·try simp only [sx] at c5
      refine zJ<|qW 12 mixed (by kernel_rfl) O O<|zL O O (zN O O)<|zL O O (zD O zEm O)<|zL O O (zF O one9 O (Y 1 O) O)<|zL O O (zD O zTa O)<|zL O O (zF O one3 O (Y 0 O) O)<|zL O O (zD O zNy O)<|zL O O (zF O one3 O (Y 0 O) O)<|zL O O (zD O zDe O)<|zL O O (zF O zCt O (Y 1 O) O)<|zL O O (qS O ok53 (zNk b.Dims (hn.dims b (qA hb))) ⟨zB,O,T⟩)<|zL O O (zAb O zr82 pl82 O)<|zL O O (yM O el62 zr82 O O O O)<|yJ<|zV O O (yQ 2 O el62 O O O (by simp only [List.length_map,List.length_append,List.length_cons,List.length_nil,List.length_take,List.length_drop];omega) (by simp only [List.length_map,List.length_append,List.length_cons,List.length_nil,List.length_take,List.length_drop];omega)) ?_
      rintro _ _ ⟨sv11,rfl,rfl⟩
      refine G O<|zA<|zM O<|qB O ⟨by omega,by omega⟩<|G O<|zA ?_
      refine ⟨⟨j+1,sv11⟩,(by omega),(by show n.Bufs.length-(j+1)<n.Bufs.length-j;omega),Weak.mk [false,false,true,true,true] ⟨zB,zB,zB,zB,zB,zB,T⟩ (by exact kC (by rw [zEf hb];unfold fD;rw [←span_get];first|(rw [if_pos c4,if_neg (by omega)];rfl)|(rw [if_neg c4,if_pos c5];rfl)|(rw [if_neg c4,if_neg c5];rfl)))⟩
   ·try simp only [sx] at c3
    refine qH<|zI<|zT _ (wD 0 O (regs':=[(9,_)]) (μ':=[_,_]) ⟨FLe.sl,T⟩ ⟨EFle.refl _,EFle.refl _,T⟩)<|zM O<|G O<|G O<|G O<|zA<|zK<|fin2 (L O) (L O) ?_
    rw [ha,yA (l:=n.Bufs) (k:=j) (by omega)];simp only [bE,vLs,List.map_map];rfl
end Go.W
