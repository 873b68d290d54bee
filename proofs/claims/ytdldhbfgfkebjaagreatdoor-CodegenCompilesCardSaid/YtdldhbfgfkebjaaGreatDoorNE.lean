/-
  What functions compute.
  Conditions: none.
-/
import Derived.Test.YtdldhbfgfkebjaaGreatDoorND
set_option linter.unusedSimpArgs false
set_option linter.unusedVariables false
set_option maxRecDepth 10000
namespace Go.W
open Go Go.Eng Go.Proofs Go.L41 Go.Br
attribute [local irreducible] AWP RWP TD fT
theorem agg108:lK Tryz.prog 108=some 2:=by kernel_rfl
theorem zTp:bD Tryz.prog 108 0=some (0,3):=by kernel_rfl
theorem zOn:bD Tryz.prog 108 1=some (1,3):=by kernel_rfl
theorem ok31:bA Tryz.prog 31=true:=by kernel_rfl
theorem ok41:bA Tryz.prog 41=true:=by kernel_rfl
theorem ok50:bA Tryz.prog 50=true:=by kernel_rfl
theorem ok51:bA Tryz.prog 51=true:=by kernel_rfl
theorem ok52:bA Tryz.prog 52=true:=by kernel_rfl
theorem ok53:bA Tryz.prog 53=true:=by kernel_rfl
theorem ok102:bA Tryz.prog 102=true:=by kernel_rfl
theorem one105:jQ Tryz.prog 105=true:=by kernel_rfl
theorem pl82:fB Tryz.prog 82=some [(0,1),(1,1),(2,1),(3,1)]:=by kernel_rfl
theorem sm105:pH Tryz.prog 105=some (Value.agg #[(Value.int IntKind.i64 0),(Value.int IntKind.i64 0)]):=by kernel_rfl
theorem sz105:(Tryz.prog.info? 105).map (·.size)=some 1:=by kernel_rfl
theorem sz108:(Tryz.prog.info? 108).map (·.size)=some 2:=by kernel_rfl
theorem zr105:dK Tryz.prog 105=some [(Value.map none)]:=by kernel_rfl
theorem zr108:dK Tryz.prog 108=some [(Value.int IntKind.i64 0),(Value.int IntKind.i64 0)]:=by kernel_rfl
theorem ref41_Analyze (n:Ns) (hn:n.Ok) (hw:bH n.Body<=900000):
    Pur cfg 18 [vNs n] (.tup [vLs (jS n).1,vI (jS n).2]):=by
 refine zW Tryz.func18 O Tryz.ntmps18 Tryz.results18 O ?_
 intro z hz
 have hnb:=hn.bufs
 have hll:=wI n.Body
 refine R O<|zT O O (qP O O) ?_
 rintro _ _ ⟨b1,rfl,rfl⟩
 refine G O<|G O<|zA<|zE<|R O<|zQ zAr (A 0 O) O<|qS O ok31 (zKk n hn hw) ⟨zB,O,T⟩<|zZ O (yA O O)<|kP O<|kP O<|G O<|G O<|zA<|R O<|G O<|kZ O<|zA<|zC O (fun c1=>?_) (fun c1=>?_)
 ·try simp only [sx] at c1
  have ha:=zJz c1
  refine R O<|G O<|zZ O (yN 4 O O)<|G O<|zA<|zN<|fin2 (rs_c O) (rs_c O) ?_
  rw [ha];rfl
 ·try simp only [sx] at c1
  have ha:=zGu c1
  refine zI<|R O<|G O<|qW _ (wO 82 4)<|zA<|zE<|R O<|G O<|zA<|zP<|zU ⟨[(7,.c _),(6,.c _),(1,.c _)],[_,_]⟩ (Weak.mk [true,true] ⟨zB,zB,zB,T⟩ O)<|qF 2 1 O O (Nat×Value) (fun ⟨k,sv⟩=>[(7,vI k),(6,.c (.lit sv))]) (fun ⟨k,sv⟩=>[E.vec sv 82 4 ((n.Bufs.take k).map fun b=>(dT n.Body b).cells)]) (fun ⟨k,sv⟩=>k<=n.Bufs.length) (fun ⟨k,sv⟩=>n.Bufs.length-k) ⟨⟨0,(.slice none 0 0)⟩,(by omega),Weak.mk [true,true] ⟨zB,zB,zB,T⟩ O⟩ ?_
  rintro ⟨k,sv⟩ hk
  show AWP _ _ _ _ _ ⟨[(7,vI k),(6,.c (.lit sv))]++_,[E.vec sv 82 4 ((n.Bufs.take k).map fun b=>(dT n.Body b).cells)]++_⟩
  refine zE<|R O<|G O<|zM O zAz<|zF zDx (A 1 O) O<|qC O el22<|yC O<|zA<|zC O (fun c2=>?_) (fun c2=>?_)
  ·try simp only [sx] at c2
   obtain ⟨b,hb⟩:=qU n.Bufs k (by omega)
   refine zI<|zE<|zP<|R O<|zM O zAz<|zF zDx (A 1 O) O<|G O<|zX O el22 (by omega) (N (by assumption))<|zQ zKe Y O<|zT O O (qQ [none,none,none,none,none,none,some 1,none] O zr69 O) ?_
   rintro _ _ ⟨b3,rfl,rfl⟩
   refine D 0 sz69 O<|zA<|zE<|yK 7 1 [⟨0,.q []⟩,⟨1,.q [1]⟩,⟨2,.q []⟩,⟨3,.q [1]⟩,⟨4,.q []⟩,⟨5,.q []⟩,⟨6,.f 0⟩] mixed (by kernel_rfl) (by kernel_rfl) O O O<|J O<|J O<|J O<|J O<|J O<|J O<|zQx O O (zFl (yZ O zr82)) ⟨_,_,0,O,O⟩<|wQ<|v O (by decide) O O (zG O zDz O)<|v O (by decide) O O (zD O one9 O (A 0 O) O)<|v O (by decide) O O (zG O zDg O)<|v O (by decide) O O (zD O zCx O (A 0 O) O)<|v O (by decide) O O (qR O ok41 (zOb b.Dims (hn.dims b (qE hb))) ⟨zB,O,T⟩)<|v O (by decide) O O (kY O zr82 pl82 O)<|zQj O O ?_
   rintro _ _ ⟨b4,rfl,rfl⟩
   refine wP O<|D 0 sz82 O<|zA<|R O<|G O<|zA<|zE<|R O<|G O<|zA<|zP<|zU ⟨[(11,.c _),(10,.c _),(1,.c _),(6,.c _),(7,.c _),(8,.c _),(9,.c _)],[_,_,_,_]⟩ (Weak.mk [true,true,true,true] ⟨zB,zB,zB,zB,zB,zB,zB,T⟩ O)<|qF 2 1 O O (Nat) (fun j=>[(11,vI j),(10,vB (dV b.Name (n.Body.take j)).1)]) (fun j=>[E.row b4 82 [cS b.Name,cI (dV b.Name (n.Body.take j)).2.1.From,cI (dV b.Name (n.Body.take j)).2.1.To,cI (dE b.Dims)]]) (fun j=>j<=n.Body.length) (fun j=>n.Body.length-j) ⟨0,(by omega),Weak.mk [true,true,true,true] ⟨zB,VLe.of_eq (O),zB,zB,zB,zB,zB,T⟩ O⟩ ?_
   rintro j hj
   refine zE<|R O<|G O<|zM O zDh<|zF zAj (A 3 O) O<|qC O el23<|yC O<|zA<|zC O (fun c3=>?_) (fun c3=>?_)
   ·try simp only [sx] at c3
    obtain ⟨s,hs⟩:=qU n.Body j (by omega)
    have hfk:=foldA_k b.Name (l:=n.Body) (k:=j) (by omega)
    refine zI<|zE<|zP<|zE<|qV 8 mixed (by kernel_rfl) O O<|zL O O (zG O zDh O)<|zL O O (zD O zAj O (A 3 O) O)<|zL O O (zK O O)<|zL O O (qI O el23 O O (by omega) (zCy hs))<|zL O O (qD O zEz O Y O)<|zL O O (zG O zDz O)<|zL O O (zD O one9 O (A 1 O) O)<|zL O O (qR O ok42 (ref41_Accesses s b.Name (by have:=kG (qE hs);omega)) ⟨zB,O,zB,O,T⟩)<|yJ<|zA<|zC O (fun c4=>?_) (fun c4=>?_)
    ·try simp only [sx] at c4
     refine zE<|R O<|G O<|wD O<|zA<|zC O (fun c5=>?_) (fun c5=>?_)
     ·try simp only [sx] at c5
      refine zJ O<|G O<|zM O zHu<|D 0 sz3 O<|zA<|R O<|G O<|zM O zMz<|D 0 sz3 O<|zA<|zJ O<|G O<|zA<|zJ O<|G O<|qB O ⟨by omega,by omega⟩<|G O<|zA ?_
      exact s9
     ·try simp only [sx] at c5
      refine zI<|R O<|G O<|zM O zMz<|D 0 sz3 O<|zA<|zJ O<|G O<|zA<|zJ O<|G O<|qB O ⟨by omega,by omega⟩<|G O<|zA ?_
      exact s9
    ·try simp only [sx] at c4
     refine zI<|zJ O<|G O<|qB O ⟨by omega,by omega⟩<|G O<|zA ?_
     exact s9
   ·try simp only [sx] at c3
    rw [qZ (l:=n.Body) (k:=j) (by omega)]
    refine qK<|zE<|R O<|zM O zHv<|zF one3 (A 1 O) O<|yD O<|zA<|zC O (fun c6=>?_) (fun c6=>?_)
    ·try simp only [sx] at c6
     refine zJ O<|zM O zHu<|D 0 sz3 O<|zA<|zE<|R O<|zM O zHv<|zF one3 (A 1 O) O<|yD O<|zA<|zC O (fun c7=>?_) (fun c7=>?_)
     ·try simp only [sx] at c7
      exact absurd c7 (by omega)
     ·try simp only [sx] at c7
      refine zI<|zJ O<|G O<|zQ zQd (A 0 O) O<|zZ O (yO O L zr82 O O O O)<|zT O O (yQ 2 O L O O O (by simp only [List.length_map,List.length_append,List.length_cons,List.length_nil,List.length_take,List.length_drop];omega) (by simp only [List.length_map,List.length_append,List.length_cons,List.length_nil,List.length_take,List.length_drop];omega)) ?_
      rintro _ _ ⟨sv5,rfl,rfl⟩
      refine G O<|zA<|zJ O<|G O<|qB O ⟨by omega,by omega⟩<|G O<|zA ?_
      refine ⟨⟨k+1,sv5⟩,(by omega),(by show n.Bufs.length-(k+1)<n.Bufs.length-k;omega),Weak.mk [false,false,true,true] ⟨zB,zB,zB,T⟩ (by exact yP (by rw [zEn hb];unfold dT nE;first|(rw [if_pos c6,if_neg (by omega)];rfl)|(rw [if_neg c6,if_pos c7,Int.max_comm];rfl)|(rw [if_neg c6,if_neg c7];rfl)))⟩
    ·try simp only [sx] at c6
     refine zI<|zE<|R O<|zM O zHv<|zF one3 (A 1 O) O<|yD O<|zA<|zC O (fun c7=>?_) (fun c7=>?_)
     ·try simp only [sx] at c7
      refine zJ O<|zM O zDh<|zF zAj (A 3 O) O<|qC O el23<|yX O ⟨by omega,by omega⟩<|zZ O (zEv O O O)<|zM O zMz<|D 0 sz3 O<|zA<|zJ O<|G O<|zQ zQd (A 0 O) O<|zZ O (yO O L zr82 O O O O)<|zT O O (yQ 2 O L O O O (by simp only [List.length_map,List.length_append,List.length_cons,List.length_nil,List.length_take,List.length_drop];omega) (by simp only [List.length_map,List.length_append,List.length_cons,List.length_nil,List.length_take,List.length_drop];omega)) ?_
      rintro _ _ ⟨sv6,rfl,rfl⟩
      refine G O<|zA<|zJ O<|G O<|qB O ⟨by omega,by omega⟩<|G O<|zA ?_
      refine ⟨⟨k+1,sv6⟩,(by omega),(by show n.Bufs.length-(k+1)<n.Bufs.length-k;omega),Weak.mk [false,false,true,true] ⟨zB,zB,zB,T⟩ (by exact yP (by rw [zEn hb];unfold dT nE;first|(rw [if_pos c6,if_neg (by omega)];rfl)|(rw [if_neg c6,if_pos c7,Int.max_comm];rfl)|(rw [if_neg c6,if_neg c7];rfl)))⟩
     ·try simp only [sx] at c7
      refine zI<|zJ O<|G O<|zQ zQd (A 0 O) O<|zZ O (yO O L zr82 O O O O)<|zT O O (yQ 2 O L O O O (by simp only [List.length_map,List.length_append,List.length_cons,List.length_nil,List.length_take,List.length_drop];omega) (by simp only [List.length_map,List.length_append,List.length_cons,List.length_nil,List.length_take,List.length_drop];omega)) ?_
      rintro _ _ ⟨sv7,rfl,rfl⟩
      refine G O<|zA<|zJ O<|G O<|qB O ⟨by omega,by omega⟩<|G O<|zA ?_
      refine ⟨⟨k+1,sv7⟩,(by omega),(by show n.Bufs.length-(k+1)<n.Bufs.length-k;omega),Weak.mk [false,false,true,true] ⟨zB,zB,zB,T⟩ (by exact yP (by rw [zEn hb];unfold dT nE;first|(rw [if_pos c6,if_neg (by omega)];rfl)|(rw [if_neg c6,if_pos c7,Int.max_comm];rfl)|(rw [if_neg c6,if_neg c7];rfl)))⟩
  ·try simp only [sx] at c2
   refine qK<|zE<|zU _ (kN 0 O (regs':=[(6,_)]) (μ':=[_]) ⟨FLe.sl,T⟩ ⟨EFle.refl _,T⟩)<|zJ O<|G O<|G O<|G O<|zA<|zN<|fin2 (rs_c O) (rs_c O) ?_
   rw [ha,qZ (l:=n.Bufs) (k:=k) (by omega)];simp only [bL,vLs,List.map_map];rfl
theorem touch_step (y:C) (J:List ByteArray->List E->Prop) (hy:∀(pre:List ByteArray) (t:ByteArray) (μ:List E),J pre μ->FnCon cfg y [vS t] μ fun r μ'=>r=.tup []/\J (pre++[t]) μ') (l:List St) (hl:bH l<=900000) (ih:∀s,s∈l->∀(pre0:List ByteArray) (μ:List E),J pre0 μ->Con cfg 51 [dS s.Body,.c y] μ fun r μ'=>r=.tup []/\J (pre0++lB s.Body) μ') (pre0:List ByteArray) (μ:List E) (h0:J pre0 μ):
    Con cfg 51 [dS l,.c y] μ fun r μ'=>r=.tup []/\J (pre0++lB l) μ':=by
 refine zW Tryz.func51 O Tryz.ntmps51 Tryz.results51 O ?_
 intro z hz
 have hll:=wI l
 refine R O<|G O<|qC O el23<|G O<|zA<|zP<|zU ⟨[(12,.c _),(1,.c _),(10,.c _),(11,.c _)],_⟩ (Weak.regs ⟨zB,zB,zB,zB,T⟩)<|zBj 1 O (Nat×List E) (fun ⟨k,m⟩=>[(12,vI k)]) (fun ⟨k,m⟩=>m) (fun ⟨k,m⟩=>k<=l.length/\(J (pre0++lB (l.take k)) m)) (fun ⟨k,m⟩=>l.length-k) ⟨⟨0,μ⟩,⟨by omega,by simpa [lB] using h0⟩,Weak.regs ⟨zB,zB,zB,zB,T⟩⟩ ?_
 rintro ⟨k,m⟩ ⟨hk,hJ⟩
 refine R O<|yC O<|zA<|zE<|zC O (fun c1=>?_) (fun c1=>?_)
 ·try simp only [sx] at c1
  obtain ⟨s,hs⟩:=qU l k (by omega)
  have hsw:=kG (qE hs)
  have hse:=St.wt_eq s
  have hrl:=thin_len (lC (bQ (bG s.E)))
  have hrs:=sortB_len (bQ (bG s.E))
  have hra:=zGc s.E
  have hrt:(fV s.E).length<=2*s.E.wt:=by unfold fV;omega
  refine zI<|zE<|zP<|R O<|zX O el23 (by omega) (zCy (by assumption))<|zQ zEz Y O<|zT O O (qQ [none,none,none,none,none,some 4,none,none,none,none,none,none,none,none,none,none,some 2,some 4,some 13,some 20] O zr59 O) ?_
  rintro _ _ ⟨b1,rfl,rfl⟩
  refine D 0 sz59 O<|qW _ (qM 0 O 5 _ PLe.ptr)<|zA<|zE<|R O<|zS O zBv<|zF one3 Y O<|yD O<|G O<|rL0 O (fun g3_3=>qA O zBv O) O<|B 20 O (fun g3_3=>zD O one3 O Y O) O<|B 21 O (fun g3_3=>kD O O O) O<|r_or O (fun h=>(lzf h))<|zA<|zC O (fun c2=>?_) (fun c2=>?_)
  ·have hP0:sL s=[s.Name]:=tch_sto c2
   refine zJ O<|G O<|zS O zBo<|zF one9 Y O<|zT O O (wZ O O (hy _ s.Name _ hJ) ⟨zB,O,T⟩) ?_
   rintro _ m1 ⟨rfl,g1⟩
   refine zA<|zE<|R O<|zS O zGk<|zF wM Y O<|qC O el51<|G O<|zA<|zP<|zU ⟨[(31,.c _),(1,.c _),(5,.c _),(10,.c _),(11,.c _),(12,.c _),(29,.c _),(30,.c _)],_⟩ (Weak.regs ⟨zB,zB,zB,zB,zB,zB,zB,zB,T⟩)<|zBj 1 O (Nat×List E) (fun ⟨j,m2⟩=>[(31,vI j)]) (fun ⟨j,m2⟩=>m2) (fun ⟨j,m2⟩=>j<=s.Idx.length/\(J (pre0++lB (l.take k)++sL s++bP (s.Idx.take j)) m2)) (fun ⟨j,m2⟩=>s.Idx.length-j) ⟨⟨0,_⟩,⟨by omega,by rw [hP0];simp only [List.take_zero,bP,List.flatMap_nil,List.append_nil];first|exact g1|exact hJ⟩,Weak.regs ⟨zB,zB,zB,zB,zB,zB,zB,zB,T⟩⟩ ?_
   rintro ⟨j,m2⟩ ⟨hj,hJ2⟩
   refine R O<|yC O<|zA<|zE<|zC O (fun c3=>?_) (fun c3=>?_)
   ·try simp only [sx] at c3
    obtain ⟨i,hi⟩:=qU s.Idx j (by omega)
    refine zI<|zE<|zP<|R O<|zX O el51 (by omega) (N (by assumption))<|zQ zCw Y O<|zT O O (qQ [none,some 2,none,some 2] O zPv O) ?_
    rintro _ _ ⟨b2,rfl,rfl⟩
    exact s6
   ·exact v8
  ·have hP0:sL s=[]:=tch_no c2
   refine zI<|zE<|R O<|zS O zGk<|zF wM Y O<|qC O el51<|G O<|zA<|zP<|zU ⟨[(31,.c _),(1,.c _),(5,.c _),(10,.c _),(11,.c _),(12,.c _),(29,.c _),(30,.c _)],_⟩ (Weak.regs ⟨zB,zB,zB,zB,zB,zB,zB,zB,T⟩)<|zBj 1 O (Nat×List E) (fun ⟨j,m2⟩=>[(31,vI j)]) (fun ⟨j,m2⟩=>m2) (fun ⟨j,m2⟩=>j<=s.Idx.length/\(J (pre0++lB (l.take k)++sL s++bP (s.Idx.take j)) m2)) (fun ⟨j,m2⟩=>s.Idx.length-j) ⟨⟨0,_⟩,⟨by omega,by rw [hP0];simp only [List.take_zero,bP,List.flatMap_nil,List.append_nil];first|exact g1|exact hJ⟩,Weak.regs ⟨zB,zB,zB,zB,zB,zB,zB,zB,T⟩⟩ ?_
   rintro ⟨j,m2⟩ ⟨hj,hJ2⟩
   refine R O<|yC O<|zA<|zE<|zC O (fun c3=>?_) (fun c3=>?_)
   ·try simp only [sx] at c3
    obtain ⟨i,hi⟩:=qU s.Idx j (by omega)
    refine zI<|zE<|zP<|R O<|zX O el51 (by omega) (N (by assumption))<|zQ zCw Y O<|zT O O (qQ [none,some 2,none,some 2] O zPv O) ?_
    rintro _ _ ⟨b3,rfl,rfl⟩
    exact s6
   ·exact v8
 ·try simp only [sx] at c1
  rw [qZ (l:=l) (k:=k) (by omega)] at hJ
  refine qK ?_
  repeat (first|refine qY ?_|refine qT ?_)
  refine yL<|U ?_
  exact ⟨O,hJ⟩
theorem touch_body (y:C) (J:List ByteArray->List E->Prop) (hy:∀(pre:List ByteArray) (t:ByteArray) (μ:List E),J pre μ->FnCon cfg y [vS t] μ fun r μ'=>r=.tup []/\J (pre++[t]) μ') (s:St) (hl:bH s.Body<=900000):∀(pre0:List ByteArray) (μ:List E),J pre0 μ->Con cfg 51 [dS s.Body,.c y] μ fun r μ'=>r=.tup []/\J (pre0++lB s.Body) μ':=by
  induction s using St.ind with
  |_ s ih=>exact fun pre0 μ h0=>touch_step y J hy s.Body hl (fun a ha=>ih a ha (by have:=kG ha;have:=St.body_wt a;omega)) pre0 μ h0
theorem touch_con (y:C) (J:List ByteArray->List E->Prop) (hy:∀(pre:List ByteArray) (t:ByteArray) (μ:List E),J pre μ->FnCon cfg y [vS t] μ fun r μ'=>r=.tup []/\J (pre++[t]) μ') (l:List St) (hl:bH l<=900000) (pre0:List ByteArray) (μ:List E) (h0:J pre0 μ):Con cfg 51 [dS l,.c y] μ fun r μ'=>r=.tup []/\J (pre0++lB l) μ':=
  touch_step y J hy l hl (fun s hs=>touch_body y J hy s (by have:=kG hs;have:=St.body_wt s;omega)) pre0 μ h0
theorem analyze_1 (mb:Nat) (m:SpM) (t:ByteArray) (i:Int):
    Con cfg 52 [vS t,.c (.iptr [.lit (.map (some mb))]),.c (.iptr [cI i])] [E.blk mb (MapR vSp m)] fun r μ'=>r=.tup []/\μ'=[E.blk mb (MapR vSp (lP i m t))]:=by
 refine Con.drop<|zW Tryz.func52 O Tryz.ntmps52 Tryz.results52 O ?_
 intro z hz
 refine R O<|zF one105 Y O<|G O<|zZ O (det_lookup_ok 0 (⟨0,0⟩:Sp) O sm105 O O O (fun _ _=>⟨_,O,.cons (.lit _ O) (.cons (.lit _ O) .nil)⟩))<|zZ O (yA O O)<|zZ O (kA O O O)<|kP O<|zT O O (yZ O zr108) ?_
 rintro _ _ ⟨b1,rfl,rfl⟩
 refine D 0 sz108 O<|G O<|zA<|zE<|R O<|G O<|wD O<|zA<|zC O (fun c1=>?_) (fun c1=>?_)
 ·try simp only [sx] at c1
  have hsp:=putSp_new (i:=i) c1
  refine zJ O<|zF one3 Y O<|zM O zTp<|D 0 sz3 O<|zA<|R O<|zF one3 Y O<|zM O zOn<|D 0 sz3 O<|zA<|zJ O<|zF one105 Y O<|G O<|zQ agg108 (A 0 O) O<|zAt O O (zOr 1 ⟨i,i⟩ O sm105 O O O (zB) O)<|zA ?_
  repeat (first|refine qY ?_|refine qT ?_)
  refine yL<|U ?_
  exact ⟨O,[_],by rw [←hsp];rfl⟩
 ·try simp only [sx] at c1
  have hsp:=putSp_old (i:=i) c1
  refine zI<|R O<|zF one3 Y O<|zM O zOn<|D 0 sz3 O<|zA<|zJ O<|zF one105 Y O<|G O<|zQ agg108 (A 0 O) O<|zAt O O (zOr 1 ⟨((fK m t).getD ⟨0,0⟩).From,i⟩ O sm105 O O O (zB) O)<|zA ?_
  repeat (first|refine qY ?_|refine qT ?_)
  refine yL<|U ?_
  exact ⟨O,[_],by rw [←hsp];rfl⟩
set_option maxRecDepth 100000 in
theorem analyze_touch (s:St) (i:Int) (mb:Nat) (m:SpM) (hs:s.wt<=800000):Con cfg 51 [.c (.sl 20 [s.cs]),.c (.fn (.func 52) [] [.iptr [.lit (.map (some mb))],.iptr [cI i]])] [E.blk mb (MapR vSp m)] fun r μ'=>r=.tup []/\μ'=[E.blk mb (MapR vSp ((pA s).foldl (lP i) m))]:=by
  have h:=touch_con (.fn (.func 52) [] [.iptr [.lit (.map (some mb))],.iptr [cI i]]) (fun pre μ=>μ=[E.blk mb (MapR vSp (pre.foldl (lP i) m))]) (fun pre t μ hJ=>by
    subst hJ
    refine (FnCon.of_con (first:=[]) (cap:=[.iptr [.lit (.map (some mb))],.iptr [cI i]]) ok52 (analyze_1 mb (pre.foldl (lP i) m) t i)).mono ?_
    rintro r μ' ⟨h1,h2⟩
    exact ⟨h1,by rw [h2,List.foldl_append];rfl⟩) [s] (by simp only [bH];omega) [] [E.blk mb (MapR vSp m)] O
  rw [cells_one] at h
  refine h.mono ?_
  rintro r μ' ⟨h1,h2⟩
  exact ⟨h1,by rw [h2,List.nil_append,tchL_one]⟩
theorem zPz (n:Ns) (hn:n.Ok) (hw:bH n.Body<=800000):
    Pur cfg 25 [vNs n] (.tup [vLs (jS n).1,vI (jS n).2]):=by
 refine zW Tryz.func25 O Tryz.ntmps25 Tryz.results25 O ?_
 intro z hz
 have hnb:=hn.bufs
 have hll:=wI n.Body
 refine R O<|zT O O (qP O O) ?_
 rintro _ _ ⟨b1,rfl,rfl⟩
 refine G O<|G O<|zA<|zE<|R O<|zQ zAr (A 0 O) O<|qS O ok50 (zOh n hn) ⟨zB,O,T⟩<|zZ O (yA O O)<|kP O<|kP O<|G O<|G O<|zA<|R O<|G O<|kZ O<|zA<|zC O (fun c1=>?_) (fun c1=>?_)
 ·try simp only [sx] at c1
  have ha:=zJz c1
  refine R O<|G O<|zZ O (yN 4 O O)<|G O<|zA<|zN<|fin2 (rs_c O) (rs_c O) ?_
  rw [ha];rfl
 ·try simp only [sx] at c1
  have ha:=zGu c1
  refine zI<|R O<|zT O O (ope_mkmap vSp O O) ?_
  rintro _ _ ⟨b2,rfl,rfl⟩
  refine zT O O (yZ O zr105) ?_
  rintro _ _ ⟨b3,rfl,rfl⟩
  refine D 0 sz105 O<|qW _ (qM 0 O 6 _ PLe.ptr)<|zA<|zE<|R O<|zM O zDh<|zF zAj (A 1 O) O<|qC O el23<|G O<|zA<|zP<|zU ⟨[(25,.c _),(1,.c _),(6,.c _),(23,.c _),(24,.c _)],[_,_]⟩ (Weak.mk [true,true] ⟨zB,zB,zB,zB,zB,T⟩ O)<|qF 1 1 O O (Nat) (fun k=>[(25,vI k)]) (fun k=>[E.blk b2 (MapR vSp (jJ [] 0 (n.Body.take k)))]) (fun k=>k<=n.Body.length) (fun k=>n.Body.length-k) ⟨0,(by omega),Weak.mk [true,true] ⟨zB,zB,zB,zB,zB,T⟩ O⟩ ?_
  rintro k hk
  refine R O<|yC O<|zA<|zE<|zC O (fun c2=>?_) (fun c2=>?_)
  ·try simp only [sx] at c2
   obtain ⟨s,hs⟩:=qU n.Body k (by omega)
   refine zI<|zE<|zP<|R O<|G O<|zX O el23 (by omega) (zCy (by assumption))<|zQ zEz Y O<|zT O O (yZ O zr3) ?_
   rintro _ _ ⟨b4,rfl,rfl⟩
   refine zT O O (qQ [none,none,none,none,none,some 4,none,none,none,none,none,none,none,none,none,none,some 2,some 4,some 13,some 20] O zr59 O) ?_
   rintro _ _ ⟨b5,rfl,rfl⟩
   refine D 1 sz3 O<|qW _ (qM 1 O 7 _ PLe.ptr)<|D 0 sz59 O<|zA<|zJ O<|zQ zEz (A 0 O) O<|zZ O (yO O el23 zr59 O O O O)<|zZ O (zFn O O O O O)<|zT O O (ope_call_reg 1 O O ok51 (analyze_touch s k _ _ (by have:=kG (qE hs);omega)) ⟨zB,O,zB,O,T⟩) ?_
   rintro _ _ ⟨rfl,rfl⟩
   refine zA<|zJ O<|qB O ⟨by omega,by omega⟩<|G O<|zA ?_
   refine ⟨k+1,(by omega),(by omega),Weak.mk [false,true,true] ⟨zB,zB,zB,zB,zB,T⟩ (by show _=[E.blk b2 (MapR vSp (jJ [] 0 (n.Body.take (k+1))))]++_;rw [sp_next hs];rfl)⟩
  ·try simp only [sx] at c2
   rw [qZ (l:=n.Body) (k:=k) (by omega)]
   refine qK<|R O<|G O<|qW _ (wO 82 4)<|zA<|zE<|R O<|zM O zAz<|zF zDx (A 2 O) O<|qC O el22<|G O<|zA<|zP<|zU ⟨[(38,.c _),(9,.c _),(1,.c _),(6,.c _),(36,.c _),(37,.c _)],[_,_,_]⟩ (Weak.mk [true,true,true] ⟨zB,zB,zB,zB,zB,zB,T⟩ O)<|qF 2 1 O O (Nat×Value) (fun ⟨j,sv⟩=>[(38,vI j),(9,.c (.lit sv))]) (fun ⟨j,sv⟩=>[E.vec sv 82 4 ((n.Bufs.take j).map fun b=>(dT n.Body b).cells)]) (fun ⟨j,sv⟩=>j<=n.Bufs.length) (fun ⟨j,sv⟩=>n.Bufs.length-j) ⟨⟨0,(.slice none 0 0)⟩,(by omega),Weak.mk [true,true,true] ⟨zB,zB,zB,zB,zB,zB,T⟩ O⟩ ?_
   rintro ⟨j,sv⟩ hj
   show AWP _ _ _ _ _ ⟨[(38,vI j),(9,.c (.lit sv))]++_,[E.vec sv 82 4 ((n.Bufs.take j).map fun b=>(dT n.Body b).cells)]++_⟩
   refine R O<|yC O<|zA<|zE<|zC O (fun c3=>?_) (fun c3=>?_)
   ·try simp only [sx] at c3
    obtain ⟨b,hb⟩:=qU n.Bufs j (by omega)
    refine zI<|zE<|zP<|R O<|zX O el22 (by omega) (N (by assumption))<|zQ zKe Y O<|zT O O (qQ [none,none,none,none,none,none,some 1,none] O zr69 O) ?_
    rintro _ _ ⟨b7,rfl,rfl⟩
    refine D 0 sz69 O<|zA<|R O<|zF one105 Y O<|zM O zDz<|zF one9 (A 0 O) O<|zZ O (det_lookup 2 (⟨0,0⟩:Sp) O sm105 O O O (fun _ _=>⟨_,O,.cons (.lit _ O) (.cons (.lit _ O) .nil)⟩))<|zT O O (yZ O zr108) ?_
    rintro _ _ ⟨b8,rfl,rfl⟩
    refine D 0 sz108 O<|zA<|zE<|R O<|zM O zHv<|zF one3 (A 1 O) O<|zA<|zP<|R O<|yD O<|G O<|zA<|zC O (fun c4=>?_) (fun c4=>?_)
    ·try simp only [sx] at c4
     refine zJ O<|zM O zTp<|D 0 sz3 O<|zA<|qV 12 mixed (by kernel_rfl) O O<|zL O O (zK O O)<|zL O O (zG O zDz O)<|zL O O (zD O one9 O (A 1 O) O)<|zL O O (zG O zTp O)<|zL O O (zD O one3 O (A 0 O) O)<|zL O O (zG O zOn O)<|zL O O (zD O one3 O (A 0 O) O)<|zL O O (zG O zDg O)<|zL O O (zD O zCx O (A 1 O) O)<|zL O O (qR O ok53 (zNx b.Dims (hn.dims b (qE hb))) ⟨zB,O,T⟩)<|zL O O (kY O zr82 pl82 O)<|zL O O (yO O L zr82 O O O O)<|yJ<|zT O O (yQ 2 O L O O O (by simp only [List.length_map,List.length_append,List.length_cons,List.length_nil,List.length_take,List.length_drop];omega) (by simp only [List.length_map,List.length_append,List.length_cons,List.length_nil,List.length_take,List.length_drop];omega)) ?_
     rintro _ _ ⟨sv9,rfl,rfl⟩
     refine G O<|zA<|zJ O<|qB O ⟨by omega,by omega⟩<|G O<|zA ?_
     refine ⟨⟨j+1,sv9⟩,(by omega),(by show n.Bufs.length-(j+1)<n.Bufs.length-j;omega),Weak.mk [false,false,true,true,true] ⟨zB,zB,zB,zB,zB,zB,T⟩ (by exact yP (by rw [zEn hb];unfold dT;rw [←span_get];first|(rw [if_pos c4,if_neg (by omega)];rfl)|(rw [if_neg c4,if_pos c5];rfl)|(rw [if_neg c4,if_neg c5];rfl)))⟩
    ·try simp only [sx] at c4
     refine R O<|yD O<|G O<|zA<|zC O (fun c5=>?_) (fun c5=>?_)
     ·try simp only [sx] at c5
      refine zJ O<|zM O zDh<|zF zAj (A 4 O) O<|qC O el23<|yX O ⟨by omega,by omega⟩<|zZ O (zEv O O O)<|zM O zOn<|D 0 sz3 O<|zA<|qV 12 mixed (by kernel_rfl) O O<|zL O O (zK O O)<|zL O O (zG O zDz O)<|zL O O (zD O one9 O (A 1 O) O)<|zL O O (zG O zTp O)<|zL O O (zD O one3 O (A 0 O) O)<|zL O O (zG O zOn O)<|zL O O (zD O one3 O (A 0 O) O)<|zL O O (zG O zDg O)<|zL O O (zD O zCx O (A 1 O) O)<|zL O O (qR O ok53 (zNx b.Dims (hn.dims b (qE hb))) ⟨zB,O,T⟩)<|zL O O (kY O zr82 pl82 O)<|zL O O (yO O L zr82 O O O O)<|yJ<|zT O O (yQ 2 O L O O O (by simp only [List.length_map,List.length_append,List.length_cons,List.length_nil,List.length_take,List.length_drop];omega) (by simp only [List.length_map,List.length_append,List.length_cons,List.length_nil,List.length_take,List.length_drop];omega)) ?_
      rintro _ _ ⟨sv10,rfl,rfl⟩
      refine G O<|zA<|zJ O<|qB O ⟨by omega,by omega⟩<|G O<|zA ?_
      refine ⟨⟨j+1,sv10⟩,(by omega),(by show n.Bufs.length-(j+1)<n.Bufs.length-j;omega),Weak.mk [false,false,true,true,true] ⟨zB,zB,zB,zB,zB,zB,T⟩ (by exact yP (by rw [zEn hb];unfold dT;rw [←span_get];first|(rw [if_pos c4,if_neg (by omega)];rfl)|(rw [if_neg c4,if_pos c5];rfl)|(rw [if_neg c4,if_neg c5];rfl)))⟩
     ·try simp only [sx] at c5
      refine zI<|qV 12 mixed (by kernel_rfl) O O<|zL O O (zK O O)<|zL O O (zG O zDz O)<|zL O O (zD O one9 O (A 1 O) O)<|zL O O (zG O zTp O)<|zL O O (zD O one3 O (A 0 O) O)<|zL O O (zG O zOn O)<|zL O O (zD O one3 O (A 0 O) O)<|zL O O (zG O zDg O)<|zL O O (zD O zCx O (A 1 O) O)<|zL O O (qR O ok53 (zNx b.Dims (hn.dims b (qE hb))) ⟨zB,O,T⟩)<|zL O O (kY O zr82 pl82 O)<|zL O O (yO O L zr82 O O O O)<|yJ<|zT O O (yQ 2 O L O O O (by simp only [List.length_map,List.length_append,List.length_cons,List.length_nil,List.length_take,List.length_drop];omega) (by simp only [List.length_map,List.length_append,List.length_cons,List.length_nil,List.length_take,List.length_drop];omega)) ?_
      rintro _ _ ⟨sv11,rfl,rfl⟩
      refine G O<|zA<|zJ O<|qB O ⟨by omega,by omega⟩<|G O<|zA ?_
      refine ⟨⟨j+1,sv11⟩,(by omega),(by show n.Bufs.length-(j+1)<n.Bufs.length-j;omega),Weak.mk [false,false,true,true,true] ⟨zB,zB,zB,zB,zB,zB,T⟩ (by exact yP (by rw [zEn hb];unfold dT;rw [←span_get];first|(rw [if_pos c4,if_neg (by omega)];rfl)|(rw [if_neg c4,if_pos c5];rfl)|(rw [if_neg c4,if_neg c5];rfl)))⟩
   ·try simp only [sx] at c3
    refine qK<|zE<|zU _ (kN 0 O (regs':=[(9,_)]) (μ':=[_,_]) ⟨FLe.sl,T⟩ ⟨EFle.refl _,EFle.refl _,T⟩)<|zJ O<|G O<|G O<|G O<|zA<|zN<|fin2 (rs_c O) (rs_c O) ?_
    rw [ha,qZ (l:=n.Bufs) (k:=j) (by omega)];simp only [bL,vLs,List.map_map];rfl
end Go.W
