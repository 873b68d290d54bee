/-
  What functions compute.
  Conditions: none.
-/
import Derived.Test.YtdldhbfgfkebjaaGreatDoorND
set_option linter.unusedSimpArgs false
set_option linter.unusedVariables false
set_option maxRecDepth 10000
namespace Go.W
open Go Go.Eng Go.Proofs Go.L41 Go.Br
attribute [local irreducible] AWP RWP TD fP
theorem agg108:lK Tryz.prog 108=some 2:=by kernel_rfl
theorem zTt:bD Tryz.prog 108 0=some (0,3):=by kernel_rfl
theorem zOw:bD Tryz.prog 108 1=some (1,3):=by kernel_rfl
theorem ok31:bA Tryz.prog 31=true:=by kernel_rfl
theorem ok41:bA Tryz.prog 41=true:=by kernel_rfl
theorem ok50:bA Tryz.prog 50=true:=by kernel_rfl
theorem ok51:bA Tryz.prog 51=true:=by kernel_rfl
theorem ok52:bA Tryz.prog 52=true:=by kernel_rfl
theorem ok53:bA Tryz.prog 53=true:=by kernel_rfl
theorem ok102:bA Tryz.prog 102=true:=by kernel_rfl
theorem one105:jK Tryz.prog 105=true:=by kernel_rfl
theorem pl82:dN Tryz.prog 82=some [(0,1),(1,1),(2,1),(3,1)]:=by kernel_rfl
theorem sm105:pI Tryz.prog 105=some (Value.agg #[(Value.int IntKind.i64 0),(Value.int IntKind.i64 0)]):=by kernel_rfl
theorem sz105:(Tryz.prog.info? 105).map (·.size)=some 1:=by kernel_rfl
theorem sz108:(Tryz.prog.info? 108).map (·.size)=some 2:=by kernel_rfl
theorem zr105:dL Tryz.prog 105=some [(Value.map none)]:=by kernel_rfl
theorem zr108:dL Tryz.prog 108=some [(Value.int IntKind.i64 0),(Value.int IntKind.i64 0)]:=by kernel_rfl
theorem ref41_Analyze (n:Ns) (hn:n.Ok) (hw:bE n.Body<=900000):
    Pur cfg 18 [vNs n] (.tup [vLs (jS n).1,vI (jS n).2]):=by
 refine zW Tryz.func18 O Tryz.ntmps18 Tryz.results18 O ?_
 intro z hz
 have hnb:=hn.bufs
 have hll:=wH n.Body
 refine R O<|zS O O (qP O O) ?_
 rintro _ _ ⟨b1,rfl,rfl⟩
 refine G O<|G O<|zA<|zF<|R O<|zQ zAm (A 0 O) O<|qS O ok31 (zKr n hn hw) ⟨zB,O,T⟩<|zZ O (yA O O)<|kP O<|kP O<|G O<|G O<|zA<|R O<|G O<|wA O<|zA<|zD O (fun c1=>?_) (fun c1=>?_)
 ·try simp only [sx] at c1
  have ha:=zKh c1
  refine R O<|G O<|zZ O (yO 4 O O)<|G O<|zA<|zN<|fin2 (D O) (D O) ?_
  rw [ha];rfl
 ·try simp only [sx] at c1
  have ha:=zGy c1
  refine zI<|R O<|G O<|qT _ (kZ 82 4)<|zA<|zF<|R O<|G O<|zA<|zP<|zU ⟨[(7,.c _),(6,.c _),(1,.c _)],[_,_]⟩ (Weak.mk [true,true] ⟨zB,zB,zB,T⟩ O)<|qF 2 1 O O (Nat×Value) (fun ⟨k,sv⟩=>[(7,vI k),(6,.c (.lit sv))]) (fun ⟨k,sv⟩=>[E.vec sv 82 4 ((n.Bufs.take k).map fun b=>(dU n.Body b).cells)]) (fun ⟨k,sv⟩=>k<=n.Bufs.length) (fun ⟨k,sv⟩=>n.Bufs.length-k) ⟨⟨0,(.slice none 0 0)⟩,(by omega),Weak.mk [true,true] ⟨zB,zB,zB,T⟩ O⟩ ?_
  rintro ⟨k,sv⟩ hk
  show AWP _ _ _ _ _ ⟨[(7,vI k),(6,.c (.lit sv))]++_,[E.vec sv 82 4 ((n.Bufs.take k).map fun b=>(dU n.Body b).cells)]++_⟩
  refine zF<|R O<|G O<|zJ O zAn<|zE zDg (A 1 O) O<|qD O el22<|yC O<|zA<|zD O (fun c2=>?_) (fun c2=>?_)
  ·try simp only [sx] at c2
   obtain ⟨b,hb⟩:=qU n.Bufs k (by omega)
   refine zI<|zF<|zP<|R O<|zJ O zAn<|zE zDg (A 1 O) O<|G O<|zY O el22 (by omega) (v (by assumption))<|zQ zIm zO O<|zS O O (qQ [none,none,none,none,none,none,some 1,none] O zr69 O) ?_
   rintro _ _ ⟨b3,rfl,rfl⟩
   refine Y 0 sz69 O<|zA<|zF<|yL 7 1 [⟨0,.q []⟩,⟨1,.q [1]⟩,⟨2,.q []⟩,⟨3,.q [1]⟩,⟨4,.q []⟩,⟨5,.q []⟩,⟨6,.f 0⟩] mixed (by kernel_rfl) (by kernel_rfl) O O O<|J O<|J O<|J O<|J O<|J O<|J O<|zKb O O (zDa (yZ O zr82)) ⟨_,_,0,O,O⟩<|wQ<|zX O (by decide) O O (zH O zEc O)<|zX O (by decide) O O (zC O one9 O (A 0 O) O)<|zX O (by decide) O O (zH O zCn O)<|zX O (by decide) O O (zC O zCy O (A 0 O) O)<|zX O (by decide) O O (qR O ok41 (zOk b.Dims (hn.dims b (qE hb))) ⟨zB,O,T⟩)<|zX O (by decide) O O (kU O zr82 pl82 O)<|zJt O O ?_
   rintro _ _ ⟨b4,rfl,rfl⟩
   refine wP O<|Y 0 sz82 O<|zA<|R O<|G O<|zA<|zF<|R O<|G O<|zA<|zP<|zU ⟨[(11,.c _),(10,.c _),(1,.c _),(6,.c _),(7,.c _),(8,.c _),(9,.c _)],[_,_,_,_]⟩ (Weak.mk [true,true,true,true] ⟨zB,zB,zB,zB,zB,zB,zB,T⟩ O)<|qF 2 1 O O (Nat) (fun j=>[(11,vI j),(10,vB (dW b.Name (n.Body.take j)).1)]) (fun j=>[E.row b4 82 [cS b.Name,cI (dW b.Name (n.Body.take j)).2.1.From,cI (dW b.Name (n.Body.take j)).2.1.To,cI (dE b.Dims)]]) (fun j=>j<=n.Body.length) (fun j=>n.Body.length-j) ⟨0,(by omega),Weak.mk [true,true,true,true] ⟨zB,VLe.of_eq (O),zB,zB,zB,zB,zB,T⟩ O⟩ ?_
   rintro j hj
   refine zF<|R O<|G O<|zJ O zBs<|zE zAh (A 3 O) O<|qD O el23<|yC O<|zA<|zD O (fun c3=>?_) (fun c3=>?_)
   ·try simp only [sx] at c3
    obtain ⟨s,hs⟩:=qU n.Body j (by omega)
    have hfk:=foldA_k b.Name (l:=n.Body) (k:=j) (by omega)
    refine zI<|zF<|zP<|zF<|qW 8 mixed (by kernel_rfl) O O<|zL O O (zH O zBs O)<|zL O O (zC O zAh O (A 3 O) O)<|zL O O (zM O O)<|zL O O (qH O el23 O O (by omega) (zCc hs))<|zL O O (qC O zEi O zO O)<|zL O O (zH O zEc O)<|zL O O (zC O one9 O (A 1 O) O)<|zL O O (qR O ok42 (ref41_Accesses s b.Name (by have:=kC (qE hs);omega)) ⟨zB,O,zB,O,T⟩)<|yM<|zA<|zD O (fun c4=>?_) (fun c4=>?_)
    ·try simp only [sx] at c4
     refine zF<|R O<|G O<|wE O<|zA<|zD O (fun c5=>?_) (fun c5=>?_)
     ·try simp only [sx] at c5
      refine zK O<|G O<|zJ O zIa<|Y 0 sz3 O<|zA<|R O<|G O<|zJ O zNf<|Y 0 sz3 O<|zA<|zK O<|G O<|zA<|zK O<|G O<|qA O ⟨by omega,by omega⟩<|G O<|zA ?_
      exact s8
     ·try simp only [sx] at c5
      refine zI<|R O<|G O<|zJ O zNf<|Y 0 sz3 O<|zA<|zK O<|G O<|zA<|zK O<|G O<|qA O ⟨by omega,by omega⟩<|G O<|zA ?_
      exact s8
    ·try simp only [sx] at c4
     refine zI<|zK O<|G O<|qA O ⟨by omega,by omega⟩<|G O<|zA ?_
     exact s8
   ·try simp only [sx] at c3
    rw [qX (l:=n.Body) (k:=j) (by omega)]
    refine qK<|zF<|R O<|zJ O zIb<|zE one3 (A 1 O) O<|yE O<|zA<|zD O (fun c6=>?_) (fun c6=>?_)
    ·try simp only [sx] at c6
     refine zK O<|zJ O zIa<|Y 0 sz3 O<|zA<|zF<|R O<|zJ O zIb<|zE one3 (A 1 O) O<|yE O<|zA<|zD O (fun c7=>?_) (fun c7=>?_)
     ·try simp only [sx] at c7
      exact absurd c7 (by omega)
     ·try simp only [sx] at c7
      refine zI<|zK O<|G O<|zQ zQi (A 0 O) O<|zZ O (yJ O el62 zr82 O O O O)<|zS O O (yI 2 O el62 O O O (by simp only [List.length_map,List.length_append,List.length_cons,List.length_nil,List.length_take,List.length_drop];omega) (by simp only [List.length_map,List.length_append,List.length_cons,List.length_nil,List.length_take,List.length_drop];omega)) ?_
      rintro _ _ ⟨sv5,rfl,rfl⟩
      refine G O<|zA<|zK O<|G O<|qA O ⟨by omega,by omega⟩<|G O<|zA ?_
      refine ⟨⟨k+1,sv5⟩,(by omega),(by show n.Bufs.length-(k+1)<n.Bufs.length-k;omega),Weak.mk [false,false,true,true] ⟨zB,zB,zB,T⟩ (by exact yQ (by rw [zEq hb];unfold dU nE;first|(rw [if_pos c6,if_neg (by omega)];rfl)|(rw [if_neg c6,if_pos c7,Int.max_comm];rfl)|(rw [if_neg c6,if_neg c7];rfl)))⟩
    ·try simp only [sx] at c6
     refine zI<|zF<|R O<|zJ O zIb<|zE one3 (A 1 O) O<|yE O<|zA<|zD O (fun c7=>?_) (fun c7=>?_)
     ·try simp only [sx] at c7
      refine zK O<|zJ O zBs<|zE zAh (A 3 O) O<|qD O el23<|yY O ⟨by omega,by omega⟩<|zZ O (zFb O O O)<|zJ O zNf<|Y 0 sz3 O<|zA<|zK O<|G O<|zQ zQi (A 0 O) O<|zZ O (yJ O el62 zr82 O O O O)<|zS O O (yI 2 O el62 O O O (by simp only [List.length_map,List.length_append,List.length_cons,List.length_nil,List.length_take,List.length_drop];omega) (by simp only [List.length_map,List.length_append,List.length_cons,List.length_nil,List.length_take,List.length_drop];omega)) ?_
      rintro _ _ ⟨sv6,rfl,rfl⟩
      refine G O<|zA<|zK O<|G O<|qA O ⟨by omega,by omega⟩<|G O<|zA ?_
      refine ⟨⟨k+1,sv6⟩,(by omega),(by show n.Bufs.length-(k+1)<n.Bufs.length-k;omega),Weak.mk [false,false,true,true] ⟨zB,zB,zB,T⟩ (by exact yQ (by rw [zEq hb];unfold dU nE;first|(rw [if_pos c6,if_neg (by omega)];rfl)|(rw [if_neg c6,if_pos c7,Int.max_comm];rfl)|(rw [if_neg c6,if_neg c7];rfl)))⟩
     ·try simp only [sx] at c7
      refine zI<|zK O<|G O<|zQ zQi (A 0 O) O<|zZ O (yJ O el62 zr82 O O O O)<|zS O O (yI 2 O el62 O O O (by simp only [List.length_map,List.length_append,List.length_cons,List.length_nil,List.length_take,List.length_drop];omega) (by simp only [List.length_map,List.length_append,List.length_cons,List.length_nil,List.length_take,List.length_drop];omega)) ?_
      rintro _ _ ⟨sv7,rfl,rfl⟩
      refine G O<|zA<|zK O<|G O<|qA O ⟨by omega,by omega⟩<|G O<|zA ?_
      refine ⟨⟨k+1,sv7⟩,(by omega),(by show n.Bufs.length-(k+1)<n.Bufs.length-k;omega),Weak.mk [false,false,true,true] ⟨zB,zB,zB,T⟩ (by exact yQ (by rw [zEq hb];unfold dU nE;first|(rw [if_pos c6,if_neg (by omega)];rfl)|(rw [if_neg c6,if_pos c7,Int.max_comm];rfl)|(rw [if_neg c6,if_neg c7];rfl)))⟩
  ·try simp only [sx] at c2
   refine qK<|zF<|zU _ (yT 0 O (regs':=[(6,_)]) (μ':=[_]) ⟨FLe.sl,T⟩ ⟨EFle.refl _,T⟩)<|zK O<|G O<|G O<|G O<|zA<|zN<|fin2 (D O) (D O) ?_
   rw [ha,qX (l:=n.Bufs) (k:=k) (by omega)];simp only [bL,vLs,List.map_map];rfl
theorem touch_step (y:C) (J:List ByteArray->List E->Prop) (hy:∀(pre:List ByteArray) (t:ByteArray) (μ:List E),J pre μ->FnCon cfg y [vS t] μ fun r μ'=>r=.tup []/\J (pre++[t]) μ') (l:List St) (hl:bE l<=900000) (ih:∀s,s∈l->∀(pre0:List ByteArray) (μ:List E),J pre0 μ->Con cfg 51 [dM s.Body,.c y] μ fun r μ'=>r=.tup []/\J (pre0++lB s.Body) μ') (pre0:List ByteArray) (μ:List E) (h0:J pre0 μ):
    Con cfg 51 [dM l,.c y] μ fun r μ'=>r=.tup []/\J (pre0++lB l) μ':=by
 refine zW Tryz.func51 O Tryz.ntmps51 Tryz.results51 O ?_
 intro z hz
 have hll:=wH l
 refine R O<|G O<|qD O el23<|G O<|zA<|zP<|zU ⟨[(12,.c _),(1,.c _),(10,.c _),(11,.c _)],_⟩ (Weak.regs ⟨zB,zB,zB,zB,T⟩)<|zBm 1 O (Nat×List E) (fun ⟨k,m⟩=>[(12,vI k)]) (fun ⟨k,m⟩=>m) (fun ⟨k,m⟩=>k<=l.length/\(J (pre0++lB (l.take k)) m)) (fun ⟨k,m⟩=>l.length-k) ⟨⟨0,μ⟩,⟨by omega,by simpa [lB] using h0⟩,Weak.regs ⟨zB,zB,zB,zB,T⟩⟩ ?_
 rintro ⟨k,m⟩ ⟨hk,hJ⟩
 refine R O<|yC O<|zA<|zF<|zD O (fun c1=>?_) (fun c1=>?_)
 ·try simp only [sx] at c1
  obtain ⟨s,hs⟩:=qU l k (by omega)
  have hsw:=kC (qE hs)
  have hse:=St.wt_eq s
  have hrl:=thin_len (lC (bQ (bH s.E)))
  have hrs:=sortB_len (bQ (bH s.E))
  have hra:=zGh s.E
  have hrt:(fV s.E).length<=2*s.E.wt:=by unfold fV;omega
  refine zI<|zF<|zP<|R O<|zY O el23 (by omega) (zCc (by assumption))<|zQ zEi zO O<|zS O O (qQ [none,none,none,none,none,some 4,none,none,none,none,none,none,none,none,none,none,some 2,some 4,some 13,some 20] O zr59 O) ?_
  rintro _ _ ⟨b1,rfl,rfl⟩
  refine Y 0 sz59 O<|qT _ (qM 0 O 5 _ PLe.ptr)<|zA<|zF<|R O<|zT O zBr<|zE one3 zO O<|yE O<|G O<|rL0 O (fun g3_3=>qB O zBr O) O<|B 20 O (fun g3_3=>zC O one3 O zO O) O<|B 21 O (fun g3_3=>kH O O O) O<|r_or O (fun h=>(lzf h))<|zA<|zD O (fun c2=>?_) (fun c2=>?_)
  ·have hP0:sN s=[s.Name]:=tch_sto c2
   refine zK O<|G O<|zT O zBq<|zE one9 zO O<|zS O O (zAa O O (hy _ s.Name _ hJ) ⟨zB,O,T⟩) ?_
   rintro _ m1 ⟨rfl,g1⟩
   refine zA<|zF<|R O<|zT O zEz<|zE wI zO O<|qD O el51<|G O<|zA<|zP<|zU ⟨[(31,.c _),(1,.c _),(5,.c _),(10,.c _),(11,.c _),(12,.c _),(29,.c _),(30,.c _)],_⟩ (Weak.regs ⟨zB,zB,zB,zB,zB,zB,zB,zB,T⟩)<|zBm 1 O (Nat×List E) (fun ⟨j,m2⟩=>[(31,vI j)]) (fun ⟨j,m2⟩=>m2) (fun ⟨j,m2⟩=>j<=s.Idx.length/\(J (pre0++lB (l.take k)++sN s++bP (s.Idx.take j)) m2)) (fun ⟨j,m2⟩=>s.Idx.length-j) ⟨⟨0,_⟩,⟨by omega,by rw [hP0];simp only [List.take_zero,bP,List.flatMap_nil,List.append_nil];first|exact g1|exact hJ⟩,Weak.regs ⟨zB,zB,zB,zB,zB,zB,zB,zB,T⟩⟩ ?_
   rintro ⟨j,m2⟩ ⟨hj,hJ2⟩
   refine R O<|yC O<|zA<|zF<|zD O (fun c3=>?_) (fun c3=>?_)
   ·try simp only [sx] at c3
    obtain ⟨i,hi⟩:=qU s.Idx j (by omega)
    refine zI<|zF<|zP<|R O<|zY O el51 (by omega) (v (by assumption))<|zQ zCr zO O<|zS O O (qQ [none,some 2,none,some 2] O zKx O) ?_
    rintro _ _ ⟨b2,rfl,rfl⟩
    exact s6
   ·exact v8
  ·have hP0:sN s=[]:=tch_no c2
   refine zI<|zF<|R O<|zT O zEz<|zE wI zO O<|qD O el51<|G O<|zA<|zP<|zU ⟨[(31,.c _),(1,.c _),(5,.c _),(10,.c _),(11,.c _),(12,.c _),(29,.c _),(30,.c _)],_⟩ (Weak.regs ⟨zB,zB,zB,zB,zB,zB,zB,zB,T⟩)<|zBm 1 O (Nat×List E) (fun ⟨j,m2⟩=>[(31,vI j)]) (fun ⟨j,m2⟩=>m2) (fun ⟨j,m2⟩=>j<=s.Idx.length/\(J (pre0++lB (l.take k)++sN s++bP (s.Idx.take j)) m2)) (fun ⟨j,m2⟩=>s.Idx.length-j) ⟨⟨0,_⟩,⟨by omega,by rw [hP0];simp only [List.take_zero,bP,List.flatMap_nil,List.append_nil];first|exact g1|exact hJ⟩,Weak.regs ⟨zB,zB,zB,zB,zB,zB,zB,zB,T⟩⟩ ?_
   rintro ⟨j,m2⟩ ⟨hj,hJ2⟩
   refine R O<|yC O<|zA<|zF<|zD O (fun c3=>?_) (fun c3=>?_)
   ·try simp only [sx] at c3
    obtain ⟨i,hi⟩:=qU s.Idx j (by omega)
    refine zI<|zF<|zP<|R O<|zY O el51 (by omega) (v (by assumption))<|zQ zCr zO O<|zS O O (qQ [none,some 2,none,some 2] O zKx O) ?_
    rintro _ _ ⟨b3,rfl,rfl⟩
    exact s6
   ·exact v8
 ·try simp only [sx] at c1
  rw [qX (l:=l) (k:=k) (by omega)] at hJ
  refine qK ?_
  repeat (first|refine qZ ?_|refine qV ?_)
  refine yP<|U ?_
  exact ⟨O,hJ⟩
theorem touch_body (y:C) (J:List ByteArray->List E->Prop) (hy:∀(pre:List ByteArray) (t:ByteArray) (μ:List E),J pre μ->FnCon cfg y [vS t] μ fun r μ'=>r=.tup []/\J (pre++[t]) μ') (s:St) (hl:bE s.Body<=900000):∀(pre0:List ByteArray) (μ:List E),J pre0 μ->Con cfg 51 [dM s.Body,.c y] μ fun r μ'=>r=.tup []/\J (pre0++lB s.Body) μ':=by
  induction s using St.ind with
  |_ s ih=>exact fun pre0 μ h0=>touch_step y J hy s.Body hl (fun a ha=>ih a ha (by have:=kC ha;have:=St.body_wt a;omega)) pre0 μ h0
theorem touch_con (y:C) (J:List ByteArray->List E->Prop) (hy:∀(pre:List ByteArray) (t:ByteArray) (μ:List E),J pre μ->FnCon cfg y [vS t] μ fun r μ'=>r=.tup []/\J (pre++[t]) μ') (l:List St) (hl:bE l<=900000) (pre0:List ByteArray) (μ:List E) (h0:J pre0 μ):Con cfg 51 [dM l,.c y] μ fun r μ'=>r=.tup []/\J (pre0++lB l) μ':=
  touch_step y J hy l hl (fun s hs=>touch_body y J hy s (by have:=kC hs;have:=St.body_wt s;omega)) pre0 μ h0
theorem analyze_1 (mb:Nat) (m:SpM) (t:ByteArray) (i:Int):
    Con cfg 52 [vS t,.c (.iptr [.lit (.map (some mb))]),.c (.iptr [cI i])] [E.blk mb (MapR vSp m)] fun r μ'=>r=.tup []/\μ'=[E.blk mb (MapR vSp (lP i m t))]:=by
 refine Con.drop<|zW Tryz.func52 O Tryz.ntmps52 Tryz.results52 O ?_
 intro z hz
 refine R O<|zE one105 zO O<|G O<|zZ O (det_lookup_ok 0 (⟨0,0⟩:Sp) O sm105 O O O (fun _ _=>⟨_,O,.cons (.lit _ O) (.cons (.lit _ O) .nil)⟩))<|zZ O (yA O O)<|zZ O (kB O O O)<|kP O<|zS O O (yZ O zr108) ?_
 rintro _ _ ⟨b1,rfl,rfl⟩
 refine Y 0 sz108 O<|G O<|zA<|zF<|R O<|G O<|wE O<|zA<|zD O (fun c1=>?_) (fun c1=>?_)
 ·try simp only [sx] at c1
  have hsp:=putSp_new (i:=i) c1
  refine zK O<|zE one3 zO O<|zJ O zTt<|Y 0 sz3 O<|zA<|R O<|zE one3 zO O<|zJ O zOw<|Y 0 sz3 O<|zA<|zK O<|zE one105 zO O<|G O<|zQ agg108 (A 0 O) O<|zAo O O (zPa 1 ⟨i,i⟩ O sm105 O O O (zB) O)<|zA ?_
  repeat (first|refine qZ ?_|refine qV ?_)
  refine yP<|U ?_
  exact ⟨O,[_],by rw [←hsp];rfl⟩
 ·try simp only [sx] at c1
  have hsp:=putSp_old (i:=i) c1
  refine zI<|R O<|zE one3 zO O<|zJ O zOw<|Y 0 sz3 O<|zA<|zK O<|zE one105 zO O<|G O<|zQ agg108 (A 0 O) O<|zAo O O (zPa 1 ⟨((fK m t).getD ⟨0,0⟩).From,i⟩ O sm105 O O O (zB) O)<|zA ?_
  repeat (first|refine qZ ?_|refine qV ?_)
  refine yP<|U ?_
  exact ⟨O,[_],by rw [←hsp];rfl⟩
set_option maxRecDepth 100000 in
theorem analyze_touch (s:St) (i:Int) (mb:Nat) (m:SpM) (hs:s.wt<=800000):Con cfg 51 [.c (.sl 20 [s.cs]),.c (.fn (.func 52) [] [.iptr [.lit (.map (some mb))],.iptr [cI i]])] [E.blk mb (MapR vSp m)] fun r μ'=>r=.tup []/\μ'=[E.blk mb (MapR vSp ((pB s).foldl (lP i) m))]:=by
  have h:=touch_con (.fn (.func 52) [] [.iptr [.lit (.map (some mb))],.iptr [cI i]]) (fun pre μ=>μ=[E.blk mb (MapR vSp (pre.foldl (lP i) m))]) (fun pre t μ hJ=>by
    subst hJ
    refine (FnCon.of_con (first:=[]) (cap:=[.iptr [.lit (.map (some mb))],.iptr [cI i]]) ok52 (analyze_1 mb (pre.foldl (lP i) m) t i)).mono ?_
    rintro r μ' ⟨h1,h2⟩
    exact ⟨h1,by rw [h2,List.foldl_append];rfl⟩) [s] (by simp only [bE];omega) [] [E.blk mb (MapR vSp m)] O
  rw [cells_one] at h
  refine h.mono ?_
  rintro r μ' ⟨h1,h2⟩
  exact ⟨h1,by rw [h2,List.nil_append,tchL_one]⟩
theorem zQe (n:Ns) (hn:n.Ok) (hw:bE n.Body<=800000):
    Pur cfg 25 [vNs n] (.tup [vLs (jS n).1,vI (jS n).2]):=by
 refine zW Tryz.func25 O Tryz.ntmps25 Tryz.results25 O ?_
 intro z hz
 have hnb:=hn.bufs
 have hll:=wH n.Body
 refine R O<|zS O O (qP O O) ?_
 rintro _ _ ⟨b1,rfl,rfl⟩
 refine G O<|G O<|zA<|zF<|R O<|zQ zAm (A 0 O) O<|qS O ok50 (zOq n hn) ⟨zB,O,T⟩<|zZ O (yA O O)<|kP O<|kP O<|G O<|G O<|zA<|R O<|G O<|wA O<|zA<|zD O (fun c1=>?_) (fun c1=>?_)
 ·try simp only [sx] at c1
  have ha:=zKh c1
  refine R O<|G O<|zZ O (yO 4 O O)<|G O<|zA<|zN<|fin2 (D O) (D O) ?_
  rw [ha];rfl
 ·try simp only [sx] at c1
  have ha:=zGy c1
  refine zI<|R O<|zS O O (ope_mkmap vSp O O) ?_
  rintro _ _ ⟨b2,rfl,rfl⟩
  refine zS O O (yZ O zr105) ?_
  rintro _ _ ⟨b3,rfl,rfl⟩
  refine Y 0 sz105 O<|qT _ (qM 0 O 6 _ PLe.ptr)<|zA<|zF<|R O<|zJ O zBs<|zE zAh (A 1 O) O<|qD O el23<|G O<|zA<|zP<|zU ⟨[(25,.c _),(1,.c _),(6,.c _),(23,.c _),(24,.c _)],[_,_]⟩ (Weak.mk [true,true] ⟨zB,zB,zB,zB,zB,T⟩ O)<|qF 1 1 O O (Nat) (fun k=>[(25,vI k)]) (fun k=>[E.blk b2 (MapR vSp (jJ [] 0 (n.Body.take k)))]) (fun k=>k<=n.Body.length) (fun k=>n.Body.length-k) ⟨0,(by omega),Weak.mk [true,true] ⟨zB,zB,zB,zB,zB,T⟩ O⟩ ?_
  rintro k hk
  refine R O<|yC O<|zA<|zF<|zD O (fun c2=>?_) (fun c2=>?_)
  ·try simp only [sx] at c2
   obtain ⟨s,hs⟩:=qU n.Body k (by omega)
   refine zI<|zF<|zP<|R O<|G O<|zY O el23 (by omega) (zCc (by assumption))<|zQ zEi zO O<|zS O O (yZ O zr3) ?_
   rintro _ _ ⟨b4,rfl,rfl⟩
   refine zS O O (qQ [none,none,none,none,none,some 4,none,none,none,none,none,none,none,none,none,none,some 2,some 4,some 13,some 20] O zr59 O) ?_
   rintro _ _ ⟨b5,rfl,rfl⟩
   refine Y 1 sz3 O<|qT _ (qM 1 O 7 _ PLe.ptr)<|Y 0 sz59 O<|zA<|zK O<|zQ zEi (A 0 O) O<|zZ O (yJ O el23 zr59 O O O O)<|zZ O (zFr O O O O O)<|zS O O (ope_call_reg 1 O O ok51 (analyze_touch s k _ _ (by have:=kC (qE hs);omega)) ⟨zB,O,zB,O,T⟩) ?_
   rintro _ _ ⟨rfl,rfl⟩
   refine zA<|zK O<|qA O ⟨by omega,by omega⟩<|G O<|zA ?_
   refine ⟨k+1,(by omega),(by omega),Weak.mk [false,true,true] ⟨zB,zB,zB,zB,zB,T⟩ (by show _=[E.blk b2 (MapR vSp (jJ [] 0 (n.Body.take (k+1))))]++_;rw [sp_next hs];rfl)⟩
  ·try simp only [sx] at c2
   rw [qX (l:=n.Body) (k:=k) (by omega)]
   refine qK<|R O<|G O<|qT _ (kZ 82 4)<|zA<|zF<|R O<|zJ O zAn<|zE zDg (A 2 O) O<|qD O el22<|G O<|zA<|zP<|zU ⟨[(38,.c _),(9,.c _),(1,.c _),(6,.c _),(36,.c _),(37,.c _)],[_,_,_]⟩ (Weak.mk [true,true,true] ⟨zB,zB,zB,zB,zB,zB,T⟩ O)<|qF 2 1 O O (Nat×Value) (fun ⟨j,sv⟩=>[(38,vI j),(9,.c (.lit sv))]) (fun ⟨j,sv⟩=>[E.vec sv 82 4 ((n.Bufs.take j).map fun b=>(dU n.Body b).cells)]) (fun ⟨j,sv⟩=>j<=n.Bufs.length) (fun ⟨j,sv⟩=>n.Bufs.length-j) ⟨⟨0,(.slice none 0 0)⟩,(by omega),Weak.mk [true,true,true] ⟨zB,zB,zB,zB,zB,zB,T⟩ O⟩ ?_
   rintro ⟨j,sv⟩ hj
   show AWP _ _ _ _ _ ⟨[(38,vI j),(9,.c (.lit sv))]++_,[E.vec sv 82 4 ((n.Bufs.take j).map fun b=>(dU n.Body b).cells)]++_⟩
   refine R O<|yC O<|zA<|zF<|zD O (fun c3=>?_) (fun c3=>?_)
   ·try simp only [sx] at c3
    obtain ⟨b,hb⟩:=qU n.Bufs j (by omega)
    refine zI<|zF<|zP<|R O<|zY O el22 (by omega) (v (by assumption))<|zQ zIm zO O<|zS O O (qQ [none,none,none,none,none,none,some 1,none] O zr69 O) ?_
    rintro _ _ ⟨b7,rfl,rfl⟩
    refine Y 0 sz69 O<|zA<|R O<|zE one105 zO O<|zJ O zEc<|zE one9 (A 0 O) O<|zZ O (det_lookup 2 (⟨0,0⟩:Sp) O sm105 O O O (fun _ _=>⟨_,O,.cons (.lit _ O) (.cons (.lit _ O) .nil)⟩))<|zS O O (yZ O zr108) ?_
    rintro _ _ ⟨b8,rfl,rfl⟩
    refine Y 0 sz108 O<|zA<|zF<|R O<|zJ O zIb<|zE one3 (A 1 O) O<|zA<|zP<|R O<|yE O<|G O<|zA<|zD O (fun c4=>?_) (fun c4=>?_)
    ·try simp only [sx] at c4
     refine zK O<|zJ O zTt<|Y 0 sz3 O<|zA<|qW 12 mixed (by kernel_rfl) O O<|zL O O (zM O O)<|zL O O (zH O zEc O)<|zL O O (zC O one9 O (A 1 O) O)<|zL O O (zH O zTt O)<|zL O O (zC O one3 O (A 0 O) O)<|zL O O (zH O zOw O)<|zL O O (zC O one3 O (A 0 O) O)<|zL O O (zH O zCn O)<|zL O O (zC O zCy O (A 1 O) O)<|zL O O (qR O ok53 (zOe b.Dims (hn.dims b (qE hb))) ⟨zB,O,T⟩)<|zL O O (kU O zr82 pl82 O)<|zL O O (yJ O el62 zr82 O O O O)<|yM<|zS O O (yI 2 O el62 O O O (by simp only [List.length_map,List.length_append,List.length_cons,List.length_nil,List.length_take,List.length_drop];omega) (by simp only [List.length_map,List.length_append,List.length_cons,List.length_nil,List.length_take,List.length_drop];omega)) ?_
     rintro _ _ ⟨sv9,rfl,rfl⟩
     refine G O<|zA<|zK O<|qA O ⟨by omega,by omega⟩<|G O<|zA ?_
     refine ⟨⟨j+1,sv9⟩,(by omega),(by show n.Bufs.length-(j+1)<n.Bufs.length-j;omega),Weak.mk [false,false,true,true,true] ⟨zB,zB,zB,zB,zB,zB,T⟩ (by exact yQ (by rw [zEq hb];unfold dU;rw [←span_get];first|(rw [if_pos c4,if_neg (by omega)];rfl)|(rw [if_neg c4,if_pos c5];rfl)|(rw [if_neg c4,if_neg c5];rfl)))⟩
    ·try simp only [sx] at c4
     refine R O<|yE O<|G O<|zA<|zD O (fun c5=>?_) (fun c5=>?_)
     ·try simp only [sx] at c5
      refine zK O<|zJ O zBs<|zE zAh (A 4 O) O<|qD O el23<|yY O ⟨by omega,by omega⟩<|zZ O (zFb O O O)<|zJ O zOw<|Y 0 sz3 O<|zA<|qW 12 mixed (by kernel_rfl) O O<|zL O O (zM O O)<|zL O O (zH O zEc O)<|zL O O (zC O one9 O (A 1 O) O)<|zL O O (zH O zTt O)<|zL O O (zC O one3 O (A 0 O) O)<|zL O O (zH O zOw O)<|zL O O (zC O one3 O (A 0 O) O)<|zL O O (zH O zCn O)<|zL O O (zC O zCy O (A 1 O) O)<|zL O O (qR O ok53 (zOe b.Dims (hn.dims b (qE hb))) ⟨zB,O,T⟩)<|zL O O (kU O zr82 pl82 O)<|zL O O (yJ O el62 zr82 O O O O)<|yM<|zS O O (yI 2 O el62 O O O (by simp only [List.length_map,List.length_append,List.length_cons,List.length_nil,List.length_take,List.length_drop];omega) (by simp only [List.length_map,List.length_append,List.length_cons,List.length_nil,List.length_take,List.length_drop];omega)) ?_
      rintro _ _ ⟨sv10,rfl,rfl⟩
      refine G O<|zA<|zK O<|qA O ⟨by omega,by omega⟩<|G O<|zA ?_
      refine ⟨⟨j+1,sv10⟩,(by omega),(by show n.Bufs.length-(j+1)<n.Bufs.length-j;omega),Weak.mk [false,false,true,true,true] ⟨zB,zB,zB,zB,zB,zB,T⟩ (by exact yQ (by rw [zEq hb];unfold dU;rw [←span_get];first|(rw [if_pos c4,if_neg (by omega)];rfl)|(rw [if_neg c4,if_pos c5];rfl)|(rw [if_neg c4,if_neg c5];rfl)))⟩
     ·try simp only [sx] at c5
      refine zI<|qW 12 mixed (by kernel_rfl) O O<|zL O O (zM O O)<|zL O O (zH O zEc O)<|zL O O (zC O one9 O (A 1 O) O)<|zL O O (zH O zTt O)<|zL O O (zC O one3 O (A 0 O) O)<|zL O O (zH O zOw O)<|zL O O (zC O one3 O (A 0 O) O)<|zL O O (zH O zCn O)<|zL O O (zC O zCy O (A 1 O) O)<|zL O O (qR O ok53 (zOe b.Dims (hn.dims b (qE hb))) ⟨zB,O,T⟩)<|zL O O (kU O zr82 pl82 O)<|zL O O (yJ O el62 zr82 O O O O)<|yM<|zS O O (yI 2 O el62 O O O (by simp only [List.length_map,List.length_append,List.length_cons,List.length_nil,List.length_take,List.length_drop];omega) (by simp only [List.length_map,List.length_append,List.length_cons,List.length_nil,List.length_take,List.length_drop];omega)) ?_
      rintro _ _ ⟨sv11,rfl,rfl⟩
      refine G O<|zA<|zK O<|qA O ⟨by omega,by omega⟩<|G O<|zA ?_
      refine ⟨⟨j+1,sv11⟩,(by omega),(by show n.Bufs.length-(j+1)<n.Bufs.length-j;omega),Weak.mk [false,false,true,true,true] ⟨zB,zB,zB,zB,zB,zB,T⟩ (by exact yQ (by rw [zEq hb];unfold dU;rw [←span_get];first|(rw [if_pos c4,if_neg (by omega)];rfl)|(rw [if_neg c4,if_pos c5];rfl)|(rw [if_neg c4,if_neg c5];rfl)))⟩
   ·try simp only [sx] at c3
    refine qK<|zF<|zU _ (yT 0 O (regs':=[(9,_)]) (μ':=[_,_]) ⟨FLe.sl,T⟩ ⟨EFle.refl _,EFle.refl _,T⟩)<|zK O<|G O<|G O<|G O<|zA<|zN<|fin2 (D O) (D O) ?_
    rw [ha,qX (l:=n.Bufs) (k:=j) (by omega)];simp only [bL,vLs,List.map_map];rfl
end Go.W
