/-
  Walks: what functions of the program compute. Printed by wip/gen/mk2.py.
  Conditions: none.
-/
import Derived.Test.YtdldhbfgfkebjaaGreatDoorND
set_option linter.unusedSimpArgs false
set_option linter.unusedVariables false
set_option maxRecDepth 10000
namespace Go.W
open Go Go.Eng Go.Proofs Go.L41 Go.Br
attribute [local irreducible] AWP RWP TD finQ
theorem agg108:aggT Tryz.prog 108=some 2:=by kernel_rfl
theorem zOk:fieldT Tryz.prog 108 0=some (0,3):=by kernel_rfl
theorem zKn:fieldT Tryz.prog 108 1=some (1,3):=by kernel_rfl
theorem ok50:callOk Tryz.prog 50=true:=by kernel_rfl
theorem ok51:callOk Tryz.prog 51=true:=by kernel_rfl
theorem ok52:callOk Tryz.prog 52=true:=by kernel_rfl
theorem ok53:callOk Tryz.prog 53=true:=by kernel_rfl
theorem ok102:callOk Tryz.prog 102=true:=by kernel_rfl
theorem one105:oneT Tryz.prog 105=true:=by kernel_rfl
theorem pl82:placesT Tryz.prog 82=some [(0,1),(1,1),(2,1),(3,1)]:=by kernel_rfl
theorem sm105:smapT Tryz.prog 105=some (Value.agg #[(Value.int IntKind.i64 0),(Value.int IntKind.i64 0)]):=by kernel_rfl
theorem sz105:(Tryz.prog.info? 105).map (·.size)=some 1:=by kernel_rfl
theorem sz108:(Tryz.prog.info? 108).map (·.size)=some 2:=by kernel_rfl
theorem zr105:zeroT Tryz.prog 105=some [(Value.map none)]:=by kernel_rfl
theorem zr108:zeroT Tryz.prog 108=some [(Value.int IntKind.i64 0),(Value.int IntKind.i64 0)]:=by kernel_rfl
theorem touch_step (y:C) (J:List ByteArray->List E->Prop) (hy:∀(pre:List ByteArray) (t:ByteArray) (μ:List E),J pre μ->FnCon cfg y [vS t] μ fun r μ'=>r=.tup []/\J (pre++[t]) μ') (l:List St) (hl:stsWt l<=900000) (ih:∀s,s∈l->∀(pre0:List ByteArray) (μ:List E),J pre0 μ->Con cfg 51 [vSts s.Body,.c y] μ fun r μ'=>r=.tup []/\J (pre0++tchL s.Body) μ') (pre0:List ByteArray) (μ:List E) (h0:J pre0 μ):
    Con cfg 51 [vSts l,.c y] μ fun r μ'=>r=.tup []/\J (pre0++tchL l) μ':=by
 refine zW Tryz.func51 O Tryz.ntmps51 Tryz.results51 O ?_
 intro z hz
 have hll:=wT l
 refine R O<|G O<|qH O el23<|G O<|zA<|zQ<|zS ⟨[(12,.c _),(1,.c _),(10,.c _),(11,.c _)],_⟩ (Weak.regs ⟨zB,zB,zB,zB,T⟩)<|zAg 1 O (Nat×List E) (fun ⟨k,m⟩=>[(12,vI k)]) (fun ⟨k,m⟩=>m) (fun ⟨k,m⟩=>k<=l.length/\(J (pre0++tchL (l.take k)) m)) (fun ⟨k,m⟩=>l.length-k) ⟨⟨0,μ⟩,⟨by omega,by simpa [tchL] using h0⟩,Weak.regs ⟨zB,zB,zB,zB,T⟩⟩ ?_
 rintro ⟨k,m⟩ ⟨hk,hJ⟩
 refine R O<|yE O<|zA<|zF<|zC O (fun c1=>?_) (fun c1=>?_)
 ·try simp only [sx] at c1
  obtain ⟨s,hs⟩:=qX l k (by omega)
  have hsw:=kY (qB hs)
  have hse:=St.wt_eq s
  have hrl:=thin_len (sortB (readsA (nodes s.E)))
  have hrs:=sortB_len (readsA (nodes s.E))
  have hra:=zKe s.E
  have hrt:(readsT s.E).length<=2*s.E.wt:=by unfold readsT;omega
  refine zH<|zF<|zQ<|R O<|qI O el23 (by omega) (zLv (by assumption))<|zP zHc Y O<|zU O O (qR [none,none,none,none,none,some 4,none,none,none,none,none,none,none,none,none,none,some 2,some 4,some 13,some 20] O zr59 O) ?_
  rintro _ _ ⟨b1,rfl,rfl⟩
  refine D 0 sz59 O<|qS _ (qK 0 O 5 _ PLe.ptr)<|zA<|zF<|R O<|zZ O zEz<|zL one3 Y O<|yO O<|G O<|rL0 O (fun g3_3=>qA O zEz O) O<|B 20 O (fun g3_3=>zD O one3 O Y O) O<|B 21 O (fun g3_3=>kJ O O O) O<|v O (kK O O O O (fun h=>(lzf h)))<|zA<|zC O (fun c2=>?_) (fun c2=>?_)
  ·have hP0:tchP s=[s.Name]:=tch_sto c2
   refine zI O<|G O<|zZ O zGa<|zL one9 Y O<|zU O O (wD O O (hy _ s.Name _ hJ) ⟨zB,O,T⟩) ?_
   rintro _ m1 ⟨rfl,g1⟩
   refine zA<|zF<|R O<|zZ O zOf<|zL zCa Y O<|qH O el51<|G O<|zA<|zQ<|zS ⟨[(31,.c _),(1,.c _),(5,.c _),(10,.c _),(11,.c _),(12,.c _),(29,.c _),(30,.c _)],_⟩ (Weak.regs ⟨zB,zB,zB,zB,zB,zB,zB,zB,T⟩)<|zAg 1 O (Nat×List E) (fun ⟨j,m2⟩=>[(31,vI j)]) (fun ⟨j,m2⟩=>m2) (fun ⟨j,m2⟩=>j<=s.Idx.length/\(J (pre0++tchL (l.take k)++tchP s++readsI (s.Idx.take j)) m2)) (fun ⟨j,m2⟩=>s.Idx.length-j) ⟨⟨0,_⟩,⟨by omega,by rw [hP0];simp only [List.take_zero,readsI,List.flatMap_nil,List.append_nil];first|exact g1|exact hJ⟩,Weak.regs ⟨zB,zB,zB,zB,zB,zB,zB,zB,T⟩⟩ ?_
   rintro ⟨j,m2⟩ ⟨hj,hJ2⟩
   refine R O<|yE O<|zA<|zF<|zC O (fun c3=>?_) (fun c3=>?_)
   ·try simp only [sx] at c3
    obtain ⟨i,hi⟩:=qX s.Idx j (by omega)
    refine zH<|zF<|zQ<|R O<|qI O el51 (by omega) (getm (by assumption))<|zP zCo Y O<|zU O O (qR [none,some 2,none,some 2] O zMo O) ?_
    rintro _ _ ⟨b2,rfl,rfl⟩
    refine D 0 zMx O<|qS _ (qK 0 O 7 _ PLe.ptr)<|zA<|R O<|zZ O zAs<|zL one9 Y O<|v O (zCf O O O)<|zA<|zC O (fun c4=>?_) (fun c4=>?_)
    ·try simp only [sx] at c4
     refine zI O<|G O<|zZ O zAs<|zL one9 Y O<|zU O O (wD O O (hy _ i.From _ hJ2) ⟨zB,O,T⟩) ?_
     rintro _ m3 ⟨rfl,g3⟩
     refine zA<|zI O<|qD O ⟨by omega,by omega⟩<|G O<|zA ?_
     refine ⟨⟨j+1,_⟩,⟨by omega,by rw [zAp hi,←List.append_assoc,fromX];first|(rw [if_neg c4];exact g3)|(rw [if_pos c4,List.append_nil];exact hJ2)⟩,(by show s.Idx.length-(j+1)<s.Idx.length-j;omega),Weak.regs ⟨zB,zB,zB,zB,zB,zB,zB,zB,T⟩⟩
    ·try simp only [sx] at c4
     refine zH<|zI O<|qD O ⟨by omega,by omega⟩<|G O<|zA ?_
     refine ⟨⟨j+1,_⟩,⟨by omega,by rw [zAp hi,←List.append_assoc,fromX];first|(rw [if_neg c4];exact g3)|(rw [if_pos c4,List.append_nil];exact hJ2)⟩,(by show s.Idx.length-(j+1)<s.Idx.length-j;omega),Weak.regs ⟨zB,zB,zB,zB,zB,zB,zB,zB,T⟩⟩
   ·try simp only [sx] at c3
    rw [yI (l:=s.Idx) (k:=j) (by omega)] at hJ2
    refine qL<|zF<|R O<|zZ O zEy<|zP kC Y O<|qW O ok102 (OwnR.pur (expr_Reads s.E (by have:=kY (qB hs);have:=St.wt_eq s;omega))) ⟨zB,O,T⟩<|qH O el78<|G O<|zA<|zQ<|zS ⟨[(47,.c _),(1,.c _),(5,.c _),(10,.c _),(11,.c _),(12,.c _),(45,.c _),(46,.c _)],_⟩ (Weak.regs ⟨zB,zB,zB,zB,zB,zB,zB,zB,T⟩)<|zAg 1 O (Nat×List E) (fun ⟨i,m4⟩=>[(47,vI i)]) (fun ⟨i,m4⟩=>m4) (fun ⟨i,m4⟩=>i<=(readsT s.E).length/\(J (pre0++tchL (l.take k)++tchP s++readsI s.Idx++(readsT s.E).take i) m4)) (fun ⟨i,m4⟩=>(readsT s.E).length-i) ⟨⟨0,m2⟩,⟨by omega,by simpa using hJ2⟩,Weak.regs ⟨zB,zB,zB,zB,zB,zB,zB,zB,T⟩⟩ ?_
    rintro ⟨i,m4⟩ ⟨hi3,hJ3⟩
    refine R O<|yE O<|zA<|zF<|zC O (fun c5=>?_) (fun c5=>?_)
    ·try simp only [sx] at c5
     obtain ⟨t,ht⟩:=qX (readsT s.E) i (by omega)
     refine zH<|zF<|zQ<|R O<|qI O el78 (by omega) (getm ht)<|zL one9 Y O<|G O<|zA<|zI O<|G O<|G O<|zU O O (wD O O (hy _ t _ hJ3) ⟨zB,O,T⟩) ?_
     rintro _ m5 ⟨rfl,g5⟩
     refine zA<|zI O<|qD O ⟨by omega,by omega⟩<|G O<|zA ?_
     refine ⟨⟨i+1,m5⟩,⟨by omega,by rw [yG ht,←List.append_assoc];exact g5⟩,(by show (readsT s.E).length-(i+1)<(readsT s.E).length-i;omega),Weak.regs ⟨zB,zB,zB,zB,zB,zB,zB,zB,T⟩⟩
    ·try simp only [sx] at c5
     rw [yI (l:=readsT s.E) (k:=i) (by omega)] at hJ3
     refine qL<|zI O<|zZ O zDx<|zL zDa Y O<|G O<|zU O O (zAv O ok51 (ih s (qB hs) _ _ hJ3) ⟨zB,O,zB,O,T⟩) ?_
     rintro _ m6 ⟨rfl,g6⟩
     refine zA<|zI O<|qD O ⟨by omega,by omega⟩<|G O<|zA ?_
     refine ⟨⟨k+1,m6⟩,⟨by omega,by rw [tchL_next hs,←List.append_assoc,←tch_end];exact g6⟩,(by show l.length-(k+1)<l.length-k;omega),Weak.regs ⟨zB,zB,zB,zB,T⟩⟩
  ·have hP0:tchP s=[]:=tch_no c2
   refine zH<|zF<|R O<|zZ O zOf<|zL zCa Y O<|qH O el51<|G O<|zA<|zQ<|zS ⟨[(31,.c _),(1,.c _),(5,.c _),(10,.c _),(11,.c _),(12,.c _),(29,.c _),(30,.c _)],_⟩ (Weak.regs ⟨zB,zB,zB,zB,zB,zB,zB,zB,T⟩)<|zAg 1 O (Nat×List E) (fun ⟨j,m2⟩=>[(31,vI j)]) (fun ⟨j,m2⟩=>m2) (fun ⟨j,m2⟩=>j<=s.Idx.length/\(J (pre0++tchL (l.take k)++tchP s++readsI (s.Idx.take j)) m2)) (fun ⟨j,m2⟩=>s.Idx.length-j) ⟨⟨0,_⟩,⟨by omega,by rw [hP0];simp only [List.take_zero,readsI,List.flatMap_nil,List.append_nil];first|exact g1|exact hJ⟩,Weak.regs ⟨zB,zB,zB,zB,zB,zB,zB,zB,T⟩⟩ ?_
   rintro ⟨j,m2⟩ ⟨hj,hJ2⟩
   refine R O<|yE O<|zA<|zF<|zC O (fun c3=>?_) (fun c3=>?_)
   ·try simp only [sx] at c3
    obtain ⟨i,hi⟩:=qX s.Idx j (by omega)
    refine zH<|zF<|zQ<|R O<|qI O el51 (by omega) (getm (by assumption))<|zP zCo Y O<|zU O O (qR [none,some 2,none,some 2] O zMo O) ?_
    rintro _ _ ⟨b3,rfl,rfl⟩
    refine D 0 zMx O<|qS _ (qK 0 O 7 _ PLe.ptr)<|zA<|R O<|zZ O zAs<|zL one9 Y O<|v O (zCf O O O)<|zA<|zC O (fun c4=>?_) (fun c4=>?_)
    ·try simp only [sx] at c4
     refine zI O<|G O<|zZ O zAs<|zL one9 Y O<|zU O O (wD O O (hy _ i.From _ hJ2) ⟨zB,O,T⟩) ?_
     rintro _ m3 ⟨rfl,g3⟩
     refine zA<|zI O<|qD O ⟨by omega,by omega⟩<|G O<|zA ?_
     refine ⟨⟨j+1,_⟩,⟨by omega,by rw [zAp hi,←List.append_assoc,fromX];first|(rw [if_neg c4];exact g3)|(rw [if_pos c4,List.append_nil];exact hJ2)⟩,(by show s.Idx.length-(j+1)<s.Idx.length-j;omega),Weak.regs ⟨zB,zB,zB,zB,zB,zB,zB,zB,T⟩⟩
    ·try simp only [sx] at c4
     refine zH<|zI O<|qD O ⟨by omega,by omega⟩<|G O<|zA ?_
     refine ⟨⟨j+1,_⟩,⟨by omega,by rw [zAp hi,←List.append_assoc,fromX];first|(rw [if_neg c4];exact g3)|(rw [if_pos c4,List.append_nil];exact hJ2)⟩,(by show s.Idx.length-(j+1)<s.Idx.length-j;omega),Weak.regs ⟨zB,zB,zB,zB,zB,zB,zB,zB,T⟩⟩
   ·try simp only [sx] at c3
    rw [yI (l:=s.Idx) (k:=j) (by omega)] at hJ2
    refine qL<|zF<|R O<|zZ O zEy<|zP kC Y O<|qW O ok102 (OwnR.pur (expr_Reads s.E (by have:=kY (qB hs);have:=St.wt_eq s;omega))) ⟨zB,O,T⟩<|qH O el78<|G O<|zA<|zQ<|zS ⟨[(47,.c _),(1,.c _),(5,.c _),(10,.c _),(11,.c _),(12,.c _),(45,.c _),(46,.c _)],_⟩ (Weak.regs ⟨zB,zB,zB,zB,zB,zB,zB,zB,T⟩)<|zAg 1 O (Nat×List E) (fun ⟨i,m4⟩=>[(47,vI i)]) (fun ⟨i,m4⟩=>m4) (fun ⟨i,m4⟩=>i<=(readsT s.E).length/\(J (pre0++tchL (l.take k)++tchP s++readsI s.Idx++(readsT s.E).take i) m4)) (fun ⟨i,m4⟩=>(readsT s.E).length-i) ⟨⟨0,m2⟩,⟨by omega,by simpa using hJ2⟩,Weak.regs ⟨zB,zB,zB,zB,zB,zB,zB,zB,T⟩⟩ ?_
    rintro ⟨i,m4⟩ ⟨hi3,hJ3⟩
    refine R O<|yE O<|zA<|zF<|zC O (fun c5=>?_) (fun c5=>?_)
    ·try simp only [sx] at c5
     obtain ⟨t,ht⟩:=qX (readsT s.E) i (by omega)
     refine zH<|zF<|zQ<|R O<|qI O el78 (by omega) (getm ht)<|zL one9 Y O<|G O<|zA<|zI O<|G O<|G O<|zU O O (wD O O (hy _ t _ hJ3) ⟨zB,O,T⟩) ?_
     rintro _ m5 ⟨rfl,g5⟩
     refine zA<|zI O<|qD O ⟨by omega,by omega⟩<|G O<|zA ?_
     refine ⟨⟨i+1,m5⟩,⟨by omega,by rw [yG ht,←List.append_assoc];exact g5⟩,(by show (readsT s.E).length-(i+1)<(readsT s.E).length-i;omega),Weak.regs ⟨zB,zB,zB,zB,zB,zB,zB,zB,T⟩⟩
    ·try simp only [sx] at c5
     rw [yI (l:=readsT s.E) (k:=i) (by omega)] at hJ3
     refine qL<|zI O<|zZ O zDx<|zL zDa Y O<|G O<|zU O O (zAv O ok51 (ih s (qB hs) _ _ hJ3) ⟨zB,O,zB,O,T⟩) ?_
     rintro _ m6 ⟨rfl,g6⟩
     refine zA<|zI O<|qD O ⟨by omega,by omega⟩<|G O<|zA ?_
     refine ⟨⟨k+1,m6⟩,⟨by omega,by rw [tchL_next hs,←List.append_assoc,←tch_end];exact g6⟩,(by show l.length-(k+1)<l.length-k;omega),Weak.regs ⟨zB,zB,zB,zB,T⟩⟩
 ·try simp only [sx] at c1
  rw [yI (l:=l) (k:=k) (by omega)] at hJ
  refine qL ?_
  repeat (first|refine qO ?_|refine qN ?_)
  refine yC<|U ?_
  exact ⟨O,hJ⟩
theorem touch_body (y:C) (J:List ByteArray->List E->Prop) (hy:∀(pre:List ByteArray) (t:ByteArray) (μ:List E),J pre μ->FnCon cfg y [vS t] μ fun r μ'=>r=.tup []/\J (pre++[t]) μ') (s:St) (hl:stsWt s.Body<=900000):∀(pre0:List ByteArray) (μ:List E),J pre0 μ->Con cfg 51 [vSts s.Body,.c y] μ fun r μ'=>r=.tup []/\J (pre0++tchL s.Body) μ':=by
  induction s using St.ind with
  |_ s ih=>exact fun pre0 μ h0=>touch_step y J hy s.Body hl (fun a ha=>ih a ha (by have:=kY ha;have:=St.body_wt a;omega)) pre0 μ h0
theorem touch_con (y:C) (J:List ByteArray->List E->Prop) (hy:∀(pre:List ByteArray) (t:ByteArray) (μ:List E),J pre μ->FnCon cfg y [vS t] μ fun r μ'=>r=.tup []/\J (pre++[t]) μ') (l:List St) (hl:stsWt l<=900000) (pre0:List ByteArray) (μ:List E) (h0:J pre0 μ):Con cfg 51 [vSts l,.c y] μ fun r μ'=>r=.tup []/\J (pre0++tchL l) μ':=
  touch_step y J hy l hl (fun s hs=>touch_body y J hy s (by have:=kY hs;have:=St.body_wt s;omega)) pre0 μ h0
theorem analyze_1 (mb:Nat) (m:SpM) (t:ByteArray) (i:Int):
    Con cfg 52 [vS t,.c (.iptr [.lit (.map (some mb))]),.c (.iptr [cI i])] [E.blk mb (MapR vSp m)] fun r μ'=>r=.tup []/\μ'=[E.blk mb (MapR vSp (putSp i m t))]:=by
 refine Con.drop<|zW Tryz.func52 O Tryz.ntmps52 Tryz.results52 O ?_
 intro z hz
 refine R O<|zL one105 Y O<|G O<|v O (det_lookup_ok 0 (⟨0,0⟩:Sp) O sm105 O O O (fun _ _=>⟨_,O,.cons (.lit _ O) (.cons (.lit _ O) .nil)⟩))<|v O (yW O O)<|v O (kV O O O)<|v O (kO O O O)<|zU O O (yX O zr108) ?_
 rintro _ _ ⟨b1,rfl,rfl⟩
 refine D 0 sz108 O<|G O<|zA<|zF<|R O<|G O<|wK O<|zA<|zC O (fun c1=>?_) (fun c1=>?_)
 ·try simp only [sx] at c1
  have hsp:=putSp_new (i:=i) c1
  refine zI O<|zL one3 Y O<|zN O zOk<|D 0 sz3 O<|zA<|R O<|zL one3 Y O<|zN O zKn<|D 0 sz3 O<|zA<|zI O<|zL one105 Y O<|G O<|zP agg108 (A 0 O) O<|zAd O O (zKq 1 ⟨i,i⟩ O sm105 O O O (zB) O)<|zA ?_
  repeat (first|refine qO ?_|refine qN ?_)
  refine yC<|U ?_
  exact ⟨O,[_],by rw [←hsp];rfl⟩
 ·try simp only [sx] at c1
  have hsp:=putSp_old (i:=i) c1
  refine zH<|R O<|zL one3 Y O<|zN O zKn<|D 0 sz3 O<|zA<|zI O<|zL one105 Y O<|G O<|zP agg108 (A 0 O) O<|zAd O O (zKq 1 ⟨((mget m t).getD ⟨0,0⟩).From,i⟩ O sm105 O O O (zB) O)<|zA ?_
  repeat (first|refine qO ?_|refine qN ?_)
  refine yC<|U ?_
  exact ⟨O,[_],by rw [←hsp];rfl⟩
set_option maxRecDepth 100000 in
theorem analyze_touch (s:St) (i:Int) (mb:Nat) (m:SpM) (hs:s.wt<=800000):Con cfg 51 [.c (.sl 20 [s.cs]),.c (.fn (.func 52) [] [.iptr [.lit (.map (some mb))],.iptr [cI i]])] [E.blk mb (MapR vSp m)] fun r μ'=>r=.tup []/\μ'=[E.blk mb (MapR vSp ((tchS s).foldl (putSp i) m))]:=by
  have h:=touch_con (.fn (.func 52) [] [.iptr [.lit (.map (some mb))],.iptr [cI i]]) (fun pre μ=>μ=[E.blk mb (MapR vSp (pre.foldl (putSp i) m))]) (fun pre t μ hJ=>by
    subst hJ
    refine (FnCon.of_con (first:=[]) (cap:=[.iptr [.lit (.map (some mb))],.iptr [cI i]]) ok52 (analyze_1 mb (pre.foldl (putSp i) m) t i)).mono ?_
    rintro r μ' ⟨h1,h2⟩
    exact ⟨h1,by rw [h2,List.foldl_append];rfl⟩) [s] (by simp only [stsWt];omega) [] [E.blk mb (MapR vSp m)] O
  rw [cells_one] at h
  refine h.mono ?_
  rintro r μ' ⟨h1,h2⟩
  exact ⟨h1,by rw [h2,List.nil_append,tchL_one]⟩
theorem zLt (n:Ns) (hn:n.Ok) (hw:stsWt n.Body<=800000):
    Pur cfg 25 [vNs n] (.tup [vLs (analyzeT n).1,vI (analyzeT n).2]):=by
 refine zW Tryz.func25 O Tryz.ntmps25 Tryz.results25 O ?_
 intro z hz
 have hnb:=hn.bufs
 have hll:=wT n.Body
 refine R O<|zU O O (qT O O) ?_
 rintro _ _ ⟨b1,rfl,rfl⟩
 refine G O<|G O<|zA<|zF<|R O<|zP zFj (A 0 O) O<|qW O ok50 (zKg n hn) ⟨zB,O,T⟩<|v O (yW O O)<|v O (kO O O O)<|v O (kO O O O)<|G O<|G O<|zA<|R O<|G O<|wL O<|zA<|zC O (fun c1=>?_) (fun c1=>?_)
 ·try simp only [sx] at c1
  have ha:=zLc c1
  refine R O<|G O<|v O (kP 4 O O)<|G O<|zA<|zM<|fin2 (L O) (L O) ?_
  rw [ha];rfl
 ·try simp only [sx] at c1
  have ha:=zLb c1
  refine zH<|R O<|zU O O (ope_mkmap vSp O O) ?_
  rintro _ _ ⟨b2,rfl,rfl⟩
  refine zU O O (yX O zr105) ?_
  rintro _ _ ⟨b3,rfl,rfl⟩
  refine D 0 sz105 O<|qS _ (qK 0 O 6 _ PLe.ptr)<|zA<|zF<|R O<|zN O zJh<|zL zDa (A 1 O) O<|qH O el23<|G O<|zA<|zQ<|zS ⟨[(25,.c _),(1,.c _),(6,.c _),(23,.c _),(24,.c _)],[_,_]⟩ (Weak.mk [true,true] ⟨zB,zB,zB,zB,zB,T⟩ O)<|qJ 1 1 O O (Nat) (fun k=>[(25,vI k)]) (fun k=>[E.blk b2 (MapR vSp (spFrom [] 0 (n.Body.take k)))]) (fun k=>k<=n.Body.length) (fun k=>n.Body.length-k) ⟨0,(by omega),Weak.mk [true,true] ⟨zB,zB,zB,zB,zB,T⟩ O⟩ ?_
  rintro k hk
  refine R O<|yE O<|zA<|zF<|zC O (fun c2=>?_) (fun c2=>?_)
  ·try simp only [sx] at c2
   obtain ⟨s,hs⟩:=qX n.Body k (by omega)
   refine zH<|zF<|zQ<|R O<|G O<|qI O el23 (by omega) (zLv (by assumption))<|zP zHc Y O<|zU O O (yX O zr3) ?_
   rintro _ _ ⟨b4,rfl,rfl⟩
   refine zU O O (qR [none,none,none,none,none,some 4,none,none,none,none,none,none,none,none,none,none,some 2,some 4,some 13,some 20] O zr59 O) ?_
   rintro _ _ ⟨b5,rfl,rfl⟩
   refine D 1 sz3 O<|qS _ (qK 1 O 7 _ PLe.ptr)<|D 0 sz59 O<|zA<|zI O<|zP zHc (A 0 O) O<|v O (kF O el23 zr59 O O O O)<|v O (zDk O O O O O)<|zU O O (ope_call_reg 1 O O ok51 (analyze_touch s k _ _ (by have:=kY (qB hs);omega)) ⟨zB,O,zB,O,T⟩) ?_
   rintro _ _ ⟨rfl,rfl⟩
   refine zA<|zI O<|qD O ⟨by omega,by omega⟩<|G O<|zA ?_
   refine ⟨k+1,(by omega),(by omega),Weak.mk [false,true,true] ⟨zB,zB,zB,zB,zB,T⟩ (by show _=[E.blk b2 (MapR vSp (spFrom [] 0 (n.Body.take (k+1))))]++_;rw [sp_next hs];rfl)⟩
  ·try simp only [sx] at c2
   rw [yI (l:=n.Body) (k:=k) (by omega)]
   refine qL<|R O<|G O<|qS _ (zAm 82 4)<|zA<|zF<|R O<|zN O zFb<|zL zLr (A 2 O) O<|qH O el22<|G O<|zA<|zQ<|zS ⟨[(38,.c _),(9,.c _),(1,.c _),(6,.c _),(36,.c _),(37,.c _)],[_,_,_]⟩ (Weak.mk [true,true,true] ⟨zB,zB,zB,zB,zB,zB,T⟩ O)<|qJ 2 1 O O (Nat×Value) (fun ⟨j,sv⟩=>[(38,vI j),(9,.c (.lit sv))]) (fun ⟨j,sv⟩=>[E.vec sv 82 4 ((n.Bufs.take j).map fun b=>(lifeOf n.Body b).cells)]) (fun ⟨j,sv⟩=>j<=n.Bufs.length) (fun ⟨j,sv⟩=>n.Bufs.length-j) ⟨⟨0,(.slice none 0 0)⟩,(by omega),Weak.mk [true,true,true] ⟨zB,zB,zB,zB,zB,zB,T⟩ O⟩ ?_
   rintro ⟨j,sv⟩ hj
   show AWP _ _ _ _ _ ⟨[(38,vI j),(9,.c (.lit sv))]++_,[E.vec sv 82 4 ((n.Bufs.take j).map fun b=>(lifeOf n.Body b).cells)]++_⟩
   refine R O<|yE O<|zA<|zF<|zC O (fun c3=>?_) (fun c3=>?_)
   ·try simp only [sx] at c3
    obtain ⟨b,hb⟩:=qX n.Bufs j (by omega)
    refine zH<|zF<|zQ<|R O<|qI O el22 (by omega) (getm (by assumption))<|zP zPd Y O<|zU O O (qR [none,none,none,none,none,none,some 1,none] O zr69 O) ?_
    rintro _ _ ⟨b7,rfl,rfl⟩
    refine D 0 sz69 O<|zA<|R O<|zL one105 Y O<|zN O zJf<|zL one9 (A 0 O) O<|v O (det_lookup 2 (⟨0,0⟩:Sp) O sm105 O O O (fun _ _=>⟨_,O,.cons (.lit _ O) (.cons (.lit _ O) .nil)⟩))<|zU O O (yX O zr108) ?_
    rintro _ _ ⟨b8,rfl,rfl⟩
    refine D 0 sz108 O<|zA<|zF<|R O<|zN O fd69_3<|zL one3 (A 1 O) O<|zA<|zQ<|R O<|yO O<|G O<|zA<|zC O (fun c4=>?_) (fun c4=>?_)
    ·try simp only [sx] at c4
     refine zI O<|zN O zOk<|D 0 sz3 O<|zA<|qU 12 mixed (by kernel_rfl) O O<|zE O O (zG O O)<|zE O O (zJ O zJf O)<|zE O O (zD O one9 O (A 1 O) O)<|zE O O (zJ O zOk O)<|zE O O (zD O one3 O (A 0 O) O)<|zE O O (zJ O zKn O)<|zE O O (zD O one3 O (A 0 O) O)<|zE O O (zJ O zCm O)<|zE O O (zD O zCh O (A 1 O) O)<|zE O O (qY O ok53 (zKb b.Dims (hn.dims b (qB hb))) ⟨zB,O,T⟩)<|zE O O (yB O zr82 pl82 O)<|zE O O (kF O el62 zr82 O O O O)<|yM<|zU O O (kL 2 O el62 O O O (by simp only [List.length_map,List.length_append,List.length_cons,List.length_nil,List.length_take,List.length_drop];omega) (by simp only [List.length_map,List.length_append,List.length_cons,List.length_nil,List.length_take,List.length_drop];omega)) ?_
     rintro _ _ ⟨sv9,rfl,rfl⟩
     refine G O<|zA<|zI O<|qD O ⟨by omega,by omega⟩<|G O<|zA ?_
     refine ⟨⟨j+1,sv9⟩,(by omega),(by show n.Bufs.length-(j+1)<n.Bufs.length-j;omega),Weak.mk [false,false,true,true,true] ⟨zB,zB,zB,zB,zB,zB,T⟩ (by exact yL (by rw [zKh hb];unfold lifeOf;rw [←span_get];first|(rw [if_pos c4,if_neg (by omega)];rfl)|(rw [if_neg c4,if_pos c5];rfl)|(rw [if_neg c4,if_neg c5];rfl)))⟩
    ·try simp only [sx] at c4
     refine R O<|yO O<|G O<|zA<|zC O (fun c5=>?_) (fun c5=>?_)
     ·try simp only [sx] at c5
      refine zI O<|zN O zJh<|zL zDa (A 4 O) O<|qH O el23<|yF O ⟨by omega,by omega⟩<|v O (zOr O O O)<|zN O zKn<|D 0 sz3 O<|zA<|qU 12 mixed (by kernel_rfl) O O<|zE O O (zG O O)<|zE O O (zJ O zJf O)<|zE O O (zD O one9 O (A 1 O) O)<|zE O O (zJ O zOk O)<|zE O O (zD O one3 O (A 0 O) O)<|zE O O (zJ O zKn O)<|zE O O (zD O one3 O (A 0 O) O)<|zE O O (zJ O zCm O)<|zE O O (zD O zCh O (A 1 O) O)<|zE O O (qY O ok53 (zKb b.Dims (hn.dims b (qB hb))) ⟨zB,O,T⟩)<|zE O O (yB O zr82 pl82 O)<|zE O O (kF O el62 zr82 O O O O)<|yM<|zU O O (kL 2 O el62 O O O (by simp only [List.length_map,List.length_append,List.length_cons,List.length_nil,List.length_take,List.length_drop];omega) (by simp only [List.length_map,List.length_append,List.length_cons,List.length_nil,List.length_take,List.length_drop];omega)) ?_
      rintro _ _ ⟨sv10,rfl,rfl⟩
      refine G O<|zA<|zI O<|qD O ⟨by omega,by omega⟩<|G O<|zA ?_
      refine ⟨⟨j+1,sv10⟩,(by omega),(by show n.Bufs.length-(j+1)<n.Bufs.length-j;omega),Weak.mk [false,false,true,true,true] ⟨zB,zB,zB,zB,zB,zB,T⟩ (by exact yL (by rw [zKh hb];unfold lifeOf;rw [←span_get];first|(rw [if_pos c4,if_neg (by omega)];rfl)|(rw [if_neg c4,if_pos c5];rfl)|(rw [if_neg c4,if_neg c5];rfl)))⟩
     ·try simp only [sx] at c5
      refine zH<|qU 12 mixed (by kernel_rfl) O O<|zE O O (zG O O)<|zE O O (zJ O zJf O)<|zE O O (zD O one9 O (A 1 O) O)<|zE O O (zJ O zOk O)<|zE O O (zD O one3 O (A 0 O) O)<|zE O O (zJ O zKn O)<|zE O O (zD O one3 O (A 0 O) O)<|zE O O (zJ O zCm O)<|zE O O (zD O zCh O (A 1 O) O)<|zE O O (qY O ok53 (zKb b.Dims (hn.dims b (qB hb))) ⟨zB,O,T⟩)<|zE O O (yB O zr82 pl82 O)<|zE O O (kF O el62 zr82 O O O O)<|yM<|zU O O (kL 2 O el62 O O O (by simp only [List.length_map,List.length_append,List.length_cons,List.length_nil,List.length_take,List.length_drop];omega) (by simp only [List.length_map,List.length_append,List.length_cons,List.length_nil,List.length_take,List.length_drop];omega)) ?_
      rintro _ _ ⟨sv11,rfl,rfl⟩
      refine G O<|zA<|zI O<|qD O ⟨by omega,by omega⟩<|G O<|zA ?_
      refine ⟨⟨j+1,sv11⟩,(by omega),(by show n.Bufs.length-(j+1)<n.Bufs.length-j;omega),Weak.mk [false,false,true,true,true] ⟨zB,zB,zB,zB,zB,zB,T⟩ (by exact yL (by rw [zKh hb];unfold lifeOf;rw [←span_get];first|(rw [if_pos c4,if_neg (by omega)];rfl)|(rw [if_neg c4,if_pos c5];rfl)|(rw [if_neg c4,if_neg c5];rfl)))⟩
   ·try simp only [sx] at c3
    refine qL<|zF<|zS _ (zAb 0 O (regs':=[(9,_)]) (μ':=[_,_]) ⟨FLe.sl,T⟩ ⟨EFle.refl _,EFle.refl _,T⟩)<|zI O<|G O<|G O<|G O<|zA<|zM<|fin2 (L O) (L O) ?_
    rw [ha,yI (l:=n.Bufs) (k:=j) (by omega)];simp only [lives,vLs,List.map_map];rfl
end Go.W
