/-
  Walks: what functions of the program compute. Printed by wip/gen/mk2.py.
  Conditions: none.
-/
import Derived.Test.YtkijgodlhljgdaaGreatDoorQC
set_option linter.unusedSimpArgs false
set_option linter.unusedVariables false
set_option maxRecDepth 10000
namespace Go.W
open Go Go.Eng Go.Proofs Go.L41 Go.Br
attribute [local irreducible] AWP RWP TD finQ
theorem fwd_readsM_s (sv0:Value) (o_:List ByteArray) (ho:o_.length<=1000) (e:Ex) (ih:∀a,a∈e.Args->partE a=0->Con cfg 71 [vE a,.c (.lit sv0)] [(E.vec sv0 9 1 (o_.map fun s=>[cS s]))] fun r μ'=>r=vB (rdsE o_ a)/\μ'=[(E.vec sv0 9 1 (o_.map fun s=>[cS s]))]) (hp:partE e=0):
    Con cfg 71 [vE e,.c (.lit sv0)] [(E.vec sv0 9 1 (o_.map fun s=>[cS s]))] fun r μ'=>r=vB (rdsE o_ e)/\μ'=[(E.vec sv0 9 1 (o_.map fun s=>[cS s]))]:=by
 refine zV Tryz.func71 O Tryz.ntmps71 Tryz.results71 O ?_
 intro z hz
 have hal:=zFz hp
 have hvl:=zIx (o:=e.Op) (l:=e.Args)
 have hna:nArgs e.Op<=3:=by unfold nArgs;repeat' split<;>omega
 refine B O<|zW O O (qJ O O) ?_
 rintro _ _ ⟨b1,rfl,rfl⟩
 refine F O<|H<|U<|B O<|zG O yT<|zK w (K 0 O) O<|qX O<|H<|g O (fun c1=>?_) (fun c1=>?_)
 ·try simp only [I] at c1
  refine B O<|F O<|zG O zBm<|zK i (K 0 O) O<|qB O (wC 1 O ok46 O (kK o_ e.Name (by omega)) O ⟨.inl ⟨O,O⟩,.inr ⟨G,O⟩,T⟩)<|F O<|H<|zT _ (Weak.mem [false,true] O)<|W<|R O ?_
  exact ⟨congrArg vB (by rw [zFg,if_pos c1]),O⟩
 ·try simp only [I] at c1
  refine zJ<|U<|B O<|zL qH (K 0 O) O<|qK O ok72 (zDc e (if_len hp)) ⟨G,O,T⟩<|zZ O A<|F O<|H<|zP<|zT ⟨[(17,.c _),(1,.c _),(15,.c _),(16,.c _)],[_]⟩ (Weak.mk [false,true] ⟨G,G,G,G,T⟩ O)<|qG 1 0 O O (Nat) (fun k=>[(17,vI k)]) (fun k=>[]) (fun k=>k<=(vArgs e.Op e.Args).length/\(((vArgs e.Op e.Args).take k).any (rdsE o_)=false)) (fun k=>(vArgs e.Op e.Args).length-k) ⟨0,⟨by omega,O⟩,Weak.mk [true] ⟨G,G,G,G,T⟩ O⟩ ?_
  rintro k ⟨hk,hp2⟩
  refine B O<|yB O<|H<|U<|g O (fun c2=>?_) (fun c2=>?_)
  ·try simp only [I] at c2
   obtain ⟨x,hx⟩:=qP (vArgs e.Op e.Args) k (by omega)
   refine zJ<|U<|zP<|B O<|qE O A (by omega) (yU hx)<|zL qH qA O<|zW O O (qI [none,none,none,none,none,none,none,none,none,none,some 2,some 4,some 13] O zr38 O) ?_
   rintro _ _ ⟨b2,rfl,rfl⟩
   refine N 0 v O<|H<|B O<|zL qH (K 0 O) O<|F O<|qB O (yI [1] O ok71 (ih x (zBl (qD hx)) (wQ hp (zBl (qD hx)))) ⟨G,O,G,O,T⟩ O)<|H<|g O (fun c3=>?_) (fun c3=>?_)
   ·try simp only [I] at c3
    refine B O<|F O<|H<|zT _ (Weak.mem [false,true] O)<|W<|R O ?_
    exact ⟨congrArg vB (by rw [zFg,if_neg c1,any_at hx c3]),O⟩
   ·try simp only [I] at c3
    refine zJ<|zU O<|qL O ⟨by omega,by omega⟩<|F O<|H ?_
    refine ⟨k+1,⟨by omega,zHo hx hp2 c3⟩,(by omega),Weak.mk [false,true] ⟨G,G,G,G,T⟩ O⟩
  ·try simp only [I] at c2
   refine qM<|B O<|F O<|H<|W<|R O ?_
   rw [qY (by omega)] at hp2
   exact ⟨congrArg vB (by rw [zFg,if_neg c1,hp2]),O⟩
theorem fwd_readsM (sv0:Value) (o_:List ByteArray) (ho:o_.length<=1000) (e:Ex):partE e=0->Con cfg 71 [vE e,.c (.lit sv0)] [(E.vec sv0 9 1 (o_.map fun s=>[cS s]))] fun r μ'=>r=vB (rdsE o_ e)/\μ'=[(E.vec sv0 9 1 (o_.map fun s=>[cS s]))]:=by
  induction e using Ex.ind with
  |_ e ih=>exact fun hp=>fwd_readsM_s sv0 o_ ho e ih hp
theorem fwd_losesM_s (p:Pg) (hP:p.Ok) (sv0:Value) (o_:List ByteArray) (ho:o_.length<=1000) (e:Ex) (ih:∀a,a∈e.Args->partE a=0->a.wt<=1073741824->Con cfg 29 [vPg p,vE a,.c (.lit sv0)] [(E.vec sv0 9 1 (o_.map fun s=>[cS s]))] fun r μ'=>r=vB (losE (isFr p.en) o_ a)/\μ'=[(E.vec sv0 9 1 (o_.map fun s=>[cS s]))]) (hp:partE e=0) (he:e.wt<=1073741824):
    Con cfg 29 [vPg p,vE e,.c (.lit sv0)] [(E.vec sv0 9 1 (o_.map fun s=>[cS s]))] fun r μ'=>r=vB (losE (isFr p.en) o_ e)/\μ'=[(E.vec sv0 9 1 (o_.map fun s=>[cS s]))]:=by
 refine zV Tryz.func29 O Tryz.ntmps29 Tryz.results29 O ?_
 intro z hz
 have hal:=zFz hp
 have hvl:=zIx (o:=e.Op) (l:=e.Args)
 have hna:nArgs e.Op<=3:=by unfold nArgs;repeat' split<;>omega
 obtain ⟨a,ha0⟩:∃x,e.Args.getD 0 zEx=x:=⟨_,rfl⟩
 have haw:=getD_wt (e:=e) rfl 0
 rw [ha0] at haw
 refine B O<|zW O O (qJ O O) ?_
 rintro _ _ ⟨b1,rfl,rfl⟩
 refine zW O O (qJ O O) ?_
 rintro _ _ ⟨b2,rfl,rfl⟩
 refine F O<|H<|U<|U<|qO 25 mixed (by kernel_rfl) O O<|Y O O (zD O yT O)<|Y O O (zF O w O (K 0 O) O)<|Y O O (yL O O O)<|Y O O (zQ O O)<|f [] O O O O P T (fun g1_3=>zD O zCz O) O<|f [(13,_)] O O O O P ⟨O,O,T⟩ (fun g1_3=>zD O zAn O) O<|f [(14,_)] O O O O P ⟨O,O,T⟩ (fun g1_3=>zF O w O (K 0 O) O) O<|f [(15,_)] O O O O P ⟨O,O,T⟩ (fun g1_3=>zAf O O O) O<|Y O O (kR O O O (fun h=>h) O)<|Y O O (zQ O O)<|f [] O O O O P T (fun g1_9=>zN O kC O (K 1 O) O) O<|f [] O O O O P T (fun g1_9=>zD O kF O) O<|f [(20,_)] O O O O P ⟨O,O,T⟩ (fun g1_9=>zF O wJ O (K 0 O) O) O<|f [(21,_)] O O O O P ⟨O,O,T⟩ (fun g1_9=>zY O A O O (by have h12:e.Op=12:=(by simp only [Lz,cond_true,cond_false,Bool.and_eq_true,Bool.or_eq_true,Bool.not_eq_true',Bool.not_eq_false',Bool.or_eq_false_iff,Bool.and_eq_false_iff,decide_eq_true_eq,decide_eq_false_iff_not,Bool.not_eq_true,Bool.not_eq_false] at g1_9;first|exact g1_9.1|exact g1_9.1.1|exact g1_9.1.1.1);have h13:=zAr hp h12;omega) (yU (exGq (by have h12:e.Op=12:=(by simp only [Lz,cond_true,cond_false,Bool.and_eq_true,Bool.or_eq_true,Bool.not_eq_true',Bool.not_eq_false',Bool.or_eq_false_iff,Bool.and_eq_false_iff,decide_eq_true_eq,decide_eq_false_iff_not,Bool.not_eq_true,Bool.not_eq_false] at g1_9;first|exact g1_9.1|exact g1_9.1.1|exact g1_9.1.1.1);have h13:=zAr hp h12;omega) ha0))) O<|f [(22,_)] O O O O P ⟨O,O,T⟩ (fun g1_9=>zN O qH O qA O) O<|f [(19,_),(23,_)] O O O O P ⟨O,O,O,O,T⟩ (fun g1_9=>qF O ok70 (zHi p a hP (by omega)) ⟨G,O,G,O,T⟩) O<|Y O O (kR O O O (fun h=>h) O)<|Y O O (zQ O O)<|f [] O O O O P T (fun g1_17=>zD O kF O) O<|f [(27,_)] O O O O P ⟨O,O,T⟩ (fun g1_17=>zF O wJ O (K 0 O) O) O<|f [(28,_)] O O O O P ⟨O,O,T⟩ (fun g1_17=>zY O A O O (by have h12:e.Op=12:=(by simp only [Lz,cond_true,cond_false,Bool.and_eq_true,Bool.or_eq_true,Bool.not_eq_true',Bool.not_eq_false',Bool.or_eq_false_iff,Bool.and_eq_false_iff,decide_eq_true_eq,decide_eq_false_iff_not,Bool.not_eq_true,Bool.not_eq_false] at g1_17;first|exact g1_17.1|exact g1_17.1.1|exact g1_17.1.1.1);have h13:=zAr hp h12;omega) (yU (exGq (by have h12:e.Op=12:=(by simp only [Lz,cond_true,cond_false,Bool.and_eq_true,Bool.or_eq_true,Bool.not_eq_true',Bool.not_eq_false',Bool.or_eq_false_iff,Bool.and_eq_false_iff,decide_eq_true_eq,decide_eq_false_iff_not,Bool.not_eq_true,Bool.not_eq_false] at g1_17;first|exact g1_17.1|exact g1_17.1.1|exact g1_17.1.1.1);have h13:=zAr hp h12;omega) ha0))) O<|f [(29,_)] O O O O P ⟨O,O,T⟩ (fun g1_17=>zN O qH O qA O) O<|f [] O O O O P T (fun g1_17=>zQ O O) O<|f [(30,_),(31,_)] O O O O P ⟨O,O,O,O,T⟩ (fun g1_17=>yI [2] O ok71 (fwd_readsM sv0 o_ ho a (zPt hp (by have h12:e.Op=12:=(by simp only [Lz,cond_true,cond_false,Bool.and_eq_true,Bool.or_eq_true,Bool.not_eq_true',Bool.not_eq_false',Bool.or_eq_false_iff,Bool.and_eq_false_iff,decide_eq_true_eq,decide_eq_false_iff_not,Bool.not_eq_true,Bool.not_eq_false] at g1_17;first|exact g1_17.1|exact g1_17.1.1|exact g1_17.1.1.1);have h13:=zAr hp h12;exact h12) ha0)) ⟨G,O,G,O,T⟩ O) O<|Y O O (kR O O O (fun h=>h) O)<|yK<|H<|g O (fun c1=>?_) (fun c1=>?_)
 ·have c1:(decide (e.Op=12)&& !decide (e.Ty.Kind=1)&&isFr p.en (e.Args.getD 0 zEx)&&rdsE o_ (e.Args.getD 0 zEx))=true:=by rw [ha0];exact c1
  refine B O<|F O<|H<|zT _ (Weak.mem [false,false,true] O)<|W<|R O ?_
  exact ⟨congrArg vB (losE_yes c1).symm,O⟩
 ·have c1:(decide (e.Op=12)&& !decide (e.Ty.Kind=1)&&isFr p.en (e.Args.getD 0 zEx)&&rdsE o_ (e.Args.getD 0 zEx))=false:=by rw [ha0];exact c1
  refine zJ<|U<|B O<|zL qH (K 0 O) O<|qK O ok72 (zDc e (if_len hp)) ⟨G,O,T⟩<|zZ O A<|F O<|H<|zP<|zT ⟨[(37,.c _),(2,.c _),(3,.c _),(35,.c _),(36,.c _)],[_,_]⟩ (Weak.mk [false,true,true] ⟨G,G,G,G,G,T⟩ O)<|qG 1 0 O O (Nat) (fun k=>[(37,vI k)]) (fun k=>[]) (fun k=>k<=(vArgs e.Op e.Args).length/\(((vArgs e.Op e.Args).take k).any (losE (isFr p.en) o_)=false)) (fun k=>(vArgs e.Op e.Args).length-k) ⟨0,⟨by omega,O⟩,Weak.mk [true,true] ⟨G,G,G,G,G,T⟩ O⟩ ?_
  rintro k ⟨hk,hp2⟩
  refine B O<|yB O<|H<|U<|g O (fun c2=>?_) (fun c2=>?_)
  ·try simp only [I] at c2
   obtain ⟨x,hx⟩:=qP (vArgs e.Op e.Args) k (by omega)
   refine zJ<|U<|zP<|B O<|qE O A (by omega) (yU hx)<|zL qH qA O<|zW O O (qI [none,none,none,none,none,none,none,none,none,none,some 2,some 4,some 13] O zr38 O) ?_
   rintro _ _ ⟨b3,rfl,rfl⟩
   refine N 0 v O<|H<|B O<|zL kC (K 1 O) O<|zL qH (K 0 O) O<|F O<|qB O (yI [2] O ok29 (ih x (zBl (qD hx)) (wQ hp (zBl (qD hx))) (by have:=Ex.arg_wt (zBl (qD hx));omega)) ⟨G,O,G,O,G,O,T⟩ O)<|H<|g O (fun c3=>?_) (fun c3=>?_)
   ·try simp only [I] at c3
    refine B O<|F O<|H<|zT _ (Weak.mem [false,false,true] O)<|W<|R O ?_
    exact ⟨congrArg vB (by rw [zLe c1,any_at hx c3]),O⟩
   ·try simp only [I] at c3
    refine zJ<|zU O<|qL O ⟨by omega,by omega⟩<|F O<|H ?_
    refine ⟨k+1,⟨by omega,zHo hx hp2 c3⟩,(by omega),Weak.mk [false,true,true] ⟨G,G,G,G,G,T⟩ O⟩
  ·try simp only [I] at c2
   refine qM<|B O<|F O<|H<|zT _ (Weak.mem [false,true] O)<|W<|R O ?_
   rw [qY (by omega)] at hp2
   exact ⟨congrArg vB (by rw [zLe c1,hp2]),O⟩
theorem fwd_losesM (p:Pg) (hP:p.Ok) (sv0:Value) (o_:List ByteArray) (ho:o_.length<=1000) (e:Ex):partE e=0->e.wt<=1073741824->Con cfg 29 [vPg p,vE e,.c (.lit sv0)] [(E.vec sv0 9 1 (o_.map fun s=>[cS s]))] fun r μ'=>r=vB (losE (isFr p.en) o_ e)/\μ'=[(E.vec sv0 9 1 (o_.map fun s=>[cS s]))]:=by
  induction e using Ex.ind with
  |_ e ih=>exact fun hp he=>fwd_losesM_s p hP sv0 o_ ho e ih hp he
theorem r26_readsM_s (sv0:Value) (o_:List ByteArray) (ho:o_.length<=1000) (e:Ex) (ih:∀a,a∈e.Args->partE a=0->Con cfg 48 [vE a,.c (.lit sv0)] [(E.vec sv0 9 1 (o_.map fun s=>[cS s]))] fun r μ'=>r=vB (rdsE o_ a)/\μ'=[(E.vec sv0 9 1 (o_.map fun s=>[cS s]))]) (hp:partE e=0):
    Con cfg 48 [vE e,.c (.lit sv0)] [(E.vec sv0 9 1 (o_.map fun s=>[cS s]))] fun r μ'=>r=vB (rdsE o_ e)/\μ'=[(E.vec sv0 9 1 (o_.map fun s=>[cS s]))]:=by
 refine zV Tryz.func48 O Tryz.ntmps48 Tryz.results48 O ?_
 intro z hz
 have hal:=zFz hp
 have hna:nArgs e.Op<=3:=by unfold nArgs;repeat' split<;>omega
 refine B O<|zW O O (qJ O O) ?_
 rintro _ _ ⟨b1,rfl,rfl⟩
 refine F O<|H<|U<|B O<|zG O yT<|zK w (K 0 O) O<|qX O<|F O<|u O (fun g1_3=>zQ O O) O<|u O (fun g1_3=>zD O zBm O) O<|J 11 O (fun g1_3=>zF O i O (K 0 O) O) O<|rLz [(10,_),(12,_)] O P ⟨O,O,O,O,T⟩ (fun g1_3=>wC 1 O ok50 O (zDf o_ e.Name (by omega)) O ⟨.inl ⟨O,O⟩,.inr ⟨G,O⟩,T⟩) O<|yZ O (fun h=>h)<|H<|g O (fun c1=>?_) (fun c1=>?_)
 ·have c1:e.Op=3/\hasB o_ e.Name=true:=by simpa using c1
  refine B O<|F O<|H<|zT _ (Weak.mem [false,true] O)<|W<|R O ?_
  exact ⟨congrArg vB (by rw [zFg,if_pos c1.1,c1.2]),O⟩
 ·have c1:¬(e.Op=3/\hasB o_ e.Name=true):=by simpa using c1
  refine zJ<|U<|B O<|F O<|H<|zP<|zT ⟨[(5,.c _),(1,.c _),(2,.c _)],[_,_]⟩ (Weak.mk [true,true] ⟨G,G,G,T⟩ O)<|qG 1 0 O O (Nat) (fun k=>[(5,vI k)]) (fun k=>[]) (fun k=>k<=e.Args.length/\((vTo e.Op e.Args k).any (rdsE o_)=false)) (fun k=>e.Args.length-k) ⟨0,⟨by omega,by rw [vTo_0];rfl⟩,Weak.mk [true,true] ⟨G,G,G,T⟩ O⟩ ?_
  rintro k ⟨hk,hp2⟩
  refine U<|B O<|F O<|zG O kF<|zK wJ (K 0 O) O<|qB O (zLm O A O)<|yB O<|H<|g O (fun c2=>?_) (fun c2=>?_)
  ·try simp only [I] at c2
   obtain ⟨x,hx⟩:=qP e.Args k (by omega)
   refine zJ<|U<|zP<|B O<|zG O yT<|zK w (K 0 O) O<|yP O<|F O<|u O (fun g6_3=>zQ O O) O<|J 26 O (fun g6_3=>yM O O O) O<|r_or O (fun h=>(lzf h))<|F O<|u O (fun g6_7=>zD O kF O) O<|J 30 O (fun g6_7=>zF O wJ O (K 0 O) O) O<|u O (fun g6_7=>zQ O O) O<|rLz [(31,_),(32,_)] O P ⟨O,O,O,O,T⟩ (fun g6_7=>zY O A O O (by omega) (yU hx)) O<|J 33 O (fun g6_7=>zN O qH O qA O) O<|u O (fun g6_7=>zQ O O) O<|rLz [(34,_),(35,_)] O P ⟨O,O,O,O,T⟩ (fun g6_7=>yI [1] O ok48 (ih x (qD hx) (wQ hp (qD hx))) ⟨G,O,G,O,T⟩ O) O<|yZ O (fun h=>h)<|H<|g O (fun c3=>?_) (fun c3=>?_)
   ·refine B O<|F O<|H<|zT _ (Weak.mem [false,true] O)<|W<|R O ?_
    exact ⟨congrArg vB (by rw [zFg,if_neg (fun h=>by rw [read_len hp h] at hx;simp at hx),any_vt hx c3]),O⟩
   ·refine zJ<|zU O<|F O<|qL O ⟨by omega,by omega⟩<|F O<|H ?_
    refine ⟨k+1,⟨by omega,any_v hx hp2 c3⟩,(by omega),Weak.mk [true,true] ⟨G,G,G,T⟩ O⟩
  ·try simp only [I] at c2
   refine qM<|B O<|F O<|H<|zT _ (Weak.mem [false,true] O)<|W<|R O ?_
   rw [vTo_all (by omega)] at hp2
   exact ⟨congrArg vB (rds_end c1 hp2),O⟩
theorem r26_readsM (sv0:Value) (o_:List ByteArray) (ho:o_.length<=1000) (e:Ex):partE e=0->Con cfg 48 [vE e,.c (.lit sv0)] [(E.vec sv0 9 1 (o_.map fun s=>[cS s]))] fun r μ'=>r=vB (rdsE o_ e)/\μ'=[(E.vec sv0 9 1 (o_.map fun s=>[cS s]))]:=by
  induction e using Ex.ind with
  |_ e ih=>exact fun hp=>r26_readsM_s sv0 o_ ho e ih hp
theorem r26_losesM_s (p:Pg) (hP:p.Ok) (sv0:Value) (o_:List ByteArray) (ho:o_.length<=1000) (e:Ex) (ih:∀a,a∈e.Args->partE a=0->a.wt<=900000->Con cfg 35 [vPg p,vE a,.c (.lit sv0)] [(E.vec sv0 9 1 (o_.map fun s=>[cS s]))] fun r μ'=>r=vB (losE (isFr p.en) o_ a)/\μ'=[(E.vec sv0 9 1 (o_.map fun s=>[cS s]))]) (hp:partE e=0) (he:e.wt<=900000):
    Con cfg 35 [vPg p,vE e,.c (.lit sv0)] [(E.vec sv0 9 1 (o_.map fun s=>[cS s]))] fun r μ'=>r=vB (losE (isFr p.en) o_ e)/\μ'=[(E.vec sv0 9 1 (o_.map fun s=>[cS s]))]:=by
 refine zV Tryz.func35 O Tryz.ntmps35 Tryz.results35 O ?_
 intro z hz
 have hal:=zFz hp
 have hna:nArgs e.Op<=3:=by unfold nArgs;repeat' split<;>omega
 obtain ⟨a,ha0⟩:∃x,e.Args.getD 0 zEx=x:=⟨_,rfl⟩
 have haw:=getD_wt (e:=e) rfl 0
 rw [ha0] at haw
 refine B O<|zW O O (qJ O O) ?_
 rintro _ _ ⟨b1,rfl,rfl⟩
 refine zW O O (qJ O O) ?_
 rintro _ _ ⟨b2,rfl,rfl⟩
 refine F O<|H<|U<|U<|qO 27 mixed (by kernel_rfl) O O<|Y O O (zD O yT O)<|Y O O (zF O w O (K 0 O) O)<|Y O O (yL O O O)<|Y O O (zQ O O)<|f [] O O O O P T (fun g1_3=>zD O zCz O) O<|f [(12,_)] O O O O P ⟨O,O,T⟩ (fun g1_3=>zD O zAn O) O<|f [(13,_)] O O O O P ⟨O,O,T⟩ (fun g1_3=>zF O w O (K 0 O) O) O<|f [(14,_)] O O O O P ⟨O,O,T⟩ (fun g1_3=>zAf O O O) O<|Y O O (kR O O O (fun h=>h) O)<|Y O O (zQ O O)<|f [] O O O O P T (fun g1_9=>zN O kC O (K 1 O) O) O<|f [] O O O O P T (fun g1_9=>zD O kF O) O<|f [(19,_)] O O O O P ⟨O,O,T⟩ (fun g1_9=>zF O wJ O (K 0 O) O) O<|f [(20,_)] O O O O P ⟨O,O,T⟩ (fun g1_9=>zY O A O O (by have h12:e.Op=12:=(by simp only [Lz,cond_true,cond_false,Bool.and_eq_true,Bool.or_eq_true,Bool.not_eq_true',Bool.not_eq_false',Bool.or_eq_false_iff,Bool.and_eq_false_iff,decide_eq_true_eq,decide_eq_false_iff_not,Bool.not_eq_true,Bool.not_eq_false] at g1_9;first|exact g1_9.1|exact g1_9.1.1|exact g1_9.1.1.1);have h13:=zAr hp h12;omega) (yU (exGq (by have h12:e.Op=12:=(by simp only [Lz,cond_true,cond_false,Bool.and_eq_true,Bool.or_eq_true,Bool.not_eq_true',Bool.not_eq_false',Bool.or_eq_false_iff,Bool.and_eq_false_iff,decide_eq_true_eq,decide_eq_false_iff_not,Bool.not_eq_true,Bool.not_eq_false] at g1_9;first|exact g1_9.1|exact g1_9.1.1|exact g1_9.1.1.1);have h13:=zAr hp h12;omega) ha0))) O<|f [(21,_)] O O O O P ⟨O,O,T⟩ (fun g1_9=>zN O qH O qA O) O<|f [(18,_),(22,_)] O O O O P ⟨O,O,O,O,T⟩ (fun g1_9=>qF O ok91 (r26_kind p a hP (by omega)) ⟨G,O,G,O,T⟩) O<|f [(23,_)] O O O O P ⟨O,O,T⟩ (fun g1_9=>zMe O zAn w O O) O<|f [(24,_)] O O O O P ⟨O,O,T⟩ (fun g1_9=>yL O O O) O<|Y O O (kR O O O (fun h=>h) O)<|Y O O (zQ O O)<|f [] O O O O P T (fun g1_19=>zD O kF O) O<|f [(28,_)] O O O O P ⟨O,O,T⟩ (fun g1_19=>zF O wJ O (K 0 O) O) O<|f [(29,_)] O O O O P ⟨O,O,T⟩ (fun g1_19=>zY O A O O (by have h12:e.Op=12:=(by simp only [Lz,cond_true,cond_false,Bool.and_eq_true,Bool.or_eq_true,Bool.not_eq_true',Bool.not_eq_false',Bool.or_eq_false_iff,Bool.and_eq_false_iff,decide_eq_true_eq,decide_eq_false_iff_not,Bool.not_eq_true,Bool.not_eq_false] at g1_19;first|exact g1_19.1|exact g1_19.1.1|exact g1_19.1.1.1);have h13:=zAr hp h12;omega) (yU (exGq (by have h12:e.Op=12:=(by simp only [Lz,cond_true,cond_false,Bool.and_eq_true,Bool.or_eq_true,Bool.not_eq_true',Bool.not_eq_false',Bool.or_eq_false_iff,Bool.and_eq_false_iff,decide_eq_true_eq,decide_eq_false_iff_not,Bool.not_eq_true,Bool.not_eq_false] at g1_19;first|exact g1_19.1|exact g1_19.1.1|exact g1_19.1.1.1);have h13:=zAr hp h12;omega) ha0))) O<|f [(30,_)] O O O O P ⟨O,O,T⟩ (fun g1_19=>zN O qH O qA O) O<|f [] O O O O P T (fun g1_19=>zQ O O) O<|f [(31,_),(32,_)] O O O O P ⟨O,O,O,O,T⟩ (fun g1_19=>yI [2] O ok48 (r26_readsM sv0 o_ ho a (zPt hp (by have h12:e.Op=12:=(by simp only [Lz,cond_true,cond_false,Bool.and_eq_true,Bool.or_eq_true,Bool.not_eq_true',Bool.not_eq_false',Bool.or_eq_false_iff,Bool.and_eq_false_iff,decide_eq_true_eq,decide_eq_false_iff_not,Bool.not_eq_true,Bool.not_eq_false] at g1_19;first|exact g1_19.1|exact g1_19.1.1|exact g1_19.1.1.1);have h13:=zAr hp h12;exact h12) ha0)) ⟨G,O,G,O,T⟩ O) O<|Y O O (kR O O O (fun h=>h) O)<|yK<|H<|g O (fun c1=>?_) (fun c1=>?_)
 ·have c1:(decide (e.Op=12)&& !decide (e.Ty.Kind=1)&&isFr p.en (e.Args.getD 0 zEx)&&rdsE o_ (e.Args.getD 0 zEx))=true:=by rw [ha0,kind_fr];exact c1
  refine B O<|F O<|H<|zT _ (Weak.mem [false,false,true] O)<|W<|R O ?_
  exact ⟨congrArg vB (losE_yes c1).symm,O⟩
 ·have c1:(decide (e.Op=12)&& !decide (e.Ty.Kind=1)&&isFr p.en (e.Args.getD 0 zEx)&&rdsE o_ (e.Args.getD 0 zEx))=false:=by rw [ha0,kind_fr];exact c1
  refine zJ<|U<|B O<|F O<|H<|zP<|zT ⟨[(7,.c _),(2,.c _),(3,.c _),(4,.c _)],[_,_,_]⟩ (Weak.mk [true,true,true] ⟨G,G,G,G,T⟩ O)<|qG 1 0 O O (Nat) (fun k=>[(7,vI k)]) (fun k=>[]) (fun k=>k<=e.Args.length/\((vTo e.Op e.Args k).any (losE (isFr p.en) o_)=false)) (fun k=>e.Args.length-k) ⟨0,⟨by omega,by rw [vTo_0];rfl⟩,Weak.mk [true,true,true] ⟨G,G,G,G,T⟩ O⟩ ?_
  rintro k ⟨hk,hp2⟩
  refine U<|B O<|F O<|zG O kF<|zK wJ (K 0 O) O<|qB O (zLm O A O)<|yB O<|H<|g O (fun c2=>?_) (fun c2=>?_)
  ·try simp only [I] at c2
   obtain ⟨x,hx⟩:=qP e.Args k (by omega)
   refine zJ<|U<|zP<|U<|qO 17 mixed (by kernel_rfl) O O<|Y O O (zD O yT O)<|Y O O (zF O w O (K 0 O) O)<|Y O O (zAf O O O)<|Y O O (zQ O O)<|f [] O O O O P T (fun g6_3=>zQ O O) O<|f [(46,_)] O O O O P ⟨O,O,T⟩ (fun g6_3=>yM O O O) O<|Y O O (zBo O O O O (fun h=>(lzf h)))<|Y O O (zQ O O)<|f [] O O O O P T (fun g6_7=>zN O kC O (K 1 O) O) O<|f [] O O O O P T (fun g6_7=>zD O kF O) O<|f [(51,_)] O O O O P ⟨O,O,T⟩ (fun g6_7=>zF O wJ O (K 0 O) O) O<|f [] O O O O P T (fun g6_7=>zQ O O) O<|f [(52,_),(53,_)] O O O O P ⟨O,O,O,O,T⟩ (fun g6_7=>zY O A O O (by omega) (yU hx)) O<|f [(54,_)] O O O O P ⟨O,O,T⟩ (fun g6_7=>zN O qH O qA O) O<|f [] O O O O P T (fun g6_7=>zQ O O) O<|f [(50,_),(55,_),(56,_)] O O O O P ⟨O,O,O,O,O,O,T⟩ (fun g6_7=>yI [2] O ok35 (ih x (qD hx) (wQ hp (qD hx)) (by have:=Ex.arg_wt (qD hx);omega)) ⟨G,O,G,O,G,O,T⟩ O) O<|Y O O (kR O O O (fun h=>h) O)<|yK<|H<|g O (fun c3=>?_) (fun c3=>?_)
   ·refine B O<|F O<|H<|zT _ (Weak.mem [false,false,true] O)<|W<|R O ?_
    exact ⟨congrArg vB (by rw [zLe c1,any_vt hx c3]),O⟩
   ·refine zJ<|zU O<|F O<|qL O ⟨by omega,by omega⟩<|F O<|H ?_
    refine ⟨k+1,⟨by omega,any_v hx hp2 c3⟩,(by omega),Weak.mk [true,true,true] ⟨G,G,G,G,T⟩ O⟩
  ·try simp only [I] at c2
   refine qM<|B O<|F O<|H<|zT _ (Weak.mem [false,false,true] O)<|W<|R O ?_
   rw [vTo_all (by omega)] at hp2
   exact ⟨congrArg vB (by rw [zLe c1,hp2]),O⟩
theorem r26_losesM (p:Pg) (hP:p.Ok) (sv0:Value) (o_:List ByteArray) (ho:o_.length<=1000) (e:Ex):partE e=0->e.wt<=900000->Con cfg 35 [vPg p,vE e,.c (.lit sv0)] [(E.vec sv0 9 1 (o_.map fun s=>[cS s]))] fun r μ'=>r=vB (losE (isFr p.en) o_ e)/\μ'=[(E.vec sv0 9 1 (o_.map fun s=>[cS s]))]:=by
  induction e using Ex.ind with
  |_ e ih=>exact fun hp he=>r26_losesM_s p hP sv0 o_ ho e ih hp he
theorem fwd_tangentM_s (p:Pg) (hP:p.Ok) (sv0:Value) (o_:List ByteArray) (ho:o_.length<=1000) (hs:∀s,s∈o_->s.size<=1000000) (b0 b1:Nat) (e:Ex) (ih:∀a,a∈e.Args->FrK p.en a->a.wt<=1500->FnCon cfg (C.fn (.func 73) [] [.lit (.pointer (some ⟨b1,0,none⟩)),.lit (.pointer (some ⟨b0,0,none⟩)),.iptr p.cells]) [vE a] [E.row b0 74 [(C.fn (.func 73) [] [.lit (.pointer (some ⟨b1,0,none⟩)),.lit (.pointer (some ⟨b0,0,none⟩)),.iptr p.cells])],E.row b1 22 [.lit sv0],(E.vec sv0 9 1 (o_.map fun s=>[cS s]))] fun r μ'=>r=vE (tanE (isFr p.en) o_ a)/\μ'=[E.row b0 74 [(C.fn (.func 73) [] [.lit (.pointer (some ⟨b1,0,none⟩)),.lit (.pointer (some ⟨b0,0,none⟩)),.iptr p.cells])],E.row b1 22 [.lit sv0],(E.vec sv0 9 1 (o_.map fun s=>[cS s]))]) (hk:FrK p.en e) (he:e.wt<=1500):
    Con cfg 73 [vE e,.c (.lit (.pointer (some ⟨b1,0,none⟩))),.c (.lit (.pointer (some ⟨b0,0,none⟩))),.c (.iptr p.cells)] [E.row b0 74 [(C.fn (.func 73) [] [.lit (.pointer (some ⟨b1,0,none⟩)),.lit (.pointer (some ⟨b0,0,none⟩)),.iptr p.cells])],E.row b1 22 [.lit sv0],(E.vec sv0 9 1 (o_.map fun s=>[cS s]))] fun r μ'=>∃μ2,(∃ν1 ν2,μ'=ν1++(μ2++ν2))/\(r=vE (tanE (isFr p.en) o_ e)/\μ2=[E.row b0 74 [(C.fn (.func 73) [] [.lit (.pointer (some ⟨b1,0,none⟩)),.lit (.pointer (some ⟨b0,0,none⟩)),.iptr p.cells])],E.row b1 22 [.lit sv0],(E.vec sv0 9 1 (o_.map fun s=>[cS s]))]):=by
 refine zV Tryz.func73 O Tryz.ntmps73 Tryz.results73 O ?_
 intro z hz
 refine B O<|zW O O (qJ O O) ?_
 rintro _ _ ⟨b1,rfl,rfl⟩
 refine zW O O (qI [none,none,none,none,none,none,none,none,none,none,some 2,some 4,some 13] O zr38 O) ?_
 rintro _ _ ⟨b2,rfl,rfl⟩
 refine H<|B O<|zG O kF<|zK wJ (K 1 O) O<|F O<|H<|U<|B O<|zG O yT<|zK w (K 1 O) O<|H<|zP<|B O<|qX O<|F O<|H<|g O (fun c1=>?_) (fun c1=>?_)
 ·try simp only [I] at c1
  refine U<|B O<|zK wT (K 3 O) O<|zG O zBm<|zK i (K 1 O) O<|qB O (wC 4 O ok46 O (kK o_ e.Name (by omega)) O ⟨.inl ⟨O,O⟩,.inr ⟨G,O⟩,T⟩)<|wI O<|H<|g O (fun c2=>?_) (fun c2=>?_)
  ·try simp only [I] at c2
   have c2:¬hasB o_ e.Name=true:=by simpa using c2
   refine B O<|qK O ok74 zBt T<|N 0 v O<|H<|zT _ (Weak.mem [true,false,true,true,true] O)<|W<|X (zS qH O (K 0 O) O) ?_
   exact ⟨[_,_,_],⟨[_],[],O⟩,(congrArg vE (zJe c1 c2)).symm,O⟩
  ·try simp only [I] at c2
   have c2:hasB o_ e.Name=true:=by simpa using c2
   refine zJ<|B O<|zG O zBm<|zK i (K 1 O) O<|qK O ok14 (zBb e.Name (hs _ (zFj.1 c2))) ⟨G,O,T⟩<|zG O zBm<|N 1 sz9 O<|H<|B O<|zL qH (K 1 O) O<|N 0 v O<|H<|zT _ (Weak.mem [true,false,true,true,true] O)<|W<|X (zS qH O (K 0 O) O) ?_
   exact ⟨[_,_,_],⟨[_],[],O⟩,(congrArg V.agg (read_cs hk.1 c1 _)).trans (congrArg vE (zMr c1 c2)).symm,O⟩
 ·try simp only [I] at c1
  have hop:=frk_op hk
  refine U<|B O<|qX O<|F O<|H<|g O (fun c3=>?_) (fun c3=>?_)
  ·try simp only [I] at c3
   refine zJ<|g O (fun c4=>?_) (fun c4=>?_)
   ·try simp only [I] at c4
    obtain ⟨a,b,hab,ha,hb⟩:=zAp hk (by omega)
    have g0:e.Args[0]? =some a:=by rw [hab];rfl
    have g1:e.Args[1]? =some b:=by rw [hab];rfl
    have hl2:e.Args.length=2:=by rw [hab];rfl
    have hw2:=wM hab
    have hta:=kW (o_:=o_) ha (by omega)
    have htb:=kW (o_:=o_) hb (by omega)
    refine U<|yH 12 0 [⟨0,.q []⟩,⟨1,.q [1]⟩,⟨2,.q [2]⟩,⟨3,.q []⟩,⟨4,.q []⟩,⟨5,.q []⟩,⟨6,.q [2,3,4]⟩,⟨7,.q [2]⟩,⟨8,.q []⟩,⟨9,.q []⟩,⟨10,.q []⟩,⟨11,.q [2,3,4]⟩] mixed (by kernel_rfl) (by kernel_rfl) O O O<|D O<|D O<|D O<|D O<|D O<|D O<|D O<|D O<|D O<|D O<|D O<|D O<|wG<|M O (by decide) O O (zD O yT O)<|M O (by decide) O O (zF O w O (K 0 O) O)<|M O (by decide) O O (zF O zBf O (K 0 O) O)<|M O (by decide) O O (zQ O O)<|M O (by decide) O O (zY O A O O (by omega) (yU g0))<|M O (by decide) O O (zN O qH O qA O)<|M O (by decide) O O (qW [0,0,0] O O (ih a (by rw [hab];simp) ha (by omega)) ⟨G,O,T⟩ O)<|M O (by decide) O O (zF O zBf O (K 0 O) O)<|M O (by decide) O O (zQ O O)<|M O (by decide) O O (zY O A O O (by omega) (yU g1))<|M O (by decide) O O (zN O qH O qA O)<|M O (by decide) O O (qW [0,0,0] O O (ih b (by rw [hab];simp) hb (by omega)) ⟨G,O,T⟩ O)<|wF O<|qK O ok75 (fwd_sum e.Op (tanE (isFr p.en) o_ a) (tanE (isFr p.en) o_ b) (by omega) (by omega)) ⟨G,O,G,O,G,O,T⟩<|N 0 v O<|H<|zT _ (Weak.mem [true,false,true,true,true] O)<|W<|X (zS qH O (K 0 O) O) ?_
    exact ⟨[_,_,_],⟨[_],[],O⟩,(congrArg vE (zEo (by omega) hab)).symm,O⟩
   ·try simp only [I] at c4
    exact absurd c3 c4
  ·try simp only [I] at c3
   refine zU O<|qX O<|F O<|H<|g O (fun c4=>?_) (fun c4=>?_)
   ·try simp only [I] at c4
    obtain ⟨a,b,hab,ha,hb⟩:=zAp hk (by omega)
    have g0:e.Args[0]? =some a:=by rw [hab];rfl
    have g1:e.Args[1]? =some b:=by rw [hab];rfl
    have hl2:e.Args.length=2:=by rw [hab];rfl
    have hw2:=wM hab
    have hta:=kW (o_:=o_) ha (by omega)
    have htb:=kW (o_:=o_) hb (by omega)
    refine U<|yH 12 0 [⟨0,.q []⟩,⟨1,.q [1]⟩,⟨2,.q [2]⟩,⟨3,.q []⟩,⟨4,.q []⟩,⟨5,.q []⟩,⟨6,.q [2,3,4]⟩,⟨7,.q [2]⟩,⟨8,.q []⟩,⟨9,.q []⟩,⟨10,.q []⟩,⟨11,.q [2,3,4]⟩] mixed (by kernel_rfl) (by kernel_rfl) O O O<|D O<|D O<|D O<|D O<|D O<|D O<|D O<|D O<|D O<|D O<|D O<|D O<|wG<|M O (by decide) O O (zD O yT O)<|M O (by decide) O O (zF O w O (K 0 O) O)<|M O (by decide) O O (zF O zBf O (K 0 O) O)<|M O (by decide) O O (zQ O O)<|M O (by decide) O O (zY O A O O (by omega) (yU g0))<|M O (by decide) O O (zN O qH O qA O)<|M O (by decide) O O (qW [0,0,0] O O (ih a (by rw [hab];simp) ha (by omega)) ⟨G,O,T⟩ O)<|M O (by decide) O O (zF O zBf O (K 0 O) O)<|M O (by decide) O O (zQ O O)<|M O (by decide) O O (zY O A O O (by omega) (yU g1))<|M O (by decide) O O (zN O qH O qA O)<|M O (by decide) O O (qW [0,0,0] O O (ih b (by rw [hab];simp) hb (by omega)) ⟨G,O,T⟩ O)<|wF O<|qK O ok75 (fwd_sum e.Op (tanE (isFr p.en) o_ a) (tanE (isFr p.en) o_ b) (by omega) (by omega)) ⟨G,O,G,O,G,O,T⟩<|N 0 v O<|H<|zT _ (Weak.mem [true,false,true,true,true] O)<|W<|X (zS qH O (K 0 O) O) ?_
    exact ⟨[_,_,_],⟨[_],[],O⟩,(congrArg vE (zEo (by omega) hab)).symm,O⟩
   ·try simp only [I] at c4
    refine B O<|qX O<|F O<|H<|g O (fun c5=>?_) (fun c5=>?_)
    ·try simp only [I] at c5
     obtain ⟨a,b,hab,ha,hb⟩:=zAp hk (by omega)
     have g0:e.Args[0]? =some a:=by rw [hab];rfl
     have g1:e.Args[1]? =some b:=by rw [hab];rfl
     have hl2:e.Args.length=2:=by rw [hab];rfl
     have hw2:=wM hab
     have hta:=kW (o_:=o_) ha (by omega)
     have htb:=kW (o_:=o_) hb (by omega)
     refine U<|yH 16 0 [⟨0,.q []⟩,⟨1,.q []⟩,⟨2,.q []⟩,⟨3,.q []⟩,⟨4,.q []⟩,⟨5,.q []⟩,⟨6,.q [2]⟩,⟨7,.q []⟩,⟨8,.q []⟩,⟨9,.q []⟩,⟨10,.q [2,3,4]⟩,⟨11,.q [2]⟩,⟨12,.q []⟩,⟨13,.q []⟩,⟨14,.q []⟩,⟨15,.q [2,3,4]⟩] mixed (by kernel_rfl) (by kernel_rfl) O O O<|D O<|D O<|D O<|D O<|D O<|D O<|D O<|D O<|D O<|D O<|D O<|D O<|D O<|D O<|D O<|D O<|wG<|M O (by decide) O O (zQ O O)<|M O (by decide) O O (zY O A O O (by omega) (yU g0))<|M O (by decide) O O (zN O qH O qA O)<|M O (by decide) O O (zQ O O)<|M O (by decide) O O (zY O A O O (by omega) (yU g1))<|M O (by decide) O O (zN O qH O qA O)<|M O (by decide) O O (zF O zBf O (K 0 O) O)<|M O (by decide) O O (zQ O O)<|M O (by decide) O O (zY O A O O (by omega) (yU g0))<|M O (by decide) O O (zN O qH O qA O)<|M O (by decide) O O (qW [0,0,0] O O (ih a (by rw [hab];simp) ha (by omega)) ⟨G,O,T⟩ O)<|M O (by decide) O O (zF O zBf O (K 0 O) O)<|M O (by decide) O O (zQ O O)<|M O (by decide) O O (zY O A O O (by omega) (yU g1))<|M O (by decide) O O (zN O qH O qA O)<|M O (by decide) O O (qW [0,0,0] O O (ih b (by rw [hab];simp) hb (by omega)) ⟨G,O,T⟩ O)<|wF O<|qK O ok76 (zOz a b (tanE (isFr p.en) o_ a) (tanE (isFr p.en) o_ b) (by omega) (by omega)) ⟨G,O,G,O,G,O,G,O,T⟩<|N 0 v O<|H<|zT _ (Weak.mem [true,false,true,true,true] O)<|W<|X (zS qH O (K 0 O) O) ?_
     exact ⟨[_,_,_],⟨[_],[],O⟩,(congrArg vE (tan_mul (by omega) hab)).symm,O⟩
    ·try simp only [I] at c5
     refine B O<|qX O<|F O<|H<|g O (fun c6=>?_) (fun c6=>?_)
     ·try simp only [I] at c6
      obtain ⟨a,b,hab,ha,hb⟩:=zAp hk (by omega)
      have g0:e.Args[0]? =some a:=by rw [hab];rfl
      have g1:e.Args[1]? =some b:=by rw [hab];rfl
      have hl2:e.Args.length=2:=by rw [hab];rfl
      have hw2:=wM hab
      have hta:=kW (o_:=o_) ha (by omega)
      have htb:=kW (o_:=o_) hb (by omega)
      refine U<|yH 16 0 [⟨0,.q []⟩,⟨1,.q []⟩,⟨2,.q []⟩,⟨3,.q []⟩,⟨4,.q []⟩,⟨5,.q []⟩,⟨6,.q [2]⟩,⟨7,.q []⟩,⟨8,.q []⟩,⟨9,.q []⟩,⟨10,.q [2,3,4]⟩,⟨11,.q [2]⟩,⟨12,.q []⟩,⟨13,.q []⟩,⟨14,.q []⟩,⟨15,.q [2,3,4]⟩] mixed (by kernel_rfl) (by kernel_rfl) O O O<|D O<|D O<|D O<|D O<|D O<|D O<|D O<|D O<|D O<|D O<|D O<|D O<|D O<|D O<|D O<|D O<|wG<|M O (by decide) O O (zQ O O)<|M O (by decide) O O (zY O A O O (by omega) (yU g0))<|M O (by decide) O O (zN O qH O qA O)<|M O (by decide) O O (zQ O O)<|M O (by decide) O O (zY O A O O (by omega) (yU g1))<|M O (by decide) O O (zN O qH O qA O)<|M O (by decide) O O (zF O zBf O (K 0 O) O)<|M O (by decide) O O (zQ O O)<|M O (by decide) O O (zY O A O O (by omega) (yU g0))<|M O (by decide) O O (zN O qH O qA O)<|M O (by decide) O O (qW [0,0,0] O O (ih a (by rw [hab];simp) ha (by omega)) ⟨G,O,T⟩ O)<|M O (by decide) O O (zF O zBf O (K 0 O) O)<|M O (by decide) O O (zQ O O)<|M O (by decide) O O (zY O A O O (by omega) (yU g1))<|M O (by decide) O O (zN O qH O qA O)<|M O (by decide) O O (qW [0,0,0] O O (ih b (by rw [hab];simp) hb (by omega)) ⟨G,O,T⟩ O)<|wF O<|qK O ok77 (zMc a b (tanE (isFr p.en) o_ a) (tanE (isFr p.en) o_ b) (by omega) (by omega)) ⟨G,O,G,O,G,O,G,O,T⟩<|N 0 v O<|H<|zT _ (Weak.mem [true,false,true,true,true] O)<|W<|X (zS qH O (K 0 O) O) ?_
      exact ⟨[_,_,_],⟨[_],[],O⟩,(congrArg vE (tan_div (by omega) hab)).symm,O⟩
     ·try simp only [I] at c6
      refine B O<|qX O<|F O<|H<|g O (fun c7=>?_) (fun c7=>?_)
      ·try simp only [I] at c7
       obtain ⟨a,hab,ha⟩:=frk_neg hk (by omega)
       have g0:e.Args[0]? =some a:=by rw [hab];rfl
       have hl2:e.Args.length=1:=by rw [hab];rfl
       have hw2:=zEn hab
       have hta:=kW (o_:=o_) ha (by omega)
       refine U<|yH 6 1 [⟨0,.q [3]⟩,⟨1,.q []⟩,⟨2,.q []⟩,⟨3,.q []⟩,⟨4,.q [3,4,5]⟩,⟨5,.f 0⟩] mixed (by kernel_rfl) (by kernel_rfl) O O O<|D O<|D O<|D O<|D O<|D O<|zFk O O (wN (qI [none,none,none,none,none,none,none,none,none,none,some 2,some 4,some 13] O zr38 O)) ⟨_,_,0,O,O⟩<|wG<|M O (by decide) O O (zF O zBf O (K 0 O) O)<|M O (by decide) O O (zQ O O)<|M O (by decide) O O (zY O A O O (by omega) (yU g0))<|M O (by decide) O O (zN O qH O qA O)<|M O (by decide) O O (qW [0,0,0] O O (ih a (by rw [hab];simp) ha (by omega)) ⟨G,O,T⟩ O)<|zFe O O ?_
       rintro _ _ ⟨b3,rfl,rfl⟩
       refine wF O<|N 0 v O<|H<|B O<|zL qH (K 0 O) O<|qK O ok78 (wH (tanE (isFr p.en) o_ a) (by omega)) ⟨G,O,T⟩<|wI O<|H<|g O (fun c8=>?_) (fun c8=>?_)
       ·try simp only [I] at c8
        have c8:¬tanE (isFr p.en) o_ a=zeroX:=by simpa using c8
        refine B O<|zL qH (K 0 O) O<|qZ O A zr38<|qK O ok79 (wB 8 [tanE (isFr p.en) o_ a]) ⟨G,O,G,O,T⟩<|N 1 v O<|H<|zT _ (Weak.mem [false,true,false,true,true,true] O)<|W<|X (zS qH O (K 0 O) O) ?_
        exact ⟨[_,_,_],⟨[_],[],O⟩,(congrArg vE ((zIh (by omega) hab).trans (if_neg c8))).symm,O⟩
       ·try simp only [I] at c8
        have c8:tanE (isFr p.en) o_ a=zeroX:=by simpa using c8
        refine zJ<|B O<|qK O ok74 zBt T<|N 1 v O<|H<|zT _ (Weak.mem [false,true,false,true,true,true] O)<|W<|X (zS qH O (K 0 O) O) ?_
        exact ⟨[_,_,_],⟨[_],[],O⟩,(congrArg vE ((zIh (by omega) hab).trans (if_pos c8))).symm,O⟩
      ·try simp only [I] at c7
       refine B O<|qX O<|F O<|H<|g O (fun c9=>?_) (fun c9=>?_)
       ·try simp only [I] at c9
        obtain ⟨a,b,hab,ha,hb⟩:=zAp hk (by omega)
        have g0:e.Args[0]? =some a:=by rw [hab];rfl
        have g1:e.Args[1]? =some b:=by rw [hab];rfl
        have hl2:e.Args.length=2:=by rw [hab];rfl
        have hw2:=wM hab
        have hta:=kW (o_:=o_) ha (by omega)
        have htb:=kW (o_:=o_) hb (by omega)
        refine U<|yH 17 0 [⟨0,.q []⟩,⟨1,.q []⟩,⟨2,.q []⟩,⟨3,.q []⟩,⟨4,.q []⟩,⟨5,.q []⟩,⟨6,.q []⟩,⟨7,.q []⟩,⟨8,.q [2]⟩,⟨9,.q []⟩,⟨10,.q []⟩,⟨11,.q []⟩,⟨12,.q [2,3,4]⟩,⟨13,.q [2]⟩,⟨14,.q []⟩,⟨15,.q []⟩,⟨16,.q []⟩] mixed (by kernel_rfl) (by kernel_rfl) O O O<|D O<|D O<|D O<|D O<|D O<|D O<|D O<|D O<|D O<|D O<|D O<|D O<|D O<|D O<|D O<|D O<|D O<|wG<|M O (by decide) O O (zQ O O)<|M O (by decide) O O (zY O A O O (by omega) (yU g0))<|M O (by decide) O O (zN O qH O qA O)<|M O (by decide) O O (zQ O O)<|M O (by decide) O O (zY O A O O (by omega) (yU g1))<|M O (by decide) O O (zN O qH O qA O)<|M O (by decide) O O (yD O A zr38 O O O O)<|M O (by decide) O O (qF O ok79 (wB 14 [a,b]) ⟨G,O,G,O,T⟩)<|M O (by decide) O O (zF O zBf O (K 0 O) O)<|M O (by decide) O O (zQ O O)<|M O (by decide) O O (zY O A O O (by omega) (yU g0))<|M O (by decide) O O (zN O qH O qA O)<|M O (by decide) O O (qW [0,0,0] O O (ih a (by rw [hab];simp) ha (by omega)) ⟨G,O,T⟩ O)<|M O (by decide) O O (zF O zBf O (K 0 O) O)<|M O (by decide) O O (zQ O O)<|M O (by decide) O O (zY O A O O (by omega) (yU g1))<|M O (by decide) O O (zN O qH O qA O)<|wF O<|qB O (qW [2,2,2] O O (ih b (by rw [hab];simp) hb (by omega)) ⟨G,O,T⟩ O)<|qK O ok80 (zDl (opE 14 [a,b]) (tanE (isFr p.en) o_ a) (tanE (isFr p.en) o_ b) (by omega) (by omega)) ⟨G,O,G,O,G,O,T⟩<|N 0 v O<|H<|zT _ (Weak.mem [true,false,true,true,true] O)<|W<|X (zS qH O (K 0 O) O) ?_
        exact ⟨[_,_,_],⟨[_],[],O⟩,(congrArg vE (tan_min (by omega) hab)).symm,O⟩
       ·try simp only [I] at c9
        refine B O<|qX O<|F O<|H<|g O (fun c10=>?_) (fun c10=>?_)
        ·try simp only [I] at c10
         obtain ⟨a,b,hab,ha,hb⟩:=zAp hk (by omega)
         have g0:e.Args[0]? =some a:=by rw [hab];rfl
         have g1:e.Args[1]? =some b:=by rw [hab];rfl
         have hl2:e.Args.length=2:=by rw [hab];rfl
         have hw2:=wM hab
         have hta:=kW (o_:=o_) ha (by omega)
         have htb:=kW (o_:=o_) hb (by omega)
         refine U<|yH 17 0 [⟨0,.q []⟩,⟨1,.q []⟩,⟨2,.q []⟩,⟨3,.q []⟩,⟨4,.q []⟩,⟨5,.q []⟩,⟨6,.q []⟩,⟨7,.q []⟩,⟨8,.q [2]⟩,⟨9,.q []⟩,⟨10,.q []⟩,⟨11,.q []⟩,⟨12,.q [2,3,4]⟩,⟨13,.q [2]⟩,⟨14,.q []⟩,⟨15,.q []⟩,⟨16,.q []⟩] mixed (by kernel_rfl) (by kernel_rfl) O O O<|D O<|D O<|D O<|D O<|D O<|D O<|D O<|D O<|D O<|D O<|D O<|D O<|D O<|D O<|D O<|D O<|D O<|wG<|M O (by decide) O O (zQ O O)<|M O (by decide) O O (zY O A O O (by omega) (yU g1))<|M O (by decide) O O (zN O qH O qA O)<|M O (by decide) O O (zQ O O)<|M O (by decide) O O (zY O A O O (by omega) (yU g0))<|M O (by decide) O O (zN O qH O qA O)<|M O (by decide) O O (yD O A zr38 O O O O)<|M O (by decide) O O (qF O ok79 (wB 14 [b,a]) ⟨G,O,G,O,T⟩)<|M O (by decide) O O (zF O zBf O (K 0 O) O)<|M O (by decide) O O (zQ O O)<|M O (by decide) O O (zY O A O O (by omega) (yU g0))<|M O (by decide) O O (zN O qH O qA O)<|M O (by decide) O O (qW [0,0,0] O O (ih a (by rw [hab];simp) ha (by omega)) ⟨G,O,T⟩ O)<|M O (by decide) O O (zF O zBf O (K 0 O) O)<|M O (by decide) O O (zQ O O)<|M O (by decide) O O (zY O A O O (by omega) (yU g1))<|M O (by decide) O O (zN O qH O qA O)<|wF O<|qB O (qW [2,2,2] O O (ih b (by rw [hab];simp) hb (by omega)) ⟨G,O,T⟩ O)<|qK O ok80 (zDl (opE 14 [b,a]) (tanE (isFr p.en) o_ a) (tanE (isFr p.en) o_ b) (by omega) (by omega)) ⟨G,O,G,O,G,O,T⟩<|N 0 v O<|H<|zT _ (Weak.mem [true,false,true,true,true] O)<|W<|X (zS qH O (K 0 O) O) ?_
         exact ⟨[_,_,_],⟨[_],[],O⟩,(congrArg vE (tan_max (by omega) hab)).symm,O⟩
        ·try simp only [I] at c10
         refine B O<|qX O<|F O<|H<|g O (fun c11=>?_) (fun c11=>?_)
         ·try simp only [I] at c11
          obtain ⟨c,a,b,hab,ha,hb⟩:=frk_if hk (by omega)
          have g0:e.Args[0]? =some c:=by rw [hab];rfl
          have g1:e.Args[1]? =some a:=by rw [hab];rfl
          have g2:e.Args[2]? =some b:=by rw [hab];rfl
          have hl2:e.Args.length=3:=by rw [hab];rfl
          have hw2:=zNc hab
          have hta:=kW (o_:=o_) ha (by omega)
          have htb:=kW (o_:=o_) hb (by omega)
          refine U<|yH 13 0 [⟨0,.q []⟩,⟨1,.q []⟩,⟨2,.q []⟩,⟨3,.q [2]⟩,⟨4,.q []⟩,⟨5,.q []⟩,⟨6,.q []⟩,⟨7,.q [2,3,4]⟩,⟨8,.q [2]⟩,⟨9,.q []⟩,⟨10,.q []⟩,⟨11,.q []⟩,⟨12,.q [2,3,4]⟩] mixed (by kernel_rfl) (by kernel_rfl) O O O<|D O<|D O<|D O<|D O<|D O<|D O<|D O<|D O<|D O<|D O<|D O<|D O<|D O<|wG<|M O (by decide) O O (zQ O O)<|M O (by decide) O O (zY O A O O (by omega) (yU g0))<|M O (by decide) O O (zN O qH O qA O)<|M O (by decide) O O (zF O zBf O (K 0 O) O)<|M O (by decide) O O (zQ O O)<|M O (by decide) O O (zY O A O O (by omega) (yU g1))<|M O (by decide) O O (zN O qH O qA O)<|M O (by decide) O O (qW [0,0,0] O O (ih a (by rw [hab];simp) ha (by omega)) ⟨G,O,T⟩ O)<|M O (by decide) O O (zF O zBf O (K 0 O) O)<|M O (by decide) O O (zQ O O)<|M O (by decide) O O (zY O A O O (by omega) (yU g2))<|M O (by decide) O O (zN O qH O qA O)<|M O (by decide) O O (qW [0,0,0] O O (ih b (by rw [hab];simp) hb (by omega)) ⟨G,O,T⟩ O)<|wF O<|qK O ok80 (zDl c (tanE (isFr p.en) o_ a) (tanE (isFr p.en) o_ b) (by omega) (by omega)) ⟨G,O,G,O,G,O,T⟩<|N 0 v O<|H<|zT _ (Weak.mem [true,false,true,true,true] O)<|W<|X (zS qH O (K 0 O) O) ?_
          exact ⟨[_,_,_],⟨[_],[],O⟩,(congrArg vE (tan_if (by omega) hab)).symm,O⟩
         ·try simp only [I] at c11
          refine B O<|qX O<|F O<|H<|g O (fun c12=>?_) (fun c12=>?_)
          ·try simp only [I] at c12
           obtain ⟨a,hab,hpa⟩:=zHn hk.1 (by omega)
           have g0:e.Args[0]? =some a:=by rw [hab];rfl
           have hl2:e.Args.length=1:=by rw [hab];rfl
           have hw2:=zEn hab
           refine U<|qO 5 mixed (by kernel_rfl) O O<|Y O O (zN O kC O qA O)<|Y O O (zQ O O)<|Y O O (zY O A O O (by omega) (yU g0))<|Y O O (zN O qH O qA O)<|Y O O (qF O ok70 (zHi p a hP (by omega)) ⟨G,O,G,O,T⟩)<|yK<|H<|g O (fun c13=>?_) (fun c13=>?_)
           ·try simp only [I] at c13
            have ha:=zJq c13
            refine U<|qO 4 mixed (by kernel_rfl) O O<|Y O O (zF O zBf O (K 2 O) O)<|Y O O (zQ O O)<|Y O O (zY O A O O (by omega) (yU g0))<|Y O O (zN O qH O qA O)<|yK<|qB O (qW [2,2,2] O O (ih a (by rw [hab];simp) ha (by omega)) ⟨G,O,T⟩ O)<|N 0 v O<|H<|zT _ (Weak.mem [true,false,true,true,true] O)<|W<|X (zS qH O (K 0 O) O) ?_
            exact ⟨[_,_,_],⟨[_],[],O⟩,(congrArg vE ((zFd (by omega) hab).trans (if_pos c13))).symm,O⟩
           ·try simp only [I] at c13
            refine zJ<|B O<|qK O ok74 zBt T<|N 0 v O<|H<|zT _ (Weak.mem [true,false,true,true,true] O)<|W<|X (zS qH O (K 0 O) O) ?_
            exact ⟨[_,_,_],⟨[_],[],O⟩,(congrArg vE ((zFd (by omega) hab).trans (if_neg (by rw [c13];simp)))).symm,O⟩
          ·try simp only [I] at c12
           refine zJ<|B O<|qK O ok74 zBt T<|N 0 v O<|H<|zT _ (Weak.mem [true,false,true,true,true] O)<|W<|X (zS qH O (K 0 O) O) ?_
           exact ⟨[_,_,_],⟨[_],[],O⟩,(congrArg vE (tan_val (by omega))).symm,O⟩
theorem fwd_tangentM_c (p:Pg) (hP:p.Ok) (sv0:Value) (o_:List ByteArray) (ho:o_.length<=1000) (hs:∀s,s∈o_->s.size<=1000000) (b0 b1:Nat) (a:Ex):FrK p.en a->a.wt<=1500->FnCon cfg (C.fn (.func 73) [] [.lit (.pointer (some ⟨b1,0,none⟩)),.lit (.pointer (some ⟨b0,0,none⟩)),.iptr p.cells]) [vE a] [E.row b0 74 [(C.fn (.func 73) [] [.lit (.pointer (some ⟨b1,0,none⟩)),.lit (.pointer (some ⟨b0,0,none⟩)),.iptr p.cells])],E.row b1 22 [.lit sv0],(E.vec sv0 9 1 (o_.map fun s=>[cS s]))] fun r μ'=>r=vE (tanE (isFr p.en) o_ a)/\μ'=[E.row b0 74 [(C.fn (.func 73) [] [.lit (.pointer (some ⟨b1,0,none⟩)),.lit (.pointer (some ⟨b0,0,none⟩)),.iptr p.cells])],E.row b1 22 [.lit sv0],(E.vec sv0 9 1 (o_.map fun s=>[cS s]))]:=by
  induction a using Ex.ind with
  |_ e ih=>exact fun hk he=>FnCon.of_con (first:=[]) (cap:=[.lit (.pointer (some ⟨b1,0,none⟩)),.lit (.pointer (some ⟨b0,0,none⟩)),.iptr p.cells]) ok73 (Con.dropG (fwd_tangentM_s p hP sv0 o_ ho hs b0 b1 e ih hk he))
theorem fwd_tangentM_t (p:Pg) (hP:p.Ok) (sv0:Value) (o_:List ByteArray) (ho:o_.length<=1000) (hs:∀s,s∈o_->s.size<=1000000) (e:Ex) (hk:FrK p.en e) (he:e.wt<=1500):
    Con cfg 30 [vPg p,vE e,.c (.lit sv0)] [(E.vec sv0 9 1 (o_.map fun s=>[cS s]))] fun r μ'=>∃μ2,(∃ν1 ν2,μ'=ν1++(μ2++ν2))/\(r=vE (tanE (isFr p.en) o_ e)/\μ2=[(E.vec sv0 9 1 (o_.map fun s=>[cS s]))]):=by
 refine zV Tryz.func30 O Tryz.ntmps30 Tryz.results30 O ?_
 intro z hz
 refine B O<|zW O O (qJ O O) ?_
 rintro _ _ ⟨b1,rfl,rfl⟩
 refine zW O O (qJ O O) ?_
 rintro _ _ ⟨b2,rfl,rfl⟩
 refine zW O O (qJ O O) ?_
 rintro _ _ ⟨b3,rfl,rfl⟩
 refine zW O O (qI [none,none,none,none,none,none,none,none,none,none,some 2,some 4,some 13] O zr38 O) ?_
 rintro _ _ ⟨b4,rfl,rfl⟩
 refine H<|B O<|zW O O (yA O zr74) ?_
 rintro _ _ ⟨b5,rfl,rfl⟩
 refine H<|U<|zT _ (kQ 4 O 3 _ PLe.ptr)<|zU O<|qB O (zJt O O O O O)<|N 0 sz74 O<|H<|B O<|zK zBf (K 0 O) O<|zL qH (K 3 O) O<|qB O (qW [0,1,2] O O (fwd_tangentM_c p hP sv0 o_ ho hs _ _ e hk he) ⟨G,O,T⟩ O)<|N 1 v O<|H<|zT _ (Weak.mem [false,true,false,false,true] O)<|W<|X (zS qH O (K 0 O) O) ?_
 exact ⟨[_],⟨[_],[],O⟩,O,O⟩
theorem fwd_tangentM (p:Pg) (hP:p.Ok) (sv0:Value) (o_:List ByteArray) (ho:o_.length<=1000) (hs:∀s,s∈o_->s.size<=1000000) (e:Ex) (hk:FrK p.en e) (he:e.wt<=1500):Con cfg 30 [vPg p,vE e,.c (.lit sv0)] [(E.vec sv0 9 1 (o_.map fun s=>[cS s]))] fun r μ'=>r=vE (tanE (isFr p.en) o_ e)/\μ'=[(E.vec sv0 9 1 (o_.map fun s=>[cS s]))]:=
  Con.dropG (fwd_tangentM_t p hP sv0 o_ ho hs e hk he)
theorem fwd_ExprM_s (p:Pg) (hP:p.Ok) (sv0:Value) (o_:List ByteArray) (ho:o_.length<=1000) (hs:∀s,s∈o_->s.size<=1000000) (e:Ex) (he:e.wt<=1500):
    Con cfg 11 [vPg p,vE e,.c (.lit sv0)] [(E.vec sv0 9 1 (o_.map fun s=>[cS s]))] fun r μ'=>∃μ2,(∃ν1 ν2,μ'=ν1++(μ2++ν2))/\(r=.tup [vE (exprF p.en o_ e).1,vI (exprF p.en o_ e).2]/\μ2=[(E.vec sv0 9 1 (o_.map fun s=>[cS s]))]):=by
 refine zV Tryz.func11 O Tryz.ntmps11 Tryz.results11 O ?_
 intro z hz
 have hil:=zLh e
 obtain ⟨t,ht0⟩:∃t,typeT p.en (indexT e) e=t:=⟨_,rfl⟩
 refine B O<|zW O O (qJ O O) ?_
 rintro _ _ ⟨b1,rfl,rfl⟩
 refine zW O O (qJ O O) ?_
 rintro _ _ ⟨b2,rfl,rfl⟩
 refine zW O O (qI [none,none,none,none,none,none,none,none,none,none,some 2,some 4,some 13] O zr38 O) ?_
 rintro _ _ ⟨b3,rfl,rfl⟩
 refine F O<|H<|U<|yH 10 1 [⟨0,.q [3]⟩,⟨1,.q [2]⟩,⟨2,.q []⟩,⟨3,.q [2]⟩,⟨4,.q []⟩,⟨5,.q []⟩,⟨6,.q []⟩,⟨7,.q []⟩,⟨8,.e 0 []⟩,⟨9,.e 0 []⟩] mixed (by kernel_rfl) (by kernel_rfl) O O O<|D O<|D O<|D O<|D O<|D O<|D O<|D O<|D O<|D O<|D O<|wG<|M O (by decide) O O (zN O kC O (K 0 O) O)<|M O (by decide) O O (zN O qH O (K 0 O) O)<|M O (by decide) O O (qF O ok28 (OwnR.pur (zEa e (by omega))) ⟨G,O,T⟩)<|M O (by decide) O O (zN O qH O (K 0 O) O)<|M O (by decide) O O (qF O ok27 (show Pur cfg 27 [vPg p,vSs (indexT e),vE e] (.tup [vTy t.1,vI t.2]) by rw [←ht0];exact zCq p (indexT e) e hP (by omega) (by omega)) ⟨G,O,G,O,G,O,T⟩)<|M O (by decide) O O (qU O O)<|M O (by decide) O O (yN O O O)<|M O (by decide) O O (yG O O O)<|zKl O O (by decide) O O (yA O zr31) ?_
 rintro _ _ ⟨b4,rfl,rfl⟩
 refine ⟨_,O,?_⟩
 refine zGb O O (by decide) O O (kT O sz31 O O O (zDo 0 O O)) ?_
 rintro _ _ ⟨rfl,rfl⟩
 refine ⟨_,O,?_⟩
 refine wF O<|F O<|H<|U<|B O<|F O<|yP O<|H<|g O (fun c1=>?_) (fun c1=>?_)
 ·try simp only [I] at c1
  refine B O<|yR [none,none,none,none,none,none,none,none,none,none,some 2,some 4,some 13] O zr38 pl38<|F O<|N 1 v O<|F O<|H<|zT _ (Weak.mem [false,true,false,false,true] O)<|W<|fin2 (zS qH O (K 0 O) O) (o O) ?_
  refine ⟨[_],⟨[_],[],O⟩,?_,O⟩
  rw [exprF_1 ht0 c1];rfl
 ·try simp only [I] at c1
  have hpe:=zGy (by rw [ht0];exact c1)
  refine zJ<|U<|B O<|zG O zAn<|zK w (K 0 O) O<|yP O<|F O<|u O (fun g4_3=>zN O kC O (K 3 O) O) O<|u O (fun g4_3=>zN O qH O (K 2 O) O) O<|u O (fun g4_3=>zQ O O) O<|rLz [(28,_),(29,_),(30,_)] O P ⟨O,O,O,O,O,O,T⟩ (fun g4_3=>yI [4] O ok29 (fwd_losesM p hP sv0 o_ ho e hpe (by omega)) ⟨G,O,G,O,G,O,T⟩ O) O<|r_or O (fun h=>(lzf h))<|H<|g O (fun c2=>?_) (fun c2=>?_)
  ·have c2:¬(t.1.Kind=1/\losE (isFr p.en) o_ e=false):=by rintro ⟨h1,h2⟩;simp [h1,h2] at c2
   refine B O<|yR [none,none,none,none,none,none,none,none,none,none,some 2,some 4,some 13] O zr38 pl38<|N 1 v O<|F O<|H<|zT _ (Weak.mem [false,true,false,false,true] O)<|W<|fin2 (zS qH O (K 0 O) O) (o O) ?_
   refine ⟨[_],⟨[_],[],O⟩,?_,O⟩
   rw [exprF_2 ht0 c1 c2];rfl
  ·have c2:t.1.Kind=1/\losE (isFr p.en) o_ e=false:=by simpa using c2
   have hk:=zJa (by rw [ht0];exact c1) (by rw [ht0];exact c2.1)
   have hto:=kW (o_:=o_) hk (by omega)
   refine zJ<|B O<|zL kC (K 3 O) O<|zL qH (K 2 O) O<|F O<|qB O (yI [4] O ok30 (fwd_tangentM p hP sv0 o_ ho hs e hk (by omega)) ⟨G,O,G,O,G,O,T⟩ O)<|zW O O (qI [none,none,none,none,none,none,none,none,none,none,some 2,some 4,some 13] O zr38 O) ?_
   rintro _ _ ⟨b5,rfl,rfl⟩
   refine N 0 v O<|H<|U<|B O<|zL qH (K 0 O) O<|qK O ok31 (zFl (tanE (isFr p.en) o_ e) (by omega)) ⟨G,O,T⟩<|F O<|H<|B O<|F O<|yP O<|H<|g O (fun c3=>?_) (fun c3=>?_)
   ·try simp only [I] at c3
    refine B O<|yR [none,none,none,none,none,none,none,none,none,none,some 2,some 4,some 13] O zr38 pl38<|F O<|N 2 v O<|F O<|H<|zT _ (Weak.mem [false,false,true,false,false,true] O)<|W<|fin2 (zS qH O (K 0 O) O) (o O) ?_
    refine ⟨[_],⟨[_],[],O⟩,?_,O⟩
    rw [exprF_3 ht0 c1 c2 c3];rfl
   ·try simp only [I] at c3
    refine zJ<|B O<|zL qH (K 0 O) O<|qK O ok32 (expr_Copy (tanE (isFr p.en) o_ e) (by omega)) ⟨G,O,T⟩<|N 2 v O<|F O<|H<|zT _ (Weak.mem [false,false,true,false,false,true] O)<|W<|fin2 (zS qH O (K 0 O) O) (o O) ?_
    refine ⟨[_],⟨[_],[],O⟩,?_,O⟩
    rw [exprF_4 ht0 c1 c2 c3];rfl
theorem fwd_ExprM (p:Pg) (hP:p.Ok) (sv0:Value) (o_:List ByteArray) (ho:o_.length<=1000) (hs:∀s,s∈o_->s.size<=1000000) (e:Ex) (he:e.wt<=1500):Con cfg 11 [vPg p,vE e,.c (.lit sv0)] [(E.vec sv0 9 1 (o_.map fun s=>[cS s]))] fun r μ'=>r=.tup [vE (exprF p.en o_ e).1,vI (exprF p.en o_ e).2]/\μ'=[(E.vec sv0 9 1 (o_.map fun s=>[cS s]))]:=
  Con.dropG (fwd_ExprM_s p hP sv0 o_ ho hs e he)
theorem fwd_deriveM_s (p:Pg) (hP:p.Ok) (d:Df) (sv0:Value) (A:List ByteArray) (hA:A.length<=1000) (hs:∀s,s∈A->s.size<=1000000) (hp:partE d.Body=0) (hw:d.Body.wt<=1500) (hn:d.Name.size<=1000000):
    Con cfg 45 [vPg p,vDf d,.c (.lit sv0)] [(E.vec sv0 9 1 (A.map fun s=>[cS s]))] fun r μ'=>∃μ2,(∃ν1 ν2,μ'=ν1++(μ2++ν2))/\(r=.tup [vDf (derF p.en d A).1,vB (derF p.en d A).2.1,vI (derF p.en d A).2.2]/\μ2=[(E.vec sv0 9 1 (A.map fun s=>[cS s]))]):=by
 refine zV Tryz.func45 O Tryz.ntmps45 Tryz.results45 O ?_
 intro z hz
 obtain ⟨X,hX⟩:∃X,exprF p.en A d.Body=X:=⟨_,rfl⟩
 refine B O<|zW O O (qJ O O) ?_
 rintro _ _ ⟨b1,rfl,rfl⟩
 refine zW O O (qJ O O) ?_
 rintro _ _ ⟨b2,rfl,rfl⟩
 refine zW O O (qI [none,none,none,none,none,none,some 3,some 3,none,none,none,none,none,none,none,none,none,none,none,some 2,some 4,some 13] O zr59 O) ?_
 rintro _ _ ⟨b3,rfl,rfl⟩
 refine F O<|F O<|H<|U<|B O<|zL kC (K 2 O) O<|zG O zCg<|zL qH (K 1 O) O<|F O<|qB O (yI [3] O ok29 (fwd_losesM p hP sv0 A hA d.Body hp (by omega)) ⟨G,O,G,O,G,O,T⟩ O)<|H<|g O (fun c1=>?_) (fun c1=>?_)
 ·try simp only [I] at c1
  refine B O<|yR [none,none,none,none,none,none,some 3,some 3,none,none,none,none,none,none,none,none,none,none,none,some 2,some 4,some 13] O zr59 pl59<|N 0 sz59 O<|F O<|F O<|H<|zT _ (Weak.mem [true,false,false,true] O)<|W<|fin3 (zS zCn O (K 0 O) O) (o O) (o O) ?_
  refine ⟨[_],⟨[_],[],O⟩,?_,O⟩
  rw [derF_1 c1];rfl
 ·try simp only [I] at c1
  have c1:losE (isFr p.en) A d.Body=false:=by simpa using c1
  refine zJ<|U<|B O<|zG O zHz<|zG O zAn<|zK w (K 1 O) O<|yP O<|F O<|u O (fun g3_4=>zD O zCg O) O<|J 22 O (fun g3_4=>zN O qH O (K 1 O) O) O<|u O (fun g3_4=>zQ O O) O<|rLz [(23,_),(24,_)] O P ⟨O,O,O,O,T⟩ (fun g3_4=>yI [3] O ok71 (fwd_readsM sv0 A hA d.Body hp) ⟨G,O,G,O,T⟩ O) O<|J 25 O (fun g3_4=>kU O O) O<|r_or O (fun h=>(lzf h))<|H<|g O (fun c2=>?_) (fun c2=>?_)
  ·have c2:¬d.T.Kind=1∨rdsE A d.Body=false:=by simpa using c2
   refine B O<|yR [none,none,none,none,none,none,some 3,some 3,none,none,none,none,none,none,none,none,none,none,none,some 2,some 4,some 13] O zr59 pl59<|N 0 sz59 O<|F O<|F O<|H<|zT _ (Weak.mem [true,false,false,true] O)<|W<|fin3 (zS zCn O (K 0 O) O) (o O) (o O) ?_
   refine ⟨[_],⟨[_],[],O⟩,?_,O⟩
   rw [derF_2 c1 c2];rfl
  ·have c2:¬(¬d.T.Kind=1∨rdsE A d.Body=false):=by simpa using c2
   refine zJ<|U<|B O<|zG O zDx<|zK w (K 1 O) O<|qX O<|F O<|u O (fun g5_3=>zD O zDx O) O<|J 33 O (fun g5_3=>zF O w O (K 1 O) O) O<|J 34 O (fun g5_3=>yL O O O) O<|r_or O (fun h=>(lzf h))<|F O<|u O (fun g5_8=>zD O zDx O) O<|J 38 O (fun g5_8=>zF O w O (K 1 O) O) O<|J 39 O (fun g5_8=>yL O O O) O<|r_or O (fun h=>(lzf h))<|H<|g O (fun c3=>?_) (fun c3=>?_)
   ·have c3:d.Fold=2∨d.Fold=3∨d.Fold=4:=by simp at c3;omega
    refine B O<|yR [none,none,none,none,none,none,some 3,some 3,none,none,none,none,none,none,none,none,none,none,none,some 2,some 4,some 13] O zr59 pl59<|N 0 sz59 O<|F O<|F O<|H<|zT _ (Weak.mem [true,false,false,true] O)<|W<|fin3 (zS zCn O (K 0 O) O) (o O) (o O) ?_
    refine ⟨[_],⟨[_],[],O⟩,?_,O⟩
    rw [derF_3 c1 c2 c3];rfl
   ·have c3:¬(d.Fold=2∨d.Fold=3∨d.Fold=4):=by simp at c3;omega
    refine zJ<|B O<|zL kC (K 2 O) O<|zG O zCg<|zL qH (K 1 O) O<|F O<|qB O (yI [3] O ok11 (show Con cfg 11 [vPg p,vE d.Body,.c (.lit sv0)] [(E.vec sv0 9 1 (A.map fun s=>[cS s]))] fun r μ'=>r=.tup [vE X.1,vI X.2]/\μ'=[(E.vec sv0 9 1 (A.map fun s=>[cS s]))] by rw [←hX];exact fwd_ExprM p hP sv0 A hA hs d.Body hw) ⟨G,O,G,O,G,O,T⟩ O)<|qB O (qU O O)<|qB O (yN O O O)<|qB O (yG O O O)<|zW O O (qI [none,none,none,none,none,none,none,none,none,none,some 2,some 4,some 13] O zr38 O) ?_
    rintro _ _ ⟨b4,rfl,rfl⟩
    refine N 0 v O<|F O<|H<|U<|B O<|F O<|yP O<|H<|g O (fun c4=>?_) (fun c4=>?_)
    ·try simp only [I] at c4
     refine B O<|yR [none,none,none,none,none,none,some 3,some 3,none,none,none,none,none,none,none,none,none,none,none,some 2,some 4,some 13] O zr59 pl59<|F O<|N 1 sz59 O<|F O<|F O<|H<|zT _ (Weak.mem [false,true,false,false,true] O)<|W<|fin3 (zS zCn O (K 0 O) O) (o O) (o O) ?_
     refine ⟨[_],⟨[_],[],O⟩,?_,O⟩
     rw [derF_4 c1 c2 c3 hX c4];rfl
    ·try simp only [I] at c4
     refine zJ<|U<|yH 6 0 [⟨0,.q []⟩,⟨1,.q [2]⟩,⟨2,.q []⟩,⟨3,.q [0]⟩,⟨4,.q []⟩,⟨5,.e 2 []⟩] mixed (by kernel_rfl) (by kernel_rfl) O O O<|D O<|D O<|D O<|D O<|D O<|D O<|wG<|M O (by decide) O O (zD O zEk O)<|M O (by decide) O O (zF O i O (K 0 O) O)<|M O (by decide) O O (qF O ok14 (zBb d.Name hn) ⟨G,O,T⟩)<|M O (by decide) O O (zN O qH O (K 0 O) O)<|M O (by decide) O O (zD O zEk O)<|zGb O O (by decide) O O (kT O sz9 O O O (zDo 0 O O)) ?_
     rintro _ _ ⟨rfl,rfl⟩
     refine ⟨_,O,?_⟩
     refine wF O<|zG O zCg<|N 2 v O<|H<|B O<|zL zCn (K 2 O) O<|N 1 sz59 O<|F O<|F O<|H<|zT _ (Weak.mem [false,true,false,false,true] O)<|W<|fin3 (zS zCn O (K 0 O) O) (o O) (o O) ?_
     refine ⟨[_],⟨[_],[],O⟩,?_,O⟩
     rw [derF_5 c1 c2 c3 hX c4];rfl
theorem fwd_deriveM (p:Pg) (hP:p.Ok) (d:Df) (sv0:Value) (A:List ByteArray) (hA:A.length<=1000) (hs:∀s,s∈A->s.size<=1000000) (hp:partE d.Body=0) (hw:d.Body.wt<=1500) (hn:d.Name.size<=1000000):Con cfg 45 [vPg p,vDf d,.c (.lit sv0)] [(E.vec sv0 9 1 (A.map fun s=>[cS s]))] fun r μ'=>r=.tup [vDf (derF p.en d A).1,vB (derF p.en d A).2.1,vI (derF p.en d A).2.2]/\μ'=[(E.vec sv0 9 1 (A.map fun s=>[cS s]))]:=
  Con.dropG (fwd_deriveM_s p hP d sv0 A hA hs hp hw hn)
theorem r26_tangentM_s (p:Pg) (hP:p.Ok) (sv0:Value) (o_:List ByteArray) (ho:o_.length<=1000) (hs:∀s,s∈o_->s.size<=1000000) (e:Ex) (ih:∀a,a∈e.Args->FrK p.en a->a.wt<=1500->Con cfg 36 [vPg p,vE a,.c (.lit sv0)] [(E.vec sv0 9 1 (o_.map fun s=>[cS s]))] fun r μ'=>r=vE (tanE (isFr p.en) o_ a)/\μ'=[(E.vec sv0 9 1 (o_.map fun s=>[cS s]))]) (hk:FrK p.en e) (he:e.wt<=1500):
    Con cfg 36 [vPg p,vE e,.c (.lit sv0)] [(E.vec sv0 9 1 (o_.map fun s=>[cS s]))] fun r μ'=>∃μ2,(∃ν1 ν2,μ'=ν1++(μ2++ν2))/\(r=vE (tanE (isFr p.en) o_ e)/\μ2=[(E.vec sv0 9 1 (o_.map fun s=>[cS s]))]):=by
 refine zV Tryz.func36 O Tryz.ntmps36 Tryz.results36 O ?_
 intro z hz
 have hop:=frk_op hk
 refine B O<|zW O O (qJ O O) ?_
 rintro _ _ ⟨b1,rfl,rfl⟩
 refine zW O O (qJ O O) ?_
 rintro _ _ ⟨b2,rfl,rfl⟩
 refine zW O O (qI [none,none,none,none,none,none,none,none,none,none,some 2,some 4,some 13] O zr38 O) ?_
 rintro _ _ ⟨b3,rfl,rfl⟩
 refine H<|U<|B O<|zG O yT<|zK w (K 1 O) O<|H<|zP<|B O<|qX O<|F O<|H<|g O (fun c1=>?_) (fun c1=>?_)
 ·try simp only [I] at c1
  refine B O<|qK O ok92 zFh T<|N 0 v O<|H<|zT _ (Weak.mem [true,false,false,true] O)<|W<|X (zS qH O (K 0 O) O) ?_
  exact ⟨[_],⟨[_],[],O⟩,(congrArg vE (tan_val c1)).symm,O⟩
 ·try simp only [I] at c1
  refine B O<|qX O<|F O<|H<|g O (fun c2=>?_) (fun c2=>?_)
  ·try simp only [I] at c2
   refine U<|B O<|F O<|zG O zBm<|zK i (K 1 O) O<|qB O (wC 3 O ok50 O (zDf o_ e.Name (by omega)) O ⟨.inl ⟨O,O⟩,.inr ⟨G,O⟩,T⟩)<|wI O<|H<|g O (fun c3=>?_) (fun c3=>?_)
   ·try simp only [I] at c3
    have c3:¬hasB o_ e.Name=true:=by simpa using c3
    refine B O<|qK O ok92 zFh T<|N 0 v O<|H<|zT _ (Weak.mem [true,false,false,true] O)<|W<|X (zS qH O (K 0 O) O) ?_
    exact ⟨[_],⟨[_],[],O⟩,(congrArg vE (zJe c2 c3)).symm,O⟩
   ·try simp only [I] at c3
    have c3:hasB o_ e.Name=true:=by simpa using c3
    refine zJ<|U<|qO 6 mixed (by kernel_rfl) O O<|Y O O (zD O zBm O)<|Y O O (zF O i O (K 1 O) O)<|Y O O (qF O ok49 (zCd e.Name (hs _ (zFj.1 c3))) ⟨G,O,T⟩)<|Y O O (zD O kL O)<|Y O O (zF O wX O (K 1 O) O)<|Y O O (zLn [none,none,none,none,none,none,none,none,none,none,some 2,none,some 13] O zr38 pl38 O O)<|yK<|N 0 v O<|H<|zT _ (Weak.mem [true,false,false,true] O)<|W<|X (zS qH O (K 0 O) O) ?_
    exact ⟨[_],⟨[_],[],O⟩,(congrArg vE (zMr c2 c3)).symm,O⟩
  ·try simp only [I] at c2
   refine B O<|qX O<|F O<|H<|g O (fun c4=>?_) (fun c4=>?_)
   ·try simp only [I] at c4
    obtain ⟨a,hab,hpa⟩:=zHn hk.1 (by omega)
    have g0:e.Args[0]? =some a:=by rw [hab];rfl
    have hl2:e.Args.length=1:=by rw [hab];rfl
    have hw2:=zEn hab
    refine U<|U<|qO 8 mixed (by kernel_rfl) O O<|Y O O (zN O kC O (K 2 O) O)<|Y O O (zD O kF O)<|Y O O (zF O wJ O (K 1 O) O)<|Y O O (zY O A O O (by omega) (yU g0))<|Y O O (zN O qH O qA O)<|Y O O (qF O ok91 (r26_kind p a hP (by omega)) ⟨G,O,G,O,T⟩)<|Y O O (zMe O zAn w O O)<|Y O O (zAf O O O)<|yK<|H<|g O (fun c5=>?_) (fun c5=>?_)
    ·try simp only [I] at c5
     have c5:¬isFr p.en a=true:=by rw [kind_fr];simpa using c5
     refine B O<|qK O ok92 zFh T<|N 0 v O<|H<|zT _ (Weak.mem [true,false,false,true] O)<|W<|X (zS qH O (K 0 O) O) ?_
     exact ⟨[_],⟨[_],[],O⟩,(congrArg vE ((zFd (by omega) hab).trans (if_neg c5))).symm,O⟩
    ·try simp only [I] at c5
     have c5:isFr p.en a=true:=by rw [kind_fr];simpa using c5
     have ha:=zJq c5
     refine zJ<|U<|qO 6 mixed (by kernel_rfl) O O<|Y O O (zN O kC O (K 2 O) O)<|Y O O (zD O kF O)<|Y O O (zF O wJ O (K 1 O) O)<|Y O O (zY O A O O (by omega) (yU g0))<|Y O O (zN O qH O qA O)<|Y O O (zQ O O)<|yK<|qB O (yI [3] O ok36 (ih a (by rw [hab];simp) ha (by omega)) ⟨G,O,G,O,G,O,T⟩ O)<|N 0 v O<|H<|zT _ (Weak.mem [true,false,false,true] O)<|W<|X (zS qH O (K 0 O) O) ?_
     exact ⟨[_],⟨[_],[],O⟩,(congrArg vE ((zFd (by omega) hab).trans (if_pos c5))).symm,O⟩
   ·try simp only [I] at c4
    refine B O<|qX O<|F O<|H<|g O (fun c6=>?_) (fun c6=>?_)
    ·try simp only [I] at c6
     obtain ⟨a,hab,ha⟩:=frk_neg hk (by omega)
     have g0:e.Args[0]? =some a:=by rw [hab];rfl
     have hl2:e.Args.length=1:=by rw [hab];rfl
     have hw2:=zEn hab
     have hta:=kW (o_:=o_) ha (by omega)
     refine U<|yH 8 1 [⟨0,.q [3]⟩,⟨1,.q []⟩,⟨2,.q [2]⟩,⟨3,.q []⟩,⟨4,.q []⟩,⟨5,.q []⟩,⟨6,.q [4]⟩,⟨7,.f 0⟩] mixed (by kernel_rfl) (by kernel_rfl) O O O<|D O<|D O<|D O<|D O<|D O<|D O<|D O<|zFk O O (wN (qI [none,none,none,none,none,none,none,none,none,none,some 2,some 4,some 13] O zr38 O)) ⟨_,_,0,O,O⟩<|wG<|M O (by decide) O O (zN O kC O (K 0 O) O)<|M O (by decide) O O (zD O kF O)<|M O (by decide) O O (zF O wJ O (K 0 O) O)<|M O (by decide) O O (zY O A O O (by omega) (yU g0))<|M O (by decide) O O (zN O qH O qA O)<|M O (by decide) O O (zQ O O)<|M O (by decide) O O (yI [0] O ok36 (ih a (by rw [hab];simp) ha (by omega)) ⟨G,O,G,O,G,O,T⟩ O)<|zFe O O ?_
     rintro _ _ ⟨b4,rfl,rfl⟩
     refine wF O<|N 0 v O<|H<|U<|B O<|zL qH (K 0 O) O<|qK O ok93 (zBd (tanE (isFr p.en) o_ a) (by omega)) ⟨G,O,T⟩<|H<|g O (fun c7=>?_) (fun c7=>?_)
     ·try simp only [I] at c7
      refine B O<|zL qH (K 0 O) O<|N 1 v O<|H<|zT _ (Weak.mem [false,true,false,false,true] O)<|W<|X (zS qH O (K 0 O) O) ?_
      exact ⟨[_],⟨[_],[],O⟩,(congrArg vE ((zIh (by omega) hab).trans ((if_pos c7).trans c7.symm))).symm,O⟩
     ·try simp only [I] at c7
      refine zJ<|B O<|zL qH (K 0 O) O<|qZ O A zr38<|qK O ok94 (wR 8 [tanE (isFr p.en) o_ a]) ⟨G,O,G,O,T⟩<|N 1 v O<|H<|zT _ (Weak.mem [false,true,false,false,true] O)<|W<|X (zS qH O (K 0 O) O) ?_
      exact ⟨[_],⟨[_],[],O⟩,(congrArg vE ((zIh (by omega) hab).trans (if_neg c7))).symm,O⟩
    ·try simp only [I] at c6
     refine B O<|qX O<|F O<|H<|g O (fun c8=>?_) (fun c8=>?_)
     ·try simp only [I] at c8
      obtain ⟨c,a,b,hab,ha,hb⟩:=frk_if hk (by omega)
      have g0:e.Args[0]? =some c:=by rw [hab];rfl
      have g1:e.Args[1]? =some a:=by rw [hab];rfl
      have g2:e.Args[2]? =some b:=by rw [hab];rfl
      have hl2:e.Args.length=3:=by rw [hab];rfl
      have hw2:=zNc hab
      have hta:=kW (o_:=o_) ha (by omega)
      have htb:=kW (o_:=o_) hb (by omega)
      refine U<|yH 18 0 [⟨0,.q []⟩,⟨1,.q [1]⟩,⟨2,.q []⟩,⟨3,.q []⟩,⟨4,.q [2]⟩,⟨5,.q []⟩,⟨6,.q [1]⟩,⟨7,.q []⟩,⟨8,.q []⟩,⟨9,.q []⟩,⟨10,.q [3]⟩,⟨11,.q [2]⟩,⟨12,.q []⟩,⟨13,.q [1]⟩,⟨14,.q []⟩,⟨15,.q []⟩,⟨16,.q []⟩,⟨17,.q [3]⟩] mixed (by kernel_rfl) (by kernel_rfl) O O O<|D O<|D O<|D O<|D O<|D O<|D O<|D O<|D O<|D O<|D O<|D O<|D O<|D O<|D O<|D O<|D O<|D O<|D O<|wG<|M O (by decide) O O (zD O kF O)<|M O (by decide) O O (zF O wJ O (K 0 O) O)<|M O (by decide) O O (zY O A O O (by omega) (yU g0))<|M O (by decide) O O (zN O qH O qA O)<|M O (by decide) O O (zN O kC O (K 0 O) O)<|M O (by decide) O O (zD O kF O)<|M O (by decide) O O (zF O wJ O (K 0 O) O)<|M O (by decide) O O (zY O A O O (by omega) (yU g1))<|M O (by decide) O O (zN O qH O qA O)<|M O (by decide) O O (zQ O O)<|M O (by decide) O O (yI [0] O ok36 (ih a (by rw [hab];simp) ha (by omega)) ⟨G,O,G,O,G,O,T⟩ O)<|M O (by decide) O O (zN O kC O (K 0 O) O)<|M O (by decide) O O (zD O kF O)<|M O (by decide) O O (zF O wJ O (K 0 O) O)<|M O (by decide) O O (zY O A O O (by omega) (yU g2))<|M O (by decide) O O (zN O qH O qA O)<|M O (by decide) O O (zQ O O)<|M O (by decide) O O (yI [0] O ok36 (ih b (by rw [hab];simp) hb (by omega)) ⟨G,O,G,O,G,O,T⟩ O)<|wF O<|qK O ok95 (zKq c (tanE (isFr p.en) o_ a) (tanE (isFr p.en) o_ b) (by omega) (by omega)) ⟨G,O,G,O,G,O,T⟩<|N 0 v O<|H<|zT _ (Weak.mem [true,false,false,true] O)<|W<|X (zS qH O (K 0 O) O) ?_
      exact ⟨[_],⟨[_],[],O⟩,(congrArg vE (tan_if (by omega) hab)).symm,O⟩
     ·try simp only [I] at c8
      obtain ⟨a,b,hab,ha,hb⟩:=zAp hk (by omega)
      have g0:e.Args[0]? =some a:=by rw [hab];rfl
      have g1:e.Args[1]? =some b:=by rw [hab];rfl
      have hl2:e.Args.length=2:=by rw [hab];rfl
      have hw2:=wM hab
      have hta:=kW (o_:=o_) ha (by omega)
      have htb:=kW (o_:=o_) hb (by omega)
      refine zJ<|B O<|zG O kF<|zK wJ (K 1 O) O<|qE O A (by omega) (yU g0)<|zL qH qA O<|zW O O (qI [none,none,none,none,none,none,none,none,none,none,some 2,some 4,some 13] O zr38 O) ?_
      rintro _ _ ⟨b5,rfl,rfl⟩
      refine N 0 v O<|H<|B O<|zG O kF<|zK wJ (K 2 O) O<|qE O A (by omega) (yU g1)<|zL qH qA O<|zW O O (qI [none,none,none,none,none,none,none,none,none,none,some 2,some 4,some 13] O zr38 O) ?_
      rintro _ _ ⟨b6,rfl,rfl⟩
      refine N 0 v O<|H<|B O<|zL kC (K 4 O) O<|zL qH (K 1 O) O<|F O<|qB O (yI [5] O ok36 (ih a (by rw [hab];simp) ha (by omega)) ⟨G,O,G,O,G,O,T⟩ O)<|zW O O (qI [none,none,none,none,none,none,none,none,none,none,some 2,some 4,some 13] O zr38 O) ?_
      rintro _ _ ⟨b7,rfl,rfl⟩
      refine N 0 v O<|H<|B O<|zL kC (K 5 O) O<|zL qH (K 1 O) O<|F O<|qB O (yI [6] O ok36 (ih b (by rw [hab];simp) hb (by omega)) ⟨G,O,G,O,G,O,T⟩ O)<|zW O O (qI [none,none,none,none,none,none,none,none,none,none,some 2,some 4,some 13] O zr38 O) ?_
      rintro _ _ ⟨b8,rfl,rfl⟩
      refine N 0 v O<|H<|U<|B O<|zG O yT<|zK w (K 5 O) O<|H<|zP<|B O<|qX O<|F O<|H<|g O (fun c9=>?_) (fun c9=>?_)
      ·try simp only [I] at c9
       refine B O<|zL qH (K 3 O) O<|zL qH (K 2 O) O<|zL qH (K 1 O) O<|zL qH (K 0 O) O<|qK O ok96 (r26_product a b (tanE (isFr p.en) o_ a) (tanE (isFr p.en) o_ b) (by omega) (by omega)) ⟨G,O,G,O,G,O,G,O,T⟩<|N 4 v O<|H<|zT _ (Weak.mem [false,false,false,false,true,false,false,true] O)<|W<|X (zS qH O (K 0 O) O) ?_
       exact ⟨[_],⟨[_],[],O⟩,(congrArg vE (tan_mul (by omega) hab)).symm,O⟩
      ·try simp only [I] at c9
       refine B O<|qX O<|F O<|H<|g O (fun c10=>?_) (fun c10=>?_)
       ·try simp only [I] at c10
        refine B O<|zL qH (K 3 O) O<|zL qH (K 2 O) O<|zL qH (K 1 O) O<|zL qH (K 0 O) O<|qK O ok97 (r26_quotient a b (tanE (isFr p.en) o_ a) (tanE (isFr p.en) o_ b) (by omega) (by omega)) ⟨G,O,G,O,G,O,G,O,T⟩<|N 4 v O<|H<|zT _ (Weak.mem [false,false,false,false,true,false,false,true] O)<|W<|X (zS qH O (K 0 O) O) ?_
        exact ⟨[_],⟨[_],[],O⟩,(congrArg vE (tan_div (by omega) hab)).symm,O⟩
       ·try simp only [I] at c10
        refine B O<|qX O<|F O<|H<|g O (fun c11=>?_) (fun c11=>?_)
        ·try simp only [I] at c11
         refine U<|qO 7 mixed (by kernel_rfl) O O<|Y O O (zN O qH O (K 3 O) O)<|Y O O (zN O qH O (K 2 O) O)<|Y O O (yD O A zr38 O O O O)<|Y O O (qF O ok94 (wR 14 [a,b]) ⟨G,O,G,O,T⟩)<|Y O O (zN O qH O (K 1 O) O)<|Y O O (zN O qH O (K 0 O) O)<|Y O O (qF O ok95 (zKq (opE 14 [a,b]) (tanE (isFr p.en) o_ a) (tanE (isFr p.en) o_ b) (by omega) (by omega)) ⟨G,O,G,O,G,O,T⟩)<|yK<|N 4 v O<|H<|zT _ (Weak.mem [false,false,false,false,true,false,false,true] O)<|W<|X (zS qH O (K 0 O) O) ?_
         exact ⟨[_],⟨[_],[],O⟩,(congrArg vE (tan_min (by omega) hab)).symm,O⟩
        ·try simp only [I] at c11
         refine B O<|qX O<|F O<|H<|g O (fun c12=>?_) (fun c12=>?_)
         ·try simp only [I] at c12
          refine U<|qO 7 mixed (by kernel_rfl) O O<|Y O O (zN O qH O (K 2 O) O)<|Y O O (zN O qH O (K 3 O) O)<|Y O O (yD O A zr38 O O O O)<|Y O O (qF O ok94 (wR 14 [b,a]) ⟨G,O,G,O,T⟩)<|Y O O (zN O qH O (K 1 O) O)<|Y O O (zN O qH O (K 0 O) O)<|Y O O (qF O ok95 (zKq (opE 14 [b,a]) (tanE (isFr p.en) o_ a) (tanE (isFr p.en) o_ b) (by omega) (by omega)) ⟨G,O,G,O,G,O,T⟩)<|yK<|N 4 v O<|H<|zT _ (Weak.mem [false,false,false,false,true,false,false,true] O)<|W<|X (zS qH O (K 0 O) O) ?_
          exact ⟨[_],⟨[_],[],O⟩,(congrArg vE (tan_max (by omega) hab)).symm,O⟩
         ·try simp only [I] at c12
          refine zJ<|U<|zP<|B O<|zL qH (K 0 O) O<|qK O ok93 (zBd (tanE (isFr p.en) o_ b) (by omega)) ⟨G,O,T⟩<|F O<|H<|g O (fun c13=>?_) (fun c13=>?_)
          ·try simp only [I] at c13
           refine B O<|zL qH (K 1 O) O<|N 4 v O<|H<|zT _ (Weak.mem [false,false,false,false,true,false,false,true] O)<|W<|X (zS qH O (K 0 O) O) ?_
           exact ⟨[_],⟨[_],[],O⟩,(congrArg vE ((zEo (by omega) hab).trans (if_pos c13))).symm,O⟩
          ·try simp only [I] at c13
           refine B O<|zL qH (K 1 O) O<|qK O ok93 (zBd (tanE (isFr p.en) o_ a) (by omega)) ⟨G,O,T⟩<|F O<|u O (fun g34_2=>zD O yT O) O<|J 143 O (fun g34_2=>zF O w O (K 5 O) O) O<|J 144 O (fun g34_2=>yL O O O) O<|yZ O (fun h=>h)<|F O<|H<|g O (fun c14=>?_) (fun c14=>?_)
           ·have c14:tanE (isFr p.en) o_ a=zeroX/\e.Op=5:=by simpa using c14
            refine B O<|zL qH (K 0 O) O<|qZ O A zr38<|qK O ok94 (wR 8 [tanE (isFr p.en) o_ b]) ⟨G,O,G,O,T⟩<|N 4 v O<|H<|zT _ (Weak.mem [false,false,false,false,true,false,false,true] O)<|W<|X (zS qH O (K 0 O) O) ?_
            exact ⟨[_],⟨[_],[],O⟩,(congrArg vE ((zEo (by omega) hab).trans ((if_neg c13).trans (if_pos c14)))).symm,O⟩
           ·have c14:¬(tanE (isFr p.en) o_ a=zeroX/\e.Op=5):=by simpa using c14
            refine B O<|zL qH (K 1 O) O<|qK O ok93 (zBd (tanE (isFr p.en) o_ a) (by omega)) ⟨G,O,T⟩<|F O<|H<|g O (fun c15=>?_) (fun c15=>?_)
            ·try simp only [I] at c15
             refine B O<|zL qH (K 0 O) O<|N 4 v O<|H<|zT _ (Weak.mem [false,false,false,false,true,false,false,true] O)<|W<|X (zS qH O (K 0 O) O) ?_
             exact ⟨[_],⟨[_],[],O⟩,(congrArg vE ((zEo (by omega) hab).trans ((if_neg c13).trans ((if_neg c14).trans (if_pos c15))))).symm,O⟩
            ·try simp only [I] at c15
             refine zJ<|B O<|zG O yT<|zK w (K 5 O) O<|zL qH (K 1 O) O<|zL qH (K 0 O) O<|qZ O A zr38<|qK O ok94 (wR e.Op [tanE (isFr p.en) o_ a,tanE (isFr p.en) o_ b]) ⟨G,O,G,O,T⟩<|N 4 v O<|H<|zT _ (Weak.mem [false,false,false,false,true,false,false,true] O)<|W<|X (zS qH O (K 0 O) O) ?_
             exact ⟨[_],⟨[_],[],O⟩,(congrArg vE ((zEo (by omega) hab).trans ((if_neg c13).trans ((if_neg c14).trans (if_neg c15))))).symm,O⟩
theorem r26_tangentM (p:Pg) (hP:p.Ok) (sv0:Value) (o_:List ByteArray) (ho:o_.length<=1000) (hs:∀s,s∈o_->s.size<=1000000) (e:Ex):FrK p.en e->e.wt<=1500->Con cfg 36 [vPg p,vE e,.c (.lit sv0)] [(E.vec sv0 9 1 (o_.map fun s=>[cS s]))] fun r μ'=>r=vE (tanE (isFr p.en) o_ e)/\μ'=[(E.vec sv0 9 1 (o_.map fun s=>[cS s]))]:=by
  induction e using Ex.ind with
  |_ e ih=>exact fun hk he=>Con.dropG (r26_tangentM_s p hP sv0 o_ ho hs e ih hk he)
theorem r26_ExprM_s (p:Pg) (hP:p.Ok) (sv0:Value) (o_:List ByteArray) (ho:o_.length<=1000) (hs:∀s,s∈o_->s.size<=1000000) (e:Ex) (he:e.wt<=1500):
    Con cfg 12 [vPg p,vE e,.c (.lit sv0)] [(E.vec sv0 9 1 (o_.map fun s=>[cS s]))] fun r μ'=>∃μ2,(∃ν1 ν2,μ'=ν1++(μ2++ν2))/\(r=.tup [vE (exprF p.en o_ e).1,vI (exprF p.en o_ e).2]/\μ2=[(E.vec sv0 9 1 (o_.map fun s=>[cS s]))]):=by
 refine zV Tryz.func12 O Tryz.ntmps12 Tryz.results12 O ?_
 intro z hz
 have hil:=indexW_len e
 obtain ⟨t,ht0⟩:∃t,typeT p.en (indexT e) e=t:=⟨_,rfl⟩
 refine B O<|zW O O (qJ O O) ?_
 rintro _ _ ⟨b1,rfl,rfl⟩
 refine zW O O (qJ O O) ?_
 rintro _ _ ⟨b2,rfl,rfl⟩
 refine zW O O (qI [none,none,none,none,none,none,none,none,none,none,some 2,some 4,some 13] O zr38 O) ?_
 rintro _ _ ⟨b3,rfl,rfl⟩
 refine F O<|H<|U<|yH 10 1 [⟨0,.q [3]⟩,⟨1,.q [2]⟩,⟨2,.q []⟩,⟨3,.q [2]⟩,⟨4,.q []⟩,⟨5,.q []⟩,⟨6,.q []⟩,⟨7,.q []⟩,⟨8,.e 0 []⟩,⟨9,.e 0 []⟩] mixed (by kernel_rfl) (by kernel_rfl) O O O<|D O<|D O<|D O<|D O<|D O<|D O<|D O<|D O<|D O<|D O<|wG<|M O (by decide) O O (zN O kC O (K 0 O) O)<|M O (by decide) O O (zN O qH O (K 0 O) O)<|M O (by decide) O O (qF O ok34 (zFt e (by omega)) ⟨G,O,T⟩)<|M O (by decide) O O (zN O qH O (K 0 O) O)<|M O (by decide) O O (qF O ok33 (show Pur cfg 33 [vPg p,vSs (indexW e),vE e] (.tup [vTy t.1,vI t.2]) by rw [←ht0,←type_ref];exact zGh p (indexW e) e hP (by omega) (by omega)) ⟨G,O,G,O,G,O,T⟩)<|M O (by decide) O O (qU O O)<|M O (by decide) O O (yN O O O)<|M O (by decide) O O (yG O O O)<|zKl O O (by decide) O O (yA O zr31) ?_
 rintro _ _ ⟨b4,rfl,rfl⟩
 refine ⟨_,O,?_⟩
 refine zGb O O (by decide) O O (kT O sz31 O O O (zDo 0 O O)) ?_
 rintro _ _ ⟨rfl,rfl⟩
 refine ⟨_,O,?_⟩
 refine wF O<|F O<|H<|U<|B O<|F O<|yP O<|H<|g O (fun c1=>?_) (fun c1=>?_)
 ·try simp only [I] at c1
  refine B O<|yR [none,none,none,none,none,none,none,none,none,none,some 2,some 4,some 13] O zr38 pl38<|F O<|N 1 v O<|F O<|H<|zT _ (Weak.mem [false,true,false,false,true] O)<|W<|fin2 (zS qH O (K 0 O) O) (o O) ?_
  refine ⟨[_],⟨[_],[],O⟩,?_,O⟩
  rw [exprF_1 ht0 c1];rfl
 ·try simp only [I] at c1
  have hpe:=zGy (by rw [ht0];exact c1)
  refine zJ<|U<|B O<|zG O zAn<|zK w (K 0 O) O<|yP O<|F O<|u O (fun g4_3=>zN O kC O (K 3 O) O) O<|u O (fun g4_3=>zN O qH O (K 2 O) O) O<|u O (fun g4_3=>zQ O O) O<|rLz [(28,_),(29,_),(30,_)] O P ⟨O,O,O,O,O,O,T⟩ (fun g4_3=>yI [4] O ok35 (r26_losesM p hP sv0 o_ ho e hpe (by omega)) ⟨G,O,G,O,G,O,T⟩ O) O<|r_or O (fun h=>(lzf h))<|H<|g O (fun c2=>?_) (fun c2=>?_)
  ·have c2:¬(t.1.Kind=1/\losE (isFr p.en) o_ e=false):=by rintro ⟨h1,h2⟩;simp [h1,h2] at c2
   refine B O<|yR [none,none,none,none,none,none,none,none,none,none,some 2,some 4,some 13] O zr38 pl38<|N 1 v O<|F O<|H<|zT _ (Weak.mem [false,true,false,false,true] O)<|W<|fin2 (zS qH O (K 0 O) O) (o O) ?_
   refine ⟨[_],⟨[_],[],O⟩,?_,O⟩
   rw [exprF_2 ht0 c1 c2];rfl
  ·have c2:t.1.Kind=1/\losE (isFr p.en) o_ e=false:=by simpa using c2
   have hk:=zJa (by rw [ht0];exact c1) (by rw [ht0];exact c2.1)
   have hto:=kW (o_:=o_) hk (by omega)
   refine zJ<|B O<|zL kC (K 3 O) O<|zL qH (K 2 O) O<|F O<|qB O (yI [4] O ok36 (r26_tangentM p hP sv0 o_ ho hs e hk (by omega)) ⟨G,O,G,O,G,O,T⟩ O)<|zW O O (qI [none,none,none,none,none,none,none,none,none,none,some 2,some 4,some 13] O zr38 O) ?_
   rintro _ _ ⟨b5,rfl,rfl⟩
   refine N 0 v O<|H<|U<|B O<|zL qH (K 0 O) O<|qK O ok37 (zHv (tanE (isFr p.en) o_ e) (by omega)) ⟨G,O,T⟩<|F O<|H<|B O<|F O<|yP O<|H<|g O (fun c3=>?_) (fun c3=>?_)
   ·try simp only [I] at c3
    refine B O<|yR [none,none,none,none,none,none,none,none,none,none,some 2,some 4,some 13] O zr38 pl38<|F O<|N 2 v O<|F O<|H<|zT _ (Weak.mem [false,false,true,false,false,true] O)<|W<|fin2 (zS qH O (K 0 O) O) (o O) ?_
    refine ⟨[_],⟨[_],[],O⟩,?_,O⟩
    rw [exprF_3 ht0 c1 c2 c3];rfl
   ·try simp only [I] at c3
    refine zJ<|B O<|zL qH (K 0 O) O<|N 2 v O<|F O<|H<|zT _ (Weak.mem [false,false,true,false,false,true] O)<|W<|fin2 (zS qH O (K 0 O) O) (o O) ?_
    refine ⟨[_],⟨[_],[],O⟩,?_,O⟩
    rw [exprF_4 ht0 c1 c2 c3];rfl
theorem r26_ExprM (p:Pg) (hP:p.Ok) (sv0:Value) (o_:List ByteArray) (ho:o_.length<=1000) (hs:∀s,s∈o_->s.size<=1000000) (e:Ex) (he:e.wt<=1500):Con cfg 12 [vPg p,vE e,.c (.lit sv0)] [(E.vec sv0 9 1 (o_.map fun s=>[cS s]))] fun r μ'=>r=.tup [vE (exprF p.en o_ e).1,vI (exprF p.en o_ e).2]/\μ'=[(E.vec sv0 9 1 (o_.map fun s=>[cS s]))]:=
  Con.dropG (r26_ExprM_s p hP sv0 o_ ho hs e he)
end Go.W
