/-
  Walks: what functions of the program compute. Printed by wip/gen/mk2.py.
  Conditions: none.
-/
import Derived.Test.YtkijgodlhljgdaaGreatDoorQC
set_option linter.unusedSimpArgs false
set_option linter.unusedVariables false
set_option maxRecDepth 10000
namespace Go.W
open Go Go.Eng Go.Proofs Go.L41 Go.Br
attribute [local irreducible] AWP RWP TD finQ
theorem fwd_readsM_s (sv0:Value) (o_:List ByteArray) (ho:o_.length<=1000) (e:Ex) (ih:∀a,a∈e.Args->partE a=0->Con cfg 71 [vE a,.c (.lit sv0)] [(E.vec sv0 9 1 (o_.map fun s=>[cS s]))] fun r μ'=>r=vB (rdsE o_ a)/\μ'=[(E.vec sv0 9 1 (o_.map fun s=>[cS s]))]) (hp:partE e=0):
    Con cfg 71 [vE e,.c (.lit sv0)] [(E.vec sv0 9 1 (o_.map fun s=>[cS s]))] fun r μ'=>r=vB (rdsE o_ e)/\μ'=[(E.vec sv0 9 1 (o_.map fun s=>[cS s]))]:=by
 refine zT Tryz.func71 O Tryz.ntmps71 Tryz.results71 O ?_
 intro z hz
 have hal:=zGz hp
 have hvl:=zHt (o:=e.Op) (l:=e.Args)
 have hna:nArgs e.Op<=3:=by unfold nArgs;repeat' split<;>omega
 refine B O<|zZ O O (qI O O) ?_
 rintro _ _ ⟨b1,rfl,rfl⟩
 refine G O<|U<|zI<|B O<|zG O yS<|zK one3 (J 0 O) O<|L O<|U<|zE O (fun c1=>?_) (fun c1=>?_)
 ·try simp only [W] at c1
  refine B O<|G O<|zG O zBw<|zK one9 (J 0 O) O<|zX O (zAf 1 O ok46 O (kD o_ e.Name (by omega)) O ⟨.inl ⟨O,O⟩,.inr ⟨Y,O⟩,T⟩)<|G O<|U<|zU _ (Weak.mem [false,true] O)<|zH<|zQ O ?_
  exact ⟨congrArg vB (by rw [zJp,if_pos c1]),O⟩
 ·try simp only [W] at c1
  refine zJ<|zI<|B O<|zL qN (J 0 O) O<|qK O ok72 (zCr e (if_len hp)) ⟨Y,O,T⟩<|zY O D<|G O<|U<|zP<|zU ⟨[(17,.c _),(1,.c _),(15,.c _),(16,.c _)],[_]⟩ (Weak.mk [false,true] ⟨Y,Y,Y,Y,T⟩ O)<|qF 1 0 O O (Nat) (fun k=>[(17,vI k)]) (fun k=>[]) (fun k=>k<=(vArgs e.Op e.Args).length/\(((vArgs e.Op e.Args).take k).any (rdsE o_)=false)) (fun k=>(vArgs e.Op e.Args).length-k) ⟨0,⟨by omega,O⟩,Weak.mk [true] ⟨Y,Y,Y,Y,T⟩ O⟩ ?_
  rintro k ⟨hk,hp2⟩
  refine B O<|yA O<|U<|zI<|zE O (fun c2=>?_) (fun c2=>?_)
  ·try simp only [W] at c2
   obtain ⟨x,hx⟩:=qQ (vArgs e.Op e.Args) k (by omega)
   refine zJ<|zI<|zP<|B O<|qE O D (by omega) (yZ hx)<|zL qN qB O<|zZ O O (qH [none,none,none,none,none,none,none,none,none,none,some 2,some 4,some 13] O zr38 O) ?_
   rintro _ _ ⟨b2,rfl,rfl⟩
   refine N 0 sz38 O<|U<|B O<|zL qN (J 0 O) O<|G O<|zX O (wE [1] O ok71 (ih x (zAz (qD hx)) (wW hp (zAz (qD hx)))) ⟨Y,O,Y,O,T⟩ O)<|U<|zE O (fun c3=>?_) (fun c3=>?_)
   ·try simp only [W] at c3
    refine B O<|G O<|U<|zU _ (Weak.mem [false,true] O)<|zH<|zQ O ?_
    exact ⟨congrArg vB (by rw [zJp,if_neg c1,any_at hx c3]),O⟩
   ·try simp only [W] at c3
    refine zJ<|zS O<|qJ O ⟨by omega,by omega⟩<|G O<|U ?_
    refine ⟨k+1,⟨by omega,zFa hx hp2 c3⟩,(by omega),Weak.mk [false,true] ⟨Y,Y,Y,Y,T⟩ O⟩
  ·try simp only [W] at c2
   refine qO<|B O<|G O<|U<|zH<|zQ O ?_
   rw [qX (by omega)] at hp2
   exact ⟨congrArg vB (by rw [zJp,if_neg c1,hp2]),O⟩
theorem fwd_readsM (sv0:Value) (o_:List ByteArray) (ho:o_.length<=1000) (e:Ex):partE e=0->Con cfg 71 [vE e,.c (.lit sv0)] [(E.vec sv0 9 1 (o_.map fun s=>[cS s]))] fun r μ'=>r=vB (rdsE o_ e)/\μ'=[(E.vec sv0 9 1 (o_.map fun s=>[cS s]))]:=by
  induction e using Ex.ind with
  |_ e ih=>exact fun hp=>fwd_readsM_s sv0 o_ ho e ih hp
theorem fwd_losesM_s (p:Pg) (hP:p.Ok) (sv0:Value) (o_:List ByteArray) (ho:o_.length<=1000) (e:Ex) (ih:∀a,a∈e.Args->partE a=0->a.wt<=1073741824->Con cfg 29 [vPg p,vE a,.c (.lit sv0)] [(E.vec sv0 9 1 (o_.map fun s=>[cS s]))] fun r μ'=>r=vB (losE (isFr p.en) o_ a)/\μ'=[(E.vec sv0 9 1 (o_.map fun s=>[cS s]))]) (hp:partE e=0) (he:e.wt<=1073741824):
    Con cfg 29 [vPg p,vE e,.c (.lit sv0)] [(E.vec sv0 9 1 (o_.map fun s=>[cS s]))] fun r μ'=>r=vB (losE (isFr p.en) o_ e)/\μ'=[(E.vec sv0 9 1 (o_.map fun s=>[cS s]))]:=by
 refine zT Tryz.func29 O Tryz.ntmps29 Tryz.results29 O ?_
 intro z hz
 have hal:=zGz hp
 have hvl:=zHt (o:=e.Op) (l:=e.Args)
 have hna:nArgs e.Op<=3:=by unfold nArgs;repeat' split<;>omega
 obtain ⟨a,ha0⟩:∃x,e.Args.getD 0 zEx=x:=⟨_,rfl⟩
 have haw:=getD_wt (e:=e) rfl 0
 rw [ha0] at haw
 refine B O<|zZ O O (qI O O) ?_
 rintro _ _ ⟨b1,rfl,rfl⟩
 refine zZ O O (qI O O) ?_
 rintro _ _ ⟨b2,rfl,rfl⟩
 refine G O<|U<|zI<|zI<|qT 25 mixed (by kernel_rfl) O O<|zM O O (zD O yS O)<|zM O O (zF O one3 O (J 0 O) O)<|zM O O (yF O O O)<|zM O O (zR O O)<|qC [] O O O O gv1 T (fun g1_3=>zD O zDm O) O<|qC [(13,_)] O O O O gv1 ⟨O,O,T⟩ (fun g1_3=>zD O zBp O) O<|qC [(14,_)] O O O O gv1 ⟨O,O,T⟩ (fun g1_3=>zF O one3 O (J 0 O) O) O<|qC [(15,_)] O O O O gv1 ⟨O,O,T⟩ (fun g1_3=>zAk O O O) O<|zM O O (kR O O O (fun h=>h) O)<|zM O O (zR O O)<|qC [] O O O O gv1 T (fun g1_9=>zN O kO O (J 1 O) O) O<|qC [] O O O O gv1 T (fun g1_9=>zD O kZ O) O<|qC [(20,_)] O O O O gv1 ⟨O,O,T⟩ (fun g1_9=>zF O zAy O (J 0 O) O) O<|qC [(21,_)] O O O O gv1 ⟨O,O,T⟩ (fun g1_9=>qA O D O O (by have h12:e.Op=12:=(by simp only [Lz,cond_true,cond_false,Bool.and_eq_true,Bool.or_eq_true,Bool.not_eq_true',Bool.not_eq_false',Bool.or_eq_false_iff,Bool.and_eq_false_iff,decide_eq_true_eq,decide_eq_false_iff_not,Bool.not_eq_true,Bool.not_eq_false] at g1_9;first|exact g1_9.1|exact g1_9.1.1|exact g1_9.1.1.1);have h13:=zCg hp h12;omega) (yZ (exGq (by have h12:e.Op=12:=(by simp only [Lz,cond_true,cond_false,Bool.and_eq_true,Bool.or_eq_true,Bool.not_eq_true',Bool.not_eq_false',Bool.or_eq_false_iff,Bool.and_eq_false_iff,decide_eq_true_eq,decide_eq_false_iff_not,Bool.not_eq_true,Bool.not_eq_false] at g1_9;first|exact g1_9.1|exact g1_9.1.1|exact g1_9.1.1.1);have h13:=zCg hp h12;omega) ha0))) O<|qC [(22,_)] O O O O gv1 ⟨O,O,T⟩ (fun g1_9=>zN O qN O qB O) O<|qC [(19,_),(23,_)] O O O O gv1 ⟨O,O,O,O,T⟩ (fun g1_9=>qG O ok70 (zGl p a hP (by omega)) ⟨Y,O,Y,O,T⟩) O<|zM O O (kR O O O (fun h=>h) O)<|zM O O (zR O O)<|qC [] O O O O gv1 T (fun g1_17=>zD O kZ O) O<|qC [(27,_)] O O O O gv1 ⟨O,O,T⟩ (fun g1_17=>zF O zAy O (J 0 O) O) O<|qC [(28,_)] O O O O gv1 ⟨O,O,T⟩ (fun g1_17=>qA O D O O (by have h12:e.Op=12:=(by simp only [Lz,cond_true,cond_false,Bool.and_eq_true,Bool.or_eq_true,Bool.not_eq_true',Bool.not_eq_false',Bool.or_eq_false_iff,Bool.and_eq_false_iff,decide_eq_true_eq,decide_eq_false_iff_not,Bool.not_eq_true,Bool.not_eq_false] at g1_17;first|exact g1_17.1|exact g1_17.1.1|exact g1_17.1.1.1);have h13:=zCg hp h12;omega) (yZ (exGq (by have h12:e.Op=12:=(by simp only [Lz,cond_true,cond_false,Bool.and_eq_true,Bool.or_eq_true,Bool.not_eq_true',Bool.not_eq_false',Bool.or_eq_false_iff,Bool.and_eq_false_iff,decide_eq_true_eq,decide_eq_false_iff_not,Bool.not_eq_true,Bool.not_eq_false] at g1_17;first|exact g1_17.1|exact g1_17.1.1|exact g1_17.1.1.1);have h13:=zCg hp h12;omega) ha0))) O<|qC [(29,_)] O O O O gv1 ⟨O,O,T⟩ (fun g1_17=>zN O qN O qB O) O<|qC [] O O O O gv1 T (fun g1_17=>zR O O) O<|qC [(30,_),(31,_)] O O O O gv1 ⟨O,O,O,O,T⟩ (fun g1_17=>wE [2] O ok71 (fwd_readsM sv0 o_ ho a (cast_getD hp (by have h12:e.Op=12:=(by simp only [Lz,cond_true,cond_false,Bool.and_eq_true,Bool.or_eq_true,Bool.not_eq_true',Bool.not_eq_false',Bool.or_eq_false_iff,Bool.and_eq_false_iff,decide_eq_true_eq,decide_eq_false_iff_not,Bool.not_eq_true,Bool.not_eq_false] at g1_17;first|exact g1_17.1|exact g1_17.1.1|exact g1_17.1.1.1);have h13:=zCg hp h12;exact h12) ha0)) ⟨Y,O,Y,O,T⟩ O) O<|zM O O (kR O O O (fun h=>h) O)<|yM<|U<|zE O (fun c1=>?_) (fun c1=>?_)
 ·have c1:(decide (e.Op=12)&& !decide (e.Ty.Kind=1)&&isFr p.en (e.Args.getD 0 zEx)&&rdsE o_ (e.Args.getD 0 zEx))=true:=by rw [ha0];exact c1
  refine B O<|G O<|U<|zU _ (Weak.mem [false,false,true] O)<|zH<|zQ O ?_
  exact ⟨congrArg vB (losE_yes c1).symm,O⟩
 ·have c1:(decide (e.Op=12)&& !decide (e.Ty.Kind=1)&&isFr p.en (e.Args.getD 0 zEx)&&rdsE o_ (e.Args.getD 0 zEx))=false:=by rw [ha0];exact c1
  refine zJ<|zI<|B O<|zL qN (J 0 O) O<|qK O ok72 (zCr e (if_len hp)) ⟨Y,O,T⟩<|zY O D<|G O<|U<|zP<|zU ⟨[(37,.c _),(2,.c _),(3,.c _),(35,.c _),(36,.c _)],[_,_]⟩ (Weak.mk [false,true,true] ⟨Y,Y,Y,Y,Y,T⟩ O)<|qF 1 0 O O (Nat) (fun k=>[(37,vI k)]) (fun k=>[]) (fun k=>k<=(vArgs e.Op e.Args).length/\(((vArgs e.Op e.Args).take k).any (losE (isFr p.en) o_)=false)) (fun k=>(vArgs e.Op e.Args).length-k) ⟨0,⟨by omega,O⟩,Weak.mk [true,true] ⟨Y,Y,Y,Y,Y,T⟩ O⟩ ?_
  rintro k ⟨hk,hp2⟩
  refine B O<|yA O<|U<|zI<|zE O (fun c2=>?_) (fun c2=>?_)
  ·try simp only [W] at c2
   obtain ⟨x,hx⟩:=qQ (vArgs e.Op e.Args) k (by omega)
   refine zJ<|zI<|zP<|B O<|qE O D (by omega) (yZ hx)<|zL qN qB O<|zZ O O (qH [none,none,none,none,none,none,none,none,none,none,some 2,some 4,some 13] O zr38 O) ?_
   rintro _ _ ⟨b3,rfl,rfl⟩
   refine N 0 sz38 O<|U<|B O<|zL kO (J 1 O) O<|zL qN (J 0 O) O<|G O<|zX O (wE [2] O ok29 (ih x (zAz (qD hx)) (wW hp (zAz (qD hx))) (by have:=Ex.arg_wt (zAz (qD hx));omega)) ⟨Y,O,Y,O,Y,O,T⟩ O)<|U<|zE O (fun c3=>?_) (fun c3=>?_)
   ·try simp only [W] at c3
    refine B O<|G O<|U<|zU _ (Weak.mem [false,false,true] O)<|zH<|zQ O ?_
    exact ⟨congrArg vB (by rw [losE_no c1,any_at hx c3]),O⟩
   ·try simp only [W] at c3
    refine zJ<|zS O<|qJ O ⟨by omega,by omega⟩<|G O<|U ?_
    refine ⟨k+1,⟨by omega,zFa hx hp2 c3⟩,(by omega),Weak.mk [false,true,true] ⟨Y,Y,Y,Y,Y,T⟩ O⟩
  ·try simp only [W] at c2
   refine qO<|B O<|G O<|U<|zU _ (Weak.mem [false,true] O)<|zH<|zQ O ?_
   rw [qX (by omega)] at hp2
   exact ⟨congrArg vB (by rw [losE_no c1,hp2]),O⟩
theorem fwd_losesM (p:Pg) (hP:p.Ok) (sv0:Value) (o_:List ByteArray) (ho:o_.length<=1000) (e:Ex):partE e=0->e.wt<=1073741824->Con cfg 29 [vPg p,vE e,.c (.lit sv0)] [(E.vec sv0 9 1 (o_.map fun s=>[cS s]))] fun r μ'=>r=vB (losE (isFr p.en) o_ e)/\μ'=[(E.vec sv0 9 1 (o_.map fun s=>[cS s]))]:=by
  induction e using Ex.ind with
  |_ e ih=>exact fun hp he=>fwd_losesM_s p hP sv0 o_ ho e ih hp he
theorem fwd_tangentM_s (p:Pg) (hP:p.Ok) (sv0:Value) (o_:List ByteArray) (ho:o_.length<=1000) (hs:∀s,s∈o_->s.size<=1000000) (b0 b1:Nat) (e:Ex) (ih:∀a,a∈e.Args->FrK p.en a->a.wt<=1500->FnCon cfg (C.fn (.func 73) [] [.lit (.pointer (some ⟨b1,0,none⟩)),.lit (.pointer (some ⟨b0,0,none⟩)),.iptr p.cells]) [vE a] [E.row b0 74 [(C.fn (.func 73) [] [.lit (.pointer (some ⟨b1,0,none⟩)),.lit (.pointer (some ⟨b0,0,none⟩)),.iptr p.cells])],E.row b1 22 [.lit sv0],(E.vec sv0 9 1 (o_.map fun s=>[cS s]))] fun r μ'=>r=vE (tanE (isFr p.en) o_ a)/\μ'=[E.row b0 74 [(C.fn (.func 73) [] [.lit (.pointer (some ⟨b1,0,none⟩)),.lit (.pointer (some ⟨b0,0,none⟩)),.iptr p.cells])],E.row b1 22 [.lit sv0],(E.vec sv0 9 1 (o_.map fun s=>[cS s]))]) (hk:FrK p.en e) (he:e.wt<=1500):
    Con cfg 73 [vE e,.c (.lit (.pointer (some ⟨b1,0,none⟩))),.c (.lit (.pointer (some ⟨b0,0,none⟩))),.c (.iptr p.cells)] [E.row b0 74 [(C.fn (.func 73) [] [.lit (.pointer (some ⟨b1,0,none⟩)),.lit (.pointer (some ⟨b0,0,none⟩)),.iptr p.cells])],E.row b1 22 [.lit sv0],(E.vec sv0 9 1 (o_.map fun s=>[cS s]))] fun r μ'=>∃μ2,(∃ν1 ν2,μ'=ν1++(μ2++ν2))/\(r=vE (tanE (isFr p.en) o_ e)/\μ2=[E.row b0 74 [(C.fn (.func 73) [] [.lit (.pointer (some ⟨b1,0,none⟩)),.lit (.pointer (some ⟨b0,0,none⟩)),.iptr p.cells])],E.row b1 22 [.lit sv0],(E.vec sv0 9 1 (o_.map fun s=>[cS s]))]):=by
 refine zT Tryz.func73 O Tryz.ntmps73 Tryz.results73 O ?_
 intro z hz
 refine B O<|zZ O O (qI O O) ?_
 rintro _ _ ⟨b1,rfl,rfl⟩
 refine zZ O O (qH [none,none,none,none,none,none,none,none,none,none,some 2,some 4,some 13] O zr38 O) ?_
 rintro _ _ ⟨b2,rfl,rfl⟩
 refine U<|B O<|zG O kZ<|zK zAy (J 1 O) O<|G O<|U<|zI<|B O<|zG O yS<|zK one3 (J 1 O) O<|U<|zP<|B O<|L O<|G O<|U<|zE O (fun c1=>?_) (fun c1=>?_)
 ·try simp only [W] at c1
  refine zI<|B O<|zK wY (J 3 O) O<|zG O zBw<|zK one9 (J 1 O) O<|zX O (zAf 4 O ok46 O (kD o_ e.Name (by omega)) O ⟨.inl ⟨O,O⟩,.inr ⟨Y,O⟩,T⟩)<|wB O<|U<|zE O (fun c2=>?_) (fun c2=>?_)
  ·try simp only [W] at c2
   have c2:¬hasB o_ e.Name=true:=by simpa using c2
   refine B O<|qK O ok74 zBh T<|N 0 sz38 O<|U<|zU _ (Weak.mem [true,false,true,true,true] O)<|zH<|fin1 (zV qN O (J 0 O) O) ?_
   exact ⟨[_,_,_],⟨[_],[],O⟩,(congrArg vE (zMd c1 c2)).symm,O⟩
  ·try simp only [W] at c2
   have c2:hasB o_ e.Name=true:=by simpa using c2
   refine zJ<|B O<|zG O zBw<|zK one9 (J 1 O) O<|qK O ok14 (zAq e.Name (hs _ (hasB_mem.1 c2))) ⟨Y,O,T⟩<|zG O zBw<|N 1 sz9 O<|U<|B O<|zL qN (J 1 O) O<|N 0 sz38 O<|U<|zU _ (Weak.mem [true,false,true,true,true] O)<|zH<|fin1 (zV qN O (J 0 O) O) ?_
   exact ⟨[_,_,_],⟨[_],[],O⟩,(congrArg V.agg (read_cs hk.1 c1 _)).trans (congrArg vE (tan_read c1 c2)).symm,O⟩
 ·try simp only [W] at c1
  have hop:=frk_op hk
  refine zI<|B O<|L O<|G O<|U<|zE O (fun c3=>?_) (fun c3=>?_)
  ·try simp only [W] at c3
   refine zJ<|zE O (fun c4=>?_) (fun c4=>?_)
   ·try simp only [W] at c4
    obtain ⟨a,b,hab,ha,hb⟩:=zAj hk (by omega)
    have g0:e.Args[0]? =some a:=by rw [hab];rfl
    have g1:e.Args[1]? =some b:=by rw [hab];rfl
    have hl2:e.Args.length=2:=by rw [hab];rfl
    have hw2:=wI hab
    have hta:=wF (o_:=o_) ha (by omega)
    have htb:=wF (o_:=o_) hb (by omega)
    refine zI<|yH 12 0 [⟨0,.q []⟩,⟨1,.q [1]⟩,⟨2,.q [2]⟩,⟨3,.q []⟩,⟨4,.q []⟩,⟨5,.q []⟩,⟨6,.q [2,3,4]⟩,⟨7,.q [2]⟩,⟨8,.q []⟩,⟨9,.q []⟩,⟨10,.q []⟩,⟨11,.q [2,3,4]⟩] mixed (by kernel_rfl) (by kernel_rfl) O O O<|zO O<|zO O<|zO O<|zO O<|zO O<|zO O<|zO O<|zO O<|zO O<|zO O<|zO O<|zO O<|wM<|zW O (by decide) O O (zD O yS O)<|zW O (by decide) O O (zF O one3 O (J 0 O) O)<|zW O (by decide) O O (zF O zAs O (J 0 O) O)<|zW O (by decide) O O (zR O O)<|zW O (by decide) O O (qA O D O O (by omega) (yZ g0))<|zW O (by decide) O O (zN O qN O qB O)<|zW O (by decide) O O (qS [0,0,0] O O (ih a (by rw [hab];simp) ha (by omega)) ⟨Y,O,T⟩ O)<|zW O (by decide) O O (zF O zAs O (J 0 O) O)<|zW O (by decide) O O (zR O O)<|zW O (by decide) O O (qA O D O O (by omega) (yZ g1))<|zW O (by decide) O O (zN O qN O qB O)<|zW O (by decide) O O (qS [0,0,0] O O (ih b (by rw [hab];simp) hb (by omega)) ⟨Y,O,T⟩ O)<|wJ O<|qK O ok75 (fwd_sum e.Op (tanE (isFr p.en) o_ a) (tanE (isFr p.en) o_ b) (by omega) (by omega)) ⟨Y,O,Y,O,Y,O,T⟩<|N 0 sz38 O<|U<|zU _ (Weak.mem [true,false,true,true,true] O)<|zH<|fin1 (zV qN O (J 0 O) O) ?_
    exact ⟨[_,_,_],⟨[_],[],O⟩,(congrArg vE (zJk (by omega) hab)).symm,O⟩
   ·try simp only [W] at c4
    exact absurd c3 c4
  ·try simp only [W] at c3
   refine zS O<|L O<|G O<|U<|zE O (fun c4=>?_) (fun c4=>?_)
   ·try simp only [W] at c4
    obtain ⟨a,b,hab,ha,hb⟩:=zAj hk (by omega)
    have g0:e.Args[0]? =some a:=by rw [hab];rfl
    have g1:e.Args[1]? =some b:=by rw [hab];rfl
    have hl2:e.Args.length=2:=by rw [hab];rfl
    have hw2:=wI hab
    have hta:=wF (o_:=o_) ha (by omega)
    have htb:=wF (o_:=o_) hb (by omega)
    refine zI<|yH 12 0 [⟨0,.q []⟩,⟨1,.q [1]⟩,⟨2,.q [2]⟩,⟨3,.q []⟩,⟨4,.q []⟩,⟨5,.q []⟩,⟨6,.q [2,3,4]⟩,⟨7,.q [2]⟩,⟨8,.q []⟩,⟨9,.q []⟩,⟨10,.q []⟩,⟨11,.q [2,3,4]⟩] mixed (by kernel_rfl) (by kernel_rfl) O O O<|zO O<|zO O<|zO O<|zO O<|zO O<|zO O<|zO O<|zO O<|zO O<|zO O<|zO O<|zO O<|wM<|zW O (by decide) O O (zD O yS O)<|zW O (by decide) O O (zF O one3 O (J 0 O) O)<|zW O (by decide) O O (zF O zAs O (J 0 O) O)<|zW O (by decide) O O (zR O O)<|zW O (by decide) O O (qA O D O O (by omega) (yZ g0))<|zW O (by decide) O O (zN O qN O qB O)<|zW O (by decide) O O (qS [0,0,0] O O (ih a (by rw [hab];simp) ha (by omega)) ⟨Y,O,T⟩ O)<|zW O (by decide) O O (zF O zAs O (J 0 O) O)<|zW O (by decide) O O (zR O O)<|zW O (by decide) O O (qA O D O O (by omega) (yZ g1))<|zW O (by decide) O O (zN O qN O qB O)<|zW O (by decide) O O (qS [0,0,0] O O (ih b (by rw [hab];simp) hb (by omega)) ⟨Y,O,T⟩ O)<|wJ O<|qK O ok75 (fwd_sum e.Op (tanE (isFr p.en) o_ a) (tanE (isFr p.en) o_ b) (by omega) (by omega)) ⟨Y,O,Y,O,Y,O,T⟩<|N 0 sz38 O<|U<|zU _ (Weak.mem [true,false,true,true,true] O)<|zH<|fin1 (zV qN O (J 0 O) O) ?_
    exact ⟨[_,_,_],⟨[_],[],O⟩,(congrArg vE (zJk (by omega) hab)).symm,O⟩
   ·try simp only [W] at c4
    refine B O<|L O<|G O<|U<|zE O (fun c5=>?_) (fun c5=>?_)
    ·try simp only [W] at c5
     obtain ⟨a,b,hab,ha,hb⟩:=zAj hk (by omega)
     have g0:e.Args[0]? =some a:=by rw [hab];rfl
     have g1:e.Args[1]? =some b:=by rw [hab];rfl
     have hl2:e.Args.length=2:=by rw [hab];rfl
     have hw2:=wI hab
     have hta:=wF (o_:=o_) ha (by omega)
     have htb:=wF (o_:=o_) hb (by omega)
     refine zI<|yH 16 0 [⟨0,.q []⟩,⟨1,.q []⟩,⟨2,.q []⟩,⟨3,.q []⟩,⟨4,.q []⟩,⟨5,.q []⟩,⟨6,.q [2]⟩,⟨7,.q []⟩,⟨8,.q []⟩,⟨9,.q []⟩,⟨10,.q [2,3,4]⟩,⟨11,.q [2]⟩,⟨12,.q []⟩,⟨13,.q []⟩,⟨14,.q []⟩,⟨15,.q [2,3,4]⟩] mixed (by kernel_rfl) (by kernel_rfl) O O O<|zO O<|zO O<|zO O<|zO O<|zO O<|zO O<|zO O<|zO O<|zO O<|zO O<|zO O<|zO O<|zO O<|zO O<|zO O<|zO O<|wM<|zW O (by decide) O O (zR O O)<|zW O (by decide) O O (qA O D O O (by omega) (yZ g0))<|zW O (by decide) O O (zN O qN O qB O)<|zW O (by decide) O O (zR O O)<|zW O (by decide) O O (qA O D O O (by omega) (yZ g1))<|zW O (by decide) O O (zN O qN O qB O)<|zW O (by decide) O O (zF O zAs O (J 0 O) O)<|zW O (by decide) O O (zR O O)<|zW O (by decide) O O (qA O D O O (by omega) (yZ g0))<|zW O (by decide) O O (zN O qN O qB O)<|zW O (by decide) O O (qS [0,0,0] O O (ih a (by rw [hab];simp) ha (by omega)) ⟨Y,O,T⟩ O)<|zW O (by decide) O O (zF O zAs O (J 0 O) O)<|zW O (by decide) O O (zR O O)<|zW O (by decide) O O (qA O D O O (by omega) (yZ g1))<|zW O (by decide) O O (zN O qN O qB O)<|zW O (by decide) O O (qS [0,0,0] O O (ih b (by rw [hab];simp) hb (by omega)) ⟨Y,O,T⟩ O)<|wJ O<|qK O ok76 (zNn a b (tanE (isFr p.en) o_ a) (tanE (isFr p.en) o_ b) (by omega) (by omega)) ⟨Y,O,Y,O,Y,O,Y,O,T⟩<|N 0 sz38 O<|U<|zU _ (Weak.mem [true,false,true,true,true] O)<|zH<|fin1 (zV qN O (J 0 O) O) ?_
     exact ⟨[_,_,_],⟨[_],[],O⟩,(congrArg vE (tan_mul (by omega) hab)).symm,O⟩
    ·try simp only [W] at c5
     refine B O<|L O<|G O<|U<|zE O (fun c6=>?_) (fun c6=>?_)
     ·try simp only [W] at c6
      obtain ⟨a,b,hab,ha,hb⟩:=zAj hk (by omega)
      have g0:e.Args[0]? =some a:=by rw [hab];rfl
      have g1:e.Args[1]? =some b:=by rw [hab];rfl
      have hl2:e.Args.length=2:=by rw [hab];rfl
      have hw2:=wI hab
      have hta:=wF (o_:=o_) ha (by omega)
      have htb:=wF (o_:=o_) hb (by omega)
      refine zI<|yH 16 0 [⟨0,.q []⟩,⟨1,.q []⟩,⟨2,.q []⟩,⟨3,.q []⟩,⟨4,.q []⟩,⟨5,.q []⟩,⟨6,.q [2]⟩,⟨7,.q []⟩,⟨8,.q []⟩,⟨9,.q []⟩,⟨10,.q [2,3,4]⟩,⟨11,.q [2]⟩,⟨12,.q []⟩,⟨13,.q []⟩,⟨14,.q []⟩,⟨15,.q [2,3,4]⟩] mixed (by kernel_rfl) (by kernel_rfl) O O O<|zO O<|zO O<|zO O<|zO O<|zO O<|zO O<|zO O<|zO O<|zO O<|zO O<|zO O<|zO O<|zO O<|zO O<|zO O<|zO O<|wM<|zW O (by decide) O O (zR O O)<|zW O (by decide) O O (qA O D O O (by omega) (yZ g0))<|zW O (by decide) O O (zN O qN O qB O)<|zW O (by decide) O O (zR O O)<|zW O (by decide) O O (qA O D O O (by omega) (yZ g1))<|zW O (by decide) O O (zN O qN O qB O)<|zW O (by decide) O O (zF O zAs O (J 0 O) O)<|zW O (by decide) O O (zR O O)<|zW O (by decide) O O (qA O D O O (by omega) (yZ g0))<|zW O (by decide) O O (zN O qN O qB O)<|zW O (by decide) O O (qS [0,0,0] O O (ih a (by rw [hab];simp) ha (by omega)) ⟨Y,O,T⟩ O)<|zW O (by decide) O O (zF O zAs O (J 0 O) O)<|zW O (by decide) O O (zR O O)<|zW O (by decide) O O (qA O D O O (by omega) (yZ g1))<|zW O (by decide) O O (zN O qN O qB O)<|zW O (by decide) O O (qS [0,0,0] O O (ih b (by rw [hab];simp) hb (by omega)) ⟨Y,O,T⟩ O)<|wJ O<|qK O ok77 (zKu a b (tanE (isFr p.en) o_ a) (tanE (isFr p.en) o_ b) (by omega) (by omega)) ⟨Y,O,Y,O,Y,O,Y,O,T⟩<|N 0 sz38 O<|U<|zU _ (Weak.mem [true,false,true,true,true] O)<|zH<|fin1 (zV qN O (J 0 O) O) ?_
      exact ⟨[_,_,_],⟨[_],[],O⟩,(congrArg vE (tan_div (by omega) hab)).symm,O⟩
     ·try simp only [W] at c6
      refine B O<|L O<|G O<|U<|zE O (fun c7=>?_) (fun c7=>?_)
      ·try simp only [W] at c7
       obtain ⟨a,hab,ha⟩:=frk_neg hk (by omega)
       have g0:e.Args[0]? =some a:=by rw [hab];rfl
       have hl2:e.Args.length=1:=by rw [hab];rfl
       have hw2:=zGq hab
       have hta:=wF (o_:=o_) ha (by omega)
       refine zI<|yH 6 1 [⟨0,.q [3]⟩,⟨1,.q []⟩,⟨2,.q []⟩,⟨3,.q []⟩,⟨4,.q [3,4,5]⟩,⟨5,.f 0⟩] mixed (by kernel_rfl) (by kernel_rfl) O O O<|zO O<|zO O<|zO O<|zO O<|zO O<|zIn O O (zAc (qH [none,none,none,none,none,none,none,none,none,none,some 2,some 4,some 13] O zr38 O)) ⟨_,_,0,O,O⟩<|wM<|zW O (by decide) O O (zF O zAs O (J 0 O) O)<|zW O (by decide) O O (zR O O)<|zW O (by decide) O O (qA O D O O (by omega) (yZ g0))<|zW O (by decide) O O (zN O qN O qB O)<|zW O (by decide) O O (qS [0,0,0] O O (ih a (by rw [hab];simp) ha (by omega)) ⟨Y,O,T⟩ O)<|zId O O ?_
       rintro _ _ ⟨b3,rfl,rfl⟩
       refine wJ O<|N 0 sz38 O<|U<|B O<|zL qN (J 0 O) O<|qK O ok78 (kY (tanE (isFr p.en) o_ a) (by omega)) ⟨Y,O,T⟩<|wB O<|U<|zE O (fun c8=>?_) (fun c8=>?_)
       ·try simp only [W] at c8
        have c8:¬tanE (isFr p.en) o_ a=zeroX:=by simpa using c8
        refine B O<|zL qN (J 0 O) O<|yE O D zr38<|qK O ok79 (kS 8 [tanE (isFr p.en) o_ a]) ⟨Y,O,Y,O,T⟩<|N 1 sz38 O<|U<|zU _ (Weak.mem [false,true,false,true,true,true] O)<|zH<|fin1 (zV qN O (J 0 O) O) ?_
        exact ⟨[_,_,_],⟨[_],[],O⟩,(congrArg vE ((zMe (by omega) hab).trans (if_neg c8))).symm,O⟩
       ·try simp only [W] at c8
        have c8:tanE (isFr p.en) o_ a=zeroX:=by simpa using c8
        refine zJ<|B O<|qK O ok74 zBh T<|N 1 sz38 O<|U<|zU _ (Weak.mem [false,true,false,true,true,true] O)<|zH<|fin1 (zV qN O (J 0 O) O) ?_
        exact ⟨[_,_,_],⟨[_],[],O⟩,(congrArg vE ((zMe (by omega) hab).trans (if_pos c8))).symm,O⟩
      ·try simp only [W] at c7
       refine B O<|L O<|G O<|U<|zE O (fun c9=>?_) (fun c9=>?_)
       ·try simp only [W] at c9
        obtain ⟨a,b,hab,ha,hb⟩:=zAj hk (by omega)
        have g0:e.Args[0]? =some a:=by rw [hab];rfl
        have g1:e.Args[1]? =some b:=by rw [hab];rfl
        have hl2:e.Args.length=2:=by rw [hab];rfl
        have hw2:=wI hab
        have hta:=wF (o_:=o_) ha (by omega)
        have htb:=wF (o_:=o_) hb (by omega)
        refine zI<|yH 17 0 [⟨0,.q []⟩,⟨1,.q []⟩,⟨2,.q []⟩,⟨3,.q []⟩,⟨4,.q []⟩,⟨5,.q []⟩,⟨6,.q []⟩,⟨7,.q []⟩,⟨8,.q [2]⟩,⟨9,.q []⟩,⟨10,.q []⟩,⟨11,.q []⟩,⟨12,.q [2,3,4]⟩,⟨13,.q [2]⟩,⟨14,.q []⟩,⟨15,.q []⟩,⟨16,.q []⟩] mixed (by kernel_rfl) (by kernel_rfl) O O O<|zO O<|zO O<|zO O<|zO O<|zO O<|zO O<|zO O<|zO O<|zO O<|zO O<|zO O<|zO O<|zO O<|zO O<|zO O<|zO O<|zO O<|wM<|zW O (by decide) O O (zR O O)<|zW O (by decide) O O (qA O D O O (by omega) (yZ g0))<|zW O (by decide) O O (zN O qN O qB O)<|zW O (by decide) O O (zR O O)<|zW O (by decide) O O (qA O D O O (by omega) (yZ g1))<|zW O (by decide) O O (zN O qN O qB O)<|zW O (by decide) O O (yT O D zr38 O O O O)<|zW O (by decide) O O (qG O ok79 (kS 14 [a,b]) ⟨Y,O,Y,O,T⟩)<|zW O (by decide) O O (zF O zAs O (J 0 O) O)<|zW O (by decide) O O (zR O O)<|zW O (by decide) O O (qA O D O O (by omega) (yZ g0))<|zW O (by decide) O O (zN O qN O qB O)<|zW O (by decide) O O (qS [0,0,0] O O (ih a (by rw [hab];simp) ha (by omega)) ⟨Y,O,T⟩ O)<|zW O (by decide) O O (zF O zAs O (J 0 O) O)<|zW O (by decide) O O (zR O O)<|zW O (by decide) O O (qA O D O O (by omega) (yZ g1))<|zW O (by decide) O O (zN O qN O qB O)<|wJ O<|zX O (qS [2,2,2] O O (ih b (by rw [hab];simp) hb (by omega)) ⟨Y,O,T⟩ O)<|qK O ok80 (zDb (opE 14 [a,b]) (tanE (isFr p.en) o_ a) (tanE (isFr p.en) o_ b) (by omega) (by omega)) ⟨Y,O,Y,O,Y,O,T⟩<|N 0 sz38 O<|U<|zU _ (Weak.mem [true,false,true,true,true] O)<|zH<|fin1 (zV qN O (J 0 O) O) ?_
        exact ⟨[_,_,_],⟨[_],[],O⟩,(congrArg vE (tan_min (by omega) hab)).symm,O⟩
       ·try simp only [W] at c9
        refine B O<|L O<|G O<|U<|zE O (fun c10=>?_) (fun c10=>?_)
        ·try simp only [W] at c10
         obtain ⟨a,b,hab,ha,hb⟩:=zAj hk (by omega)
         have g0:e.Args[0]? =some a:=by rw [hab];rfl
         have g1:e.Args[1]? =some b:=by rw [hab];rfl
         have hl2:e.Args.length=2:=by rw [hab];rfl
         have hw2:=wI hab
         have hta:=wF (o_:=o_) ha (by omega)
         have htb:=wF (o_:=o_) hb (by omega)
         refine zI<|yH 17 0 [⟨0,.q []⟩,⟨1,.q []⟩,⟨2,.q []⟩,⟨3,.q []⟩,⟨4,.q []⟩,⟨5,.q []⟩,⟨6,.q []⟩,⟨7,.q []⟩,⟨8,.q [2]⟩,⟨9,.q []⟩,⟨10,.q []⟩,⟨11,.q []⟩,⟨12,.q [2,3,4]⟩,⟨13,.q [2]⟩,⟨14,.q []⟩,⟨15,.q []⟩,⟨16,.q []⟩] mixed (by kernel_rfl) (by kernel_rfl) O O O<|zO O<|zO O<|zO O<|zO O<|zO O<|zO O<|zO O<|zO O<|zO O<|zO O<|zO O<|zO O<|zO O<|zO O<|zO O<|zO O<|zO O<|wM<|zW O (by decide) O O (zR O O)<|zW O (by decide) O O (qA O D O O (by omega) (yZ g1))<|zW O (by decide) O O (zN O qN O qB O)<|zW O (by decide) O O (zR O O)<|zW O (by decide) O O (qA O D O O (by omega) (yZ g0))<|zW O (by decide) O O (zN O qN O qB O)<|zW O (by decide) O O (yT O D zr38 O O O O)<|zW O (by decide) O O (qG O ok79 (kS 14 [b,a]) ⟨Y,O,Y,O,T⟩)<|zW O (by decide) O O (zF O zAs O (J 0 O) O)<|zW O (by decide) O O (zR O O)<|zW O (by decide) O O (qA O D O O (by omega) (yZ g0))<|zW O (by decide) O O (zN O qN O qB O)<|zW O (by decide) O O (qS [0,0,0] O O (ih a (by rw [hab];simp) ha (by omega)) ⟨Y,O,T⟩ O)<|zW O (by decide) O O (zF O zAs O (J 0 O) O)<|zW O (by decide) O O (zR O O)<|zW O (by decide) O O (qA O D O O (by omega) (yZ g1))<|zW O (by decide) O O (zN O qN O qB O)<|wJ O<|zX O (qS [2,2,2] O O (ih b (by rw [hab];simp) hb (by omega)) ⟨Y,O,T⟩ O)<|qK O ok80 (zDb (opE 14 [b,a]) (tanE (isFr p.en) o_ a) (tanE (isFr p.en) o_ b) (by omega) (by omega)) ⟨Y,O,Y,O,Y,O,T⟩<|N 0 sz38 O<|U<|zU _ (Weak.mem [true,false,true,true,true] O)<|zH<|fin1 (zV qN O (J 0 O) O) ?_
         exact ⟨[_,_,_],⟨[_],[],O⟩,(congrArg vE (tan_max (by omega) hab)).symm,O⟩
        ·try simp only [W] at c10
         refine B O<|L O<|G O<|U<|zE O (fun c11=>?_) (fun c11=>?_)
         ·try simp only [W] at c11
          obtain ⟨c,a,b,hab,ha,hb⟩:=frk_if hk (by omega)
          have g0:e.Args[0]? =some c:=by rw [hab];rfl
          have g1:e.Args[1]? =some a:=by rw [hab];rfl
          have g2:e.Args[2]? =some b:=by rw [hab];rfl
          have hl2:e.Args.length=3:=by rw [hab];rfl
          have hw2:=args_wt3 hab
          have hta:=wF (o_:=o_) ha (by omega)
          have htb:=wF (o_:=o_) hb (by omega)
          refine zI<|yH 13 0 [⟨0,.q []⟩,⟨1,.q []⟩,⟨2,.q []⟩,⟨3,.q [2]⟩,⟨4,.q []⟩,⟨5,.q []⟩,⟨6,.q []⟩,⟨7,.q [2,3,4]⟩,⟨8,.q [2]⟩,⟨9,.q []⟩,⟨10,.q []⟩,⟨11,.q []⟩,⟨12,.q [2,3,4]⟩] mixed (by kernel_rfl) (by kernel_rfl) O O O<|zO O<|zO O<|zO O<|zO O<|zO O<|zO O<|zO O<|zO O<|zO O<|zO O<|zO O<|zO O<|zO O<|wM<|zW O (by decide) O O (zR O O)<|zW O (by decide) O O (qA O D O O (by omega) (yZ g0))<|zW O (by decide) O O (zN O qN O qB O)<|zW O (by decide) O O (zF O zAs O (J 0 O) O)<|zW O (by decide) O O (zR O O)<|zW O (by decide) O O (qA O D O O (by omega) (yZ g1))<|zW O (by decide) O O (zN O qN O qB O)<|zW O (by decide) O O (qS [0,0,0] O O (ih a (by rw [hab];simp) ha (by omega)) ⟨Y,O,T⟩ O)<|zW O (by decide) O O (zF O zAs O (J 0 O) O)<|zW O (by decide) O O (zR O O)<|zW O (by decide) O O (qA O D O O (by omega) (yZ g2))<|zW O (by decide) O O (zN O qN O qB O)<|zW O (by decide) O O (qS [0,0,0] O O (ih b (by rw [hab];simp) hb (by omega)) ⟨Y,O,T⟩ O)<|wJ O<|qK O ok80 (zDb c (tanE (isFr p.en) o_ a) (tanE (isFr p.en) o_ b) (by omega) (by omega)) ⟨Y,O,Y,O,Y,O,T⟩<|N 0 sz38 O<|U<|zU _ (Weak.mem [true,false,true,true,true] O)<|zH<|fin1 (zV qN O (J 0 O) O) ?_
          exact ⟨[_,_,_],⟨[_],[],O⟩,(congrArg vE (tan_if (by omega) hab)).symm,O⟩
         ·try simp only [W] at c11
          refine B O<|L O<|G O<|U<|zE O (fun c12=>?_) (fun c12=>?_)
          ·try simp only [W] at c12
           obtain ⟨a,hab,hpa⟩:=zIz hk.1 (by omega)
           have g0:e.Args[0]? =some a:=by rw [hab];rfl
           have hl2:e.Args.length=1:=by rw [hab];rfl
           have hw2:=zGq hab
           refine zI<|qT 5 mixed (by kernel_rfl) O O<|zM O O (zN O kO O qB O)<|zM O O (zR O O)<|zM O O (qA O D O O (by omega) (yZ g0))<|zM O O (zN O qN O qB O)<|zM O O (qG O ok70 (zGl p a hP (by omega)) ⟨Y,O,Y,O,T⟩)<|yM<|U<|zE O (fun c13=>?_) (fun c13=>?_)
           ·try simp only [W] at c13
            have ha:=zLm c13
            refine zI<|qT 4 mixed (by kernel_rfl) O O<|zM O O (zF O zAs O (J 2 O) O)<|zM O O (zR O O)<|zM O O (qA O D O O (by omega) (yZ g0))<|zM O O (zN O qN O qB O)<|yM<|zX O (qS [2,2,2] O O (ih a (by rw [hab];simp) ha (by omega)) ⟨Y,O,T⟩ O)<|N 0 sz38 O<|U<|zU _ (Weak.mem [true,false,true,true,true] O)<|zH<|fin1 (zV qN O (J 0 O) O) ?_
            exact ⟨[_,_,_],⟨[_],[],O⟩,(congrArg vE ((zHz (by omega) hab).trans (if_pos c13))).symm,O⟩
           ·try simp only [W] at c13
            refine zJ<|B O<|qK O ok74 zBh T<|N 0 sz38 O<|U<|zU _ (Weak.mem [true,false,true,true,true] O)<|zH<|fin1 (zV qN O (J 0 O) O) ?_
            exact ⟨[_,_,_],⟨[_],[],O⟩,(congrArg vE ((zHz (by omega) hab).trans (if_neg (by rw [c13];simp)))).symm,O⟩
          ·try simp only [W] at c12
           refine zJ<|B O<|qK O ok74 zBh T<|N 0 sz38 O<|U<|zU _ (Weak.mem [true,false,true,true,true] O)<|zH<|fin1 (zV qN O (J 0 O) O) ?_
           exact ⟨[_,_,_],⟨[_],[],O⟩,(congrArg vE (tan_val (by omega))).symm,O⟩
theorem fwd_tangentM_c (p:Pg) (hP:p.Ok) (sv0:Value) (o_:List ByteArray) (ho:o_.length<=1000) (hs:∀s,s∈o_->s.size<=1000000) (b0 b1:Nat) (a:Ex):FrK p.en a->a.wt<=1500->FnCon cfg (C.fn (.func 73) [] [.lit (.pointer (some ⟨b1,0,none⟩)),.lit (.pointer (some ⟨b0,0,none⟩)),.iptr p.cells]) [vE a] [E.row b0 74 [(C.fn (.func 73) [] [.lit (.pointer (some ⟨b1,0,none⟩)),.lit (.pointer (some ⟨b0,0,none⟩)),.iptr p.cells])],E.row b1 22 [.lit sv0],(E.vec sv0 9 1 (o_.map fun s=>[cS s]))] fun r μ'=>r=vE (tanE (isFr p.en) o_ a)/\μ'=[E.row b0 74 [(C.fn (.func 73) [] [.lit (.pointer (some ⟨b1,0,none⟩)),.lit (.pointer (some ⟨b0,0,none⟩)),.iptr p.cells])],E.row b1 22 [.lit sv0],(E.vec sv0 9 1 (o_.map fun s=>[cS s]))]:=by
  induction a using Ex.ind with
  |_ e ih=>exact fun hk he=>FnCon.of_con (first:=[]) (cap:=[.lit (.pointer (some ⟨b1,0,none⟩)),.lit (.pointer (some ⟨b0,0,none⟩)),.iptr p.cells]) ok73 (Con.dropG (fwd_tangentM_s p hP sv0 o_ ho hs b0 b1 e ih hk he))
theorem fwd_tangentM_t (p:Pg) (hP:p.Ok) (sv0:Value) (o_:List ByteArray) (ho:o_.length<=1000) (hs:∀s,s∈o_->s.size<=1000000) (e:Ex) (hk:FrK p.en e) (he:e.wt<=1500):
    Con cfg 30 [vPg p,vE e,.c (.lit sv0)] [(E.vec sv0 9 1 (o_.map fun s=>[cS s]))] fun r μ'=>∃μ2,(∃ν1 ν2,μ'=ν1++(μ2++ν2))/\(r=vE (tanE (isFr p.en) o_ e)/\μ2=[(E.vec sv0 9 1 (o_.map fun s=>[cS s]))]):=by
 refine zT Tryz.func30 O Tryz.ntmps30 Tryz.results30 O ?_
 intro z hz
 refine B O<|zZ O O (qI O O) ?_
 rintro _ _ ⟨b1,rfl,rfl⟩
 refine zZ O O (qI O O) ?_
 rintro _ _ ⟨b2,rfl,rfl⟩
 refine zZ O O (qI O O) ?_
 rintro _ _ ⟨b3,rfl,rfl⟩
 refine zZ O O (qH [none,none,none,none,none,none,none,none,none,none,some 2,some 4,some 13] O zr38 O) ?_
 rintro _ _ ⟨b4,rfl,rfl⟩
 refine U<|B O<|zZ O O (yB O zr74) ?_
 rintro _ _ ⟨b5,rfl,rfl⟩
 refine U<|zI<|zU _ (kH 4 O 3 _ PLe.ptr)<|zS O<|zX O (zIq O O O O O)<|N 0 sz74 O<|U<|B O<|zK zAs (J 0 O) O<|zL qN (J 3 O) O<|zX O (qS [0,1,2] O O (fwd_tangentM_c p hP sv0 o_ ho hs _ _ e hk he) ⟨Y,O,T⟩ O)<|N 1 sz38 O<|U<|zU _ (Weak.mem [false,true,false,false,true] O)<|zH<|fin1 (zV qN O (J 0 O) O) ?_
 exact ⟨[_],⟨[_],[],O⟩,O,O⟩
theorem fwd_tangentM (p:Pg) (hP:p.Ok) (sv0:Value) (o_:List ByteArray) (ho:o_.length<=1000) (hs:∀s,s∈o_->s.size<=1000000) (e:Ex) (hk:FrK p.en e) (he:e.wt<=1500):Con cfg 30 [vPg p,vE e,.c (.lit sv0)] [(E.vec sv0 9 1 (o_.map fun s=>[cS s]))] fun r μ'=>r=vE (tanE (isFr p.en) o_ e)/\μ'=[(E.vec sv0 9 1 (o_.map fun s=>[cS s]))]:=
  Con.dropG (fwd_tangentM_t p hP sv0 o_ ho hs e hk he)
theorem fwd_ExprM_s (p:Pg) (hP:p.Ok) (sv0:Value) (o_:List ByteArray) (ho:o_.length<=1000) (hs:∀s,s∈o_->s.size<=1000000) (e:Ex) (he:e.wt<=1500):
    Con cfg 11 [vPg p,vE e,.c (.lit sv0)] [(E.vec sv0 9 1 (o_.map fun s=>[cS s]))] fun r μ'=>∃μ2,(∃ν1 ν2,μ'=ν1++(μ2++ν2))/\(r=.tup [vE (exprF p.en o_ e).1,vI (exprF p.en o_ e).2]/\μ2=[(E.vec sv0 9 1 (o_.map fun s=>[cS s]))]):=by
 refine zT Tryz.func11 O Tryz.ntmps11 Tryz.results11 O ?_
 intro z hz
 have hil:=zKd e
 obtain ⟨t,ht0⟩:∃t,typeT p.en (indexT e) e=t:=⟨_,rfl⟩
 refine B O<|zZ O O (qI O O) ?_
 rintro _ _ ⟨b1,rfl,rfl⟩
 refine zZ O O (qI O O) ?_
 rintro _ _ ⟨b2,rfl,rfl⟩
 refine zZ O O (qH [none,none,none,none,none,none,none,none,none,none,some 2,some 4,some 13] O zr38 O) ?_
 rintro _ _ ⟨b3,rfl,rfl⟩
 refine G O<|U<|zI<|yH 10 1 [⟨0,.q [3]⟩,⟨1,.q [2]⟩,⟨2,.q []⟩,⟨3,.q [2]⟩,⟨4,.q []⟩,⟨5,.q []⟩,⟨6,.q []⟩,⟨7,.q []⟩,⟨8,.e 0 []⟩,⟨9,.e 0 []⟩] mixed (by kernel_rfl) (by kernel_rfl) O O O<|zO O<|zO O<|zO O<|zO O<|zO O<|zO O<|zO O<|zO O<|zO O<|zO O<|wM<|zW O (by decide) O O (zN O kO O (J 0 O) O)<|zW O (by decide) O O (zN O qN O (J 0 O) O)<|zW O (by decide) O O (qG O ok28 (OwnR.pur (zDn e (by omega))) ⟨Y,O,T⟩)<|zW O (by decide) O O (zN O qN O (J 0 O) O)<|zW O (by decide) O O (qG O ok27 (show Pur cfg 27 [vPg p,vSs (indexT e),vE e] (.tup [vTy t.1,vI t.2]) by rw [←ht0];exact zCd p (indexT e) e hP (by omega) (by omega)) ⟨Y,O,Y,O,Y,O,T⟩)<|zW O (by decide) O O (qV O O)<|zW O (by decide) O O (yJ O O O)<|zW O (by decide) O O (yI O O O)<|zMh O O (by decide) O O (yB O zr31) ?_
 rintro _ _ ⟨b4,rfl,rfl⟩
 refine ⟨_,O,?_⟩
 refine zIc O O (by decide) O O (kW O sz31 O O O (zEe 0 O O)) ?_
 rintro _ _ ⟨rfl,rfl⟩
 refine ⟨_,O,?_⟩
 refine wJ O<|G O<|U<|zI<|B O<|G O<|yN O<|U<|zE O (fun c1=>?_) (fun c1=>?_)
 ·try simp only [W] at c1
  refine B O<|zX O (yK [none,none,none,none,none,none,none,none,none,none,some 2,some 4,some 13] O zr38 pl38 O O)<|G O<|N 1 sz38 O<|G O<|U<|zU _ (Weak.mem [false,true,false,false,true] O)<|zH<|fin2 (zV qN O (J 0 O) O) (v O) ?_
  refine ⟨[_],⟨[_],[],O⟩,?_,O⟩
  rw [exprF_1 ht0 c1];rfl
 ·try simp only [W] at c1
  have hpe:=zJj (by rw [ht0];exact c1)
  refine zJ<|zI<|B O<|zG O zBp<|zK one3 (J 0 O) O<|yN O<|G O<|rL0 O (fun g4_3=>zN O kO O (J 3 O) O) O<|rL0 O (fun g4_3=>zN O qN O (J 2 O) O) O<|rL0 O (fun g4_3=>zR O O) O<|rLz [(28,_),(29,_),(30,_)] O gv1 ⟨O,O,O,O,O,O,T⟩ (fun g4_3=>wE [4] O ok29 (fwd_losesM p hP sv0 o_ ho e hpe (by omega)) ⟨Y,O,Y,O,Y,O,T⟩ O) O<|r_or O (fun h=>(lzf h))<|U<|zE O (fun c2=>?_) (fun c2=>?_)
  ·have c2:¬(t.1.Kind=1/\losE (isFr p.en) o_ e=false):=by rintro ⟨h1,h2⟩;simp [h1,h2] at c2
   refine B O<|zX O (yK [none,none,none,none,none,none,none,none,none,none,some 2,some 4,some 13] O zr38 pl38 O O)<|N 1 sz38 O<|G O<|U<|zU _ (Weak.mem [false,true,false,false,true] O)<|zH<|fin2 (zV qN O (J 0 O) O) (v O) ?_
   refine ⟨[_],⟨[_],[],O⟩,?_,O⟩
   rw [exprF_2 ht0 c1 c2];rfl
  ·have c2:t.1.Kind=1/\losE (isFr p.en) o_ e=false:=by simpa using c2
   have hk:=zLh (by rw [ht0];exact c1) (by rw [ht0];exact c2.1)
   have hto:=wF (o_:=o_) hk (by omega)
   refine zJ<|B O<|zL kO (J 3 O) O<|zL qN (J 2 O) O<|G O<|zX O (wE [4] O ok30 (fwd_tangentM p hP sv0 o_ ho hs e hk (by omega)) ⟨Y,O,Y,O,Y,O,T⟩ O)<|zZ O O (qH [none,none,none,none,none,none,none,none,none,none,some 2,some 4,some 13] O zr38 O) ?_
   rintro _ _ ⟨b5,rfl,rfl⟩
   refine N 0 sz38 O<|U<|zI<|B O<|zL qN (J 0 O) O<|qK O ok31 (zEt (tanE (isFr p.en) o_ e) (by omega)) ⟨Y,O,T⟩<|G O<|U<|B O<|G O<|yN O<|U<|zE O (fun c3=>?_) (fun c3=>?_)
   ·try simp only [W] at c3
    refine B O<|zX O (yK [none,none,none,none,none,none,none,none,none,none,some 2,some 4,some 13] O zr38 pl38 O O)<|G O<|N 2 sz38 O<|G O<|U<|zU _ (Weak.mem [false,false,true,false,false,true] O)<|zH<|fin2 (zV qN O (J 0 O) O) (v O) ?_
    refine ⟨[_],⟨[_],[],O⟩,?_,O⟩
    rw [exprF_3 ht0 c1 c2 c3];rfl
   ·try simp only [W] at c3
    refine zJ<|B O<|zL qN (J 0 O) O<|qK O ok32 (expr_Copy (tanE (isFr p.en) o_ e) (by omega)) ⟨Y,O,T⟩<|N 2 sz38 O<|G O<|U<|zU _ (Weak.mem [false,false,true,false,false,true] O)<|zH<|fin2 (zV qN O (J 0 O) O) (v O) ?_
    refine ⟨[_],⟨[_],[],O⟩,?_,O⟩
    rw [exprF_4 ht0 c1 c2 c3];rfl
theorem fwd_ExprM (p:Pg) (hP:p.Ok) (sv0:Value) (o_:List ByteArray) (ho:o_.length<=1000) (hs:∀s,s∈o_->s.size<=1000000) (e:Ex) (he:e.wt<=1500):Con cfg 11 [vPg p,vE e,.c (.lit sv0)] [(E.vec sv0 9 1 (o_.map fun s=>[cS s]))] fun r μ'=>r=.tup [vE (exprF p.en o_ e).1,vI (exprF p.en o_ e).2]/\μ'=[(E.vec sv0 9 1 (o_.map fun s=>[cS s]))]:=
  Con.dropG (fwd_ExprM_s p hP sv0 o_ ho hs e he)
theorem fwd_deriveM_s (p:Pg) (hP:p.Ok) (d:Df) (sv0:Value) (A:List ByteArray) (hA:A.length<=1000) (hs:∀s,s∈A->s.size<=1000000) (hp:partE d.Body=0) (hw:d.Body.wt<=1500) (hn:d.Name.size<=1000000):
    Con cfg 45 [vPg p,vDf d,.c (.lit sv0)] [(E.vec sv0 9 1 (A.map fun s=>[cS s]))] fun r μ'=>∃μ2,(∃ν1 ν2,μ'=ν1++(μ2++ν2))/\(r=.tup [vDf (derF p.en d A).1,vB (derF p.en d A).2.1,vI (derF p.en d A).2.2]/\μ2=[(E.vec sv0 9 1 (A.map fun s=>[cS s]))]):=by
 refine zT Tryz.func45 O Tryz.ntmps45 Tryz.results45 O ?_
 intro z hz
 obtain ⟨X,hX⟩:∃X,exprF p.en A d.Body=X:=⟨_,rfl⟩
 refine B O<|zZ O O (qI O O) ?_
 rintro _ _ ⟨b1,rfl,rfl⟩
 refine zZ O O (qI O O) ?_
 rintro _ _ ⟨b2,rfl,rfl⟩
 refine zZ O O (qH [none,none,none,none,none,none,some 3,some 3,none,none,none,none,none,none,none,none,none,none,none,some 2,some 4,some 13] O zr59 O) ?_
 rintro _ _ ⟨b3,rfl,rfl⟩
 refine G O<|G O<|U<|zI<|B O<|zL kO (J 2 O) O<|zG O zDl<|zL qN (J 1 O) O<|G O<|zX O (wE [3] O ok29 (fwd_losesM p hP sv0 A hA d.Body hp (by omega)) ⟨Y,O,Y,O,Y,O,T⟩ O)<|U<|zE O (fun c1=>?_) (fun c1=>?_)
 ·try simp only [W] at c1
  refine B O<|zX O (yK [none,none,none,none,none,none,some 3,some 3,none,none,none,none,none,none,none,none,none,none,none,some 2,some 4,some 13] O zr59 pl59 O O)<|N 0 sz59 O<|G O<|G O<|U<|zU _ (Weak.mem [true,false,false,true] O)<|zH<|fin3 (zV zCv O (J 0 O) O) (v O) (v O) ?_
  refine ⟨[_],⟨[_],[],O⟩,?_,O⟩
  rw [derF_1 c1];rfl
 ·try simp only [W] at c1
  have c1:losE (isFr p.en) A d.Body=false:=by simpa using c1
  refine zJ<|zI<|B O<|zG O zIo<|zG O zBp<|zK one3 (J 1 O) O<|yN O<|G O<|rL0 O (fun g3_4=>zD O zDl O) O<|rL1 22 O (fun g3_4=>zN O qN O (J 1 O) O) O<|rL0 O (fun g3_4=>zR O O) O<|rLz [(23,_),(24,_)] O gv1 ⟨O,O,O,O,T⟩ (fun g3_4=>wE [3] O ok71 (fwd_readsM sv0 A hA d.Body hp) ⟨Y,O,Y,O,T⟩ O) O<|rL1 25 O (fun g3_4=>wA O O) O<|r_or O (fun h=>(lzf h))<|U<|zE O (fun c2=>?_) (fun c2=>?_)
  ·have c2:¬d.T.Kind=1∨rdsE A d.Body=false:=by simpa using c2
   refine B O<|zX O (yK [none,none,none,none,none,none,some 3,some 3,none,none,none,none,none,none,none,none,none,none,none,some 2,some 4,some 13] O zr59 pl59 O O)<|N 0 sz59 O<|G O<|G O<|U<|zU _ (Weak.mem [true,false,false,true] O)<|zH<|fin3 (zV zCv O (J 0 O) O) (v O) (v O) ?_
   refine ⟨[_],⟨[_],[],O⟩,?_,O⟩
   rw [derF_2 c1 c2];rfl
  ·have c2:¬(¬d.T.Kind=1∨rdsE A d.Body=false):=by simpa using c2
   refine zJ<|zI<|B O<|zG O zFe<|zK one3 (J 1 O) O<|L O<|G O<|rL0 O (fun g5_3=>zD O zFe O) O<|rL1 33 O (fun g5_3=>zF O one3 O (J 1 O) O) O<|rL1 34 O (fun g5_3=>yF O O O) O<|r_or O (fun h=>(lzf h))<|G O<|rL0 O (fun g5_8=>zD O zFe O) O<|rL1 38 O (fun g5_8=>zF O one3 O (J 1 O) O) O<|rL1 39 O (fun g5_8=>yF O O O) O<|r_or O (fun h=>(lzf h))<|U<|zE O (fun c3=>?_) (fun c3=>?_)
   ·have c3:d.Fold=2∨d.Fold=3∨d.Fold=4:=by simp at c3;omega
    refine B O<|zX O (yK [none,none,none,none,none,none,some 3,some 3,none,none,none,none,none,none,none,none,none,none,none,some 2,some 4,some 13] O zr59 pl59 O O)<|N 0 sz59 O<|G O<|G O<|U<|zU _ (Weak.mem [true,false,false,true] O)<|zH<|fin3 (zV zCv O (J 0 O) O) (v O) (v O) ?_
    refine ⟨[_],⟨[_],[],O⟩,?_,O⟩
    rw [derF_3 c1 c2 c3];rfl
   ·have c3:¬(d.Fold=2∨d.Fold=3∨d.Fold=4):=by simp at c3;omega
    refine zJ<|B O<|zL kO (J 2 O) O<|zG O zDl<|zL qN (J 1 O) O<|G O<|zX O (wE [3] O ok11 (show Con cfg 11 [vPg p,vE d.Body,.c (.lit sv0)] [(E.vec sv0 9 1 (A.map fun s=>[cS s]))] fun r μ'=>r=.tup [vE X.1,vI X.2]/\μ'=[(E.vec sv0 9 1 (A.map fun s=>[cS s]))] by rw [←hX];exact fwd_ExprM p hP sv0 A hA hs d.Body hw) ⟨Y,O,Y,O,Y,O,T⟩ O)<|zX O (qV O O)<|zX O (yJ O O O)<|zX O (yI O O O)<|zZ O O (qH [none,none,none,none,none,none,none,none,none,none,some 2,some 4,some 13] O zr38 O) ?_
    rintro _ _ ⟨b4,rfl,rfl⟩
    refine N 0 sz38 O<|G O<|U<|zI<|B O<|G O<|yN O<|U<|zE O (fun c4=>?_) (fun c4=>?_)
    ·try simp only [W] at c4
     refine B O<|zX O (yK [none,none,none,none,none,none,some 3,some 3,none,none,none,none,none,none,none,none,none,none,none,some 2,some 4,some 13] O zr59 pl59 O O)<|G O<|N 1 sz59 O<|G O<|G O<|U<|zU _ (Weak.mem [false,true,false,false,true] O)<|zH<|fin3 (zV zCv O (J 0 O) O) (v O) (v O) ?_
     refine ⟨[_],⟨[_],[],O⟩,?_,O⟩
     rw [derF_4 c1 c2 c3 hX c4];rfl
    ·try simp only [W] at c4
     refine zJ<|zI<|yH 6 0 [⟨0,.q []⟩,⟨1,.q [2]⟩,⟨2,.q []⟩,⟨3,.q [0]⟩,⟨4,.q []⟩,⟨5,.e 2 []⟩] mixed (by kernel_rfl) (by kernel_rfl) O O O<|zO O<|zO O<|zO O<|zO O<|zO O<|zO O<|wM<|zW O (by decide) O O (zD O zEn O)<|zW O (by decide) O O (zF O one9 O (J 0 O) O)<|zW O (by decide) O O (qG O ok14 (zAq d.Name hn) ⟨Y,O,T⟩)<|zW O (by decide) O O (zN O qN O (J 0 O) O)<|zW O (by decide) O O (zD O zEn O)<|zIc O O (by decide) O O (kW O sz9 O O O (zEe 0 O O)) ?_
     rintro _ _ ⟨rfl,rfl⟩
     refine ⟨_,O,?_⟩
     refine wJ O<|zG O zDl<|N 2 sz38 O<|U<|B O<|zL zCv (J 2 O) O<|N 1 sz59 O<|G O<|G O<|U<|zU _ (Weak.mem [false,true,false,false,true] O)<|zH<|fin3 (zV zCv O (J 0 O) O) (v O) (v O) ?_
     refine ⟨[_],⟨[_],[],O⟩,?_,O⟩
     rw [derF_5 c1 c2 c3 hX c4];rfl
theorem fwd_deriveM (p:Pg) (hP:p.Ok) (d:Df) (sv0:Value) (A:List ByteArray) (hA:A.length<=1000) (hs:∀s,s∈A->s.size<=1000000) (hp:partE d.Body=0) (hw:d.Body.wt<=1500) (hn:d.Name.size<=1000000):Con cfg 45 [vPg p,vDf d,.c (.lit sv0)] [(E.vec sv0 9 1 (A.map fun s=>[cS s]))] fun r μ'=>r=.tup [vDf (derF p.en d A).1,vB (derF p.en d A).2.1,vI (derF p.en d A).2.2]/\μ'=[(E.vec sv0 9 1 (A.map fun s=>[cS s]))]:=
  Con.dropG (fwd_deriveM_s p hP d sv0 A hA hs hp hw hn)
end Go.W
