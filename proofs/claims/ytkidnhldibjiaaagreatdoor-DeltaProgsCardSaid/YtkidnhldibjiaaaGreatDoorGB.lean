/-
  What functions compute.
  What functions compute.
  What functions compute.
  What functions compute.
  What functions compute.
  What functions compute.
  Conditions: none.
-/
import Derived.Test.YtkidnhldibjiaaaGreatDoorGA
import Derived.Test.YtkidnhldibjiaaaGreatDoorPlain2
import Derived.Test.YtkidnhldibjiaaaGreatDoorEngZ
set_option linter.unusedSimpArgs false
set_option linter.unusedVariables false
section
set_option maxRecDepth 10000
namespace Go.W
open Go Go.Eng Go.Proofs Go.L41 Go.Br
attribute [local irreducible] AWP RWP TD fL
theorem ik2:rX Tryz.prog 2=some .i64:=by kernel_rfl
theorem ok276:bA Tryz.prog 276=true:=by kernel_rfl
theorem ok311:bA Tryz.prog 311=true:=by kernel_rfl
theorem ok312:bA Tryz.prog 312=true:=by kernel_rfl
theorem sz38:(Tryz.prog.info? 38).map (·.size)=some 1:=by kernel_rfl
theorem zHh:(Tryz.prog.underlying 254).isSome=true:=by kernel_rfl
theorem lin_plus (a b:Int) (ha:r64 a) (hb:r64 b):
    Pur cfg 277 [vI a,vI b] (.tup [vI (w64 (a+b)),vB (decide (r64 (a+b)))]):=by
 refine zW Tryz.func277 O Tryz.ntmps277 Tryz.results277 O ?_
 intro z hz
 refine Y O<|G O<|G O<|W<|Y O<|G O<|G O<|qA O (zSn O O O)<|G O<|W<|Y O<|G O<|G O<|G O<|qA O (yL O O O)<|G O<|qA O (yL O O O)<|qA O (det_beql O un4 O O)<|G O<|G O<|W<|zO<|fin2 (rs_c O) (rs_c O) ?_
 rw [←plus_ok ha hb];rfl
theorem zLk (x:Int) (hx:r64 x):
    Pur cfg 312 [vI x] (vUn x.natAbs):=by
 refine zW Tryz.func312 O Tryz.ntmps312 Tryz.results312 O ?_
 intro z hz
 refine Y O<|G O<|W<|zM<|Y O<|G O<|yI O<|W<|zH O (fun c1=>?_) (fun c1=>?_)
 ·try simp only [sx] at c1
  refine Y O<|G O<|qA O (kK O us2 ik254 O)<|qA O (zFp O O)<|G O<|W<|zO<|zV O ?_
  exact congrArg (fun n=>V.c (.lit (.int .u64 n))) (zPf hx c1)
 ·try simp only [sx] at c1
  refine zN<|Y O<|G O<|qA O (kK O us2 ik254 O)<|G O<|W<|zO<|zV O ?_
  exact congrArg (fun n=>V.c (.lit (.int .u64 n))) (zPe hx (by omega))
theorem lin_product (a b:Nat) (ha:a<18446744073709551616) (hb:b<18446744073709551616):
    Pur cfg 311 [vUn a,vUn b] (.tup [vUn (hiN a b),vUn (a*b%18446744073709551616)]):=by
 refine zW Tryz.func311 O Tryz.ntmps311 Tryz.results311 O ?_
 intro z hz
 obtain ⟨p1,p2,p3,p4⟩:=part_le ha hb
 obtain ⟨q1,q2,q3,q4⟩:=hi_bounds ha hb
 refine Y O<|G O<|G O<|W<|Y O<|G O<|qA O (wA O O O ha)<|G O<|qA O (wA O O O hb)<|qA O (wT O O O (by omega))<|G O<|W<|Y O<|G O<|qA O (kJ O O O )<|G O<|qA O (wA O O O hb)<|qA O (wT O O O (by omega))<|G O<|qA O (kJ O O O )<|qA O (wC O O O q1)<|G O<|W<|Y O<|G O<|qA O (wA O O O ha)<|G O<|qA O (kJ O O O )<|qA O (wT O O O (by omega))<|G O<|qA O (wA O O O q1)<|qA O (wC O O O q2)<|G O<|W<|Y O<|G O<|qA O (kJ O O O )<|G O<|qA O (kJ O O O )<|qA O (wT O O O (by omega))<|G O<|qA O (kJ O O O )<|qA O (wC O O O q3)<|G O<|qA O (kJ O O O )<|qA O (wC O O O q4)<|G O<|G O<|qA O (det_umod O O O )<|G O<|G O<|W<|zO<|fin2 (rs_c O) (rs_c O) ?_
 exact O
theorem lin_times (x y:Int) (hx:r64 x) (hy:r64 y):
    Pur cfg 276 [vI x,vI y] (.tup [vI (dZ x y).1,vB (dZ x y).2]):=by
 refine zW Tryz.func276 O Tryz.ntmps276 Tryz.results276 O ?_
 intro z hz
 have hm1:=zNi hx
 have hm2:=zNi hy
 refine Y O<|G O<|G O<|W<|Y O<|G O<|qQ O ok312 (zLk x hx) ⟨U,O,T⟩<|G O<|qQ O ok312 (zLk y hy) ⟨U,O,T⟩<|qQ O ok311 (lin_product x.natAbs y.natAbs (by omega) (by omega)) ⟨U,O,U,O,T⟩<|yH O<|yX O<|yX O<|G O<|G O<|W<|Y O<|G O<|yI O<|G O<|yI O<|qA O (zLu O un4 O O)<|G O<|W<|zM<|zR<|Y O<|G O<|yW O<|G O<|rL0 O (fun g3_2=>zS O O) O<|rL1 26 O (fun g3_2=>yL O O O) O<|r_or O (fun h=>(lzf h))<|G O<|rL0 O (fun g3_6=>zS O O) O<|rL1 30 O (fun g3_6=>yM O O O) O<|rL1 31 O (fun g3_6=>zS O O) O<|rLz [] O q T (fun g3_9=>zS O O) O<|rLz [(33,_)] O q ⟨O,O,T⟩ (fun g3_9=>kT O O) O<|rL1 32 O (fun g3_6=>wK O O O (fun h=>kH (by assumption) h) O) O<|r_or O (fun h=>(lzf h))<|G O<|W<|zH O (fun c1=>?_) (fun c1=>?_)
 ·try simp only [sx] at c1
  refine Y O<|G O<|G O<|W<|zO<|fin2 (rs_c O) (rs_c O) ?_
  rw [times_f hx hy c1]
 ·try simp only [sx] at c1
  refine Y O<|G O<|G O<|W<|zH O (fun c2=>?_) (fun c2=>?_)
  ·try simp only [sx] at c2
   refine Y O<|G O<|qA O (zFp O O)<|qA O (kK O zHh ik2 O)<|G O<|G O<|W<|zO<|fin2 (rs_c O) (rs_c O) ?_
   rw [times_neg c2 (by have:=c1.1.1;omega) (by have:=c1.1.2;omega)]
  ·try simp only [sx] at c2
   refine zN<|Y O<|G O<|qA O (kK O zHh ik2 O)<|G O<|G O<|W<|zO<|fin2 (rs_c O) (rs_c O) ?_
   have hlt:x.natAbs*y.natAbs%18446744073709551616<9223372036854775808:=by
     have h1:=c1.1.2
     rcases c1.2 with h|h
     · omega
     · rw [c2] at h;cases h
   rw [times_pos c2 (by have:=c1.1.1;omega) hlt]
theorem lin_Scale (l:Lf) (by_:Int) (hl:l.L.length<=4294967296) (hr:l.rng) (hb:r64 by_):
    Pur cfg 227 [dK l,vI by_] (.tup [dK (fA l by_).1,vI (fA l by_).2]):=by
 refine zW Tryz.func227 O Tryz.ntmps227 Tryz.results227 O ?_
 intro z hz
 refine Y O<|zY O O (qN O O) ?_
 rintro _ _ ⟨b1,rfl,rfl⟩
 refine zY O O (qF [none,some 2] O v O) ?_
 rintro _ _ ⟨b2,rfl,rfl⟩
 refine G O<|W<|zM<|Y O<|zP yB (J 1 O) O<|qQ O ok190 (zAx l (by omega)) ⟨U,O,T⟩<|yW O<|W<|zH O (fun c1=>?_) (fun c1=>?_)
 ·try simp only [sx] at c1
  have hl0:=zRo c1
  refine Y O<|yF [none,some 2] O v pl40<|rStR 0 sz40 O<|G O<|W<|zO<|fin2 (zZ yB O (J 0 O) O) (rs_c O) ?_
  rw [scale_bad hl0];rfl
 ·try simp only [sx] at c1
  have hl1:=zGf c1
  refine zN<|zM<|Y O<|G O<|yK O<|W<|zH O (fun c2=>?_) (fun c2=>?_)
  ·try simp only [sx] at c2
   refine Y O<|yF [none,some 2] O v pl40<|rStR 0 sz40 O<|G O<|W<|zO<|fin2 (zZ yB O (J 0 O) O) (rs_c O) ?_
   rw [scale_zero hl1 c2];rfl
  ·try simp only [sx] at c2
   refine zN<|Y O<|zF O zCk<|zK one2 (J 1 O) O<|G O<|qQ O ok276 (lin_times l.K by_ hr.1 hb) ⟨U,O,U,O,T⟩<|yH O<|yX O<|yX O<|G O<|G O<|W<|Y O<|G O<|yN O v pl40<|zY O O (yJ O v) ?_
   rintro _ _ ⟨b3,rfl,rfl⟩
   refine yE _ (yU 107 2)<|rStR 1 sz40 O<|W<|zM<|Y O<|zF O yP<|zK kQ (J 3 O) O<|qB O D<|G O<|W<|zR<|qC ⟨[(32,.c _),(7,.c _),(1,.c _),(4,.c _),(8,.c _),(30,.c _),(31,.c _)],[_,_,_]⟩ (Weak.mk [true,true,true,false] ⟨U,U,U,U,U,U,U,T⟩ O)<|qG 2 2 O O (Nat×Value) (fun ⟨k,sv⟩=>[(32,vI k),(7,vB ((dZ l.K by_).2&&mC by_ (l.L.take k)))]) (fun ⟨k,sv⟩=>[E.vec sv 107 2 ((lM by_ (l.L.take k)).map Mono.cells),E.row b3 40 [cI (dZ l.K by_).1,.lit sv]]) (fun ⟨k,sv⟩=>k<=l.L.length) (fun ⟨k,sv⟩=>l.L.length-k) ⟨⟨0,_⟩,(by omega),Weak.mk [true,true,true] ⟨U,VLe.of_eq (by rw [show mC by_ (l.L.take 0)=true from rfl,Bool.and_true];rfl),U,U,U,U,U,T⟩ O⟩ ?_
   rintro ⟨k,sv⟩ hk
   show AWP _ _ _ _ _ ⟨[(32,vI k),(7,vB ((dZ l.K by_).2&&mC by_ (l.L.take k)))]++_,[E.vec sv 107 2 ((lM by_ (l.L.take k)).map Mono.cells),E.row b3 40 [cI (dZ l.K by_).1,.lit sv]]++_⟩
   refine Y O<|yI O<|W<|zM<|zH O (fun c3=>?_) (fun c3=>?_)
   ·try simp only [sx] at c3
    obtain ⟨x,hx⟩:=qU l.L k (by omega)
    refine zN<|zM<|zR<|Y O<|qJ O D (by omega) (getm (by assumption))<|zP zHg qE O<|zY O O (yJ O zCy) ?_
    rintro _ _ ⟨b5,rfl,rfl⟩
    refine rStR 0 sz107 O<|W<|Y O<|zF O zCq<|zK one2 (J 0 O) O<|G O<|qQ O ok276 (lin_times x.By by_ (hr.2 x (zX hx)) hb) ⟨U,O,U,O,T⟩<|yH O<|yX O<|yX O<|G O<|G O<|W<|Y O<|G O<|G O<|rL0 O (fun g11_1=>zS O O) O<|yZ O (fun h=>h)<|G O<|W<|zT O<|zF O yP<|zK kQ (J 2 O) O<|zF O wF<|zK one9 (J 0 O) O<|G O<|yN O zCy pl107<|yV O D zCy<|zY O O (qV 1 O D O O O (by simp only [List.length_map,List.length_append,List.length_cons,List.length_nil,scaleW_len,List.length_take];omega) (by simp only [List.length_map,List.length_append,List.length_cons,List.length_nil,scaleW_len,List.length_take];omega)) ?_
    rintro _ _ ⟨sv6,rfl,rfl⟩
    refine zF O yP<|rStR 2 sz38 O<|W<|zT O<|qK O ⟨by omega,by omega⟩<|G O<|W ?_
    refine ⟨⟨k+1,sv6⟩,(by omega),(by show l.L.length-(k+1)<l.L.length-k;omega),Weak.mk [false,true,true,true] ⟨U,VLe.of_eq (by rw [scaleB_next hx,←Bool.and_assoc];rfl),U,U,U,U,U,T⟩ (by show _=[E.vec sv6 _ 2 ((lM by_ (l.L.take (k+1))).map Mono.cells),E.row b3 _ [cI (dZ l.K by_).1,.lit sv6]]++_;rw [scaleW_next hx,List.map_append];rfl)⟩
   ·try simp only [sx] at c3
    rw [qY (l:=l.L) (k:=k) (by omega)]
    refine qO<|zM<|Y O<|G O<|wE O<|W<|zH O (fun c4=>?_) (fun c4=>?_)
    ·try simp only [sx] at c4
     refine Y O<|yF [none,some 2] O v pl40<|rStR 2 sz40 O<|G O<|W<|zO<|fin2 (zZ yB O (J 2 O) O) (rs_c O) ?_
     rw [scale_no hl1 c2 c4];rfl
    ·try simp only [sx] at c4
     refine zN<|Y O<|zP yB (J 1 O) O<|rStR 2 sz40 O<|G O<|W<|qC _ (yC 0 O (regs':=[(60,.agg [_,_])]) (μ':=[_,_]) ⟨FLe.agg ⟨.inl O,.inr ⟨O,O⟩,T⟩,T⟩ ⟨EFle.row (ds:=[_,_]) ⟨.inl O,.inr ⟨O,O⟩,T⟩,EFle.row (ds:=[_,_]) ⟨.inl O,.inr ⟨O,O⟩,T⟩,T⟩)<|zO<|fin2 (zZ yB O (J 1 O) O) (rs_c O) ?_
     rw [scale_ok hl1 c2 c4];rfl
end Go.W
end
section
set_option maxRecDepth 10000
namespace Go.W
open Go Go.Eng Go.Proofs Go.L41 Go.Br
attribute [local irreducible] AWP RWP TD fL
theorem ok227:bA Tryz.prog 227=true:=by kernel_rfl
theorem ok228:bA Tryz.prog 228=true:=by kernel_rfl
theorem ok277:bA Tryz.prog 277=true:=by kernel_rfl
theorem ok278:bA Tryz.prog 278=true:=by kernel_rfl
theorem ok279:bA Tryz.prog 279=true:=by kernel_rfl
theorem sz2:(Tryz.prog.info? 2).map (·.size)=some 1:=by kernel_rfl
theorem sz4:(Tryz.prog.info? 4).map (·.size)=some 1:=by kernel_rfl
theorem zr4:fD Tryz.prog 4=some [(Value.bool false)]:=by kernel_rfl
theorem merge_con (a0 b0:List Mono) (ha0:a0.length<=4294967296) (hb0:b0.length<=4294967296):
    ∀(y:C) (J:List Tr->List E->Prop) (μ:List E),(∀d t s m,bH a0 b0=d++t::s->J d m->FnCon cfg y [vS t.1,vI t.2.1,vI t.2.2] m fun r m'=>r=.tup []/\J (d++[t]) m')->J [] μ->Con cfg 278 [.c (.sl 2 (a0.map Mono.cells)),.c (.sl 2 (b0.map Mono.cells)),.c y] μ fun r μ'=>r=.tup []/\J (bH a0 b0) μ':=by
 intro y J μ hy h0
 refine zW Tryz.func278 O Tryz.ntmps278 Tryz.results278 O ?_
 intro z hz
 refine zR<|qC ⟨[(0,.c _),(1,.c _),(2,.c _)],_⟩ (Weak.regs ⟨U,U,U,T⟩)<|zGl 2 O (List Mono×List Mono×List Tr×List E) (fun ⟨a,b,d,m⟩=>[(0,.c (.sl 2 (a.map Mono.cells))),(1,.c (.sl 2 (b.map Mono.cells)))]) (fun ⟨a,b,d,m⟩=>m) (fun ⟨a,b,d,m⟩=>a.length<=4294967296/\b.length<=4294967296/\bH a0 b0=d++bH a b/\J d m) (fun ⟨a,b,d,m⟩=>a.length+b.length) ⟨⟨a0,b0,[],μ⟩,⟨ha0,hb0,O,h0⟩,Weak.regs ⟨U,U,U,T⟩⟩ ?_
 rintro ⟨a,b,d,m⟩ ⟨hal,hbl,hm,hJ⟩
 refine zM<|Y O<|G O<|qB O D<|qA O (yL O O O)<|G O<|rL0 O (fun g0_3=>zS O O) O<|rL1 10 O (fun g0_3=>qX O D O) O<|rL1 11 O (fun g0_3=>yL O O O) O<|r_or O (fun h=>(lzf h))<|W<|zH O (fun c1=>?_) (fun c1=>?_)
 ·try simp only [sx] at c1
  refine zN<|zR<|zR<|zM<|qW 20 mixed (by kernel_rfl) O O<|zQ O O (zS O O)<|zQ O O (qX O D O)<|zQ O O (yM O O O)<|zQ O O (zS O O)<|qI [] O O O O gv1 T (fun g3_3=>zS O O) O<|qI [(37,_)] O O O O gv1 ⟨O,O,T⟩ (fun g3_3=>qX O D O) O<|qI [(38,_)] O O O O gv1 ⟨O,O,T⟩ (fun g3_3=>yL O O O) O<|qI [(39,_)] O O O O gv1 ⟨O,O,T⟩ (fun g3_3=>zS O O) O<|qI [] O O O O q T (fun g3_7=>zS O O) O<|qI [(41,_)] O O O O q ⟨O,O,T⟩ (fun g3_7=>qH O D O O (by simp only [Lz,cond_true,cond_false,Bool.and_eq_true,Bool.or_eq_true,Bool.not_eq_true',Bool.not_eq_false',Bool.or_eq_false_iff,Bool.and_eq_false_iff,decide_eq_true_eq,decide_eq_false_iff_not,Bool.not_eq_true,Bool.not_eq_false] at g3_7;omega) (getm (zIb (by simp only [Lz,cond_true,cond_false,Bool.and_eq_true,Bool.or_eq_true,Bool.not_eq_true',Bool.not_eq_false',Bool.or_eq_false_iff,Bool.and_eq_false_iff,decide_eq_true_eq,decide_eq_false_iff_not,Bool.not_eq_true,Bool.not_eq_false] at g3_7;omega)))) O<|qI [(42,_)] O O O O q ⟨O,O,T⟩ (fun g3_7=>qP O wF O) O<|qI [(43,_)] O O O O q ⟨O,O,T⟩ (fun g3_7=>zJ O one9 O qE O) O<|qI [] O O O O q T (fun g3_7=>zS O O) O<|qI [(45,_)] O O O O q ⟨O,O,T⟩ (fun g3_7=>qH O D O O (by simp only [Lz,cond_true,cond_false,Bool.and_eq_true,Bool.or_eq_true,Bool.not_eq_true',Bool.not_eq_false',Bool.or_eq_false_iff,Bool.and_eq_false_iff,decide_eq_true_eq,decide_eq_false_iff_not,Bool.not_eq_true,Bool.not_eq_false] at g3_7;omega) (getm (zIb (by simp only [Lz,cond_true,cond_false,Bool.and_eq_true,Bool.or_eq_true,Bool.not_eq_true',Bool.not_eq_false',Bool.or_eq_false_iff,Bool.and_eq_false_iff,decide_eq_true_eq,decide_eq_false_iff_not,Bool.not_eq_true,Bool.not_eq_false] at g3_7;omega)))) O<|qI [(46,_)] O O O O q ⟨O,O,T⟩ (fun g3_7=>qP O wF O) O<|qI [(47,_)] O O O O q ⟨O,O,T⟩ (fun g3_7=>zJ O one9 O qE O) O<|qI [(44,_),(48,_)] O O O O q ⟨O,O,O,O,T⟩ (fun g3_7=>det_slss O O O) O<|qI [(40,_)] O O O O gv1 ⟨O,O,T⟩ (fun g3_3=>wK O O O (fun h=>kH (by assumption) h) O) O<|zQ O O (zBc O O O O (fun h=>(lzf h)))<|zQ O O (yY O O)<|yR<|W<|zH O (fun c2=>?_) (fun c2=>?_)
  ·have hL:=merge_left (by omega) c2
   have hdec:(a.drop 1).length+(b).length<a.length+b.length:=by simp only [List.length_drop];omega
   have hm1:bH a0 b0=(d++[((hdM a).Name,(hdM a).By,0)])++bH (a.drop 1) (b):=by rw [hm,hL.2];simp
   refine zM<|qW 9 mixed (by kernel_rfl) O O<|zQ O O (zS O O)<|zQ O O (zS O O)<|zQ O O (qH O D O O (by omega) (getm (zIb (by omega))))<|zQ O O (qP O wF O)<|zQ O O (zJ O one9 O qE O)<|zQ O O (zS O O)<|zQ O O (qH O D O O (by omega) (getm (zIb (by omega))))<|zQ O O (qP O zCq O)<|zQ O O (zJ O one2 O qE O)<|yR<|zY O O (zAw O O (hy d ((hdM a).Name,(hdM a).By,0) _ m (by rw [hm1,List.append_assoc];rfl) hJ) ⟨U,O,U,O,U,O,T⟩) ?_
   rintro _ m1 ⟨rfl,hJ1⟩
   refine W<|zT O<|G O<|qA O (zDu (k:=1) O D O O (by omega))<|G O<|W ?_
   refine ⟨⟨_,_,_,_⟩,⟨by first|omega|(simp only [List.length_drop];omega),by first|omega|(simp only [List.length_drop];omega),hm1,hJ1⟩,hdec,Weak.regs ⟨U,U,U,T⟩⟩
  ·have hb1:=mC2_b c2
   refine zM<|qW 15 mixed (by kernel_rfl) O O<|zQ O O (zS O O)<|zQ O O (qX O D O)<|zQ O O (yM O O O)<|zQ O O (zS O O)<|qI [] O O O O gv1 T (fun g6_3=>zS O O) O<|qI [(69,_)] O O O O gv1 ⟨O,O,T⟩ (fun g6_3=>qH O D O O (by simp only [Lz,cond_true,cond_false,Bool.and_eq_true,Bool.or_eq_true,Bool.not_eq_true',Bool.not_eq_false',Bool.or_eq_false_iff,Bool.and_eq_false_iff,decide_eq_true_eq,decide_eq_false_iff_not,Bool.not_eq_true,Bool.not_eq_false] at g6_3;omega) (getm (zIb (by simp only [Lz,cond_true,cond_false,Bool.and_eq_true,Bool.or_eq_true,Bool.not_eq_true',Bool.not_eq_false',Bool.or_eq_false_iff,Bool.and_eq_false_iff,decide_eq_true_eq,decide_eq_false_iff_not,Bool.not_eq_true,Bool.not_eq_false] at g6_3;omega)))) O<|qI [(70,_)] O O O O gv1 ⟨O,O,T⟩ (fun g6_3=>qP O wF O) O<|qI [(71,_)] O O O O gv1 ⟨O,O,T⟩ (fun g6_3=>zJ O one9 O qE O) O<|qI [] O O O O gv1 T (fun g6_3=>zS O O) O<|qI [(73,_)] O O O O gv1 ⟨O,O,T⟩ (fun g6_3=>qH O D O O (by simp only [Lz,cond_true,cond_false,Bool.and_eq_true,Bool.or_eq_true,Bool.not_eq_true',Bool.not_eq_false',Bool.or_eq_false_iff,Bool.and_eq_false_iff,decide_eq_true_eq,decide_eq_false_iff_not,Bool.not_eq_true,Bool.not_eq_false] at g6_3;omega) (getm (zIb (by simp only [Lz,cond_true,cond_false,Bool.and_eq_true,Bool.or_eq_true,Bool.not_eq_true',Bool.not_eq_false',Bool.or_eq_false_iff,Bool.and_eq_false_iff,decide_eq_true_eq,decide_eq_false_iff_not,Bool.not_eq_true,Bool.not_eq_false] at g6_3;omega)))) O<|qI [(74,_)] O O O O gv1 ⟨O,O,T⟩ (fun g6_3=>qP O wF O) O<|qI [(75,_)] O O O O gv1 ⟨O,O,T⟩ (fun g6_3=>zJ O one9 O qE O) O<|qI [(72,_),(76,_)] O O O O gv1 ⟨O,O,O,O,T⟩ (fun g6_3=>det_slss O O O) O<|zQ O O (zBc O O O O (fun h=>(lzf h)))<|zQ O O (yY O O)<|yR<|W<|zH O (fun c3=>?_) (fun c3=>?_)
   ·have hL:=merge_right (by omega) c2 c3
    have hdec:(a).length+(b.drop 1).length<a.length+b.length:=by simp only [List.length_drop];omega
    have hm1:bH a0 b0=(d++[((hdM b).Name,0,(hdM b).By)])++bH (a) (b.drop 1):=by rw [hm,hL.2];simp
    refine zM<|qW 9 mixed (by kernel_rfl) O O<|zQ O O (zS O O)<|zQ O O (zS O O)<|zQ O O (qH O D O O (by omega) (getm (zIb (by omega))))<|zQ O O (qP O wF O)<|zQ O O (zJ O one9 O qE O)<|zQ O O (zS O O)<|zQ O O (qH O D O O (by omega) (getm (zIb (by omega))))<|zQ O O (qP O zCq O)<|zQ O O (zJ O one2 O qE O)<|yR<|zY O O (zAw O O (hy d ((hdM b).Name,0,(hdM b).By) _ m (by rw [hm1,List.append_assoc];rfl) hJ) ⟨U,O,U,O,U,O,T⟩) ?_
    rintro _ m1 ⟨rfl,hJ1⟩
    refine W<|zT O<|G O<|qA O (zDu (k:=1) O D O O (by omega))<|G O<|W ?_
    refine ⟨⟨_,_,_,_⟩,⟨by first|omega|(simp only [List.length_drop];omega),by first|omega|(simp only [List.length_drop];omega),hm1,hJ1⟩,hdec,Weak.regs ⟨U,U,U,T⟩⟩
   ·have hL:=merge_both c2 c3
    have hdec:(a.drop 1).length+(b.drop 1).length<a.length+b.length:=by simp only [List.length_drop];omega
    have hm1:bH a0 b0=(d++[((hdM a).Name,(hdM a).By,(hdM b).By)])++bH (a.drop 1) (b.drop 1):=by rw [hm,hL.2.2];simp
    refine zM<|qW 13 mixed (by kernel_rfl) O O<|zQ O O (zS O O)<|zQ O O (zS O O)<|zQ O O (qH O D O O (by omega) (getm (zIb (by omega))))<|zQ O O (qP O wF O)<|zQ O O (zJ O one9 O qE O)<|zQ O O (zS O O)<|zQ O O (qH O D O O (by omega) (getm (zIb (by omega))))<|zQ O O (qP O zCq O)<|zQ O O (zJ O one2 O qE O)<|zQ O O (zS O O)<|zQ O O (qH O D O O (by omega) (getm (zIb (by omega))))<|zQ O O (qP O zCq O)<|zQ O O (zJ O one2 O qE O)<|yR<|zY O O (zAw O O (hy d ((hdM a).Name,(hdM a).By,(hdM b).By) _ m (by rw [hm1,List.append_assoc];rfl) hJ) ⟨U,O,U,O,U,O,T⟩) ?_
    rintro _ m1 ⟨rfl,hJ1⟩
    refine W<|qW 6 mixed (by kernel_rfl) O O<|zQ O O (zS O O)<|zQ O O (zDu (k:=1) O D O O (by omega))<|zQ O O (zS O O)<|zQ O O (zDu (k:=1) O D O O (by omega))<|zQ O O (yY O O)<|zQ O O (yY O O)<|yR<|W ?_
    refine ⟨⟨_,_,_,_⟩,⟨by first|omega|(simp only [List.length_drop];omega),by first|omega|(simp only [List.length_drop];omega),hm1,hJ1⟩,hdec,Weak.regs ⟨U,U,U,T⟩⟩
 ·try simp only [sx] at c1
  refine qO ?_
  repeat (first|refine zHl ?_|refine zGk ?_)
  refine zRy<|fin0 ?_
  exact ⟨O,by rw [hm,show a=[] from List.eq_nil_of_length_eq_zero (by omega),show b=[] from List.eq_nil_of_length_eq_zero (by omega),zNh,List.append_nil];exact hJ⟩
theorem lin_Add_1 (bo bl:Nat) (ok:Bool) (K:Int) (sv:Value) (d:List Tr) (t:Tr) (h1:r64 t.2.1) (h2:r64 t.2.2) (hd:d.length<=8589934592):
    Con cfg 279 [vS t.1,vI t.2.1,vI t.2.2,.c (.lit (.pointer (some ⟨bo,0,none⟩))),.c (.lit (.pointer (some ⟨bl,0,none⟩)))] [E.row bo 4 [cB (okF ok (d))],E.vec sv 107 2 ((mK (d)).map Mono.cells),E.row bl 40 [cI K,.lit sv]] fun r μ'=>r=.tup []/\∃sv',μ'=[E.row bo 4 [cB (okF ok (d++[t]))],E.vec sv' 107 2 ((mK (d++[t])).map Mono.cells),E.row bl 40 [cI K,.lit sv']]:=by
 refine zW Tryz.func279 O Tryz.ntmps279 Tryz.results279 O ?_
 intro z hz
 refine Y O<|G O<|G O<|qQ O ok277 (lin_plus t.2.1 t.2.2 h1 h2) ⟨U,O,U,O,T⟩<|yH O<|yX O<|yX O<|G O<|G O<|W<|Y O<|zK one4 (J 0 O) O<|G O<|rL0 O (fun g1_1=>zS O O) O<|yZ O (fun h=>h)<|rStR 0 sz4 O<|W<|Y O<|G O<|yW O<|W<|zH O (fun c1=>?_) (fun c1=>?_)
 ·try simp only [sx] at c1
  refine zT O<|zF O yP<|zK kQ (J 2 O) O<|G O<|G O<|yN O zCy pl107<|yV O D zCy<|zY O O (qV 1 O D O O O (by have:=sumW_len d;simp only [List.length_map,List.length_append,List.length_cons,List.length_nil];omega) (by have:=sumW_len d;simp only [List.length_map,List.length_append,List.length_cons,List.length_nil];omega)) ?_
  rintro _ _ ⟨sv1,rfl,rfl⟩
  refine zF O yP<|rStR 2 sz38 O<|W ?_
  repeat (first|refine zHl ?_|refine zGk ?_)
  refine zRy<|fin0 ?_
  exact ⟨O,_,by rw [zFc,zDp,if_neg (show ¬w64 (trV t)=0 from c1),List.map_append];rfl⟩
 ·try simp only [sx] at c1
  refine zN ?_
  repeat (first|refine zHl ?_|refine zGk ?_)
  refine zRy<|fin0 ?_
  exact ⟨O,_,by rw [zFc,zDp,if_pos (show w64 (trV t)=0 from c1),List.append_nil];rfl⟩
theorem lin_Add (a b:Lf) (ha:a.L.length<=4294967296) (hb:b.L.length<=4294967296) (hra:a.rng) (hrb:b.rng):
    Pur cfg 228 [dK a,dK b] (.tup [dK (pG a b).1,vI (pG a b).2]):=by
 refine zW Tryz.func228 O Tryz.ntmps228 Tryz.results228 O ?_
 intro z hz
 refine Y O<|zY O O (qN O O) ?_
 rintro _ _ ⟨b1,rfl,rfl⟩
 refine zY O O (qN O O) ?_
 rintro _ _ ⟨b2,rfl,rfl⟩
 refine zY O O (qF [none,some 2] O v O) ?_
 rintro _ _ ⟨b3,rfl,rfl⟩
 refine G O<|W<|zM<|Y O<|zP yB (J 2 O) O<|qQ O ok190 (zAx a (by omega)) ⟨U,O,T⟩<|yW O<|G O<|rL0 O (fun g1_3=>zU O yB O (J 1 O) O) O<|rL1 12 O (fun g1_3=>qL O ok190 (zAx b (by omega)) ⟨U,O,T⟩) O<|rL1 13 O (fun g1_3=>zAg O O O) O<|r_or O (fun h=>(lzf h))<|W<|zH O (fun c1=>?_) (fun c1=>?_)
 ·try simp only [sx] at c1
  refine Y O<|yF [none,some 2] O v pl40<|rStR 0 sz40 O<|G O<|W<|zO<|fin2 (zZ yB O (J 0 O) O) (rs_c O) ?_
  rw [add_c1 c1];rfl
 ·try simp only [sx] at c1
  have hla:=zGf c1.1
  have hlb:=zGf c1.2
  refine zN<|Y O<|zY O O (yJ O v) ?_
  rintro _ _ ⟨b4,rfl,rfl⟩
  refine yE _ (yU 107 2)<|W<|Y O<|zY O O (yJ O zr4) ?_
  rintro _ _ ⟨b6,rfl,rfl⟩
  refine W<|Y O<|zF O zCk<|zK one2 (J 5 O) O<|zF O zCk<|zK one2 (J 4 O) O<|qQ O ok277 (lin_plus a.K b.K hra.1 hrb.1) ⟨U,O,U,O,T⟩<|yH O<|yX O<|yX O<|zF O zCk<|rStR 2 sz2 O<|rStR 0 sz4 O<|W<|Y O<|zF O yP<|zK kQ (J 5 O) O<|zF O yP<|zK kQ (J 4 O) O<|qA O (zEf O O O O O)<|zY O O (zDk O ok278 (Con.frame (merge_con a.L b.L ha hb _ (fun d m=>∃sv,m=[E.row b6 4 [cB (okF (decide (r64 (a.K+b.K))) (d))],E.vec sv 107 2 ((mK (d)).map Mono.cells),E.row b4 40 [cI (w64 (a.K+b.K)),.lit sv]]) _ (fun d t s m he hj=>by obtain ⟨sv,rfl⟩:=hj;obtain ⟨k1,k2,k3⟩:=merge_rng hra.2 hrb.2 he;exact FnCon.of_con (first:=[]) (cap:=[.lit (.pointer (some ⟨b6,0,none⟩)),.lit (.pointer (some ⟨b4,0,none⟩))]) ok279 (lin_Add_1 b6 b4 (decide (r64 (a.K+b.K))) (w64 (a.K+b.K)) sv d t k1 k2 (by omega))) ⟨_,O⟩) _) ⟨U,O,U,O,U,O,T⟩) ?_
  rintro _ _ ⟨_,⟨rfl,sv7,rfl⟩,rfl⟩
  refine W<|zM<|Y O<|zK one4 (J 0 O) O<|wE O<|W<|zH O (fun c2=>?_) (fun c2=>?_)
  ·try simp only [sx] at c2
   refine Y O<|yF [none,some 2] O v pl40<|rStR 3 sz40 O<|G O<|W<|zO<|fin2 (zZ yB O (J 3 O) O) (rs_c O) ?_
   rw [add_no hla hlb c2];rfl
  ·try simp only [sx] at c2
   refine zN<|Y O<|zP yB (J 2 O) O<|rStR 3 sz40 O<|G O<|W<|qC _ (yC 1 O (regs':=[(35,.agg [_,_])]) (μ':=[_,_,_,_,_]) ⟨FLe.agg ⟨.inl O,.inr ⟨O,O⟩,T⟩,T⟩ ⟨EFle.refl _,EFle.row (ds:=[_,_]) ⟨.inl O,.inr ⟨O,O⟩,T⟩,EFle.row (ds:=[_,_]) ⟨.inl O,.inr ⟨O,O⟩,T⟩,EFle.refl _,EFle.refl _,T⟩)<|zO<|fin2 (zZ yB O (J 2 O) O) (rs_c O) ?_
   rw [add_ok hla hlb c2];rfl
theorem lin_Substitute (l:Lf) (s:ByteArray) (u:Lf) (hl:l.L.length<=4294967296) (ht:u.L.length<=4294967296) (hrl:l.rng) (hrt:u.rng):
    Pur cfg 177 [dK l,vS s,dK u] (.tup [dK (jH l s u).1,vI (jH l s u).2]):=by
 refine zW Tryz.func177 O Tryz.ntmps177 Tryz.results177 O ?_
 intro z hz
 obtain ⟨hs1,hs2⟩:=scale_rng u (bU l.L s)
 obtain ⟨hr1,hr2⟩:=rest_rng hrl s
 refine Y O<|zY O O (qN O O) ?_
 rintro _ _ ⟨b1,rfl,rfl⟩
 refine zY O O (qN O O) ?_
 rintro _ _ ⟨b2,rfl,rfl⟩
 refine zY O O (qF [none,some 2] O v O) ?_
 rintro _ _ ⟨b3,rfl,rfl⟩
 refine G O<|W<|zM<|Y O<|zP yB (J 2 O) O<|qQ O ok190 (zAx l (by omega)) ⟨U,O,T⟩<|yW O<|G O<|rL0 O (fun g1_3=>zS O O) O<|rL1 18 O (fun g1_3=>qL O ok158 (zFo s) ⟨U,O,T⟩) O<|rL1 19 O (fun g1_3=>kT O O) O<|r_or O (fun h=>(lzf h))<|G O<|rL0 O (fun g1_8=>zU O yB O (J 1 O) O) O<|rL1 23 O (fun g1_8=>qL O ok190 (zAx u (by omega)) ⟨U,O,T⟩) O<|rL1 24 O (fun g1_8=>zAg O O O) O<|r_or O (fun h=>(lzf h))<|W<|zH O (fun c1=>?_) (fun c1=>?_)
 ·try simp only [sx] at c1
  refine Y O<|yF [none,some 2] O v pl40<|rStR 0 sz40 O<|G O<|W<|zO<|fin2 (zZ yB O (J 0 O) O) (rs_c O) ?_
  rw [subst_c1 c1];rfl
 ·try simp only [sx] at c1
  refine zN<|Y O<|zF O zCk<|zK one2 (J 2 O) O<|yN O v pl40<|zY O O (yJ O v) ?_
  rintro _ _ ⟨b4,rfl,rfl⟩
  refine yE _ (yU 107 2)<|rStR 1 sz40 O<|W<|Y O<|G O<|W<|zM<|Y O<|zF O yP<|zK kQ (J 4 O) O<|qB O D<|G O<|W<|zR<|qC ⟨[(34,.c _),(9,.c _),(1,.c _),(5,.c _),(6,.c _),(8,.c _),(32,.c _),(33,.c _)],[_,_,_,_]⟩ (Weak.mk [true,true,true,true,false] ⟨U,U,U,U,U,U,U,U,T⟩ O)<|qG 2 2 O O (Nat×Value) (fun ⟨k,sv⟩=>[(34,vI k),(9,vI (bU (l.L.take k) s))]) (fun ⟨k,sv⟩=>[E.vec sv 107 2 (((l.L.take k).filter (fun m=> !decide (m.Name=s))).map Mono.cells),E.row b4 40 [cI l.K,.lit sv]]) (fun ⟨k,sv⟩=>k<=l.L.length) (fun ⟨k,sv⟩=>l.L.length-k) ⟨⟨0,_⟩,(by omega),Weak.mk [true,true,true,true] ⟨U,VLe.of_eq (O),U,U,U,U,U,U,T⟩ O⟩ ?_
  rintro ⟨k,sv⟩ hk
  show AWP _ _ _ _ _ ⟨[(34,vI k),(9,vI (bU (l.L.take k) s))]++_,[E.vec sv 107 2 (((l.L.take k).filter (fun m=> !decide (m.Name=s))).map Mono.cells),E.row b4 40 [cI l.K,.lit sv]]++_⟩
  refine Y O<|yI O<|W<|zM<|zH O (fun c2=>?_) (fun c2=>?_)
  ·try simp only [sx] at c2
   obtain ⟨x,hx⟩:=qU l.L k (by omega)
   refine zN<|zM<|zR<|Y O<|qJ O D (by omega) (getm (by assumption))<|zP zHg qE O<|zY O O (yJ O zCy) ?_
   rintro _ _ ⟨b6,rfl,rfl⟩
   refine rStR 0 sz107 O<|W<|zM<|Y O<|zF O wF<|zK one9 (J 0 O) O<|G O<|wD O<|W<|zH O (fun c3=>?_) (fun c3=>?_)
   ·try simp only [sx] at c3
    refine Y O<|zF O zCq<|zK one2 (J 0 O) O<|G O<|W<|qO<|zT O<|qK O ⟨by omega,by omega⟩<|G O<|W ?_
    refine ⟨⟨k+1,_⟩,(by omega),(by show l.L.length-(k+1)<l.L.length-k;omega),Weak.mk [false,true,true,true,true] ⟨U,VLe.of_eq (by rw [zGu hx];first|(rw [if_pos c3];rfl)|(rw [if_neg c3];rfl)),U,U,U,U,U,U,T⟩ (by exact zDm (by rw [zLb hx];first|(rw [if_pos c3,List.append_nil])|(rw [if_neg c3,List.map_append];rfl)))⟩
   ·try simp only [sx] at c3
    refine zN<|zT O<|zF O yP<|zK kQ (J 2 O) O<|zP zHg (J 0 O) O<|yV O D zCy<|zY O O (qV 1 O D O O O (by have:=List.length_filter_le (fun m:Mono=> !decide (m.Name=s)) (l.L.take k);simp only [List.length_map,List.length_append,List.length_cons,List.length_nil,List.length_take] at *;omega) (by have:=List.length_filter_le (fun m:Mono=> !decide (m.Name=s)) (l.L.take k);simp only [List.length_map,List.length_append,List.length_cons,List.length_nil,List.length_take] at *;omega)) ?_
    rintro _ _ ⟨sv7,rfl,rfl⟩
    refine zF O yP<|rStR 2 sz38 O<|W<|zT O<|qK O ⟨by omega,by omega⟩<|G O<|W ?_
    refine ⟨⟨k+1,_⟩,(by omega),(by show l.L.length-(k+1)<l.L.length-k;omega),Weak.mk [false,true,true,true,true] ⟨U,VLe.of_eq (by rw [zGu hx];first|(rw [if_pos c3];rfl)|(rw [if_neg c3];rfl)),U,U,U,U,U,U,T⟩ (by exact zDm (by rw [zLb hx];first|(rw [if_pos c3,List.append_nil])|(rw [if_neg c3,List.map_append];rfl)))⟩
  ·try simp only [sx] at c2
   rw [qY (l:=l.L) (k:=k) (by omega)]
   refine qO<|Y O<|zP yB (J 3 O) O<|G O<|qQ O ok227 (lin_Scale u (bU l.L s) ht hrt (last_rng hrl s)) ⟨U,O,U,O,T⟩<|yH O<|qA O (yA O O O)<|yX O<|zY O O (qF [none,some 2] O v O) ?_
   rintro _ _ ⟨b8,rfl,rfl⟩
   refine rStR 0 sz40 O<|G O<|W<|zM<|Y O<|G O<|yW O<|W<|zH O (fun c4=>?_) (fun c4=>?_)
   ·try simp only [sx] at c4
    refine Y O<|yF [none,some 2] O v pl40<|G O<|rStR 3 sz40 O<|G O<|W<|zO<|fin2 (zZ yB O (J 3 O) O) (rs_c O) ?_
    rw [subst_c4 c1 c4];rfl
   ·try simp only [sx] at c4
    refine qC _ (yC 1 O (regs':=[]) (μ':=[_,_,_,_]) T ⟨EFle.refl _,EFle.row (ds:=[_,_]) ⟨.inl O,.inr ⟨O,O⟩,T⟩,EFle.refl _,EFle.refl _,T⟩)<|zN<|Y O<|zP yB (J 1 O) O<|zP yB (J 0 O) O<|qQ O ok228 (lin_Add (lU l s) (fA u (bU l.L s)).1 (by omega) (by omega) hr1 hs1) ⟨U,O,U,O,T⟩<|qA O (yA O O O)<|yX O<|rStR 2 sz40 O<|G O<|W<|zO<|fin2 (zZ yB O (J 2 O) O) (rs_c O) ?_
    rw [subst_ok c1 c4];rfl
end Go.W
end
section
set_option maxRecDepth 10000
namespace Go.W
open Go Go.Eng Go.Proofs Go.L41 Go.Br
attribute [local irreducible] AWP RWP TD fL
theorem ok176:bA Tryz.prog 176=true:=by kernel_rfl
theorem ok177:bA Tryz.prog 177=true:=by kernel_rfl
theorem ok313:bA Tryz.prog 313=true:=by kernel_rfl
theorem ok336:bA Tryz.prog 336=true:=by kernel_rfl
theorem ref14_wide (x y:Int) (hx:r64 x) (hy:r64 y):
    Pur cfg 336 [vI x,vI y] (.tup [vI ((x*y)/18446744073709551616),vUn ((x*y)%18446744073709551616).toNat]):=by
 refine zW Tryz.func336 O Tryz.ntmps336 Tryz.results336 O ?_
 intro z hz
 have hA:=zNi hx
 have hB:=zNi hy
 obtain ⟨p1,p2,p3,p4⟩:=part_le (a:=x.natAbs) (b:=y.natAbs) (by omega) (by omega)
 obtain ⟨w1,w2⟩:=wide_lt hx hy
 have hmid:rV x.natAbs y.natAbs<18446744073709551616:=by unfold rV;omega
 refine Y O<|G O<|G O<|W<|Y O<|G O<|yI O<|G O<|yI O<|qA O (zLu O un4 O O)<|G O<|W<|Y O<|G O<|qA O (kK O us2 ik254 O)<|G O<|qA O (kK O us2 ik254 O)<|G O<|G O<|W<|zM<|Y O<|G O<|yI O<|W<|zH O (fun c1=>?_) (fun c1=>?_)
 ·try simp only [sx] at c1
  refine zT O<|G O<|qA O (zFp O O) ?_
  rw [zPf hx c1]
  refine G O<|W<|zM<|Y O<|G O<|yI O<|W<|zH O (fun c2=>?_) (fun c2=>?_)
  ·try simp only [sx] at c2
   refine zT O<|G O<|qA O (zFp O O) ?_
   rw [zPf hy c2]
   refine G O<|W<|Y O<|G O<|qA O (kJ O O O )<|G O<|qA O (wA O O O (by omega))<|G O<|qA O (kJ O O O )<|G O<|qA O (wA O O O (by omega))<|G O<|G O<|G O<|G O<|W<|Y O<|G O<|G O<|qA O (wT O O O (by omega))<|G O<|G O<|qA O (wT O O O (by omega))<|G O<|G O<|qA O (wT O O O (by omega))<|G O<|G O<|qA O (wT O O O (by omega))<|G O<|G O<|G O<|G O<|W<|Y O<|G O<|qA O (kJ O O O )<|G O<|qA O (wA O O O (by omega))<|qA O (wC O O O (by omega))<|G O<|qA O (wA O O O (by omega))<|qA O (wC O O O (by omega))<|G O<|W<|Y O<|G O<|qA O (wA O O O (by omega))<|G O<|qA O (zPk O O O )<|qA O (det_uor O O O )<|G O<|W<|Y O<|G O<|G O<|qA O (kJ O O O )<|qA O (wC O O O (by omega))<|G O<|qA O (kJ O O O )<|qA O (wC O O O (by omega)) ?_
   refine G O<|qA O (kJ O O O )<|qA O (wC O O O (by unfold wHi at w1;unfold rV at w1;omega))<|G O<|W<|zM<|Y O<|G O<|W<|zH O (fun c3=>?_) (fun c3=>?_)
   ·try simp only [sx] at c3
    refine Y O<|G O<|qA O (zPm O O w2)<|G O<|W<|Y O<|G O<|qA O (zPl O O w1)<|G O<|W<|Y O<|G O<|yK O<|W<|zH O (fun c4=>?_) (fun c4=>?_)
    ·try simp only [sx] at c4
     refine zT O<|G O<|qA O (zLs O O O )<|G O<|W<|Y O<|G O<|qA O (kK O zHh ik2 O)<|G O<|G O<|G O<|W<|zO<|fin2 (rs_c O) (rs_c O) ?_
     obtain ⟨e1,e2⟩:=zKn hx hy c3 (by exact Int.ofNat_eq_zero.1 c4)
     rw [←e2,←e1];rfl
    ·try simp only [sx] at c4
     refine zN<|Y O<|G O<|qA O (kK O zHh ik2 O)<|G O<|G O<|G O<|W<|zO<|fin2 (rs_c O) (rs_c O) ?_
     obtain ⟨e1,e2⟩:=zKm hx hy c3 (fun h=>c4 (by exact Int.ofNat_eq_zero.2 h))
     rw [←e2,←e1];rfl
   ·try simp only [sx] at c3
    refine zN<|Y O<|G O<|qA O (kK O zHh ik2 O)<|G O<|G O<|G O<|W<|zO<|fin2 (rs_c O) (rs_c O) ?_
    obtain ⟨e1,e2⟩:=zOw hx hy c3
    rw [←e2,←e1];rfl
  ·try simp only [sx] at c2
   rw [zPe hy (by omega)]
   refine zN<|Y O<|G O<|qA O (kJ O O O )<|G O<|qA O (wA O O O (by omega))<|G O<|qA O (kJ O O O )<|G O<|qA O (wA O O O (by omega))<|G O<|G O<|G O<|G O<|W<|Y O<|G O<|G O<|qA O (wT O O O (by omega))<|G O<|G O<|qA O (wT O O O (by omega))<|G O<|G O<|qA O (wT O O O (by omega))<|G O<|G O<|qA O (wT O O O (by omega))<|G O<|G O<|G O<|G O<|W<|Y O<|G O<|qA O (kJ O O O )<|G O<|qA O (wA O O O (by omega))<|qA O (wC O O O (by omega))<|G O<|qA O (wA O O O (by omega))<|qA O (wC O O O (by omega))<|G O<|W<|Y O<|G O<|qA O (wA O O O (by omega))<|G O<|qA O (zPk O O O )<|qA O (det_uor O O O )<|G O<|W<|Y O<|G O<|G O<|qA O (kJ O O O )<|qA O (wC O O O (by omega))<|G O<|qA O (kJ O O O )<|qA O (wC O O O (by omega))<|G O ?_
   refine qA O (kJ O O O )<|qA O (wC O O O (by unfold wHi at w1;unfold rV at w1;omega))<|G O<|W<|zM<|Y O<|G O<|W<|zH O (fun c3=>?_) (fun c3=>?_)
   ·try simp only [sx] at c3
    refine Y O<|G O<|qA O (zPm O O w2)<|G O<|W<|Y O<|G O<|qA O (zPl O O w1)<|G O<|W<|Y O<|G O<|yK O<|W<|zH O (fun c4=>?_) (fun c4=>?_)
    ·try simp only [sx] at c4
     refine zT O<|G O<|qA O (zLs O O O )<|G O<|W<|Y O<|G O<|qA O (kK O zHh ik2 O)<|G O<|G O<|G O<|W<|zO<|fin2 (rs_c O) (rs_c O) ?_
     obtain ⟨e1,e2⟩:=zKn hx hy c3 (by exact Int.ofNat_eq_zero.1 c4)
     rw [←e2,←e1];rfl
    ·try simp only [sx] at c4
     refine zN<|Y O<|G O<|qA O (kK O zHh ik2 O)<|G O<|G O<|G O<|W<|zO<|fin2 (rs_c O) (rs_c O) ?_
     obtain ⟨e1,e2⟩:=zKm hx hy c3 (fun h=>c4 (by exact Int.ofNat_eq_zero.2 h))
     rw [←e2,←e1];rfl
   ·try simp only [sx] at c3
    refine zN<|Y O<|G O<|qA O (kK O zHh ik2 O)<|G O<|G O<|G O<|W<|zO<|fin2 (rs_c O) (rs_c O) ?_
    obtain ⟨e1,e2⟩:=zOw hx hy c3
    rw [←e2,←e1];rfl
 ·try simp only [sx] at c1
  rw [zPe hx (by omega)]
  refine zN<|zM<|Y O<|G O<|yI O<|W<|zH O (fun c2=>?_) (fun c2=>?_)
  ·try simp only [sx] at c2
   refine zT O<|G O<|qA O (zFp O O) ?_
   rw [zPf hy c2]
   refine G O<|W<|Y O<|G O<|qA O (kJ O O O )<|G O<|qA O (wA O O O (by omega))<|G O<|qA O (kJ O O O )<|G O<|qA O (wA O O O (by omega))<|G O<|G O<|G O<|G O<|W<|Y O<|G O<|G O<|qA O (wT O O O (by omega))<|G O<|G O<|qA O (wT O O O (by omega))<|G O<|G O<|qA O (wT O O O (by omega))<|G O<|G O<|qA O (wT O O O (by omega))<|G O<|G O<|G O<|G O<|W<|Y O<|G O<|qA O (kJ O O O )<|G O<|qA O (wA O O O (by omega))<|qA O (wC O O O (by omega))<|G O<|qA O (wA O O O (by omega))<|qA O (wC O O O (by omega))<|G O<|W<|Y O<|G O<|qA O (wA O O O (by omega))<|G O<|qA O (zPk O O O )<|qA O (det_uor O O O )<|G O<|W<|Y O<|G O<|G O<|qA O (kJ O O O )<|qA O (wC O O O (by omega))<|G O<|qA O (kJ O O O )<|qA O (wC O O O (by omega)) ?_
   refine G O<|qA O (kJ O O O )<|qA O (wC O O O (by unfold wHi at w1;unfold rV at w1;omega))<|G O<|W<|zM<|Y O<|G O<|W<|zH O (fun c3=>?_) (fun c3=>?_)
   ·try simp only [sx] at c3
    refine Y O<|G O<|qA O (zPm O O w2)<|G O<|W<|Y O<|G O<|qA O (zPl O O w1)<|G O<|W<|Y O<|G O<|yK O<|W<|zH O (fun c4=>?_) (fun c4=>?_)
    ·try simp only [sx] at c4
     refine zT O<|G O<|qA O (zLs O O O )<|G O<|W<|Y O<|G O<|qA O (kK O zHh ik2 O)<|G O<|G O<|G O<|W<|zO<|fin2 (rs_c O) (rs_c O) ?_
     obtain ⟨e1,e2⟩:=zKn hx hy c3 (by exact Int.ofNat_eq_zero.1 c4)
     rw [←e2,←e1];rfl
    ·try simp only [sx] at c4
     refine zN<|Y O<|G O<|qA O (kK O zHh ik2 O)<|G O<|G O<|G O<|W<|zO<|fin2 (rs_c O) (rs_c O) ?_
     obtain ⟨e1,e2⟩:=zKm hx hy c3 (fun h=>c4 (by exact Int.ofNat_eq_zero.2 h))
     rw [←e2,←e1];rfl
   ·try simp only [sx] at c3
    refine zN<|Y O<|G O<|qA O (kK O zHh ik2 O)<|G O<|G O<|G O<|W<|zO<|fin2 (rs_c O) (rs_c O) ?_
    obtain ⟨e1,e2⟩:=zOw hx hy c3
    rw [←e2,←e1];rfl
  ·try simp only [sx] at c2
   rw [zPe hy (by omega)]
   refine zN<|Y O<|G O<|qA O (kJ O O O )<|G O<|qA O (wA O O O (by omega))<|G O<|qA O (kJ O O O )<|G O<|qA O (wA O O O (by omega))<|G O<|G O<|G O<|G O<|W<|Y O<|G O<|G O<|qA O (wT O O O (by omega))<|G O<|G O<|qA O (wT O O O (by omega))<|G O<|G O<|qA O (wT O O O (by omega))<|G O<|G O<|qA O (wT O O O (by omega))<|G O<|G O<|G O<|G O<|W<|Y O<|G O<|qA O (kJ O O O )<|G O<|qA O (wA O O O (by omega))<|qA O (wC O O O (by omega))<|G O<|qA O (wA O O O (by omega))<|qA O (wC O O O (by omega))<|G O<|W<|Y O<|G O<|qA O (wA O O O (by omega))<|G O<|qA O (zPk O O O )<|qA O (det_uor O O O )<|G O<|W<|Y O<|G O<|G O<|qA O (kJ O O O )<|qA O (wC O O O (by omega))<|G O<|qA O (kJ O O O )<|qA O (wC O O O (by omega))<|G O ?_
   refine qA O (kJ O O O )<|qA O (wC O O O (by unfold wHi at w1;unfold rV at w1;omega))<|G O<|W<|zM<|Y O<|G O<|W<|zH O (fun c3=>?_) (fun c3=>?_)
   ·try simp only [sx] at c3
    refine Y O<|G O<|qA O (zPm O O w2)<|G O<|W<|Y O<|G O<|qA O (zPl O O w1)<|G O<|W<|Y O<|G O<|yK O<|W<|zH O (fun c4=>?_) (fun c4=>?_)
    ·try simp only [sx] at c4
     refine zT O<|G O<|qA O (zLs O O O )<|G O<|W<|Y O<|G O<|qA O (kK O zHh ik2 O)<|G O<|G O<|G O<|W<|zO<|fin2 (rs_c O) (rs_c O) ?_
     obtain ⟨e1,e2⟩:=zKn hx hy c3 (by exact Int.ofNat_eq_zero.1 c4)
     rw [←e2,←e1];rfl
    ·try simp only [sx] at c4
     refine zN<|Y O<|G O<|qA O (kK O zHh ik2 O)<|G O<|G O<|G O<|W<|zO<|fin2 (rs_c O) (rs_c O) ?_
     obtain ⟨e1,e2⟩:=zKm hx hy c3 (fun h=>c4 (by exact Int.ofNat_eq_zero.2 h))
     rw [←e2,←e1];rfl
   ·try simp only [sx] at c3
    refine zN<|Y O<|G O<|qA O (kK O zHh ik2 O)<|G O<|G O<|G O<|W<|zO<|fin2 (rs_c O) (rs_c O) ?_
    obtain ⟨e1,e2⟩:=zOw hx hy c3
    rw [←e2,←e1];rfl
theorem zEi (a b c:Int) (ha:r64 a) (hb:r64 b) (hc:r64 c):
    Pur cfg 313 [vI a,vI b,vI c] (.tup [vI (w64 (a+b*c)),vB (decide (r64 (a+b*c)))]):=by
 refine zW Tryz.func313 O Tryz.ntmps313 Tryz.results313 O ?_
 intro z hz
 obtain ⟨z1,z2⟩:=prod_bd hb hc
 refine Y O<|G O<|G O<|W<|Y O<|G O<|G O<|qQ O ok336 (ref14_wide b c hb hc) ⟨U,O,U,O,T⟩<|yH O<|yX O<|yX O<|G O<|G O<|W<|Y O<|G O<|G O<|qA O (kK O us2 ik254 O)<|qA O (zSn O O O)<|G O<|W<|Y O<|G O<|W<|zM<|Y O<|G O<|G O<|yI O<|W<|zH O (fun c1=>?_) (fun c1=>?_)
 ·try simp only [sx] at c1
  refine zT O<|G O<|W<|Y O<|G O<|G O<|qK O ⟨by omega,by omega⟩<|G O<|W<|zM<|Y O<|G O<|yI O<|W<|zH O (fun c2=>?_) (fun c2=>?_)
  ·try simp only [sx] at c2
   refine zT O<|G O<|qA O (kP O O O ⟨by omega,by omega⟩)<|G O<|W<|Y O<|G O<|qA O (kK O zHh ik2 O)<|G O<|W<|Y O<|G O<|G O<|yK O<|G O<|rL0 O (fun g10_3=>zS O O) O<|rL1 40 O (fun g10_3=>wJ O O O) O<|yZ O (fun h=>h)<|G O<|rL0 O (fun g10_7=>zS O O) O<|rL1 44 O (fun g10_7=>yM O O O) O<|rL1 45 O (fun g10_7=>zS O O) O<|rLz [] O q T (fun g10_10=>zS O O) O<|rLz [(47,_)] O q ⟨O,O,T⟩ (fun g10_10=>zBs O O O) O<|rL1 46 O (fun g10_7=>wK O O O (fun h=>kH (by assumption) h) O) O<|r_or O (fun h=>(lzf h))<|G O<|G O<|W<|zO<|fin2 (rs_c O) (rs_c O) ?_
   obtain ⟨S,hS,s0,s1,s2,s3⟩:=zPo (z:=b*c) ha
   rw [←hS,s3] at c1
   rw [←hS]
   clear hS
   unfold r64 at ha
   exact zPp s0 s1 (by generalize b*c=z at *;omega)
  ·try simp only [sx] at c2
   refine zN<|Y O<|G O<|qA O (kK O zHh ik2 O)<|G O<|W<|Y O<|G O<|G O<|yK O<|G O<|rL0 O (fun g10_3=>zS O O) O<|rL1 40 O (fun g10_3=>wJ O O O) O<|yZ O (fun h=>h)<|G O<|rL0 O (fun g10_7=>zS O O) O<|rL1 44 O (fun g10_7=>yM O O O) O<|rL1 45 O (fun g10_7=>zS O O) O<|rLz [] O q T (fun g10_10=>zS O O) O<|rLz [(47,_)] O q ⟨O,O,T⟩ (fun g10_10=>zBs O O O) O<|rL1 46 O (fun g10_7=>wK O O O (fun h=>kH (by assumption) h) O) O<|r_or O (fun h=>(lzf h))<|G O<|G O<|W<|zO<|fin2 (rs_c O) (rs_c O) ?_
   obtain ⟨S,hS,s0,s1,s2,s3⟩:=zPo (z:=b*c) ha
   rw [←hS,s3] at c1
   rw [←hS]
   clear hS
   unfold r64 at ha
   exact zPp s0 s1 (by generalize b*c=z at *;omega)
 ·try simp only [sx] at c1
  refine zN<|Y O<|G O<|G O<|qK O ⟨by omega,by omega⟩<|G O<|W<|zM<|Y O<|G O<|yI O<|W<|zH O (fun c2=>?_) (fun c2=>?_)
  ·try simp only [sx] at c2
   refine zT O<|G O<|qA O (kP O O O ⟨by omega,by omega⟩)<|G O<|W<|Y O<|G O<|qA O (kK O zHh ik2 O)<|G O<|W<|Y O<|G O<|G O<|yK O<|G O<|rL0 O (fun g10_3=>zS O O) O<|rL1 40 O (fun g10_3=>wJ O O O) O<|yZ O (fun h=>h)<|G O<|rL0 O (fun g10_7=>zS O O) O<|rL1 44 O (fun g10_7=>yM O O O) O<|rL1 45 O (fun g10_7=>zS O O) O<|rLz [] O q T (fun g10_10=>zS O O) O<|rLz [(47,_)] O q ⟨O,O,T⟩ (fun g10_10=>zBs O O O) O<|rL1 46 O (fun g10_7=>wK O O O (fun h=>kH (by assumption) h) O) O<|r_or O (fun h=>(lzf h))<|G O<|G O<|W<|zO<|fin2 (rs_c O) (rs_c O) ?_
   obtain ⟨S,hS,s0,s1,s2,s3⟩:=zPo (z:=b*c) ha
   rw [←hS,s3] at c1
   rw [←hS]
   clear hS
   unfold r64 at ha
   exact zPp s0 s1 (by generalize b*c=z at *;omega)
  ·try simp only [sx] at c2
   refine zN<|Y O<|G O<|qA O (kK O zHh ik2 O)<|G O<|W<|Y O<|G O<|G O<|yK O<|G O<|rL0 O (fun g10_3=>zS O O) O<|rL1 40 O (fun g10_3=>wJ O O O) O<|yZ O (fun h=>h)<|G O<|rL0 O (fun g10_7=>zS O O) O<|rL1 44 O (fun g10_7=>yM O O O) O<|rL1 45 O (fun g10_7=>zS O O) O<|rLz [] O q T (fun g10_10=>zS O O) O<|rLz [(47,_)] O q ⟨O,O,T⟩ (fun g10_10=>zBs O O O) O<|rL1 46 O (fun g10_7=>wK O O O (fun h=>kH (by assumption) h) O) O<|r_or O (fun h=>(lzf h))<|G O<|G O<|W<|zO<|fin2 (rs_c O) (rs_c O) ?_
   obtain ⟨S,hS,s0,s1,s2,s3⟩:=zPo (z:=b*c) ha
   rw [←hS,s3] at c1
   rw [←hS]
   clear hS
   unfold r64 at ha
   exact zPp s0 s1 (by generalize b*c=z at *;omega)
theorem ref14_scales (l:Lf) (by_:Int) (hl:l.L.length<=4294967296) (hr:l.rng) (hb:r64 by_):
    Pur cfg 280 [dK l,vI by_] (vB (decide (r64 (l.K*by_))&&fQ by_ l.L)):=by
 refine zW Tryz.func280 O Tryz.ntmps280 Tryz.results280 O ?_
 intro z hz
 have z0:r64 0:=by unfold r64;omega
 refine Y O<|zY O O (qN O O) ?_
 rintro _ _ ⟨b1,rfl,rfl⟩
 refine G O<|W<|zM<|Y O<|zF O zCk<|zK one2 (J 0 O) O<|G O<|qQ O ok313 (zEi 0 l.K by_ z0 hr.1 hb) ⟨U,O,U,O,U,O,T⟩<|yH O<|yX O<|yX O<|G O<|G O<|W<|Y O<|G O<|wE O<|W<|zH O (fun c1=>?_) (fun c1=>?_)
 ·try simp only [sx] at c1
  rw [Int.zero_add] at c1
  refine Y O<|G O<|W<|zO<|zV O ?_
  rw [decide_eq_false c1];rfl
 ·try simp only [sx] at c1
  rw [Int.zero_add] at c1
  refine zN<|zM<|Y O<|G O<|W<|zR<|qC ⟨[(7,.c _),(1,.c _),(2,.c _)],[_]⟩ (Weak.mk [true] ⟨U,U,U,T⟩ O)<|qG 1 0 O O (Nat) (fun k=>[(7,vI k)]) (fun k=>[]) (fun k=>k<=l.L.length/\(fQ by_ (l.L.take k)=true)) (fun k=>l.L.length-k) ⟨0,⟨by omega,O⟩,Weak.mk [true] ⟨U,U,U,T⟩ O⟩ ?_
  rintro k ⟨hk,hp⟩
  refine zM<|Y O<|G O<|zF O yP<|zK kQ (J 0 O) O<|qB O D<|yI O<|W<|zH O (fun c2=>?_) (fun c2=>?_)
  ·try simp only [sx] at c2
   obtain ⟨x,hx⟩:=qU l.L k (by omega)
   refine zN<|zM<|zR<|Y O<|zF O yP<|zK kQ (J 0 O) O<|G O<|qJ O D (by omega) (getm (by assumption))<|qS O zCq<|zK one2 qE O<|G O<|qQ O ok313 (zEi 0 x.By by_ z0 (hr.2 x (zX hx)) hb) ⟨U,O,U,O,U,O,T⟩<|yH O<|yX O<|yX O<|G O<|G O<|W<|Y O<|G O<|wE O<|W<|zH O (fun c3=>?_) (fun c3=>?_)
   ·try simp only [sx] at c3
    rw [Int.zero_add] at c3
    refine Y O<|G O<|W<|zO<|zV O ?_
    rw [scaleOk_no hx c3,Bool.and_false]
   ·try simp only [sx] at c3
    rw [Int.zero_add] at c3
    refine zN<|zT O<|G O<|qK O ⟨by omega,by omega⟩<|G O<|W ?_
    refine ⟨k+1,⟨by omega,scaleOk_next hx hp c3⟩,(by omega),Weak.mk [true] ⟨U,U,U,T⟩ O⟩
  ·try simp only [sx] at c2
   refine qO<|Y O<|G O<|W<|zO<|zV O ?_
   rw [qY (by omega)] at hp
   rw [hp,decide_eq_true c1];rfl
theorem zNm (l:Lf) (s:ByteArray) (u:Lf) (hl:l.L.length<=4294967296) (ht:u.L.length<=4294967296) (hrl:l.rng) (hrt:u.rng):
    Pur cfg 176 [dK l,.c (.iptr [cS s]),.c (.iptr u.cells)] (.tup [dK (jH l s u).1,vI (jH l s u).2]):=by
 refine zW Tryz.func176 O Tryz.ntmps176 Tryz.results176 O ?_
 intro z hz
 refine Y O<|zY O O (qN O O) ?_
 rintro _ _ ⟨b1,rfl,rfl⟩
 refine zY O O (qF [none,some 2] O v O) ?_
 rintro _ _ ⟨b2,rfl,rfl⟩
 refine G O<|W<|Y O<|zP yB (J 1 O) O<|zK one9 qE O<|zP yB qE O<|qQ O ok177 (lin_Substitute l s u hl ht hrl hrt) ⟨U,O,U,O,U,O,T⟩<|qA O (yA O O O)<|yX O<|rStR 0 sz40 O<|G O<|W<|zO<|fin2 (zZ yB O (J 0 O) O) (rs_c O) ?_
 exact O
theorem zSe (e:Ex) (s:ByteArray) (u:Lf) (he:e.wt<=4294967296) (hP:e.allF Lf.rng) (ht:u.L.length<=4294967296) (hrt:u.rng):
    Pur cfg 123 [vE e,vS s,dK u] (.tup [vE (lD (mEx (fun l=>jH l s u) e)),vI (lT (mEx (fun l=>jH l s u) e))]):=by
 refine zW Tryz.func123 O Tryz.ntmps123 Tryz.results123 O ?_
 intro z hz
 refine Y O<|zY O O (qN O O) ?_
 rintro _ _ ⟨b1,rfl,rfl⟩
 refine zY O O (qN O O) ?_
 rintro _ _ ⟨b2,rfl,rfl⟩
 refine zY O O (qN O O) ?_
 rintro _ _ ⟨b3,rfl,rfl⟩
 refine zY O O (qF [none,none,none,none,none,none,none,none,none,none,some 2,some 4,some 13] O zr44 O) ?_
 rintro _ _ ⟨b4,rfl,rfl⟩
 refine G O<|W<|Y O<|zP yG (J 3 O) O<|qA O (zEf O O O O O)<|yE _ (kD 2 O 9 (.c (.fn _ _ [_,_])) (PLe.fn ⟨.inr ⟨O,O⟩,.inl O,T⟩))<|yE _ (kD 1 O 9 (.c (.fn _ _ [_,_])) (PLe.fn ⟨.inl O,.inr ⟨O,O⟩,T⟩))<|qQ O ok78 (mapForms_con (fun l=>jH l s u) _ Lf.rng (fun l hr hl=>FnPur.of_pur (first:=[]) (cap:=[.iptr [cS s],.iptr u.cells]) ok176 (zNm l s u hl ht hr hrt)) e hP he) ⟨U,O,U,O,T⟩<|qA O (yA O O O)<|yX O<|rStR 0 sz44 O<|G O<|W<|zO<|fin2 (zZ yG O (J 0 O) O) (rs_c O) ?_
 exact O
end Go.W
end
section
set_option maxRecDepth 10000
namespace Go.W
open Go Go.Eng Go.Proofs Go.L41 Go.Br
attribute [local irreducible] AWP RWP TD fL
theorem ok183:bA Tryz.prog 183=true:=by kernel_rfl
theorem ok230:bA Tryz.prog 230=true:=by kernel_rfl
theorem ok231:bA Tryz.prog 231=true:=by kernel_rfl
theorem ok280:bA Tryz.prog 280=true:=by kernel_rfl
theorem ok281:bA Tryz.prog 281=true:=by kernel_rfl
theorem pl115:fR Tryz.prog 115=some [(0,2),(2,1),(3,1)]:=by kernel_rfl
theorem ref14_sum (a b:Lf) (c:Int) (ha:a.L.length<=4294967296) (hb:b.L.length<=4294967296) (hra:a.rng) (hrb:b.rng) (hc:r64 c) (hne:∀m,m∈a.L->m.By≠0):
    Pur cfg 281 [dK a,dK b,vI c] (.tup [dK (mZ (a.K+b.K*c) (mN c (bH a.L b.L))).1,vI (mZ (a.K+b.K*c) (mN c (bH a.L b.L))).2]):=by
 refine zW Tryz.func281 O Tryz.ntmps281 Tryz.results281 O ?_
 intro z hz
 have z0:r64 0:=by unfold r64;omega
 refine Y O<|zY O O (qN O O) ?_
 rintro _ _ ⟨b1,rfl,rfl⟩
 refine zY O O (qN O O) ?_
 rintro _ _ ⟨b2,rfl,rfl⟩
 refine zY O O (qF [none,some 2] O v O) ?_
 rintro _ _ ⟨b3,rfl,rfl⟩
 refine G O<|W<|Y O<|zF O zCk<|zK one2 (J 2 O) O<|zF O zCk<|zK one2 (J 1 O) O<|G O<|qQ O ok313 (zEi a.K b.K c hra.1 hrb.1 hc) ⟨U,O,U,O,U,O,T⟩<|yH O<|yX O<|yX O<|G O<|G O<|W<|Y O<|G O<|yN O v pl40<|zY O O (yJ O v) ?_
 rintro _ _ ⟨b4,rfl,rfl⟩
 refine yE _ (yU 107 2)<|rStR 1 sz40 O<|W<|Y O<|G O<|G O<|W<|zM<|zR<|qC ⟨[(9,.c _),(11,.c _),(12,.c _),(2,.c _),(3,.c _),(4,.c _),(6,.c _),(10,.c _)],[_,_,_,_,_]⟩ (Weak.mk [true,true,true,true,true] ⟨U,U,U,U,U,U,U,U,T⟩ O)<|qG 3 2 O O (Nat×Nat×List Tr×Value) (fun ⟨i,n,d,sv⟩=>[(9,vB (okF (decide (r64 (a.K+b.K*c))) (mN c d))),(11,vI i),(12,vI n)]) (fun ⟨i,n,d,sv⟩=>[E.vec sv 107 2 ((mK (mN c d)).map Mono.cells),E.row b4 40 [cI (w64 (a.K+b.K*c)),.lit sv]]) (fun ⟨i,n,d,sv⟩=>i<=a.L.length/\n<=b.L.length/\bH a.L b.L=d++bH (a.L.drop i) (b.L.drop n)) (fun ⟨i,n,d,sv⟩=>(a.L.length-i)+(b.L.length-n)) ⟨⟨0,0,[],.slice none 0 0⟩,⟨by omega,by omega,O⟩,Weak.mk [true,true,true,true,true] ⟨U,U,U,U,U,U,U,U,T⟩ O⟩ ?_
 rintro ⟨i,n,d,sv⟩ ⟨hia,hnb,hm⟩
 show AWP _ _ _ _ _ ⟨[(9,vB (okF (decide (r64 (a.K+b.K*c))) (mN c d))),(11,vI i),(12,vI n)]++_,[E.vec sv 107 2 ((mK (mN c d)).map Mono.cells),E.row b4 40 [cI (w64 (a.K+b.K*c)),.lit sv]]++_⟩
 refine zM<|Y O<|G O<|zF O yP<|zK kQ (J 4 O) O<|qB O D<|yI O<|G O<|rL0 O (fun g4_5=>zS O O) O<|rL0 O (fun g4_5=>zE O yP O) O<|rL1 36 O (fun g4_5=>zJ O kQ O (J 3 O) O) O<|rL1 37 O (fun g4_5=>qX O D O) O<|rLz [(35,_),(38,_)] O gv1 ⟨O,O,O,O,T⟩ (fun g4_5=>zBs O O O) O<|r_or O (fun h=>(lzf h))<|W<|zH O (fun c1=>?_) (fun c1=>?_)
 ·try simp only [sx] at c1
  refine zN<|zR<|Y O<|G O<|G O<|G O<|W<|zM<|zM<|qW 27 mixed (by kernel_rfl) O O<|zQ O O (zS O O)<|zQ O O (zE O yP O)<|zQ O O (zJ O kQ O (J 3 O) O)<|zQ O O (qX O D O)<|zQ O O (yM O O O)<|zQ O O (zS O O)<|qI [] O O O O gv1 T (fun g6_5=>zS O O) O<|qI [] O O O O gv1 T (fun g6_5=>zE O yP O) O<|qI [(48,_)] O O O O gv1 ⟨O,O,T⟩ (fun g6_5=>zJ O kQ O (J 4 O) O) O<|qI [(49,_)] O O O O gv1 ⟨O,O,T⟩ (fun g6_5=>qX O D O) O<|qI [(47,_),(50,_)] O O O O gv1 ⟨O,O,O,O,T⟩ (fun g6_5=>zBs O O O) O<|qI [(51,_)] O O O O gv1 ⟨O,O,T⟩ (fun g6_5=>zS O O) O<|qI [] O O O O q T (fun g6_11=>zE O yP O) O<|qI [(53,_)] O O O O q ⟨O,O,T⟩ (fun g6_11=>zJ O kQ O (J 4 O) O) O<|qI [] O O O O q T (fun g6_11=>zS O O) O<|qI [(54,_),(55,_)] O O O O q ⟨O,O,O,O,T⟩ (fun g6_11=>qH O D O O (by simp only [Lz,cond_true,cond_false,Bool.and_eq_true,Bool.or_eq_true,Bool.not_eq_true',Bool.not_eq_false',Bool.or_eq_false_iff,Bool.and_eq_false_iff,decide_eq_true_eq,decide_eq_false_iff_not,Bool.not_eq_true,Bool.not_eq_false] at g6_11;omega) (getm (zCx (by simp only [Lz,cond_true,cond_false,Bool.and_eq_true,Bool.or_eq_true,Bool.not_eq_true',Bool.not_eq_false',Bool.or_eq_false_iff,Bool.and_eq_false_iff,decide_eq_true_eq,decide_eq_false_iff_not,Bool.not_eq_true,Bool.not_eq_false] at g6_11;omega)))) O<|qI [(56,_)] O O O O q ⟨O,O,T⟩ (fun g6_11=>qP O wF O) O<|qI [(57,_)] O O O O q ⟨O,O,T⟩ (fun g6_11=>zJ O one9 O qE O) O<|qI [] O O O O q T (fun g6_11=>zE O yP O) O<|qI [(59,_)] O O O O q ⟨O,O,T⟩ (fun g6_11=>zJ O kQ O (J 3 O) O) O<|qI [] O O O O q T (fun g6_11=>zS O O) O<|qI [(60,_),(61,_)] O O O O q ⟨O,O,O,O,T⟩ (fun g6_11=>qH O D O O (by simp only [Lz,cond_true,cond_false,Bool.and_eq_true,Bool.or_eq_true,Bool.not_eq_true',Bool.not_eq_false',Bool.or_eq_false_iff,Bool.and_eq_false_iff,decide_eq_true_eq,decide_eq_false_iff_not,Bool.not_eq_true,Bool.not_eq_false] at g6_11;omega) (getm (zCx (by simp only [Lz,cond_true,cond_false,Bool.and_eq_true,Bool.or_eq_true,Bool.not_eq_true',Bool.not_eq_false',Bool.or_eq_false_iff,Bool.and_eq_false_iff,decide_eq_true_eq,decide_eq_false_iff_not,Bool.not_eq_true,Bool.not_eq_false] at g6_11;omega)))) O<|qI [(62,_)] O O O O q ⟨O,O,T⟩ (fun g6_11=>qP O wF O) O<|qI [(63,_)] O O O O q ⟨O,O,T⟩ (fun g6_11=>zJ O one9 O qE O) O<|qI [(58,_),(64,_)] O O O O q ⟨O,O,O,O,T⟩ (fun g6_11=>det_sleq O O O) O<|qI [(52,_)] O O O O gv1 ⟨O,O,T⟩ (fun g6_5=>wK O O O (fun h=>kH (by assumption) h) O) O<|zQ O O (zBc O O O O (fun h=>(lzf h)))<|yR<|W<|zH O (fun c2=>?_) (fun c2=>?_)
  ·have hi:=sum_t (a:=a.L) (b:=b.L) (i:=i) (n:=n) (by omega) hnb c2
   refine Y O<|zF O yP<|zK kQ (J 4 O) O<|G O<|qJ O D (by omega) (getm (zCx (by omega)))<|qS O wF<|zK one9 qE O<|G O<|W<|zT O<|zF O yP<|zK kQ (J 4 O) O<|G O<|qJ O D (by omega) (getm (zCx (by omega)))<|qS O zCq<|zK one2 qE O<|G O<|W<|zM<|Y O<|G O<|zF O yP<|zK kQ (J 3 O) O<|qB O D<|yI O<|G O<|rL0 O (fun g10_5=>zE O yP O) O<|rL1 92 O (fun g10_5=>zJ O kQ O (J 3 O) O) O<|rL0 O (fun g10_5=>zS O O) O<|rLz [(93,_),(94,_)] O gv1 ⟨O,O,O,O,T⟩ (fun g10_5=>qH O D O O (by simp only [Lz,cond_true,cond_false,Bool.and_eq_true,Bool.or_eq_true,Bool.not_eq_true',Bool.not_eq_false',Bool.or_eq_false_iff,Bool.and_eq_false_iff,decide_eq_true_eq,decide_eq_false_iff_not,Bool.not_eq_true,Bool.not_eq_false] at g10_5;omega) (getm (zCx (by simp only [Lz,cond_true,cond_false,Bool.and_eq_true,Bool.or_eq_true,Bool.not_eq_true',Bool.not_eq_false',Bool.or_eq_false_iff,Bool.and_eq_false_iff,decide_eq_true_eq,decide_eq_false_iff_not,Bool.not_eq_true,Bool.not_eq_false] at g10_5;omega)))) O<|rL1 95 O (fun g10_5=>qP O wF O) O<|rL1 96 O (fun g10_5=>zJ O one9 O qE O) O<|rL0 O (fun g10_5=>zS O O) O<|rLz [(97,_),(98,_)] O gv1 ⟨O,O,O,O,T⟩ (fun g10_5=>zLt O O O) O<|yZ O (fun h=>h)<|W<|zH O (fun c3=>?_) (fun c3=>?_)
   ·obtain ⟨hn1,hL⟩:=sum_tt (a:=a.L) (b:=b.L) (i:=i) (n:=n) hi c3
    have hm1:bH a.L b.L=(d++[((atM a.L i).Name,(atM a.L i).By,(atM b.L n).By)])++bH (a.L.drop (i+1)) (b.L.drop (n+1)):=by rw [hm,hL];simp
    refine Y O<|zF O yP<|zK kQ (J 3 O) O<|G O<|qJ O D (by omega) (getm (zCx (by omega)))<|qS O zCq<|zK one2 qE O<|G O<|W<|zT O<|G O<|qK O ⟨by omega,by omega⟩<|G O<|W<|zM<|Y O<|G O<|yW O<|W<|zH O (fun c4=>?_) (fun c4=>?_)
    ·try simp only [sx] at c4
     refine zT O<|G O<|qK O ⟨by omega,by omega⟩<|G O<|W<|Y O<|G O<|G O<|G O<|qQ O ok313 (zEi _ _ c (by first|exact z0|exact hra.2 _ (zOl hi)) (by first|exact z0|exact hrb.2 _ (zOl hn1)) hc) ⟨U,O,U,O,U,O,T⟩<|yH O<|yX O<|yX O<|G O<|G O<|W<|Y O<|G O<|G O<|rL0 O (fun g16_1=>zS O O) O<|yZ O (fun h=>h)<|G O<|W<|Y O<|G O<|yW O<|W<|zH O (fun c5=>?_) (fun c5=>?_)
     ·try simp only [sx] at c5
      refine zT O<|zF O yP<|zK kQ (J 1 O) O<|G O<|G O<|yN O zCy pl107<|yV O D zCy<|zY O O (qV 0 O D O O O (by have:=zGp c d;have:=congrArg List.length hm1;have:=zCh a.L b.L;simp only [List.length_map,List.length_append,List.length_cons,List.length_nil] at *;omega) (by have:=zGp c d;have:=congrArg List.length hm1;have:=zCh a.L b.L;simp only [List.length_map,List.length_append,List.length_cons,List.length_nil] at *;omega)) ?_
      rintro _ _ ⟨sv6,rfl,rfl⟩
      refine zF O yP<|rStR 1 sz38 O<|W ?_
      refine ⟨⟨i+1,n+1,d++[((atM a.L i).Name,(atM a.L i).By,(atM b.L n).By)],sv6⟩,⟨by omega,by omega,hm1⟩,(by dsimp only;omega),Weak.mk [true,true,true,true,true] ⟨VLe.of_eq (by rw [zCa,zFc];rfl),U,U,U,U,U,U,U,T⟩ (by exact zDm (by rw [zCa,zDp];rw [if_neg (show ¬w64 (trV ((atM a.L i).Name,(atM a.L i).By,(atM b.L n).By*c))=0 from c5),List.map_append];rfl))⟩
     ·try simp only [sx] at c5
      refine zN ?_
      refine ⟨⟨i+1,n+1,d++[((atM a.L i).Name,(atM a.L i).By,(atM b.L n).By)],sv⟩,⟨by omega,by omega,hm1⟩,(by dsimp only;omega),Weak.mk [true,true,true,true,true] ⟨VLe.of_eq (by rw [zCa,zFc];rfl),U,U,U,U,U,U,U,T⟩ (by exact zDm (by rw [zCa,zDp];rw [if_pos (show w64 (trV ((atM a.L i).Name,(atM a.L i).By,(atM b.L n).By*c))=0 from c5),List.append_nil]))⟩
    ·try simp only [sx] at c4
     exact absurd c4 (hne _ (zOl hi))
   ·have hL:=sum_tf (a:=a.L) (b:=b.L) (i:=i) (n:=n) hi hnb c2 c3
    have hm1:bH a.L b.L=(d++[((atM a.L i).Name,(atM a.L i).By,0)])++bH (a.L.drop (i+1)) (b.L.drop n):=by rw [hm,hL];simp
    refine zN<|zM<|Y O<|G O<|yW O<|W<|zH O (fun c4=>?_) (fun c4=>?_)
    ·try simp only [sx] at c4
     refine zT O<|G O<|qK O ⟨by omega,by omega⟩<|G O<|W<|Y O<|G O<|G O<|G O<|qQ O ok313 (zEi _ _ c (by first|exact z0|exact hra.2 _ (zOl hi)) (by first|exact z0|exact hrb.2 _ (zOl hn1)) hc) ⟨U,O,U,O,U,O,T⟩<|yH O<|yX O<|yX O<|G O<|G O<|W<|Y O<|G O<|G O<|rL0 O (fun g16_1=>zS O O) O<|yZ O (fun h=>h)<|G O<|W<|Y O<|G O<|yW O<|W<|zH O (fun c5=>?_) (fun c5=>?_)
     ·try simp only [sx] at c5
      refine zT O<|zF O yP<|zK kQ (J 1 O) O<|G O<|G O<|yN O zCy pl107<|yV O D zCy<|zY O O (qV 0 O D O O O (by have:=zGp c d;have:=congrArg List.length hm1;have:=zCh a.L b.L;simp only [List.length_map,List.length_append,List.length_cons,List.length_nil] at *;omega) (by have:=zGp c d;have:=congrArg List.length hm1;have:=zCh a.L b.L;simp only [List.length_map,List.length_append,List.length_cons,List.length_nil] at *;omega)) ?_
      rintro _ _ ⟨sv7,rfl,rfl⟩
      refine zF O yP<|rStR 1 sz38 O<|W ?_
      refine ⟨⟨i+1,n,d++[((atM a.L i).Name,(atM a.L i).By,0)],sv7⟩,⟨by omega,by omega,hm1⟩,(by dsimp only;omega),Weak.mk [true,true,true,true,true] ⟨VLe.of_eq (by rw [zCa,zFc];rfl),U,U,U,U,U,U,U,T⟩ (by exact zDm (by rw [zCa,zDp];rw [if_neg (show ¬w64 (trV ((atM a.L i).Name,(atM a.L i).By,0*c))=0 from c5),List.map_append];rfl))⟩
     ·try simp only [sx] at c5
      refine zN ?_
      refine ⟨⟨i+1,n,d++[((atM a.L i).Name,(atM a.L i).By,0)],sv⟩,⟨by omega,by omega,hm1⟩,(by dsimp only;omega),Weak.mk [true,true,true,true,true] ⟨VLe.of_eq (by rw [zCa,zFc];rfl),U,U,U,U,U,U,U,T⟩ (by exact zDm (by rw [zCa,zDp];rw [if_pos (show w64 (trV ((atM a.L i).Name,(atM a.L i).By,0*c))=0 from c5),List.append_nil]))⟩
    ·try simp only [sx] at c4
     exact absurd c4 (hne _ (zOl hi))
  ·have hn1:=sum_f (a:=a.L) (b:=b.L) (i:=i) (n:=n) hnb c2
   obtain ⟨hL,hs3⟩:=sum_fx (a:=a.L) (b:=b.L) (i:=i) (n:=n) hn1 c2
   refine zT O<|zF O yP<|zK kQ (J 3 O) O<|G O<|qJ O D (by omega) (getm (zCx (by omega)))<|qS O wF<|zK one9 qE O<|G O<|W<|zM<|Y O<|G O<|zF O yP<|zK kQ (J 3 O) O<|qB O D<|yI O<|G O<|rL0 O (fun g10_5=>zE O yP O) O<|rL1 92 O (fun g10_5=>zJ O kQ O (J 3 O) O) O<|rL0 O (fun g10_5=>zS O O) O<|rLz [(93,_),(94,_)] O gv1 ⟨O,O,O,O,T⟩ (fun g10_5=>qH O D O O (by simp only [Lz,cond_true,cond_false,Bool.and_eq_true,Bool.or_eq_true,Bool.not_eq_true',Bool.not_eq_false',Bool.or_eq_false_iff,Bool.and_eq_false_iff,decide_eq_true_eq,decide_eq_false_iff_not,Bool.not_eq_true,Bool.not_eq_false] at g10_5;omega) (getm (zCx (by simp only [Lz,cond_true,cond_false,Bool.and_eq_true,Bool.or_eq_true,Bool.not_eq_true',Bool.not_eq_false',Bool.or_eq_false_iff,Bool.and_eq_false_iff,decide_eq_true_eq,decide_eq_false_iff_not,Bool.not_eq_true,Bool.not_eq_false] at g10_5;omega)))) O<|rL1 95 O (fun g10_5=>qP O wF O) O<|rL1 96 O (fun g10_5=>zJ O one9 O qE O) O<|rL0 O (fun g10_5=>zS O O) O<|rLz [(97,_),(98,_)] O gv1 ⟨O,O,O,O,T⟩ (fun g10_5=>zLt O O O) O<|yZ O (fun h=>h)<|W<|zH O (fun c3=>?_) (fun c3=>?_)
   ·have hm1:bH a.L b.L=(d++[((atM b.L n).Name,0,(atM b.L n).By)])++bH (a.L.drop i) (b.L.drop (n+1)):=by rw [hm,hL];simp
    refine Y O<|zF O yP<|zK kQ (J 3 O) O<|G O<|qJ O D (by omega) (getm (zCx (by omega)))<|qS O zCq<|zK one2 qE O<|G O<|W<|zT O<|G O<|qK O ⟨by omega,by omega⟩<|G O<|W<|zM<|Y O<|G O<|yW O<|W<|zH O (fun c4=>?_) (fun c4=>?_)
    ·try simp only [sx] at c4
     exact absurd T c4
    ·try simp only [sx] at c4
     refine zN<|Y O<|G O<|G O<|G O<|qQ O ok313 (zEi _ _ c (by first|exact z0|exact hra.2 _ (zOl hi)) (by first|exact z0|exact hrb.2 _ (zOl hn1)) hc) ⟨U,O,U,O,U,O,T⟩<|yH O<|yX O<|yX O<|G O<|G O<|W<|Y O<|G O<|G O<|rL0 O (fun g16_1=>zS O O) O<|yZ O (fun h=>h)<|G O<|W<|Y O<|G O<|yW O<|W<|zH O (fun c5=>?_) (fun c5=>?_)
     ·try simp only [sx] at c5
      refine zT O<|zF O yP<|zK kQ (J 1 O) O<|G O<|G O<|yN O zCy pl107<|yV O D zCy<|zY O O (qV 0 O D O O O (by have:=zGp c d;have:=congrArg List.length hm1;have:=zCh a.L b.L;simp only [List.length_map,List.length_append,List.length_cons,List.length_nil] at *;omega) (by have:=zGp c d;have:=congrArg List.length hm1;have:=zCh a.L b.L;simp only [List.length_map,List.length_append,List.length_cons,List.length_nil] at *;omega)) ?_
      rintro _ _ ⟨sv8,rfl,rfl⟩
      refine zF O yP<|rStR 1 sz38 O<|W ?_
      refine ⟨⟨i,n+1,d++[((atM b.L n).Name,0,(atM b.L n).By)],sv8⟩,⟨by omega,by omega,hm1⟩,(by dsimp only;omega),Weak.mk [true,true,true,true,true] ⟨VLe.of_eq (by rw [zCa,zFc];rfl),U,U,U,U,U,U,U,T⟩ (by exact zDm (by rw [zCa,zDp];rw [if_neg (show ¬w64 (trV ((atM b.L n).Name,0,(atM b.L n).By*c))=0 from c5),List.map_append];rfl))⟩
     ·try simp only [sx] at c5
      refine zN ?_
      refine ⟨⟨i,n+1,d++[((atM b.L n).Name,0,(atM b.L n).By)],sv⟩,⟨by omega,by omega,hm1⟩,(by dsimp only;omega),Weak.mk [true,true,true,true,true] ⟨VLe.of_eq (by rw [zCa,zFc];rfl),U,U,U,U,U,U,U,T⟩ (by exact zDm (by rw [zCa,zDp];rw [if_pos (show w64 (trV ((atM b.L n).Name,0,(atM b.L n).By*c))=0 from c5),List.append_nil]))⟩
   ·exact absurd (hs3.symm.trans c3) (by decide)
 ·try simp only [sx] at c1
  refine qO<|zM<|Y O<|G O<|wE O<|W<|zH O (fun c6=>?_) (fun c6=>?_)
  ·try simp only [sx] at c6
   refine Y O<|yF [none,some 2] O v pl40<|rStR 2 sz40 O<|G O<|W<|zO<|fin2 (zZ yB O (J 2 O) O) (rs_c O) ?_
   rw [hm,sum_end (by omega) (by omega),List.append_nil,add_no' c6];rfl
  ·try simp only [sx] at c6
   refine zN<|Y O<|zP yB (J 1 O) O<|rStR 2 sz40 O<|G O<|W<|qC _ (yC 0 O (regs':=[(137,.agg [_,_])]) (μ':=[_,_,_,_]) ⟨FLe.agg ⟨.inl O,.inr ⟨O,O⟩,T⟩,T⟩ ⟨EFle.row (ds:=[_,_]) ⟨.inl O,.inr ⟨O,O⟩,T⟩,EFle.row (ds:=[_,_]) ⟨.inl O,.inr ⟨O,O⟩,T⟩,EFle.refl _,EFle.refl _,T⟩)<|zO<|fin2 (zZ yB O (J 1 O) O) (rs_c O) ?_
   rw [hm,sum_end (by omega) (by omega),List.append_nil,add_ok' c6];rfl
theorem zCc (l:Lf) (s:ByteArray) (u:Lf) (hl:l.L.length<=4294967296) (ht:u.L.length<=4294967296) (hrl:l.rng) (hrt:u.rng):
    Pur cfg 230 [dK l,vS s,dK u] (.tup [dK (bO l s u).1,vI (bO l s u).2]):=by
 refine zW Tryz.func230 O Tryz.ntmps230 Tryz.results230 O ?_
 intro z hz
 obtain ⟨hr1,hr2⟩:=rest_rng hrl s
 refine Y O<|zY O O (qN O O) ?_
 rintro _ _ ⟨b1,rfl,rfl⟩
 refine zY O O (qN O O) ?_
 rintro _ _ ⟨b2,rfl,rfl⟩
 refine zY O O (qF [none,some 2] O v O) ?_
 rintro _ _ ⟨b3,rfl,rfl⟩
 refine G O<|W<|zM<|Y O<|zP yB (J 2 O) O<|qQ O ok107 (zBo l (by omega)) ⟨U,O,T⟩<|wE O<|G O<|rL0 O (fun g1_3=>zU O yB O (J 1 O) O) O<|rL1 15 O (fun g1_3=>qL O ok107 (zBo u (by omega)) ⟨U,O,T⟩) O<|rL1 16 O (fun g1_3=>kT O O) O<|r_or O (fun h=>(lzf h))<|G O<|rL0 O (fun g1_8=>zS O O) O<|rL1 20 O (fun g1_8=>qL O ok137 (zEw s) ⟨U,O,T⟩) O<|rL1 21 O (fun g1_8=>kT O O) O<|r_or O (fun h=>(lzf h))<|W<|zH O (fun c1=>?_) (fun c1=>?_)
 ·try simp only [sx] at c1
  have hS:bO l s u=(zL,1):=substR_bad c1
  refine Y O<|yF [none,some 2] O v pl40<|rStR 0 sz40 O<|G O<|W<|zO<|fin2 (zZ yB O (J 0 O) O) (rs_c O) ?_
  rw [hS];rfl
 ·try simp only [sx] at c1
  obtain ⟨hl1,hl2,hl3⟩:=substR_c1 c1
  refine zN<|Y O<|G O<|W<|Y O<|zF O zCk<|zK one2 (J 2 O) O<|yN O v pl40<|zY O O (yJ O v) ?_
  rintro _ _ ⟨b4,rfl,rfl⟩
  refine yE _ (yU 107 2)<|rStR 1 sz40 O<|W<|zM<|Y O<|G O<|W<|zR<|qC ⟨[(10,.c _),(8,.c _),(1,.c _),(3,.c _),(5,.c _),(6,.c _),(9,.c _)],[_,_,_,_,_]⟩ (Weak.mk [true,true,true,true,true] ⟨U,U,U,U,U,U,U,T⟩ O)<|qG 2 2 O O (Nat×Value) (fun ⟨k,sv⟩=>[(10,vI k),(8,vI (bU (l.L.take k) s))]) (fun ⟨k,sv⟩=>[E.vec sv 107 2 (((l.L.take k).filter (fun m=> !decide (m.Name=s))).map Mono.cells),E.row b4 40 [cI l.K,.lit sv]]) (fun ⟨k,sv⟩=>k<=l.L.length) (fun ⟨k,sv⟩=>l.L.length-k) ⟨⟨0,_⟩,(by omega),Weak.mk [true,true,true,true,true] ⟨U,VLe.of_eq (O),U,U,U,U,U,T⟩ O⟩ ?_
  rintro ⟨k,sv⟩ hk
  show AWP _ _ _ _ _ ⟨[(10,vI k),(8,vI (bU (l.L.take k) s))]++_,[E.vec sv 107 2 (((l.L.take k).filter (fun m=> !decide (m.Name=s))).map Mono.cells),E.row b4 40 [cI l.K,.lit sv]]++_⟩
  refine zM<|Y O<|G O<|zF O yP<|zK kQ (J 4 O) O<|qB O D<|yI O<|W<|zH O (fun c2=>?_) (fun c2=>?_)
  ·try simp only [sx] at c2
   obtain ⟨x,hx⟩:=qU l.L k (by omega)
   refine zN<|zM<|zR<|Y O<|zF O yP<|zK kQ (J 4 O) O<|G O<|qJ O D (by omega) (getm (by assumption))<|qS O wF<|zK one9 qE O<|G O<|wD O<|W<|zH O (fun c3=>?_) (fun c3=>?_)
   ·try simp only [sx] at c3
    refine zT O<|zF O yP<|zK kQ (J 4 O) O<|G O<|qJ O D (by omega) (getm (by assumption))<|qS O zCq<|zK one2 qE O<|G O<|W<|zT O<|G O<|qK O ⟨by omega,by omega⟩<|G O<|W ?_
    refine ⟨⟨k+1,_⟩,(by omega),(by show l.L.length-(k+1)<l.L.length-k;omega),Weak.mk [true,true,true,true,true] ⟨U,VLe.of_eq (by rw [zGu hx];first|(rw [if_pos c3];rfl)|(rw [if_neg c3];rfl)),U,U,U,U,U,T⟩ (by exact zDm (by rw [zLb hx];first|(rw [if_pos c3,List.append_nil])|(rw [if_neg c3,List.map_append];rfl)))⟩
   ·try simp only [sx] at c3
    refine qW 8 mixed (by kernel_rfl) O O<|zQ O O (zE O yP O)<|zQ O O (zJ O kQ O (J 1 O) O)<|zQ O O (zE O yP O)<|zQ O O (zJ O kQ O (J 4 O) O)<|zQ O O (zS O O)<|zQ O O (qH O D O O (by omega) (getm (by assumption)))<|zQ O O (zU O zHg O qE O)<|zQ O O (wG O D zCy O O O O)<|yR<|zY O O (qV 0 O D O O O (by have:=List.length_filter_le (fun m:Mono=> !decide (m.Name=s)) (l.L.take k);simp only [List.length_map,List.length_append,List.length_cons,List.length_nil,List.length_take] at *;omega) (by have:=List.length_filter_le (fun m:Mono=> !decide (m.Name=s)) (l.L.take k);simp only [List.length_map,List.length_append,List.length_cons,List.length_nil,List.length_take] at *;omega)) ?_
    rintro _ _ ⟨sv6,rfl,rfl⟩
    refine zF O yP<|rStR 1 sz38 O<|W<|zT O<|G O<|qK O ⟨by omega,by omega⟩<|G O<|W ?_
    refine ⟨⟨k+1,_⟩,(by omega),(by show l.L.length-(k+1)<l.L.length-k;omega),Weak.mk [true,true,true,true,true] ⟨U,VLe.of_eq (by rw [zGu hx];first|(rw [if_pos c3];rfl)|(rw [if_neg c3];rfl)),U,U,U,U,U,T⟩ (by exact zDm (by rw [zLb hx];first|(rw [if_pos c3,List.append_nil])|(rw [if_neg c3,List.map_append];rfl)))⟩
  ·try simp only [sx] at c2
   rw [qY (l:=l.L) (k:=k) (by omega)]
   refine qO<|zM<|Y O<|G O<|yK O<|W<|zH O (fun c4=>?_) (fun c4=>?_)
   ·try simp only [sx] at c4
    refine Y O<|zP yB (J 4 O) O<|rStR 2 sz40 O<|G O<|W<|zO<|fin2 (zZ yB O (J 2 O) O) (rs_c O) ?_
    rw [substR_same ⟨hl1,hl2,hl3⟩ c4];rfl
   ·try simp only [sx] at c4
    refine zN<|zM<|Y O<|zP yB (J 3 O) O<|G O<|qQ O ok280 (ref14_scales u (bU l.L s) ht hrt (last_rng hrl s)) ⟨U,O,U,O,T⟩<|wE O<|W<|zH O (fun c5=>?_) (fun c5=>?_)
    ·try simp only [sx] at c5
     refine Y O<|yF [none,some 2] O v pl40<|rStR 2 sz40 O<|G O<|W<|zO<|fin2 (zZ yB O (J 2 O) O) (rs_c O) ?_
     rw [substR_no ⟨hl1,hl2,hl3⟩ c4 c5];rfl
    ·try simp only [sx] at c5
     refine qC _ (yC 0 O (regs':=[]) (μ':=[_,_,_,_]) T ⟨EFle.row (ds:=[_,_]) ⟨.inl O,.inr ⟨O,O⟩,T⟩,EFle.refl _,EFle.refl _,EFle.refl _,T⟩)<|zN<|Y O<|zP yB (J 0 O) O<|zP yB (J 2 O) O<|G O<|qQ O ok281 (ref14_sum (lU l s) u (bU l.L s) (by omega) ht hr1 hrt (last_rng hrl s) (fun m hm=>(zIo hl1 m (List.mem_filter.1 hm).1).1)) ⟨U,O,U,O,U,O,T⟩<|qA O (yA O O O)<|yX O<|rStR 1 sz40 O<|G O<|W<|zO<|fin2 (zZ yB O (J 1 O) O) (rs_c O) ?_
     rw [substR_yes ⟨hl1,hl2,hl3⟩ c4 c5];rfl
theorem zHs (x:Ix) (s:ByteArray) (u:Lf) (ht:u.L.length<=4294967296) (hrt:u.rng) (hx:x.wt<=4294967296) (hr1:x.Lin.rng) (hr2:∀l,l∈x.At->l.rng):
    Pur cfg 231 [lK x,vS s,dK u] (.tup [lK (vU (mIx (fun l=>bO l s u) x)),vI (lT (mIx (fun l=>bO l s u) x))]):=by
 refine zW Tryz.func231 O Tryz.ntmps231 Tryz.results231 O ?_
 intro z hz
 have hxw:=hx
 unfold Ix.wt at hxw
 refine Y O<|zY O O (qN O O) ?_
 rintro _ _ ⟨b1,rfl,rfl⟩
 refine zY O O (qN O O) ?_
 rintro _ _ ⟨b2,rfl,rfl⟩
 refine zY O O (qF [none,some 2,none,some 2] O zJa O) ?_
 rintro _ _ ⟨b3,rfl,rfl⟩
 refine G O<|W<|Y O<|zF O zCp<|zP yB (J 2 O) O<|G O<|zP yB (J 1 O) O<|qQ O ok230 (zCc x.Lin s u (by omega) ht hr1 hrt) ⟨U,O,U,O,U,O,T⟩<|yH O<|qA O (yA O O O)<|yX O<|zY O O (qF [none,some 2] O v O) ?_
 rintro _ _ ⟨b4,rfl,rfl⟩
 refine rStR 0 sz40 O<|G O<|W<|zM<|Y O<|G O<|yW O<|W<|zH O (fun c1=>?_) (fun c1=>?_)
 ·try simp only [sx] at c1
  refine Y O<|yF [none,some 2,none,some 2] O zJa pl115<|G O<|rStR 1 zQb O<|G O<|W<|zO<|fin2 (zZ zDv O (J 1 O) O) (rs_c O) ?_
  rw [mIx_e1 c1];rfl
 ·try simp only [sx] at c1
  refine zN<|Y O<|zP yB (J 0 O) O<|zF O zCe<|zK one9 (J 3 O) O<|yN O zJa pl115<|zY O O (yJ O zJa) ?_
  rintro _ _ ⟨b5,rfl,rfl⟩
  refine yE _ (yU 107 2)<|yE _ (yU 40 2)<|rStR 2 zQb O<|W<|zM<|Y O<|G O<|W<|zR<|qC ⟨[(11,.c _),(1,.c _),(3,.c _),(5,.c _),(6,.c _),(10,.c _)],[_,_,_,_,_]⟩ (Weak.mk [true,false,true,false,true,true,true] ⟨U,U,U,U,U,U,T⟩ O)<|qG 1 2 O O (Nat×List Lf×Value) (fun ⟨k,outs,sv⟩=>[(11,vI k)]) (fun ⟨k,outs,sv⟩=>[E.vec sv 40 2 (outs.map Lf.cells),E.row b5 115 [cI (bO x.Lin s u).1.K,.sl 2 ((bO x.Lin s u).1.L.map Mono.cells),cS x.From,.lit sv]]) (fun ⟨k,outs,sv⟩=>k<=x.At.length/\(outs.length=k)/\(dV (fun l=>bO l s u) x.At=dF outs (dV (fun l=>bO l s u) (x.At.drop k)))) (fun ⟨k,outs,sv⟩=>x.At.length-k) ⟨⟨0,[],.slice none 0 0⟩,⟨by omega,O,(zDd _).symm⟩,Weak.mk [true,true,true,true,true] ⟨U,U,U,U,U,U,T⟩ O⟩ ?_
  rintro ⟨k,outs,sv⟩ ⟨hk,ho,hp⟩
  show AWP _ _ _ _ _ ⟨[(11,vI k)]++_,[E.vec sv 40 2 (outs.map Lf.cells),E.row b5 115 [cI (bO x.Lin s u).1.K,.sl 2 ((bO x.Lin s u).1.L.map Mono.cells),cS x.From,.lit sv]]++_⟩
  refine zM<|Y O<|G O<|zF O wI<|zK zAp (J 4 O) O<|qB O el65<|yI O<|W<|zH O (fun c2=>?_) (fun c2=>?_)
  ·try simp only [sx] at c2
   obtain ⟨l,hl⟩:=qU x.At k (by omega)
   refine zN<|zM<|zR<|zM<|kI 13 1 [⟨0,.q []⟩,⟨1,.q [5]⟩,⟨2,.q []⟩,⟨3,.q []⟩,⟨4,.q []⟩,⟨5,.q []⟩,⟨6,.q [4]⟩,⟨7,.q []⟩,⟨8,.q []⟩,⟨9,.q []⟩,⟨10,.q []⟩,⟨11,.e 0 []⟩,⟨12,.e 0 []⟩] mixed (by kernel_rfl) (by kernel_rfl) O O O<|qD O<|qD O<|qD O<|qD O<|qD O<|qD O<|qD O<|qD O<|qD O<|qD O<|qD O<|qD O<|qD O<|zBq<|qM O (by decide) O O (zE O wI O)<|qM O (by decide) O O (zJ O zAp O (J 0 O) O)<|qM O (by decide) O O (zS O O)<|qM O (by decide) O O (qH O el65 O O (by omega) (getm (by assumption)))<|qM O (by decide) O O (zU O yB O qE O)<|qM O (by decide) O O (zS O O)<|qM O (by decide) O O (zU O yB O (J 0 O) O)<|qM O (by decide) O O (qL O ok230 (zCc l s u (by have:=zDe (zX hl);omega) ht (hr2 l (zX hl)) hrt) ⟨U,O,U,O,U,O,T⟩)<|qM O (by decide) O O (kL O O)<|qM O (by decide) O O (yA O O O)<|qM O (by decide) O O (wW O O O)<|zFs O O (by decide) O O (qF [none,some 2] O v O) ?_
   rintro _ _ ⟨b8,rfl,rfl⟩
   refine ⟨_,O,?_⟩
   refine zHa O O (by decide) O O (kN O sz40 O O O (zCu 0 O O)) ?_
   rintro _ _ ⟨rfl,rfl⟩
   refine ⟨_,O,?_⟩
   refine zBp O<|G O<|W<|zM<|Y O<|G O<|yW O<|W<|zH O (fun c3=>?_) (fun c3=>?_)
   ·try simp only [sx] at c3
    refine Y O<|yF [none,some 2,none,some 2] O zJa pl115<|G O<|rStR 3 zQb O<|G O<|W<|zO<|fin2 (zZ zDv O (J 3 O) O) (rs_c O) ?_
    rw [mIx_e2 c1 (mLins_no hl hp c3)];rfl
   ·try simp only [sx] at c3
    refine zN<|zT O<|zF O wI<|zK zAp (J 2 O) O<|zP yB (J 0 O) O<|yV O el65 v<|zY O O (qV 1 O el65 O O O (by simp only [List.length_map,List.length_append,List.length_cons,List.length_nil];omega) (by simp only [List.length_map,List.length_append,List.length_cons,List.length_nil];omega)) ?_
    rintro _ _ ⟨sv9,rfl,rfl⟩
    refine zF O wI<|rStR 2 sz65 O<|W<|zT O<|G O<|qK O ⟨by omega,by omega⟩<|G O<|W ?_
    refine ⟨⟨k+1,outs++[(bO l s u).1],sv9⟩,⟨by omega,by simp;omega,mLins_next hl hp c3⟩,(by show x.At.length-(k+1)<x.At.length-k;omega),Weak.mk [false,true,true,true,true,true] ⟨U,U,U,U,U,U,T⟩ (by exact zDn (by rw [List.map_append];rfl))⟩
  ·try simp only [sx] at c2
   have hml:=mLins_end hp (by omega)
   refine qC _ (yC 0 O (regs':=[]) (μ':=[_,_,_,_]) T ⟨EFle.row (ds:=[_,_,_,_]) ⟨.inl O,.inl O,.inl O,.inr ⟨O,O⟩,T⟩,EFle.refl _,EFle.refl _,EFle.refl _,T⟩)<|qO<|Y O<|zP zDv (J 0 O) O<|rStR 1 zQb O<|G O<|W<|zO<|fin2 (zZ zDv O (J 1 O) O) (rs_c O) ?_
   rw [mIx_ok c1 hml];rfl
theorem zHt (e:Ex) (s:ByteArray) (u:Lf) (ht:u.L.length<=4294967296) (hrt:u.rng) (ih:∀a,a∈e.Args->a.allF Lf.rng->a.wt<=4294967296->Pur cfg 183 [vE a,vS s,dK u] (.tup [vE (lD (mEx (fun l=>bO l s u) a)),vI (lT (mEx (fun l=>bO l s u) a))])) (hP:e.allF Lf.rng) (he:e.wt<=4294967296):
    Pur cfg 183 [vE e,vS s,dK u] (.tup [vE (lD (mEx (fun l=>bO l s u) e)),vI (lT (mEx (fun l=>bO l s u) e))]):=by
 refine zW Tryz.func183 O Tryz.ntmps183 Tryz.results183 O ?_
 intro z hz
 obtain ⟨hL,hI,hA⟩:=e.parts he
 have hew:=Ex.wt_eq e
 refine Y O<|zY O O (qN O O) ?_
 rintro _ _ ⟨b1,rfl,rfl⟩
 refine zY O O (qN O O) ?_
 rintro _ _ ⟨b2,rfl,rfl⟩
 refine zY O O (qF [none,none,none,none,none,none,none,none,none,none,some 2,some 4,some 13] O zr44 O) ?_
 rintro _ _ ⟨b3,rfl,rfl⟩
 refine G O<|W<|Y O<|zF O kE<|zK one3 (J 2 O) O<|zF O zJi<|zK one9 (J 2 O) O<|zF O zHe<|zP zJe (J 2 O) O<|zF O zCw<|zP yO (J 2 O) O<|yN O zr44 pl44<|zY O O (yJ O zr44) ?_
 rintro _ _ ⟨b4,rfl,rfl⟩
 refine yE _ (yU 107 2)<|yE _ (yU 115 4)<|yE _ (yU 44 13)<|rStR 3 sz44 O<|W<|Y O<|zF O zBk<|zP yB (J 6 O) O<|G O<|zP yB (J 5 O) O<|qQ O ok230 (zCc e.Lin s u hL ht (Ex.allF_lin hP) hrt) ⟨U,O,U,O,U,O,T⟩<|yH O<|qA O (yA O O O)<|yX O<|zY O O (qF [none,some 2] O v O) ?_
 rintro _ _ ⟨b8,rfl,rfl⟩
 refine rStR 0 sz40 O<|G O<|W<|zM<|Y O<|G O<|yW O<|W<|zH O (fun c1=>?_) (fun c1=>?_)
 ·try simp only [sx] at c1
  refine Y O<|yF [none,none,none,none,none,none,none,none,none,none,some 2,some 4,some 13] O zr44 pl44<|G O<|rStR 5 sz44 O<|G O<|W<|zO<|fin2 (zZ yG O (J 5 O) O) (rs_c O) ?_
  rw [mEx_e1 c1];rfl
 ·try simp only [sx] at c1
  refine zN<|Y O<|zP yB (J 0 O) O<|zF O zBk<|rStR 4 sz40 O<|W<|zM<|Y O<|G O<|W<|zR<|qC ⟨[(11,.c _),(1,.c _),(3,.c _),(5,.c _),(6,.c _),(8,.c _)],[_,_,_,_,_,_]⟩ (Weak.mk [false,true,true,false,true,true,true,true] ⟨U,U,U,U,U,U,T⟩ O)<|qG 1 3 O O (Nat×List Ix×Value) (fun ⟨k,outs,sv⟩=>[(11,vI k)]) (fun ⟨k,outs,sv⟩=>[E.vec (.slice none 0 0) 44 13 [],E.vec sv 115 4 (outs.map Ix.cells),E.row b4 44 [cI e.Op,cS e.Name,cI e.Val.N,cI e.Val.D,cI e.Ty.Kind,cI e.Ty.Bits,cI e.Ty.Frac,cI e.Ty.Round,cI e.Ty.Over,cI (bO e.Lin s u).1.K,.sl 2 ((bO e.Lin s u).1.L.map Mono.cells),.lit sv,.lit (.slice none 0 0)]]) (fun ⟨k,outs,sv⟩=>k<=e.Idx.length/\(outs.length=k)/\(fO (fun l=>bO l s u) e.Idx=dF outs (fO (fun l=>bO l s u) (e.Idx.drop k)))) (fun ⟨k,outs,sv⟩=>e.Idx.length-k) ⟨⟨0,[],.slice none 0 0⟩,⟨by omega,O,(zDd _).symm⟩,Weak.mk [true,true,true,true,true,true] ⟨U,U,U,U,U,U,T⟩ O⟩ ?_
  rintro ⟨k,outs,sv⟩ ⟨hk,ho,hp⟩
  show AWP _ _ _ _ _ ⟨[(11,vI k)]++_,[E.vec (.slice none 0 0) 44 13 [],E.vec sv 115 4 (outs.map Ix.cells),E.row b4 44 [cI e.Op,cS e.Name,cI e.Val.N,cI e.Val.D,cI e.Ty.Kind,cI e.Ty.Bits,cI e.Ty.Frac,cI e.Ty.Round,cI e.Ty.Over,cI (bO e.Lin s u).1.K,.sl 2 ((bO e.Lin s u).1.L.map Mono.cells),.lit sv,.lit (.slice none 0 0)]]++_⟩
  refine zM<|Y O<|G O<|zF O kM<|zK zAh (J 5 O) O<|qB O el41<|yI O<|W<|zH O (fun c2=>?_) (fun c2=>?_)
  ·try simp only [sx] at c2
   obtain ⟨x,hx⟩:=qU e.Idx k (by omega)
   refine zN<|zM<|zR<|zM<|kI 13 1 [⟨0,.q []⟩,⟨1,.q [6]⟩,⟨2,.q []⟩,⟨3,.q []⟩,⟨4,.q []⟩,⟨5,.q []⟩,⟨6,.q [5]⟩,⟨7,.q []⟩,⟨8,.q []⟩,⟨9,.q []⟩,⟨10,.q []⟩,⟨11,.e 0 []⟩,⟨12,.e 0 []⟩] mixed (by kernel_rfl) (by kernel_rfl) O O O<|qD O<|qD O<|qD O<|qD O<|qD O<|qD O<|qD O<|qD O<|qD O<|qD O<|qD O<|qD O<|qD O<|zBq<|qM O (by decide) O O (zE O kM O)<|qM O (by decide) O O (zJ O zAh O (J 0 O) O)<|qM O (by decide) O O (zS O O)<|qM O (by decide) O O (qH O el41 O O (by omega) (getm (by assumption)))<|qM O (by decide) O O (zU O zDv O qE O)<|qM O (by decide) O O (zS O O)<|qM O (by decide) O O (zU O yB O (J 0 O) O)<|qM O (by decide) O O (qL O ok231 (zHs x s u ht hrt (by have:=zLm (zX hx);omega) (Ex.allF_ix hP (zX hx)) (fun l hl=>Ex.allF_at hP (zX hx) hl)) ⟨U,O,U,O,U,O,T⟩)<|qM O (by decide) O O (kL O O)<|qM O (by decide) O O (yA O O O)<|qM O (by decide) O O (wW O O O)<|zFs O O (by decide) O O (qF [none,some 2,none,some 2] O zJa O) ?_
   rintro _ _ ⟨b9,rfl,rfl⟩
   refine ⟨_,O,?_⟩
   refine zHa O O (by decide) O O (kN O zQb O O O (zCu 0 O O)) ?_
   rintro _ _ ⟨rfl,rfl⟩
   refine ⟨_,O,?_⟩
   refine zBp O<|G O<|W<|zM<|Y O<|G O<|yW O<|W<|zH O (fun c3=>?_) (fun c3=>?_)
   ·try simp only [sx] at c3
    refine Y O<|yF [none,none,none,none,none,none,none,none,none,none,some 2,some 4,some 13] O zr44 pl44<|G O<|rStR 4 sz44 O<|G O<|W<|zO<|fin2 (zZ yG O (J 4 O) O) (rs_c O) ?_
    rw [mEx_e2 c1 (mIxs_no' hx hp c3)];rfl
   ·try simp only [sx] at c3
    refine zN<|zT O<|zF O kM<|zK zAh (J 3 O) O<|zP zDv (J 0 O) O<|yV O el41 zJa<|zY O O (qV 2 O el41 O O O (by simp only [List.length_map,List.length_append,List.length_cons,List.length_nil];omega) (by simp only [List.length_map,List.length_append,List.length_cons,List.length_nil];omega)) ?_
    rintro _ _ ⟨sv10,rfl,rfl⟩
    refine zF O kM<|rStR 3 sz41 O<|W<|zT O<|G O<|qK O ⟨by omega,by omega⟩<|G O<|W ?_
    refine ⟨⟨k+1,outs++[vU (mIx (fun l=>bO l s u) x)],sv10⟩,⟨by omega,by simp;omega,mIxs_next' hx hp c3⟩,(by show e.Idx.length-(k+1)<e.Idx.length-k;omega),Weak.mk [false,true,true,true,true,true,true] ⟨U,U,U,U,U,U,T⟩ (by exact zRl (by rw [List.map_append];rfl))⟩
  ·try simp only [sx] at c2
   have hmi:=mIxs_end hp (by omega)
   refine qC _ (yC 1 O (regs':=[]) (μ':=[_,_,_,_,_]) T ⟨EFle.refl _,EFle.row (ds:=[_,_,_,_,_,_,_,_,_,_,_,_,_]) ⟨.inl O,.inl O,.inl O,.inl O,.inl O,.inl O,.inl O,.inl O,.inl O,.inl O,.inl O,.inr ⟨O,O⟩,.inl O,T⟩,EFle.refl _,EFle.refl _,EFle.refl _,T⟩)<|qO<|zM<|Y O<|G O<|W<|zR<|qC ⟨[(14,.c _),(1,.c _),(3,.c _),(5,.c _),(6,.c _),(8,.c _)],[_,_,_,_,_]⟩ (Weak.mk [true,true,true,true,true] ⟨U,U,U,U,U,U,T⟩ O)<|qG 1 2 O O (Nat×List Ex×Value) (fun ⟨n,exs,sw⟩=>[(14,vI n)]) (fun ⟨n,exs,sw⟩=>[E.vec sw 44 13 (exs.map Ex.cells),E.row b4 44 [cI e.Op,cS e.Name,cI e.Val.N,cI e.Val.D,cI e.Ty.Kind,cI e.Ty.Bits,cI e.Ty.Frac,cI e.Ty.Round,cI e.Ty.Over,cI (bO e.Lin s u).1.K,.sl 2 ((bO e.Lin s u).1.L.map Mono.cells),.sl 4 (outs.map Ix.cells),.lit sw]]) (fun ⟨n,exs,sw⟩=>n<=e.Args.length/\(exs.length=n)/\(fV (fun l=>bO l s u) e.Args=dF exs (fV (fun l=>bO l s u) (e.Args.drop n)))) (fun ⟨n,exs,sw⟩=>e.Args.length-n) ⟨⟨0,[],.slice none 0 0⟩,⟨by omega,O,(zDd _).symm⟩,Weak.mk [true,true,true,true,true] ⟨U,U,U,U,U,U,T⟩ O⟩ ?_
   rintro ⟨n,exs,sw⟩ ⟨hn,hno,hr⟩
   show AWP _ _ _ _ _ ⟨[(14,vI n)]++_,[E.vec sw 44 13 (exs.map Ex.cells),E.row b4 44 [cI e.Op,cS e.Name,cI e.Val.N,cI e.Val.D,cI e.Ty.Kind,cI e.Ty.Bits,cI e.Ty.Frac,cI e.Ty.Round,cI e.Ty.Over,cI (bO e.Lin s u).1.K,.sl 2 ((bO e.Lin s u).1.L.map Mono.cells),.sl 4 (outs.map Ix.cells),.lit sw]]++_⟩
   refine zM<|Y O<|G O<|zF O kO<|zK zAj (J 4 O) O<|qB O el42<|yI O<|W<|zH O (fun c4=>?_) (fun c4=>?_)
   ·try simp only [sx] at c4
    obtain ⟨a,ha⟩:=qU e.Args n (by omega)
    refine zN<|zM<|zR<|zM<|kI 13 1 [⟨0,.q []⟩,⟨1,.q [5]⟩,⟨2,.q []⟩,⟨3,.q []⟩,⟨4,.q []⟩,⟨5,.q []⟩,⟨6,.q [4]⟩,⟨7,.q []⟩,⟨8,.q []⟩,⟨9,.q []⟩,⟨10,.q []⟩,⟨11,.e 0 []⟩,⟨12,.e 0 []⟩] mixed (by kernel_rfl) (by kernel_rfl) O O O<|qD O<|qD O<|qD O<|qD O<|qD O<|qD O<|qD O<|qD O<|qD O<|qD O<|qD O<|qD O<|qD O<|zBq<|qM O (by decide) O O (zE O kO O)<|qM O (by decide) O O (zJ O zAj O (J 0 O) O)<|qM O (by decide) O O (zS O O)<|qM O (by decide) O O (qH O el42 O O (by omega) (zBj (by assumption)))<|qM O (by decide) O O (zU O yG O qE O)<|qM O (by decide) O O (zS O O)<|qM O (by decide) O O (zU O yB O (J 0 O) O)<|qM O (by decide) O O (qL O ok183 (ih a (zX ha) (Ex.allF_arg hP (zX ha)) (by have:=Ex.arg_wt (zX ha);omega)) ⟨U,O,U,O,U,O,T⟩)<|qM O (by decide) O O (kL O O)<|qM O (by decide) O O (yA O O O)<|qM O (by decide) O O (wW O O O)<|zFs O O (by decide) O O (qF [none,none,none,none,none,none,none,none,none,none,some 2,some 4,some 13] O zr44 O) ?_
    rintro _ _ ⟨b11,rfl,rfl⟩
    refine ⟨_,O,?_⟩
    refine zHa O O (by decide) O O (kN O sz44 O O O (zCu 0 O O)) ?_
    rintro _ _ ⟨rfl,rfl⟩
    refine ⟨_,O,?_⟩
    refine zBp O<|G O<|W<|zM<|Y O<|G O<|yW O<|W<|zH O (fun c5=>?_) (fun c5=>?_)
    ·try simp only [sx] at c5
     refine Y O<|yF [none,none,none,none,none,none,none,none,none,none,some 2,some 4,some 13] O zr44 pl44<|G O<|rStR 3 sz44 O<|G O<|W<|zO<|fin2 (zZ yG O (J 3 O) O) (rs_c O) ?_
     rw [mEx_e3 c1 hmi (mExs_no ha hr c5)];rfl
    ·try simp only [sx] at c5
     refine zN<|zT O<|zF O kO<|zK zAj (J 2 O) O<|zP yG (J 0 O) O<|yV O el42 zr44<|zY O O (qV 1 O el42 O O O (by simp only [List.length_map,List.length_append,List.length_cons,List.length_nil];omega) (by simp only [List.length_map,List.length_append,List.length_cons,List.length_nil];omega)) ?_
     rintro _ _ ⟨sv12,rfl,rfl⟩
     refine zF O kO<|rStR 2 sz42 O<|W<|zT O<|G O<|qK O ⟨by omega,by omega⟩<|G O<|W ?_
     refine ⟨⟨n+1,exs++[lD (mEx (fun l=>bO l s u) a)],sv12⟩,⟨by omega,by simp;omega,mExs_next ha hr c5⟩,(by show e.Args.length-(n+1)<e.Args.length-n;omega),Weak.mk [false,true,true,true,true,true] ⟨U,U,U,U,U,U,T⟩ (by exact zDn (by rw [List.map_append];simp only [List.map_cons,List.map_nil,Ex.cells_eq];rfl))⟩
   ·try simp only [sx] at c4
    have hme:=mExs_end hr (by omega)
    refine qC _ (yC 0 O (regs':=[]) (μ':=[_,_,_,_]) T ⟨EFle.row (ds:=[_,_,_,_,_,_,_,_,_,_,_,_,_]) ⟨.inl O,.inl O,.inl O,.inl O,.inl O,.inl O,.inl O,.inl O,.inl O,.inl O,.inl O,.inl O,.inr ⟨O,O⟩,T⟩,EFle.refl _,EFle.refl _,EFle.refl _,T⟩)<|qO<|Y O<|zP yG (J 0 O) O<|rStR 1 sz44 O<|G O<|W<|zO<|fin2 (zZ yG O (J 1 O) O) (rs_c O) ?_
    rw [mEx_ok c1 hmi hme];rfl
theorem zHc (e:Ex) (s:ByteArray) (u:Lf) (ht:u.L.length<=4294967296) (hrt:u.rng) (hP:e.allF Lf.rng) (he:e.wt<=4294967296):Pur cfg 183 [vE e,vS s,dK u] (.tup [vE (lD (mEx (fun l=>bO l s u) e)),vI (lT (mEx (fun l=>bO l s u) e))]):=by
  induction e using Ex.ind with
  |_ e ih=>exact zHt e s u ht hrt ih hP he
end Go.W
end
section
set_option maxRecDepth 10000
namespace Go.W
open Go Go.Eng Go.Proofs Go.L41 Go.Br
attribute [local irreducible] AWP RWP TD fL
end Go.W
end
section
set_option maxRecDepth 10000
namespace Go.W
open Go Go.Eng Go.Proofs Go.L41 Go.Br
attribute [local irreducible] AWP RWP TD fL
end Go.W
end
