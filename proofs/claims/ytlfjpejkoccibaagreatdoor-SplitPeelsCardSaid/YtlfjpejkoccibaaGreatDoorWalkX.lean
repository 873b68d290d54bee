/-
  Walks: what functions of the program compute. Printed by wip/gen/mk2.py.
  Walks: what functions of the program compute. Printed by wip/gen/mk2.py.
  Walks: what functions of the program compute. Printed by wip/gen/mk2.py.
  Conditions: none.
-/
import Derived.Test.YtlfjpejkoccibaaGreatDoorWV
import Derived.Test.YtlfjpejkoccibaaGreatDoorPlain2
import Derived.Test.YtlfjpejkoccibaaGreatDoorEngZ
set_option linter.unusedSimpArgs false
set_option linter.unusedVariables false
section
set_option maxRecDepth 10000
namespace Go.W
open Go Go.Eng Go.Proofs Go.L41 Go.Br
attribute [local irreducible] AWP RWP TD finQ
theorem ik2:intT Tryz.prog 2=some .i64:=by kernel_rfl
theorem ok103:callOk Tryz.prog 103=true:=by kernel_rfl
theorem ok145:callOk Tryz.prog 145=true:=by kernel_rfl
theorem ok146:callOk Tryz.prog 146=true:=by kernel_rfl
theorem sz39:(Tryz.prog.info? 39).map (·.size)=some 1:=by kernel_rfl
theorem zIj:(Tryz.prog.underlying 180).isSome=true:=by kernel_rfl
theorem lin_plus (a b:Int) (ha:r64 a) (hb:r64 b):
    Pur cfg 105 [vI a,vI b] (.tup [vI (w64 (a+b)),vB (decide (r64 (a+b)))]):=by
 refine zT Tryz.func105 O Tryz.ntmps105 Tryz.results105 O ?_
 intro z hz
 refine F O<|A O<|A O<|G<|F O<|A O<|A O<|zU O (zHy O O O)<|A O<|G<|F O<|A O<|A O<|A O<|zU O (yG O O O)<|A O<|zU O (yG O O O)<|zU O (det_beql O un4 O O)<|A O<|A O<|G<|o<|p (J O) (J O) ?_
 rw [←plus_ok ha hb];rfl
theorem zNg (x:Int) (hx:r64 x):
    Pur cfg 146 [vI x] (vUn x.natAbs):=by
 refine zT Tryz.func146 O Tryz.ntmps146 Tryz.results146 O ?_
 intro z hz
 refine F O<|A O<|G<|zJ<|F O<|A O<|yD O<|G<|zD O (fun c1=>?_) (fun c1=>?_)
 ·try simp only [I] at c1
  refine F O<|A O<|zU O (kV O us2 ik180 O)<|zU O (zGf O O)<|A O<|G<|o<|X O ?_
  exact congrArg (fun n=>V.c (.lit (.int .u64 n))) (zRi hx c1)
 ·try simp only [I] at c1
  refine zK<|F O<|A O<|zU O (kV O us2 ik180 O)<|A O<|G<|o<|X O ?_
  exact congrArg (fun n=>V.c (.lit (.int .u64 n))) (zRh hx (by omega))
theorem lin_product (a b:Nat) (ha:a<18446744073709551616) (hb:b<18446744073709551616):
    Pur cfg 145 [vUn a,vUn b] (.tup [vUn (hiN a b),vUn (a*b%18446744073709551616)]):=by
 refine zT Tryz.func145 O Tryz.ntmps145 Tryz.results145 O ?_
 intro z hz
 obtain ⟨p1,p2,p3,p4⟩:=part_le ha hb
 obtain ⟨q1,q2,q3,q4⟩:=hi_bounds ha hb
 refine F O<|A O<|A O<|G<|F O<|A O<|zU O (wK O O O ha)<|A O<|zU O (wK O O O hb)<|zU O (zAb O O O (by omega))<|A O<|G<|F O<|A O<|zU O (kT O O O )<|A O<|zU O (wK O O O hb)<|zU O (zAb O O O (by omega))<|A O<|zU O (kT O O O )<|zU O (wL O O O q1)<|A O<|G<|F O<|A O<|zU O (wK O O O ha)<|A O<|zU O (kT O O O )<|zU O (zAb O O O (by omega))<|A O<|zU O (wK O O O q1)<|zU O (wL O O O q2)<|A O<|G<|F O<|A O<|zU O (kT O O O )<|A O<|zU O (kT O O O )<|zU O (zAb O O O (by omega))<|A O<|zU O (kT O O O )<|zU O (wL O O O q3)<|A O<|zU O (kT O O O )<|zU O (wL O O O q4)<|A O<|A O<|zU O (det_umod O O O )<|A O<|A O<|G<|o<|p (J O) (J O) ?_
 exact O
theorem lin_times (x y:Int) (hx:r64 x) (hy:r64 y):
    Pur cfg 103 [vI x,vI y] (.tup [vI (timesT x y).1,vB (timesT x y).2]):=by
 refine zT Tryz.func103 O Tryz.ntmps103 Tryz.results103 O ?_
 intro z hz
 have hm1:=zOy hx
 have hm2:=zOy hy
 refine F O<|A O<|A O<|G<|F O<|A O<|qI O ok146 (zNg x hx) ⟨H,O,T⟩<|A O<|qI O ok146 (zNg y hy) ⟨H,O,T⟩<|qI O ok145 (lin_product x.natAbs y.natAbs (by omega) (by omega)) ⟨H,O,H,O,T⟩<|qO O<|qU O<|qU O<|A O<|A O<|G<|F O<|A O<|yD O<|A O<|yD O<|zU O (zRr O un4 O O)<|A O<|G<|zJ<|zR<|F O<|A O<|yN O<|A O<|rL0 O (fun g3_2=>w O O) O<|B 26 O (fun g3_2=>yG O O O) O<|r_or O (fun h=>(lzf h))<|A O<|rL0 O (fun g3_6=>w O O) O<|B 30 O (fun g3_6=>yL O O O) O<|B 31 O (fun g3_6=>w O O) O<|rLz [] O P T (fun g3_9=>w O O) O<|rLz [(33,_)] O P ⟨O,O,T⟩ (fun g3_9=>kX O O) O<|B 32 O (fun g3_6=>kU O O O (fun h=>kE (by assumption) h) O) O<|r_or O (fun h=>(lzf h))<|A O<|G<|zD O (fun c1=>?_) (fun c1=>?_)
 ·try simp only [I] at c1
  refine F O<|A O<|A O<|G<|o<|p (J O) (J O) ?_
  rw [times_f hx hy c1]
 ·try simp only [I] at c1
  refine F O<|A O<|A O<|G<|zD O (fun c2=>?_) (fun c2=>?_)
  ·try simp only [I] at c2
   refine F O<|A O<|zU O (zGf O O)<|zU O (kV O zIj ik2 O)<|A O<|A O<|G<|o<|p (J O) (J O) ?_
   rw [times_neg c2 (by have:=c1.1.1;omega) (by have:=c1.1.2;omega)]
  ·try simp only [I] at c2
   refine zK<|F O<|A O<|zU O (kV O zIj ik2 O)<|A O<|A O<|G<|o<|p (J O) (J O) ?_
   have hlt:x.natAbs*y.natAbs%18446744073709551616<9223372036854775808:=by
     have h1:=c1.1.2
     rcases c1.2 with h|h
     · omega
     · rw [c2] at h;cases h
   rw [times_pos c2 (by have:=c1.1.1;omega) hlt]
theorem zUd (l:Lf) (by_:Int) (hl:l.L.length<=4294967296) (hr:l.rng) (hb:r64 by_):
    Pur cfg 51 [vLin l,vI by_] (.tup [vLin (scaleL l by_).1,vI (scaleL l by_).2]):=by
 refine zT Tryz.func51 O Tryz.ntmps51 Tryz.results51 O ?_
 intro z hz
 refine F O<|zX O O (qN O O) ?_
 rintro _ _ ⟨b1,rfl,rfl⟩
 refine zX O O (qE [none,some 2] O U O) ?_
 rintro _ _ ⟨b2,rfl,rfl⟩
 refine A O<|G<|zJ<|F O<|zP yK (R 1 O) O<|qI O ok102 (zDc l (by omega)) ⟨H,O,T⟩<|yN O<|G<|zD O (fun c1=>?_) (fun c1=>?_)
 ·try simp only [I] at c1
  have hl0:=linErr_no c1
  refine F O<|qT [none,some 2] O U pl41<|Y 0 g O<|A O<|G<|o<|p (zV yK O (R 0 O) O) (J O) ?_
  rw [scale_bad hl0];rfl
 ·try simp only [I] at c1
  have hl1:=zEw c1
  refine zK<|zJ<|F O<|A O<|yF O<|G<|zD O (fun c2=>?_) (fun c2=>?_)
  ·try simp only [I] at c2
   refine F O<|qT [none,some 2] O U pl41<|Y 0 g O<|A O<|G<|o<|p (zV yK O (R 0 O) O) (J O) ?_
   rw [scale_zero hl1 c2];rfl
  ·try simp only [I] at c2
   refine zK<|F O<|zH O zCg<|zM W (R 1 O) O<|A O<|qI O ok103 (lin_times l.K by_ hr.1 hb) ⟨H,O,H,O,T⟩<|qO O<|qU O<|qU O<|A O<|A O<|G<|F O<|A O<|yP O U pl41<|zX O O (yX O U) ?_
   rintro _ _ ⟨b3,rfl,rfl⟩
   refine yI _ (kN 69 2)<|Y 1 g O<|G<|zJ<|F O<|zH O yT<|zM wE (R 3 O) O<|qC O N<|A O<|G<|zR<|zY ⟨[(32,.c _),(7,.c _),(1,.c _),(4,.c _),(8,.c _),(30,.c _),(31,.c _)],[_,_,_]⟩ (Weak.mk [true,true,true,false] ⟨H,H,H,H,H,H,H,T⟩ O)<|qK 2 2 O O (Nat×Value) (fun ⟨k,sv⟩=>[(32,vI k),(7,vB ((timesT l.K by_).2&&scaleB by_ (l.L.take k)))]) (fun ⟨k,sv⟩=>[E.vec sv 69 2 ((scaleW by_ (l.L.take k)).map Mono.cells),E.row b3 41 [cI (timesT l.K by_).1,.lit sv]]) (fun ⟨k,sv⟩=>k<=l.L.length) (fun ⟨k,sv⟩=>l.L.length-k) ⟨⟨0,_⟩,(by omega),Weak.mk [true,true,true] ⟨H,VLe.of_eq (by rw [show scaleB by_ (l.L.take 0)=true from rfl,Bool.and_true];rfl),H,H,H,H,H,T⟩ O⟩ ?_
   rintro ⟨k,sv⟩ hk
   show AWP _ _ _ _ _ ⟨[(32,vI k),(7,vB ((timesT l.K by_).2&&scaleB by_ (l.L.take k)))]++_,[E.vec sv 69 2 ((scaleW by_ (l.L.take k)).map Mono.cells),E.row b3 41 [cI (timesT l.K by_).1,.lit sv]]++_⟩
   refine F O<|yD O<|G<|zJ<|zD O (fun c3=>?_) (fun c3=>?_)
   ·try simp only [I] at c3
    obtain ⟨x,hx⟩:=qV l.L k (by omega)
    refine zK<|zJ<|zR<|F O<|qD O N (by omega) (Q (by assumption))<|zP zOd qA O<|zX O O (yX O zr69) ?_
    rintro _ _ ⟨b5,rfl,rfl⟩
    refine Y 0 sz69 O<|G<|F O<|zH O zDd<|zM W (R 0 O) O<|A O<|qI O ok103 (lin_times x.By by_ (hr.2 x (qB hx)) hb) ⟨H,O,H,O,T⟩<|qO O<|qU O<|qU O<|A O<|A O<|G<|F O<|A O<|A O<|rL0 O (fun g11_1=>w O O) O<|yS O (fun h=>h)<|A O<|G<|zQ O<|zH O yT<|zM wE (R 2 O) O<|zH O zAc<|zM one9 (R 0 O) O<|A O<|yP O zr69 pl69<|yZ O N zr69<|zX O O (qX 1 O N O O O (by simp only [List.length_map,List.length_append,List.length_cons,List.length_nil,zKk,List.length_take];omega) (by simp only [List.length_map,List.length_append,List.length_cons,List.length_nil,zKk,List.length_take];omega)) ?_
    rintro _ _ ⟨sv6,rfl,rfl⟩
    refine zH O yT<|Y 2 sz39 O<|G<|zQ O<|qJ O ⟨by omega,by omega⟩<|A O<|G ?_
    refine ⟨⟨k+1,sv6⟩,(by omega),(by show l.L.length-(k+1)<l.L.length-k;omega),Weak.mk [false,true,true,true] ⟨H,VLe.of_eq (by rw [zSz hx,←Bool.and_assoc];rfl),H,H,H,H,H,T⟩ (by show _=[E.vec sv6 _ 2 ((scaleW by_ (l.L.take (k+1))).map Mono.cells),E.row b3 _ [cI (timesT l.K by_).1,.lit sv6]]++_;rw [zSy hx,List.map_append];rfl)⟩
   ·try simp only [I] at c3
    rw [yO (l:=l.L) (k:=k) (by omega)]
    refine qQ<|zJ<|F O<|A O<|kO O<|G<|zD O (fun c4=>?_) (fun c4=>?_)
    ·try simp only [I] at c4
     refine F O<|qT [none,some 2] O U pl41<|Y 2 g O<|A O<|G<|o<|p (zV yK O (R 2 O) O) (J O) ?_
     rw [scale_no hl1 c2 c4];rfl
    ·try simp only [I] at c4
     refine zK<|F O<|zP yK (R 1 O) O<|Y 2 g O<|A O<|G<|zY _ (yH 0 O (regs':=[(60,.agg [_,_])]) (μ':=[_,_]) ⟨FLe.agg ⟨.inl O,.inr ⟨O,O⟩,T⟩,T⟩ ⟨EFle.row (ds:=[_,_]) ⟨.inl O,.inr ⟨O,O⟩,T⟩,EFle.row (ds:=[_,_]) ⟨.inl O,.inr ⟨O,O⟩,T⟩,T⟩)<|o<|p (zV yK O (R 1 O) O) (J O) ?_
     rw [scale_ok hl1 c2 c4];rfl
end Go.W
end
section
set_option maxRecDepth 10000
namespace Go.W
open Go Go.Eng Go.Proofs Go.L41 Go.Br
attribute [local irreducible] AWP RWP TD finQ
theorem ok51:callOk Tryz.prog 51=true:=by kernel_rfl
theorem ok53:callOk Tryz.prog 53=true:=by kernel_rfl
theorem ok105:callOk Tryz.prog 105=true:=by kernel_rfl
theorem ok106:callOk Tryz.prog 106=true:=by kernel_rfl
theorem ok107:callOk Tryz.prog 107=true:=by kernel_rfl
theorem one4:oneT Tryz.prog 4=true:=by kernel_rfl
theorem sz2:(Tryz.prog.info? 2).map (·.size)=some 1:=by kernel_rfl
theorem sz4:(Tryz.prog.info? 4).map (·.size)=some 1:=by kernel_rfl
theorem zr4:zeroT Tryz.prog 4=some [(Value.bool false)]:=by kernel_rfl
theorem merge_con (a0 b0:List Mono) (ha0:a0.length<=4294967296) (hb0:b0.length<=4294967296):
    ∀(y:C) (J:List Tr->List E->Prop) (μ:List E),(∀d t s m,mergeL a0 b0=d++t::s->J d m->FnCon cfg y [vS t.1,vI t.2.1,vI t.2.2] m fun r m'=>r=.tup []/\J (d++[t]) m')->J [] μ->Con cfg 106 [.c (.sl 2 (a0.map Mono.cells)),.c (.sl 2 (b0.map Mono.cells)),.c y] μ fun r μ'=>r=.tup []/\J (mergeL a0 b0) μ':=by
 intro y J μ hy h0
 refine zT Tryz.func106 O Tryz.ntmps106 Tryz.results106 O ?_
 intro z hz
 refine zR<|zY ⟨[(0,.c _),(1,.c _),(2,.c _)],_⟩ (Weak.regs ⟨H,H,H,T⟩)<|zDe 2 O (List Mono×List Mono×List Tr×List E) (fun ⟨a,b,d,m⟩=>[(0,.c (.sl 2 (a.map Mono.cells))),(1,.c (.sl 2 (b.map Mono.cells)))]) (fun ⟨a,b,d,m⟩=>m) (fun ⟨a,b,d,m⟩=>a.length<=4294967296/\b.length<=4294967296/\mergeL a0 b0=d++mergeL a b/\J d m) (fun ⟨a,b,d,m⟩=>a.length+b.length) ⟨⟨a0,b0,[],μ⟩,⟨ha0,hb0,O,h0⟩,Weak.regs ⟨H,H,H,T⟩⟩ ?_
 rintro ⟨a,b,d,m⟩ ⟨hal,hbl,hm,hJ⟩
 refine zJ<|F O<|A O<|qC O N<|zU O (yG O O O)<|A O<|rL0 O (fun g0_3=>w O O) O<|B 10 O (fun g0_3=>yC O N O) O<|B 11 O (fun g0_3=>yG O O O) O<|r_or O (fun h=>(lzf h))<|G<|zD O (fun c1=>?_) (fun c1=>?_)
 ·try simp only [I] at c1
  refine zK<|zR<|zR<|zJ<|qY 20 mixed (by kernel_rfl) O O<|M O O (w O O)<|M O O (yC O N O)<|M O O (yL O O O)<|M O O (w O O)<|f [] O O O O gv1 T (fun g3_3=>w O O) O<|f [(37,_)] O O O O gv1 ⟨O,O,T⟩ (fun g3_3=>yC O N O) O<|f [(38,_)] O O O O gv1 ⟨O,O,T⟩ (fun g3_3=>yG O O O) O<|f [(39,_)] O O O O gv1 ⟨O,O,T⟩ (fun g3_3=>w O O) O<|f [] O O O O P T (fun g3_7=>w O O) O<|f [(41,_)] O O O O P ⟨O,O,T⟩ (fun g3_7=>qG O N O O (by simp only [Lz,cond_true,cond_false,Bool.and_eq_true,Bool.or_eq_true,Bool.not_eq_true',Bool.not_eq_false',Bool.or_eq_false_iff,Bool.and_eq_false_iff,decide_eq_true_eq,decide_eq_false_iff_not,Bool.not_eq_true,Bool.not_eq_false] at g3_7;omega) (Q (zJu (by simp only [Lz,cond_true,cond_false,Bool.and_eq_true,Bool.or_eq_true,Bool.not_eq_true',Bool.not_eq_false',Bool.or_eq_false_iff,Bool.and_eq_false_iff,decide_eq_true_eq,decide_eq_false_iff_not,Bool.not_eq_true,Bool.not_eq_false] at g3_7;omega)))) O<|f [(42,_)] O O O O P ⟨O,O,T⟩ (fun g3_7=>qL O zAc O) O<|f [(43,_)] O O O O P ⟨O,O,T⟩ (fun g3_7=>zF O one9 O qA O) O<|f [] O O O O P T (fun g3_7=>w O O) O<|f [(45,_)] O O O O P ⟨O,O,T⟩ (fun g3_7=>qG O N O O (by simp only [Lz,cond_true,cond_false,Bool.and_eq_true,Bool.or_eq_true,Bool.not_eq_true',Bool.not_eq_false',Bool.or_eq_false_iff,Bool.and_eq_false_iff,decide_eq_true_eq,decide_eq_false_iff_not,Bool.not_eq_true,Bool.not_eq_false] at g3_7;omega) (Q (zJu (by simp only [Lz,cond_true,cond_false,Bool.and_eq_true,Bool.or_eq_true,Bool.not_eq_true',Bool.not_eq_false',Bool.or_eq_false_iff,Bool.and_eq_false_iff,decide_eq_true_eq,decide_eq_false_iff_not,Bool.not_eq_true,Bool.not_eq_false] at g3_7;omega)))) O<|f [(46,_)] O O O O P ⟨O,O,T⟩ (fun g3_7=>qL O zAc O) O<|f [(47,_)] O O O O P ⟨O,O,T⟩ (fun g3_7=>zF O one9 O qA O) O<|f [(44,_),(48,_)] O O O O P ⟨O,O,O,O,T⟩ (fun g3_7=>det_slss O O O) O<|f [(40,_)] O O O O gv1 ⟨O,O,T⟩ (fun g3_3=>kU O O O (fun h=>kE (by assumption) h) O) O<|M O O (zAs O O O O (fun h=>(lzf h)))<|M O O (yA O O)<|kD<|G<|zD O (fun c2=>?_) (fun c2=>?_)
  ·have hL:=merge_left (by omega) c2
   have hdec:(a.drop 1).length+(b).length<a.length+b.length:=by simp only [List.length_drop];omega
   have hm1:mergeL a0 b0=(d++[((hdM a).Name,(hdM a).By,0)])++mergeL (a.drop 1) (b):=by rw [hm,hL.2];simp
   refine zJ<|qY 9 mixed (by kernel_rfl) O O<|M O O (w O O)<|M O O (w O O)<|M O O (qG O N O O (by omega) (Q (zJu (by omega))))<|M O O (qL O zAc O)<|M O O (zF O one9 O qA O)<|M O O (w O O)<|M O O (qG O N O O (by omega) (Q (zJu (by omega))))<|M O O (qL O zDd O)<|M O O (zF O W O qA O)<|kD<|zX O O (zAf O O (hy d ((hdM a).Name,(hdM a).By,0) _ m (by rw [hm1,List.append_assoc];rfl) hJ) ⟨H,O,H,O,H,O,T⟩) ?_
   rintro _ m1 ⟨rfl,hJ1⟩
   refine G<|zQ O<|A O<|zU O (zAh (k:=1) O N O O (by omega))<|A O<|G ?_
   refine ⟨⟨_,_,_,_⟩,⟨by first|omega|(simp only [List.length_drop];omega),by first|omega|(simp only [List.length_drop];omega),hm1,hJ1⟩,hdec,Weak.regs ⟨H,H,H,T⟩⟩
  ·have hb1:=mC2_b c2
   refine zJ<|qY 15 mixed (by kernel_rfl) O O<|M O O (w O O)<|M O O (yC O N O)<|M O O (yL O O O)<|M O O (w O O)<|f [] O O O O gv1 T (fun g6_3=>w O O) O<|f [(69,_)] O O O O gv1 ⟨O,O,T⟩ (fun g6_3=>qG O N O O (by simp only [Lz,cond_true,cond_false,Bool.and_eq_true,Bool.or_eq_true,Bool.not_eq_true',Bool.not_eq_false',Bool.or_eq_false_iff,Bool.and_eq_false_iff,decide_eq_true_eq,decide_eq_false_iff_not,Bool.not_eq_true,Bool.not_eq_false] at g6_3;omega) (Q (zJu (by simp only [Lz,cond_true,cond_false,Bool.and_eq_true,Bool.or_eq_true,Bool.not_eq_true',Bool.not_eq_false',Bool.or_eq_false_iff,Bool.and_eq_false_iff,decide_eq_true_eq,decide_eq_false_iff_not,Bool.not_eq_true,Bool.not_eq_false] at g6_3;omega)))) O<|f [(70,_)] O O O O gv1 ⟨O,O,T⟩ (fun g6_3=>qL O zAc O) O<|f [(71,_)] O O O O gv1 ⟨O,O,T⟩ (fun g6_3=>zF O one9 O qA O) O<|f [] O O O O gv1 T (fun g6_3=>w O O) O<|f [(73,_)] O O O O gv1 ⟨O,O,T⟩ (fun g6_3=>qG O N O O (by simp only [Lz,cond_true,cond_false,Bool.and_eq_true,Bool.or_eq_true,Bool.not_eq_true',Bool.not_eq_false',Bool.or_eq_false_iff,Bool.and_eq_false_iff,decide_eq_true_eq,decide_eq_false_iff_not,Bool.not_eq_true,Bool.not_eq_false] at g6_3;omega) (Q (zJu (by simp only [Lz,cond_true,cond_false,Bool.and_eq_true,Bool.or_eq_true,Bool.not_eq_true',Bool.not_eq_false',Bool.or_eq_false_iff,Bool.and_eq_false_iff,decide_eq_true_eq,decide_eq_false_iff_not,Bool.not_eq_true,Bool.not_eq_false] at g6_3;omega)))) O<|f [(74,_)] O O O O gv1 ⟨O,O,T⟩ (fun g6_3=>qL O zAc O) O<|f [(75,_)] O O O O gv1 ⟨O,O,T⟩ (fun g6_3=>zF O one9 O qA O) O<|f [(72,_),(76,_)] O O O O gv1 ⟨O,O,O,O,T⟩ (fun g6_3=>det_slss O O O) O<|M O O (zAs O O O O (fun h=>(lzf h)))<|M O O (yA O O)<|kD<|G<|zD O (fun c3=>?_) (fun c3=>?_)
   ·have hL:=merge_right (by omega) c2 c3
    have hdec:(a).length+(b.drop 1).length<a.length+b.length:=by simp only [List.length_drop];omega
    have hm1:mergeL a0 b0=(d++[((hdM b).Name,0,(hdM b).By)])++mergeL (a) (b.drop 1):=by rw [hm,hL.2];simp
    refine zJ<|qY 9 mixed (by kernel_rfl) O O<|M O O (w O O)<|M O O (w O O)<|M O O (qG O N O O (by omega) (Q (zJu (by omega))))<|M O O (qL O zAc O)<|M O O (zF O one9 O qA O)<|M O O (w O O)<|M O O (qG O N O O (by omega) (Q (zJu (by omega))))<|M O O (qL O zDd O)<|M O O (zF O W O qA O)<|kD<|zX O O (zAf O O (hy d ((hdM b).Name,0,(hdM b).By) _ m (by rw [hm1,List.append_assoc];rfl) hJ) ⟨H,O,H,O,H,O,T⟩) ?_
    rintro _ m1 ⟨rfl,hJ1⟩
    refine G<|zQ O<|A O<|zU O (zAh (k:=1) O N O O (by omega))<|A O<|G ?_
    refine ⟨⟨_,_,_,_⟩,⟨by first|omega|(simp only [List.length_drop];omega),by first|omega|(simp only [List.length_drop];omega),hm1,hJ1⟩,hdec,Weak.regs ⟨H,H,H,T⟩⟩
   ·have hL:=merge_both c2 c3
    have hdec:(a.drop 1).length+(b.drop 1).length<a.length+b.length:=by simp only [List.length_drop];omega
    have hm1:mergeL a0 b0=(d++[((hdM a).Name,(hdM a).By,(hdM b).By)])++mergeL (a.drop 1) (b.drop 1):=by rw [hm,hL.2.2];simp
    refine zJ<|qY 13 mixed (by kernel_rfl) O O<|M O O (w O O)<|M O O (w O O)<|M O O (qG O N O O (by omega) (Q (zJu (by omega))))<|M O O (qL O zAc O)<|M O O (zF O one9 O qA O)<|M O O (w O O)<|M O O (qG O N O O (by omega) (Q (zJu (by omega))))<|M O O (qL O zDd O)<|M O O (zF O W O qA O)<|M O O (w O O)<|M O O (qG O N O O (by omega) (Q (zJu (by omega))))<|M O O (qL O zDd O)<|M O O (zF O W O qA O)<|kD<|zX O O (zAf O O (hy d ((hdM a).Name,(hdM a).By,(hdM b).By) _ m (by rw [hm1,List.append_assoc];rfl) hJ) ⟨H,O,H,O,H,O,T⟩) ?_
    rintro _ m1 ⟨rfl,hJ1⟩
    refine G<|qY 6 mixed (by kernel_rfl) O O<|M O O (w O O)<|M O O (zAh (k:=1) O N O O (by omega))<|M O O (w O O)<|M O O (zAh (k:=1) O N O O (by omega))<|M O O (yA O O)<|M O O (yA O O)<|kD<|G ?_
    refine ⟨⟨_,_,_,_⟩,⟨by first|omega|(simp only [List.length_drop];omega),by first|omega|(simp only [List.length_drop];omega),hm1,hJ1⟩,hdec,Weak.regs ⟨H,H,H,T⟩⟩
 ·try simp only [I] at c1
  refine qQ ?_
  repeat (first|refine zIq ?_|refine zGx ?_)
  refine zUn<|fin0 ?_
  exact ⟨O,by rw [hm,show a=[] from List.eq_nil_of_length_eq_zero (by omega),show b=[] from List.eq_nil_of_length_eq_zero (by omega),zKo,List.append_nil];exact hJ⟩
theorem lin_Add_1 (bo bl:Nat) (ok:Bool) (K:Int) (sv:Value) (d:List Tr) (t:Tr) (h1:r64 t.2.1) (h2:r64 t.2.2) (hd:d.length<=8589934592):
    Con cfg 107 [vS t.1,vI t.2.1,vI t.2.2,.c (.lit (.pointer (some ⟨bo,0,none⟩))),.c (.lit (.pointer (some ⟨bl,0,none⟩)))] [E.row bo 4 [cB (okF ok (d))],E.vec sv 69 2 ((sumW (d)).map Mono.cells),E.row bl 41 [cI K,.lit sv]] fun r μ'=>r=.tup []/\∃sv',μ'=[E.row bo 4 [cB (okF ok (d++[t]))],E.vec sv' 69 2 ((sumW (d++[t])).map Mono.cells),E.row bl 41 [cI K,.lit sv']]:=by
 refine zT Tryz.func107 O Tryz.ntmps107 Tryz.results107 O ?_
 intro z hz
 refine F O<|A O<|A O<|qI O ok105 (lin_plus t.2.1 t.2.2 h1 h2) ⟨H,O,H,O,T⟩<|qO O<|qU O<|qU O<|A O<|A O<|G<|F O<|zM one4 (R 0 O) O<|A O<|rL0 O (fun g1_1=>w O O) O<|yS O (fun h=>h)<|Y 0 sz4 O<|G<|F O<|A O<|yN O<|G<|zD O (fun c1=>?_) (fun c1=>?_)
 ·try simp only [I] at c1
  refine zQ O<|zH O yT<|zM wE (R 2 O) O<|A O<|A O<|yP O zr69 pl69<|yZ O N zr69<|zX O O (qX 1 O N O O O (by have:=zQu d;simp only [List.length_map,List.length_append,List.length_cons,List.length_nil];omega) (by have:=zQu d;simp only [List.length_map,List.length_append,List.length_cons,List.length_nil];omega)) ?_
  rintro _ _ ⟨sv1,rfl,rfl⟩
  refine zH O yT<|Y 2 sz39 O<|G ?_
  repeat (first|refine zIq ?_|refine zGx ?_)
  refine zUn<|fin0 ?_
  exact ⟨O,_,by rw [zFt,zEb,if_neg (show ¬w64 (trV t)=0 from c1),List.map_append];rfl⟩
 ·try simp only [I] at c1
  refine zK ?_
  repeat (first|refine zIq ?_|refine zGx ?_)
  refine zUn<|fin0 ?_
  exact ⟨O,_,by rw [zFt,zEb,if_pos (show w64 (trV t)=0 from c1),List.append_nil];rfl⟩
theorem lin_Add (a b:Lf) (ha:a.L.length<=4294967296) (hb:b.L.length<=4294967296) (hra:a.rng) (hrb:b.rng):
    Pur cfg 53 [vLin a,vLin b] (.tup [vLin (addL a b).1,vI (addL a b).2]):=by
 refine zT Tryz.func53 O Tryz.ntmps53 Tryz.results53 O ?_
 intro z hz
 refine F O<|zX O O (qN O O) ?_
 rintro _ _ ⟨b1,rfl,rfl⟩
 refine zX O O (qN O O) ?_
 rintro _ _ ⟨b2,rfl,rfl⟩
 refine zX O O (qE [none,some 2] O U O) ?_
 rintro _ _ ⟨b3,rfl,rfl⟩
 refine A O<|G<|zJ<|F O<|zP yK (R 2 O) O<|qI O ok102 (zDc a (by omega)) ⟨H,O,T⟩<|yN O<|A O<|rL0 O (fun g1_3=>zZ O yK O (R 1 O) O) O<|B 12 O (fun g1_3=>qM O ok102 (zDc b (by omega)) ⟨H,O,T⟩) O<|B 13 O (fun g1_3=>kR O O O) O<|r_or O (fun h=>(lzf h))<|G<|zD O (fun c1=>?_) (fun c1=>?_)
 ·try simp only [I] at c1
  refine F O<|qT [none,some 2] O U pl41<|Y 0 g O<|A O<|G<|o<|p (zV yK O (R 0 O) O) (J O) ?_
  rw [add_c1 c1];rfl
 ·try simp only [I] at c1
  have hla:=zEw c1.1
  have hlb:=zEw c1.2
  refine zK<|F O<|zX O O (yX O U) ?_
  rintro _ _ ⟨b4,rfl,rfl⟩
  refine yI _ (kN 69 2)<|G<|F O<|zX O O (yX O zr4) ?_
  rintro _ _ ⟨b6,rfl,rfl⟩
  refine G<|F O<|zH O zCg<|zM W (R 5 O) O<|zH O zCg<|zM W (R 4 O) O<|qI O ok105 (lin_plus a.K b.K hra.1 hrb.1) ⟨H,O,H,O,T⟩<|qO O<|qU O<|qU O<|zH O zCg<|Y 2 sz2 O<|Y 0 sz4 O<|G<|F O<|zH O yT<|zM wE (R 5 O) O<|zH O yT<|zM wE (R 4 O) O<|zU O (zDz O O O O O)<|zX O O (zAu O ok106 (Con.frame (merge_con a.L b.L ha hb _ (fun d m=>∃sv,m=[E.row b6 4 [cB (okF (decide (r64 (a.K+b.K))) (d))],E.vec sv 69 2 ((sumW (d)).map Mono.cells),E.row b4 41 [cI (w64 (a.K+b.K)),.lit sv]]) _ (fun d t s m he hj=>by obtain ⟨sv,rfl⟩:=hj;obtain ⟨k1,k2,k3⟩:=merge_rng hra.2 hrb.2 he;exact FnCon.of_con (first:=[]) (cap:=[.lit (.pointer (some ⟨b6,0,none⟩)),.lit (.pointer (some ⟨b4,0,none⟩))]) ok107 (lin_Add_1 b6 b4 (decide (r64 (a.K+b.K))) (w64 (a.K+b.K)) sv d t k1 k2 (by omega))) ⟨_,O⟩) _) ⟨H,O,H,O,H,O,T⟩) ?_
  rintro _ _ ⟨_,⟨rfl,sv7,rfl⟩,rfl⟩
  refine G<|zJ<|F O<|zM one4 (R 0 O) O<|kO O<|G<|zD O (fun c2=>?_) (fun c2=>?_)
  ·try simp only [I] at c2
   refine F O<|qT [none,some 2] O U pl41<|Y 3 g O<|A O<|G<|o<|p (zV yK O (R 3 O) O) (J O) ?_
   rw [add_no hla hlb c2];rfl
  ·try simp only [I] at c2
   refine zK<|F O<|zP yK (R 2 O) O<|Y 3 g O<|A O<|G<|zY _ (yH 1 O (regs':=[(35,.agg [_,_])]) (μ':=[_,_,_,_,_]) ⟨FLe.agg ⟨.inl O,.inr ⟨O,O⟩,T⟩,T⟩ ⟨EFle.refl _,EFle.row (ds:=[_,_]) ⟨.inl O,.inr ⟨O,O⟩,T⟩,EFle.row (ds:=[_,_]) ⟨.inl O,.inr ⟨O,O⟩,T⟩,EFle.refl _,EFle.refl _,T⟩)<|o<|p (zV yK O (R 2 O) O) (J O) ?_
   rw [add_ok hla hlb c2];rfl
theorem lin_Substitute (l:Lf) (s:ByteArray) (u:Lf) (hl:l.L.length<=4294967296) (ht:u.L.length<=4294967296) (hrl:l.rng) (hrt:u.rng):
    Pur cfg 109 [vLin l,vS s,vLin u] (.tup [vLin (substP l s u).1,vI (substP l s u).2]):=by
 refine zT Tryz.func109 O Tryz.ntmps109 Tryz.results109 O ?_
 intro z hz
 obtain ⟨hs1,hs2⟩:=zJa u (lastBy l.L s)
 obtain ⟨hr1,hr2⟩:=rest_rng hrl s
 refine F O<|zX O O (qN O O) ?_
 rintro _ _ ⟨b1,rfl,rfl⟩
 refine zX O O (qN O O) ?_
 rintro _ _ ⟨b2,rfl,rfl⟩
 refine zX O O (qE [none,some 2] O U O) ?_
 rintro _ _ ⟨b3,rfl,rfl⟩
 refine A O<|G<|zJ<|F O<|zP yK (R 2 O) O<|qI O ok102 (zDc l (by omega)) ⟨H,O,T⟩<|yN O<|A O<|rL0 O (fun g1_3=>w O O) O<|B 18 O (fun g1_3=>qM O ok104 (zGe s) ⟨H,O,T⟩) O<|B 19 O (fun g1_3=>kX O O) O<|r_or O (fun h=>(lzf h))<|A O<|rL0 O (fun g1_8=>zZ O yK O (R 1 O) O) O<|B 23 O (fun g1_8=>qM O ok102 (zDc u (by omega)) ⟨H,O,T⟩) O<|B 24 O (fun g1_8=>kR O O O) O<|r_or O (fun h=>(lzf h))<|G<|zD O (fun c1=>?_) (fun c1=>?_)
 ·try simp only [I] at c1
  refine F O<|qT [none,some 2] O U pl41<|Y 0 g O<|A O<|G<|o<|p (zV yK O (R 0 O) O) (J O) ?_
  rw [subst_c1 c1];rfl
 ·try simp only [I] at c1
  refine zK<|F O<|zH O zCg<|zM W (R 2 O) O<|yP O U pl41<|zX O O (yX O U) ?_
  rintro _ _ ⟨b4,rfl,rfl⟩
  refine yI _ (kN 69 2)<|Y 1 g O<|G<|F O<|A O<|G<|zJ<|F O<|zH O yT<|zM wE (R 4 O) O<|qC O N<|A O<|G<|zR<|zY ⟨[(34,.c _),(9,.c _),(1,.c _),(5,.c _),(6,.c _),(8,.c _),(32,.c _),(33,.c _)],[_,_,_,_]⟩ (Weak.mk [true,true,true,true,false] ⟨H,H,H,H,H,H,H,H,T⟩ O)<|qK 2 2 O O (Nat×Value) (fun ⟨k,sv⟩=>[(34,vI k),(9,vI (lastBy (l.L.take k) s))]) (fun ⟨k,sv⟩=>[E.vec sv 69 2 (((l.L.take k).filter (fun m=> !decide (m.Name=s))).map Mono.cells),E.row b4 41 [cI l.K,.lit sv]]) (fun ⟨k,sv⟩=>k<=l.L.length) (fun ⟨k,sv⟩=>l.L.length-k) ⟨⟨0,_⟩,(by omega),Weak.mk [true,true,true,true] ⟨H,VLe.of_eq (O),H,H,H,H,H,H,T⟩ O⟩ ?_
  rintro ⟨k,sv⟩ hk
  show AWP _ _ _ _ _ ⟨[(34,vI k),(9,vI (lastBy (l.L.take k) s))]++_,[E.vec sv 69 2 (((l.L.take k).filter (fun m=> !decide (m.Name=s))).map Mono.cells),E.row b4 41 [cI l.K,.lit sv]]++_⟩
  refine F O<|yD O<|G<|zJ<|zD O (fun c2=>?_) (fun c2=>?_)
  ·try simp only [I] at c2
   obtain ⟨x,hx⟩:=qV l.L k (by omega)
   refine zK<|zJ<|zR<|F O<|qD O N (by omega) (Q (by assumption))<|zP zOd qA O<|zX O O (yX O zr69) ?_
   rintro _ _ ⟨b6,rfl,rfl⟩
   refine Y 0 sz69 O<|G<|zJ<|F O<|zH O zAc<|zM one9 (R 0 O) O<|A O<|zU O (yV O O O)<|G<|zD O (fun c3=>?_) (fun c3=>?_)
   ·try simp only [I] at c3
    refine F O<|zH O zDd<|zM W (R 0 O) O<|A O<|G<|qQ<|zQ O<|qJ O ⟨by omega,by omega⟩<|A O<|G ?_
    refine ⟨⟨k+1,_⟩,(by omega),(by show l.L.length-(k+1)<l.L.length-k;omega),Weak.mk [false,true,true,true,true] ⟨H,VLe.of_eq (by rw [zHt hx];first|(rw [if_pos c3];rfl)|(rw [if_neg c3];rfl)),H,H,H,H,H,H,T⟩ (by exact zDx (by rw [zMo hx];first|(rw [if_pos c3,List.append_nil])|(rw [if_neg c3,List.map_append];rfl)))⟩
   ·try simp only [I] at c3
    refine zK<|zQ O<|zH O yT<|zM wE (R 2 O) O<|zP zOd (R 0 O) O<|yZ O N zr69<|zX O O (qX 1 O N O O O (by have:=List.length_filter_le (fun m:Mono=> !decide (m.Name=s)) (l.L.take k);simp only [List.length_map,List.length_append,List.length_cons,List.length_nil,List.length_take] at *;omega) (by have:=List.length_filter_le (fun m:Mono=> !decide (m.Name=s)) (l.L.take k);simp only [List.length_map,List.length_append,List.length_cons,List.length_nil,List.length_take] at *;omega)) ?_
    rintro _ _ ⟨sv7,rfl,rfl⟩
    refine zH O yT<|Y 2 sz39 O<|G<|zQ O<|qJ O ⟨by omega,by omega⟩<|A O<|G ?_
    refine ⟨⟨k+1,_⟩,(by omega),(by show l.L.length-(k+1)<l.L.length-k;omega),Weak.mk [false,true,true,true,true] ⟨H,VLe.of_eq (by rw [zHt hx];first|(rw [if_pos c3];rfl)|(rw [if_neg c3];rfl)),H,H,H,H,H,H,T⟩ (by exact zDx (by rw [zMo hx];first|(rw [if_pos c3,List.append_nil])|(rw [if_neg c3,List.map_append];rfl)))⟩
  ·try simp only [I] at c2
   rw [yO (l:=l.L) (k:=k) (by omega)]
   refine qQ<|F O<|zP yK (R 3 O) O<|A O<|qI O ok51 (zUd u (lastBy l.L s) ht hrt (last_rng hrl s)) ⟨H,O,H,O,T⟩<|qO O<|yJ O<|qU O<|zX O O (qE [none,some 2] O U O) ?_
   rintro _ _ ⟨b8,rfl,rfl⟩
   refine Y 0 g O<|A O<|G<|zJ<|F O<|A O<|yN O<|G<|zD O (fun c4=>?_) (fun c4=>?_)
   ·try simp only [I] at c4
    refine F O<|qT [none,some 2] O U pl41<|A O<|Y 3 g O<|A O<|G<|o<|p (zV yK O (R 3 O) O) (J O) ?_
    rw [subst_c4 c1 c4];rfl
   ·try simp only [I] at c4
    refine zY _ (yH 1 O (regs':=[]) (μ':=[_,_,_,_]) T ⟨EFle.refl _,EFle.row (ds:=[_,_]) ⟨.inl O,.inr ⟨O,O⟩,T⟩,EFle.refl _,EFle.refl _,T⟩)<|zK<|F O<|zP yK (R 1 O) O<|zP yK (R 0 O) O<|qI O ok53 (lin_Add (restL l s) (scaleL u (lastBy l.L s)).1 (by omega) (by omega) hr1 hs1) ⟨H,O,H,O,T⟩<|yJ O<|qU O<|Y 2 g O<|A O<|G<|o<|p (zV yK O (R 2 O) O) (J O) ?_
    rw [subst_ok c1 c4];rfl
end Go.W
end
section
set_option maxRecDepth 10000
namespace Go.W
open Go Go.Eng Go.Proofs Go.L41 Go.Br
attribute [local irreducible] AWP RWP TD finQ
theorem ok204:callOk Tryz.prog 204=true:=by kernel_rfl
theorem ok233:callOk Tryz.prog 233=true:=by kernel_rfl
theorem ref14_wide (x y:Int) (hx:r64 x) (hy:r64 y):
    Pur cfg 233 [vI x,vI y] (.tup [vI ((x*y)/18446744073709551616),vUn ((x*y)%18446744073709551616).toNat]):=by
 refine zT Tryz.func233 O Tryz.ntmps233 Tryz.results233 O ?_
 intro z hz
 have hA:=zOy hx
 have hB:=zOy hy
 obtain ⟨p1,p2,p3,p4⟩:=part_le (a:=x.natAbs) (b:=y.natAbs) (by omega) (by omega)
 obtain ⟨w1,w2⟩:=wide_lt hx hy
 have hmid:midN x.natAbs y.natAbs<18446744073709551616:=by unfold midN;omega
 refine F O<|A O<|A O<|G<|F O<|A O<|yD O<|A O<|yD O<|zU O (zRr O un4 O O)<|A O<|G<|F O<|A O<|zU O (kV O us2 ik180 O)<|A O<|zU O (kV O us2 ik180 O)<|A O<|A O<|G<|zJ<|F O<|A O<|yD O<|G<|zD O (fun c1=>?_) (fun c1=>?_)
 ·try simp only [I] at c1
  refine zQ O<|A O<|zU O (zGf O O) ?_
  rw [zRi hx c1]
  refine A O<|G<|zJ<|F O<|A O<|yD O<|G<|zD O (fun c2=>?_) (fun c2=>?_)
  ·try simp only [I] at c2
   refine zQ O<|A O<|zU O (zGf O O) ?_
   rw [zRi hy c2]
   refine A O<|G<|F O<|A O<|zU O (kT O O O )<|A O<|zU O (wK O O O (by omega))<|A O<|zU O (kT O O O )<|A O<|zU O (wK O O O (by omega))<|A O<|A O<|A O<|A O<|G<|F O<|A O<|A O<|zU O (zAb O O O (by omega))<|A O<|A O<|zU O (zAb O O O (by omega))<|A O<|A O<|zU O (zAb O O O (by omega))<|A O<|A O<|zU O (zAb O O O (by omega))<|A O<|A O<|A O<|A O<|G<|F O<|A O<|zU O (kT O O O )<|A O<|zU O (wK O O O (by omega))<|zU O (wL O O O (by omega))<|A O<|zU O (wK O O O (by omega))<|zU O (wL O O O (by omega))<|A O<|G<|F O<|A O<|zU O (wK O O O (by omega))<|A O<|zU O (zRo O O O )<|zU O (det_uor O O O )<|A O<|G<|F O<|A O<|A O<|zU O (kT O O O )<|zU O (wL O O O (by omega))<|A O<|zU O (kT O O O )<|zU O (wL O O O (by omega)) ?_
   refine A O<|zU O (kT O O O )<|zU O (wL O O O (by unfold wHi at w1;unfold midN at w1;omega))<|A O<|G<|zJ<|F O<|A O<|G<|zD O (fun c3=>?_) (fun c3=>?_)
   ·try simp only [I] at c3
    refine F O<|A O<|zU O (zRq O O w2)<|A O<|G<|F O<|A O<|zU O (zRp O O w1)<|A O<|G<|F O<|A O<|yF O<|G<|zD O (fun c4=>?_) (fun c4=>?_)
    ·try simp only [I] at c4
     refine zQ O<|A O<|zU O (zNp O O O )<|A O<|G<|F O<|A O<|zU O (kV O zIj ik2 O)<|A O<|A O<|A O<|G<|o<|p (J O) (J O) ?_
     obtain ⟨e1,e2⟩:=zMd hx hy c3 (by exact Int.ofNat_eq_zero.1 c4)
     rw [←e2,←e1];rfl
    ·try simp only [I] at c4
     refine zK<|F O<|A O<|zU O (kV O zIj ik2 O)<|A O<|A O<|A O<|G<|o<|p (J O) (J O) ?_
     obtain ⟨e1,e2⟩:=zMc hx hy c3 (fun h=>c4 (by exact Int.ofNat_eq_zero.2 h))
     rw [←e2,←e1];rfl
   ·try simp only [I] at c3
    refine zK<|F O<|A O<|zU O (kV O zIj ik2 O)<|A O<|A O<|A O<|G<|o<|p (J O) (J O) ?_
    obtain ⟨e1,e2⟩:=zQo hx hy c3
    rw [←e2,←e1];rfl
  ·try simp only [I] at c2
   rw [zRh hy (by omega)]
   refine zK<|F O<|A O<|zU O (kT O O O )<|A O<|zU O (wK O O O (by omega))<|A O<|zU O (kT O O O )<|A O<|zU O (wK O O O (by omega))<|A O<|A O<|A O<|A O<|G<|F O<|A O<|A O<|zU O (zAb O O O (by omega))<|A O<|A O<|zU O (zAb O O O (by omega))<|A O<|A O<|zU O (zAb O O O (by omega))<|A O<|A O<|zU O (zAb O O O (by omega))<|A O<|A O<|A O<|A O<|G<|F O<|A O<|zU O (kT O O O )<|A O<|zU O (wK O O O (by omega))<|zU O (wL O O O (by omega))<|A O<|zU O (wK O O O (by omega))<|zU O (wL O O O (by omega))<|A O<|G<|F O<|A O<|zU O (wK O O O (by omega))<|A O<|zU O (zRo O O O )<|zU O (det_uor O O O )<|A O<|G<|F O<|A O<|A O<|zU O (kT O O O )<|zU O (wL O O O (by omega))<|A O<|zU O (kT O O O )<|zU O (wL O O O (by omega))<|A O ?_
   refine zU O (kT O O O )<|zU O (wL O O O (by unfold wHi at w1;unfold midN at w1;omega))<|A O<|G<|zJ<|F O<|A O<|G<|zD O (fun c3=>?_) (fun c3=>?_)
   ·try simp only [I] at c3
    refine F O<|A O<|zU O (zRq O O w2)<|A O<|G<|F O<|A O<|zU O (zRp O O w1)<|A O<|G<|F O<|A O<|yF O<|G<|zD O (fun c4=>?_) (fun c4=>?_)
    ·try simp only [I] at c4
     refine zQ O<|A O<|zU O (zNp O O O )<|A O<|G<|F O<|A O<|zU O (kV O zIj ik2 O)<|A O<|A O<|A O<|G<|o<|p (J O) (J O) ?_
     obtain ⟨e1,e2⟩:=zMd hx hy c3 (by exact Int.ofNat_eq_zero.1 c4)
     rw [←e2,←e1];rfl
    ·try simp only [I] at c4
     refine zK<|F O<|A O<|zU O (kV O zIj ik2 O)<|A O<|A O<|A O<|G<|o<|p (J O) (J O) ?_
     obtain ⟨e1,e2⟩:=zMc hx hy c3 (fun h=>c4 (by exact Int.ofNat_eq_zero.2 h))
     rw [←e2,←e1];rfl
   ·try simp only [I] at c3
    refine zK<|F O<|A O<|zU O (kV O zIj ik2 O)<|A O<|A O<|A O<|G<|o<|p (J O) (J O) ?_
    obtain ⟨e1,e2⟩:=zQo hx hy c3
    rw [←e2,←e1];rfl
 ·try simp only [I] at c1
  rw [zRh hx (by omega)]
  refine zK<|zJ<|F O<|A O<|yD O<|G<|zD O (fun c2=>?_) (fun c2=>?_)
  ·try simp only [I] at c2
   refine zQ O<|A O<|zU O (zGf O O) ?_
   rw [zRi hy c2]
   refine A O<|G<|F O<|A O<|zU O (kT O O O )<|A O<|zU O (wK O O O (by omega))<|A O<|zU O (kT O O O )<|A O<|zU O (wK O O O (by omega))<|A O<|A O<|A O<|A O<|G<|F O<|A O<|A O<|zU O (zAb O O O (by omega))<|A O<|A O<|zU O (zAb O O O (by omega))<|A O<|A O<|zU O (zAb O O O (by omega))<|A O<|A O<|zU O (zAb O O O (by omega))<|A O<|A O<|A O<|A O<|G<|F O<|A O<|zU O (kT O O O )<|A O<|zU O (wK O O O (by omega))<|zU O (wL O O O (by omega))<|A O<|zU O (wK O O O (by omega))<|zU O (wL O O O (by omega))<|A O<|G<|F O<|A O<|zU O (wK O O O (by omega))<|A O<|zU O (zRo O O O )<|zU O (det_uor O O O )<|A O<|G<|F O<|A O<|A O<|zU O (kT O O O )<|zU O (wL O O O (by omega))<|A O<|zU O (kT O O O )<|zU O (wL O O O (by omega)) ?_
   refine A O<|zU O (kT O O O )<|zU O (wL O O O (by unfold wHi at w1;unfold midN at w1;omega))<|A O<|G<|zJ<|F O<|A O<|G<|zD O (fun c3=>?_) (fun c3=>?_)
   ·try simp only [I] at c3
    refine F O<|A O<|zU O (zRq O O w2)<|A O<|G<|F O<|A O<|zU O (zRp O O w1)<|A O<|G<|F O<|A O<|yF O<|G<|zD O (fun c4=>?_) (fun c4=>?_)
    ·try simp only [I] at c4
     refine zQ O<|A O<|zU O (zNp O O O )<|A O<|G<|F O<|A O<|zU O (kV O zIj ik2 O)<|A O<|A O<|A O<|G<|o<|p (J O) (J O) ?_
     obtain ⟨e1,e2⟩:=zMd hx hy c3 (by exact Int.ofNat_eq_zero.1 c4)
     rw [←e2,←e1];rfl
    ·try simp only [I] at c4
     refine zK<|F O<|A O<|zU O (kV O zIj ik2 O)<|A O<|A O<|A O<|G<|o<|p (J O) (J O) ?_
     obtain ⟨e1,e2⟩:=zMc hx hy c3 (fun h=>c4 (by exact Int.ofNat_eq_zero.2 h))
     rw [←e2,←e1];rfl
   ·try simp only [I] at c3
    refine zK<|F O<|A O<|zU O (kV O zIj ik2 O)<|A O<|A O<|A O<|G<|o<|p (J O) (J O) ?_
    obtain ⟨e1,e2⟩:=zQo hx hy c3
    rw [←e2,←e1];rfl
  ·try simp only [I] at c2
   rw [zRh hy (by omega)]
   refine zK<|F O<|A O<|zU O (kT O O O )<|A O<|zU O (wK O O O (by omega))<|A O<|zU O (kT O O O )<|A O<|zU O (wK O O O (by omega))<|A O<|A O<|A O<|A O<|G<|F O<|A O<|A O<|zU O (zAb O O O (by omega))<|A O<|A O<|zU O (zAb O O O (by omega))<|A O<|A O<|zU O (zAb O O O (by omega))<|A O<|A O<|zU O (zAb O O O (by omega))<|A O<|A O<|A O<|A O<|G<|F O<|A O<|zU O (kT O O O )<|A O<|zU O (wK O O O (by omega))<|zU O (wL O O O (by omega))<|A O<|zU O (wK O O O (by omega))<|zU O (wL O O O (by omega))<|A O<|G<|F O<|A O<|zU O (wK O O O (by omega))<|A O<|zU O (zRo O O O )<|zU O (det_uor O O O )<|A O<|G<|F O<|A O<|A O<|zU O (kT O O O )<|zU O (wL O O O (by omega))<|A O<|zU O (kT O O O )<|zU O (wL O O O (by omega))<|A O ?_
   refine zU O (kT O O O )<|zU O (wL O O O (by unfold wHi at w1;unfold midN at w1;omega))<|A O<|G<|zJ<|F O<|A O<|G<|zD O (fun c3=>?_) (fun c3=>?_)
   ·try simp only [I] at c3
    refine F O<|A O<|zU O (zRq O O w2)<|A O<|G<|F O<|A O<|zU O (zRp O O w1)<|A O<|G<|F O<|A O<|yF O<|G<|zD O (fun c4=>?_) (fun c4=>?_)
    ·try simp only [I] at c4
     refine zQ O<|A O<|zU O (zNp O O O )<|A O<|G<|F O<|A O<|zU O (kV O zIj ik2 O)<|A O<|A O<|A O<|G<|o<|p (J O) (J O) ?_
     obtain ⟨e1,e2⟩:=zMd hx hy c3 (by exact Int.ofNat_eq_zero.1 c4)
     rw [←e2,←e1];rfl
    ·try simp only [I] at c4
     refine zK<|F O<|A O<|zU O (kV O zIj ik2 O)<|A O<|A O<|A O<|G<|o<|p (J O) (J O) ?_
     obtain ⟨e1,e2⟩:=zMc hx hy c3 (fun h=>c4 (by exact Int.ofNat_eq_zero.2 h))
     rw [←e2,←e1];rfl
   ·try simp only [I] at c3
    refine zK<|F O<|A O<|zU O (kV O zIj ik2 O)<|A O<|A O<|A O<|G<|o<|p (J O) (J O) ?_
    obtain ⟨e1,e2⟩:=zQo hx hy c3
    rw [←e2,←e1];rfl
theorem zEt (a b c:Int) (ha:r64 a) (hb:r64 b) (hc:r64 c):
    Pur cfg 204 [vI a,vI b,vI c] (.tup [vI (w64 (a+b*c)),vB (decide (r64 (a+b*c)))]):=by
 refine zT Tryz.func204 O Tryz.ntmps204 Tryz.results204 O ?_
 intro z hz
 obtain ⟨z1,z2⟩:=prod_bd hb hc
 refine F O<|A O<|A O<|G<|F O<|A O<|A O<|qI O ok233 (ref14_wide b c hb hc) ⟨H,O,H,O,T⟩<|qO O<|qU O<|qU O<|A O<|A O<|G<|F O<|A O<|A O<|zU O (kV O us2 ik180 O)<|zU O (zHy O O O)<|A O<|G<|F O<|A O<|G<|zJ<|F O<|A O<|A O<|yD O<|G<|zD O (fun c1=>?_) (fun c1=>?_)
 ·try simp only [I] at c1
  refine zQ O<|A O<|G<|F O<|A O<|A O<|qJ O ⟨by omega,by omega⟩<|A O<|G<|zJ<|F O<|A O<|yD O<|G<|zD O (fun c2=>?_) (fun c2=>?_)
  ·try simp only [I] at c2
   refine zQ O<|A O<|zU O (yB O O O ⟨by omega,by omega⟩)<|A O<|G<|F O<|A O<|zU O (kV O zIj ik2 O)<|A O<|G<|F O<|A O<|A O<|yF O<|A O<|rL0 O (fun g10_3=>w O O) O<|B 40 O (fun g10_3=>wH O O O) O<|yS O (fun h=>h)<|A O<|rL0 O (fun g10_7=>w O O) O<|B 44 O (fun g10_7=>yL O O O) O<|B 45 O (fun g10_7=>w O O) O<|rLz [] O P T (fun g10_10=>w O O) O<|rLz [(47,_)] O P ⟨O,O,T⟩ (fun g10_10=>zBa O O O) O<|B 46 O (fun g10_7=>kU O O O (fun h=>kE (by assumption) h) O) O<|r_or O (fun h=>(lzf h))<|A O<|A O<|G<|o<|p (J O) (J O) ?_
   obtain ⟨S,hS,s0,s1,s2,s3⟩:=zRx (z:=b*c) ha
   rw [←hS,s3] at c1
   rw [←hS]
   clear hS
   unfold r64 at ha
   exact zRy s0 s1 (by generalize b*c=z at *;omega)
  ·try simp only [I] at c2
   refine zK<|F O<|A O<|zU O (kV O zIj ik2 O)<|A O<|G<|F O<|A O<|A O<|yF O<|A O<|rL0 O (fun g10_3=>w O O) O<|B 40 O (fun g10_3=>wH O O O) O<|yS O (fun h=>h)<|A O<|rL0 O (fun g10_7=>w O O) O<|B 44 O (fun g10_7=>yL O O O) O<|B 45 O (fun g10_7=>w O O) O<|rLz [] O P T (fun g10_10=>w O O) O<|rLz [(47,_)] O P ⟨O,O,T⟩ (fun g10_10=>zBa O O O) O<|B 46 O (fun g10_7=>kU O O O (fun h=>kE (by assumption) h) O) O<|r_or O (fun h=>(lzf h))<|A O<|A O<|G<|o<|p (J O) (J O) ?_
   obtain ⟨S,hS,s0,s1,s2,s3⟩:=zRx (z:=b*c) ha
   rw [←hS,s3] at c1
   rw [←hS]
   clear hS
   unfold r64 at ha
   exact zRy s0 s1 (by generalize b*c=z at *;omega)
 ·try simp only [I] at c1
  refine zK<|F O<|A O<|A O<|qJ O ⟨by omega,by omega⟩<|A O<|G<|zJ<|F O<|A O<|yD O<|G<|zD O (fun c2=>?_) (fun c2=>?_)
  ·try simp only [I] at c2
   refine zQ O<|A O<|zU O (yB O O O ⟨by omega,by omega⟩)<|A O<|G<|F O<|A O<|zU O (kV O zIj ik2 O)<|A O<|G<|F O<|A O<|A O<|yF O<|A O<|rL0 O (fun g10_3=>w O O) O<|B 40 O (fun g10_3=>wH O O O) O<|yS O (fun h=>h)<|A O<|rL0 O (fun g10_7=>w O O) O<|B 44 O (fun g10_7=>yL O O O) O<|B 45 O (fun g10_7=>w O O) O<|rLz [] O P T (fun g10_10=>w O O) O<|rLz [(47,_)] O P ⟨O,O,T⟩ (fun g10_10=>zBa O O O) O<|B 46 O (fun g10_7=>kU O O O (fun h=>kE (by assumption) h) O) O<|r_or O (fun h=>(lzf h))<|A O<|A O<|G<|o<|p (J O) (J O) ?_
   obtain ⟨S,hS,s0,s1,s2,s3⟩:=zRx (z:=b*c) ha
   rw [←hS,s3] at c1
   rw [←hS]
   clear hS
   unfold r64 at ha
   exact zRy s0 s1 (by generalize b*c=z at *;omega)
  ·try simp only [I] at c2
   refine zK<|F O<|A O<|zU O (kV O zIj ik2 O)<|A O<|G<|F O<|A O<|A O<|yF O<|A O<|rL0 O (fun g10_3=>w O O) O<|B 40 O (fun g10_3=>wH O O O) O<|yS O (fun h=>h)<|A O<|rL0 O (fun g10_7=>w O O) O<|B 44 O (fun g10_7=>yL O O O) O<|B 45 O (fun g10_7=>w O O) O<|rLz [] O P T (fun g10_10=>w O O) O<|rLz [(47,_)] O P ⟨O,O,T⟩ (fun g10_10=>zBa O O O) O<|B 46 O (fun g10_7=>kU O O O (fun h=>kE (by assumption) h) O) O<|r_or O (fun h=>(lzf h))<|A O<|A O<|G<|o<|p (J O) (J O) ?_
   obtain ⟨S,hS,s0,s1,s2,s3⟩:=zRx (z:=b*c) ha
   rw [←hS,s3] at c1
   rw [←hS]
   clear hS
   unfold r64 at ha
   exact zRy s0 s1 (by generalize b*c=z at *;omega)
theorem ref14_scales (l:Lf) (by_:Int) (hl:l.L.length<=4294967296) (hr:l.rng) (hb:r64 by_):
    Pur cfg 185 [vLin l,vI by_] (vB (decide (r64 (l.K*by_))&&scaleOk by_ l.L)):=by
 refine zT Tryz.func185 O Tryz.ntmps185 Tryz.results185 O ?_
 intro z hz
 have z0:r64 0:=by unfold r64;omega
 refine F O<|zX O O (qN O O) ?_
 rintro _ _ ⟨b1,rfl,rfl⟩
 refine A O<|G<|zJ<|F O<|zH O zCg<|zM W (R 0 O) O<|A O<|qI O ok204 (zEt 0 l.K by_ z0 hr.1 hb) ⟨H,O,H,O,H,O,T⟩<|qO O<|qU O<|qU O<|A O<|A O<|G<|F O<|A O<|kO O<|G<|zD O (fun c1=>?_) (fun c1=>?_)
 ·try simp only [I] at c1
  rw [Int.zero_add] at c1
  refine F O<|A O<|G<|o<|X O ?_
  rw [decide_eq_false c1];rfl
 ·try simp only [I] at c1
  rw [Int.zero_add] at c1
  refine zK<|zJ<|F O<|A O<|G<|zR<|zY ⟨[(7,.c _),(1,.c _),(2,.c _)],[_]⟩ (Weak.mk [true] ⟨H,H,H,T⟩ O)<|qK 1 0 O O (Nat) (fun k=>[(7,vI k)]) (fun k=>[]) (fun k=>k<=l.L.length/\(scaleOk by_ (l.L.take k)=true)) (fun k=>l.L.length-k) ⟨0,⟨by omega,O⟩,Weak.mk [true] ⟨H,H,H,T⟩ O⟩ ?_
  rintro k ⟨hk,hp⟩
  refine zJ<|F O<|A O<|zH O yT<|zM wE (R 0 O) O<|qC O N<|yD O<|G<|zD O (fun c2=>?_) (fun c2=>?_)
  ·try simp only [I] at c2
   obtain ⟨x,hx⟩:=qV l.L k (by omega)
   refine zK<|zJ<|zR<|F O<|zH O yT<|zM wE (R 0 O) O<|A O<|qD O N (by omega) (Q (by assumption))<|qP O zDd<|zM W qA O<|A O<|qI O ok204 (zEt 0 x.By by_ z0 (hr.2 x (qB hx)) hb) ⟨H,O,H,O,H,O,T⟩<|qO O<|qU O<|qU O<|A O<|A O<|G<|F O<|A O<|kO O<|G<|zD O (fun c3=>?_) (fun c3=>?_)
   ·try simp only [I] at c3
    rw [Int.zero_add] at c3
    refine F O<|A O<|G<|o<|X O ?_
    rw [scaleOk_no hx c3,Bool.and_false]
   ·try simp only [I] at c3
    rw [Int.zero_add] at c3
    refine zK<|zQ O<|A O<|qJ O ⟨by omega,by omega⟩<|A O<|G ?_
    refine ⟨k+1,⟨by omega,scaleOk_next hx hp c3⟩,(by omega),Weak.mk [true] ⟨H,H,H,T⟩ O⟩
  ·try simp only [I] at c2
   refine qQ<|F O<|A O<|G<|o<|X O ?_
   rw [yO (by omega)] at hp
   rw [hp,decide_eq_true c1];rfl
end Go.W
end
