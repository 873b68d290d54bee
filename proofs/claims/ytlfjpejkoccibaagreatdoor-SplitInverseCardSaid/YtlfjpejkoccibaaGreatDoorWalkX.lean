/-
  Walks: what functions of the program compute. Printed by wip/gen/mk2.py.
  Walks: what functions of the program compute. Printed by wip/gen/mk2.py.
  Walks: what functions of the program compute. Printed by wip/gen/mk2.py.
  Conditions: none.
-/
import Derived.Test.YtlfjpejkoccibaaGreatDoorWV
import Derived.Test.YtlfjpejkoccibaaGreatDoorPlain2
import Derived.Test.YtlfjpejkoccibaaGreatDoorEngZ
set_option linter.unusedSimpArgs false
set_option linter.unusedVariables false
section
set_option maxRecDepth 10000
namespace Go.W
open Go Go.Eng Go.Proofs Go.L41 Go.Br
attribute [local irreducible] AWP RWP TD finQ
theorem ik2:intT Tryz.prog 2=some .i64:=by kernel_rfl
theorem ok103:callOk Tryz.prog 103=true:=by kernel_rfl
theorem ok145:callOk Tryz.prog 145=true:=by kernel_rfl
theorem ok146:callOk Tryz.prog 146=true:=by kernel_rfl
theorem sz39:(Tryz.prog.info? 39).map (·.size)=some 1:=by kernel_rfl
theorem us180:(Tryz.prog.underlying 180).isSome=true:=by kernel_rfl
theorem lin_plus (a b:Int) (ha:r64 a) (hb:r64 b):
    Pur cfg 105 [vI a,vI b] (.tup [vI (w64 (a+b)),vB (decide (r64 (a+b)))]):=by
 refine zQ Tryz.func105 O Tryz.ntmps105 Tryz.results105 O ?_
 intro z hz
 refine F O<|A O<|A O<|H<|F O<|A O<|A O<|zR O (zJh O O O)<|A O<|H<|F O<|A O<|A O<|A O<|zR O (yW O O O)<|A O<|zR O (yW O O O)<|zR O (det_beql O un4 O O)<|A O<|A O<|H<|o<|p (N O) (N O) ?_
 rw [←plus_ok ha hb];rfl
theorem zKm (x:Int) (hx:r64 x):
    Pur cfg 146 [vI x] (vUn x.natAbs):=by
 refine zQ Tryz.func146 O Tryz.ntmps146 Tryz.results146 O ?_
 intro z hz
 refine F O<|A O<|H<|zI<|F O<|A O<|yN O<|H<|zD O (fun c1=>?_) (fun c1=>?_)
 ·try simp only [I] at c1
  refine F O<|A O<|zR O (zCh O us2 ik180 O)<|zR O (det_neg O O)<|A O<|H<|o<|X O ?_
  exact congrArg (fun n=>V.c (.lit (.int .u64 n))) (magn_neg hx c1)
 ·try simp only [I] at c1
  refine zH<|F O<|A O<|zR O (zCh O us2 ik180 O)<|A O<|H<|o<|X O ?_
  exact congrArg (fun n=>V.c (.lit (.int .u64 n))) (magn_pos hx (by omega))
theorem lin_product (a b:Nat) (ha:a<18446744073709551616) (hb:b<18446744073709551616):
    Pur cfg 145 [vUn a,vUn b] (.tup [vUn (hiN a b),vUn (a*b%18446744073709551616)]):=by
 refine zQ Tryz.func145 O Tryz.ntmps145 Tryz.results145 O ?_
 intro z hz
 obtain ⟨p1,p2,p3,p4⟩:=part_le ha hb
 obtain ⟨q1,q2,q3,q4⟩:=hi_bounds ha hb
 refine F O<|A O<|A O<|H<|F O<|A O<|zR O (zKy O O O ha)<|A O<|zR O (zKy O O O hb)<|zR O (zOc O O O (by omega))<|A O<|H<|F O<|A O<|zR O (zFx O O O )<|A O<|zR O (zKy O O O hb)<|zR O (zOc O O O (by omega))<|A O<|zR O (zFx O O O )<|zR O (zOd O O O q1)<|A O<|H<|F O<|A O<|zR O (zKy O O O ha)<|A O<|zR O (zFx O O O )<|zR O (zOc O O O (by omega))<|A O<|zR O (zKy O O O q1)<|zR O (zOd O O O q2)<|A O<|H<|F O<|A O<|zR O (zFx O O O )<|A O<|zR O (zFx O O O )<|zR O (zOc O O O (by omega))<|A O<|zR O (zFx O O O )<|zR O (zOd O O O q3)<|A O<|zR O (zFx O O O )<|zR O (zOd O O O q4)<|A O<|A O<|zR O (det_umod O O O )<|A O<|A O<|H<|o<|p (N O) (N O) ?_
 exact O
theorem lin_times (x y:Int) (hx:r64 x) (hy:r64 y):
    Pur cfg 103 [vI x,vI y] (.tup [vI (timesT x y).1,vB (timesT x y).2]):=by
 refine zQ Tryz.func103 O Tryz.ntmps103 Tryz.results103 O ?_
 intro z hz
 have hm1:=magn_le hx
 have hm2:=magn_le hy
 refine F O<|A O<|A O<|H<|F O<|A O<|qG O ok146 (zKm x hx) ⟨G,O,T⟩<|A O<|qG O ok146 (zKm y hy) ⟨G,O,T⟩<|qG O ok145 (lin_product x.natAbs y.natAbs (by omega) (by omega)) ⟨G,O,G,O,T⟩<|qN O<|qU O<|qU O<|A O<|A O<|H<|F O<|A O<|yN O<|A O<|yN O<|zR O (det_bneq O un4 O O)<|A O<|H<|zI<|zS<|F O<|A O<|yP O<|A O<|M O (fun g3_2=>w O O) O<|B 26 O (fun g3_2=>yW O O O) O<|j O (fun h=>(lzf h))<|A O<|M O (fun g3_6=>w O O) O<|B 30 O (fun g3_6=>yX O O O) O<|B 31 O (fun g3_6=>w O O) O<|rLz [] O gv2 T (fun g3_9=>w O O) O<|rLz [(33,_)] O gv2 ⟨O,O,T⟩ (fun g3_9=>wC O O) O<|B 32 O (fun g3_6=>wX O O O (fun h=>kK (by assumption) h) O) O<|j O (fun h=>(lzf h))<|A O<|H<|zD O (fun c1=>?_) (fun c1=>?_)
 ·try simp only [I] at c1
  refine F O<|A O<|A O<|H<|o<|p (N O) (N O) ?_
  rw [times_f hx hy c1]
 ·try simp only [I] at c1
  refine F O<|A O<|A O<|H<|zD O (fun c2=>?_) (fun c2=>?_)
  ·try simp only [I] at c2
   refine F O<|A O<|zR O (det_neg O O)<|zR O (zCh O us180 ik2 O)<|A O<|A O<|H<|o<|p (N O) (N O) ?_
   rw [times_neg c2 (by have:=c1.1.1;omega) (by have:=c1.1.2;omega)]
  ·try simp only [I] at c2
   refine zH<|F O<|A O<|zR O (zCh O us180 ik2 O)<|A O<|A O<|H<|o<|p (N O) (N O) ?_
   have hlt:x.natAbs*y.natAbs%18446744073709551616<9223372036854775808:=by
     have h1:=c1.1.2
     rcases c1.2 with h|h
     · omega
     · rw [c2] at h;cases h
   rw [times_pos c2 (by have:=c1.1.1;omega) hlt]
theorem zPy (l:Lf) (by_:Int) (hl:l.L.length<=4294967296) (hr:l.rng) (hb:r64 by_):
    Pur cfg 51 [vLin l,vI by_] (.tup [vLin (scaleL l by_).1,vI (scaleL l by_).2]):=by
 refine zQ Tryz.func51 O Tryz.ntmps51 Tryz.results51 O ?_
 intro z hz
 refine F O<|zU O O (qL O O) ?_
 rintro _ _ ⟨b1,rfl,rfl⟩
 refine zU O O (qC [none,some 2] O zr41 O) ?_
 rintro _ _ ⟨b2,rfl,rfl⟩
 refine A O<|H<|zI<|F O<|zO kE (R 1 O) O<|qG O ok102 (zBs l (by omega)) ⟨G,O,T⟩<|yP O<|H<|zD O (fun c1=>?_) (fun c1=>?_)
 ·try simp only [I] at c1
  have hl0:=linErr_no c1
  refine F O<|qV [none,some 2] O zr41 pl41<|D 0 sz41 O<|A O<|H<|o<|p (y kE O (R 0 O) O) (N O) ?_
  rw [scale_bad hl0];rfl
 ·try simp only [I] at c1
  have hl1:=zMe c1
  refine zH<|zI<|F O<|A O<|yZ O<|H<|zD O (fun c2=>?_) (fun c2=>?_)
  ·try simp only [I] at c2
   refine F O<|qV [none,some 2] O zr41 pl41<|D 0 sz41 O<|A O<|H<|o<|p (y kE O (R 0 O) O) (N O) ?_
   rw [scale_zero hl1 c2];rfl
  ·try simp only [I] at c2
   refine zH<|F O<|zJ O zGd<|zK n (R 1 O) O<|A O<|qG O ok103 (lin_times l.K by_ hr.1 hb) ⟨G,O,G,O,T⟩<|qN O<|qU O<|qU O<|A O<|A O<|H<|F O<|A O<|yS O zr41 pl41<|zU O O (yV O zr41) ?_
   rintro _ _ ⟨b3,rfl,rfl⟩
   refine yJ _ (wL 69 2)<|D 1 sz41 O<|H<|zI<|F O<|zJ O wU<|zK zDl (R 3 O) O<|qB O P<|A O<|H<|zS<|zV ⟨[(32,.c _),(7,.c _),(1,.c _),(4,.c _),(8,.c _),(30,.c _),(31,.c _)],[_,_,_]⟩ (Weak.mk [true,true,true,false] ⟨G,G,G,G,G,G,G,T⟩ O)<|qO 2 2 O O (Nat×Value) (fun ⟨k,sv⟩=>[(32,vI k),(7,vB ((timesT l.K by_).2&&scaleB by_ (l.L.take k)))]) (fun ⟨k,sv⟩=>[E.vec sv 69 2 ((scaleW by_ (l.L.take k)).map Mono.cells),E.row b3 41 [cI (timesT l.K by_).1,.lit sv]]) (fun ⟨k,sv⟩=>k<=l.L.length) (fun ⟨k,sv⟩=>l.L.length-k) ⟨⟨0,_⟩,(by omega),Weak.mk [true,true,true] ⟨G,VLe.of_eq (by rw [show scaleB by_ (l.L.take 0)=true from rfl,Bool.and_true];rfl),G,G,G,G,G,T⟩ O⟩ ?_
   rintro ⟨k,sv⟩ hk
   show AWP _ _ _ _ _ ⟨[(32,vI k),(7,vB ((timesT l.K by_).2&&scaleB by_ (l.L.take k)))]++_,[E.vec sv 69 2 ((scaleW by_ (l.L.take k)).map Mono.cells),E.row b3 41 [cI (timesT l.K by_).1,.lit sv]]++_⟩
   refine F O<|yN O<|H<|zI<|zD O (fun c3=>?_) (fun c3=>?_)
   ·try simp only [I] at c3
    obtain ⟨x,hx⟩:=qZ l.L k (by omega)
    refine zH<|zI<|zS<|F O<|qD O P (by omega) (v (by assumption))<|zO zMq qA O<|zU O O (yV O zr69) ?_
    rintro _ _ ⟨b5,rfl,rfl⟩
    refine D 0 sz69 O<|H<|F O<|zJ O zGc<|zK n (R 0 O) O<|A O<|qG O ok103 (lin_times x.By by_ (hr.2 x (zZ hx)) hb) ⟨G,O,G,O,T⟩<|qN O<|qU O<|qU O<|A O<|A O<|H<|F O<|A O<|A O<|M O (fun g11_1=>w O O) O<|kD O (fun h=>h)<|A O<|H<|zT O<|zJ O wU<|zK zDl (R 2 O) O<|zJ O zCe<|zK one9 (R 0 O) O<|A O<|yS O zr69 pl69<|zR O (qW O P zr69 O O O O)<|zU O O (yU 1 O P O O O (by simp only [List.length_map,List.length_append,List.length_cons,List.length_nil,scaleW_len,List.length_take];omega) (by simp only [List.length_map,List.length_append,List.length_cons,List.length_nil,scaleW_len,List.length_take];omega)) ?_
    rintro _ _ ⟨sv6,rfl,rfl⟩
    refine zJ O wU<|D 2 sz39 O<|H<|zT O<|qK O ⟨by omega,by omega⟩<|A O<|H ?_
    refine ⟨⟨k+1,sv6⟩,(by omega),(by show l.L.length-(k+1)<l.L.length-k;omega),Weak.mk [false,true,true,true] ⟨G,VLe.of_eq (by rw [scaleB_next hx,←Bool.and_assoc];rfl),G,G,G,G,G,T⟩ (by show _=[E.vec sv6 _ 2 ((scaleW by_ (l.L.take (k+1))).map Mono.cells),E.row b3 _ [cI (timesT l.K by_).1,.lit sv6]]++_;rw [scaleW_next hx,List.map_append];rfl)⟩
   ·try simp only [I] at c3
    rw [kG (l:=l.L) (k:=k) (by omega)]
    refine qQ<|zI<|F O<|A O<|kY O<|H<|zD O (fun c4=>?_) (fun c4=>?_)
    ·try simp only [I] at c4
     refine F O<|qV [none,some 2] O zr41 pl41<|D 2 sz41 O<|A O<|H<|o<|p (y kE O (R 2 O) O) (N O) ?_
     rw [scale_no hl1 c2 c4];rfl
    ·try simp only [I] at c4
     refine zH<|F O<|zO kE (R 1 O) O<|D 2 sz41 O<|A O<|H<|zV _ (yY 0 O (regs':=[(60,.agg [_,_])]) (μ':=[_,_]) ⟨FLe.agg ⟨.inl O,.inr ⟨O,O⟩,T⟩,T⟩ ⟨EFle.row (ds:=[_,_]) ⟨.inl O,.inr ⟨O,O⟩,T⟩,EFle.row (ds:=[_,_]) ⟨.inl O,.inr ⟨O,O⟩,T⟩,T⟩)<|o<|p (y kE O (R 1 O) O) (N O) ?_
     rw [scale_ok hl1 c2 c4];rfl
end Go.W
end
section
set_option maxRecDepth 10000
namespace Go.W
open Go Go.Eng Go.Proofs Go.L41 Go.Br
attribute [local irreducible] AWP RWP TD finQ
theorem ok51:callOk Tryz.prog 51=true:=by kernel_rfl
theorem ok53:callOk Tryz.prog 53=true:=by kernel_rfl
theorem ok105:callOk Tryz.prog 105=true:=by kernel_rfl
theorem ok106:callOk Tryz.prog 106=true:=by kernel_rfl
theorem ok107:callOk Tryz.prog 107=true:=by kernel_rfl
theorem one4:oneT Tryz.prog 4=true:=by kernel_rfl
theorem sz2:(Tryz.prog.info? 2).map (·.size)=some 1:=by kernel_rfl
theorem sz4:(Tryz.prog.info? 4).map (·.size)=some 1:=by kernel_rfl
theorem zr4:zeroT Tryz.prog 4=some [(Value.bool false)]:=by kernel_rfl
theorem merge_con (a0 b0:List Mono) (ha0:a0.length<=4294967296) (hb0:b0.length<=4294967296):
    ∀(y:C) (J:List Tr->List E->Prop) (μ:List E),(∀d t s m,mergeL a0 b0=d++t::s->J d m->FnCon cfg y [vS t.1,vI t.2.1,vI t.2.2] m fun r m'=>r=.tup []/\J (d++[t]) m')->J [] μ->Con cfg 106 [.c (.sl 2 (a0.map Mono.cells)),.c (.sl 2 (b0.map Mono.cells)),.c y] μ fun r μ'=>r=.tup []/\J (mergeL a0 b0) μ':=by
 intro y J μ hy h0
 refine zQ Tryz.func106 O Tryz.ntmps106 Tryz.results106 O ?_
 intro z hz
 refine zS<|zV ⟨[(0,.c _),(1,.c _),(2,.c _)],_⟩ (Weak.regs ⟨G,G,G,T⟩)<|zBv 2 O (List Mono×List Mono×List Tr×List E) (fun ⟨a,b,d,m⟩=>[(0,.c (.sl 2 (a.map Mono.cells))),(1,.c (.sl 2 (b.map Mono.cells)))]) (fun ⟨a,b,d,m⟩=>m) (fun ⟨a,b,d,m⟩=>a.length<=4294967296/\b.length<=4294967296/\mergeL a0 b0=d++mergeL a b/\J d m) (fun ⟨a,b,d,m⟩=>a.length+b.length) ⟨⟨a0,b0,[],μ⟩,⟨ha0,hb0,O,h0⟩,Weak.regs ⟨G,G,G,T⟩⟩ ?_
 rintro ⟨a,b,d,m⟩ ⟨hal,hbl,hm,hJ⟩
 refine zI<|F O<|A O<|qB O P<|zR O (yW O O O)<|A O<|M O (fun g0_3=>w O O) O<|B 10 O (fun g0_3=>yE O P O) O<|B 11 O (fun g0_3=>yW O O O) O<|j O (fun h=>(lzf h))<|H<|zD O (fun c1=>?_) (fun c1=>?_)
 ·try simp only [I] at c1
  refine zH<|zS<|zS<|zI<|qY 20 mixed (by kernel_rfl) O O<|Y O O (w O O)<|Y O O (yE O P O)<|Y O O (yX O O O)<|Y O O (w O O)<|i [] O O O O gv1 T (fun g3_3=>w O O) O<|i [(37,_)] O O O O gv1 ⟨O,O,T⟩ (fun g3_3=>yE O P O) O<|i [(38,_)] O O O O gv1 ⟨O,O,T⟩ (fun g3_3=>yW O O O) O<|i [(39,_)] O O O O gv1 ⟨O,O,T⟩ (fun g3_3=>w O O) O<|i [] O O O O gv2 T (fun g3_7=>w O O) O<|i [(41,_)] O O O O gv2 ⟨O,O,T⟩ (fun g3_7=>qE O P O O (by simp only [Lz,cond_true,cond_false,Bool.and_eq_true,Bool.or_eq_true,Bool.not_eq_true',Bool.not_eq_false',Bool.or_eq_false_iff,Bool.and_eq_false_iff,decide_eq_true_eq,decide_eq_false_iff_not,Bool.not_eq_true,Bool.not_eq_false] at g3_7;omega) (v (zHf (by simp only [Lz,cond_true,cond_false,Bool.and_eq_true,Bool.or_eq_true,Bool.not_eq_true',Bool.not_eq_false',Bool.or_eq_false_iff,Bool.and_eq_false_iff,decide_eq_true_eq,decide_eq_false_iff_not,Bool.not_eq_true,Bool.not_eq_false] at g3_7;omega)))) O<|i [(42,_)] O O O O gv2 ⟨O,O,T⟩ (fun g3_7=>qJ O zCe O) O<|i [(43,_)] O O O O gv2 ⟨O,O,T⟩ (fun g3_7=>Q O one9 O qA O) O<|i [] O O O O gv2 T (fun g3_7=>w O O) O<|i [(45,_)] O O O O gv2 ⟨O,O,T⟩ (fun g3_7=>qE O P O O (by simp only [Lz,cond_true,cond_false,Bool.and_eq_true,Bool.or_eq_true,Bool.not_eq_true',Bool.not_eq_false',Bool.or_eq_false_iff,Bool.and_eq_false_iff,decide_eq_true_eq,decide_eq_false_iff_not,Bool.not_eq_true,Bool.not_eq_false] at g3_7;omega) (v (zHf (by simp only [Lz,cond_true,cond_false,Bool.and_eq_true,Bool.or_eq_true,Bool.not_eq_true',Bool.not_eq_false',Bool.or_eq_false_iff,Bool.and_eq_false_iff,decide_eq_true_eq,decide_eq_false_iff_not,Bool.not_eq_true,Bool.not_eq_false] at g3_7;omega)))) O<|i [(46,_)] O O O O gv2 ⟨O,O,T⟩ (fun g3_7=>qJ O zCe O) O<|i [(47,_)] O O O O gv2 ⟨O,O,T⟩ (fun g3_7=>Q O one9 O qA O) O<|i [(44,_),(48,_)] O O O O gv2 ⟨O,O,O,O,T⟩ (fun g3_7=>det_slss O O O) O<|i [(40,_)] O O O O gv1 ⟨O,O,T⟩ (fun g3_3=>wX O O O (fun h=>kK (by assumption) h) O) O<|Y O O (zDh O O O O (fun h=>(lzf h)))<|Y O O (yC O O)<|kH<|H<|zD O (fun c2=>?_) (fun c2=>?_)
  ·have hL:=merge_left (by omega) c2
   have hdec:(a.drop 1).length+(b).length<a.length+b.length:=by simp only [List.length_drop];omega
   have hm1:mergeL a0 b0=(d++[((hdM a).Name,(hdM a).By,0)])++mergeL (a.drop 1) (b):=by rw [hm,hL.2];simp
   refine zI<|qY 9 mixed (by kernel_rfl) O O<|Y O O (w O O)<|Y O O (w O O)<|Y O O (qE O P O O (by omega) (v (zHf (by omega))))<|Y O O (qJ O zCe O)<|Y O O (Q O one9 O qA O)<|Y O O (w O O)<|Y O O (qE O P O O (by omega) (v (zHf (by omega))))<|Y O O (qJ O zGc O)<|Y O O (Q O n O qA O)<|kH<|zU O O (wG O O (hy d ((hdM a).Name,(hdM a).By,0) _ m (by rw [hm1,List.append_assoc];rfl) hJ) ⟨G,O,G,O,G,O,T⟩) ?_
   rintro _ m1 ⟨rfl,hJ1⟩
   refine H<|zT O<|A O<|zR O (zAr (k:=1) O P O O (by omega))<|A O<|H ?_
   refine ⟨⟨_,_,_,_⟩,⟨by first|omega|(simp only [List.length_drop];omega),by first|omega|(simp only [List.length_drop];omega),hm1,hJ1⟩,hdec,Weak.regs ⟨G,G,G,T⟩⟩
  ·have hb1:=mC2_b c2
   refine zI<|qY 15 mixed (by kernel_rfl) O O<|Y O O (w O O)<|Y O O (yE O P O)<|Y O O (yX O O O)<|Y O O (w O O)<|i [] O O O O gv1 T (fun g6_3=>w O O) O<|i [(69,_)] O O O O gv1 ⟨O,O,T⟩ (fun g6_3=>qE O P O O (by simp only [Lz,cond_true,cond_false,Bool.and_eq_true,Bool.or_eq_true,Bool.not_eq_true',Bool.not_eq_false',Bool.or_eq_false_iff,Bool.and_eq_false_iff,decide_eq_true_eq,decide_eq_false_iff_not,Bool.not_eq_true,Bool.not_eq_false] at g6_3;omega) (v (zHf (by simp only [Lz,cond_true,cond_false,Bool.and_eq_true,Bool.or_eq_true,Bool.not_eq_true',Bool.not_eq_false',Bool.or_eq_false_iff,Bool.and_eq_false_iff,decide_eq_true_eq,decide_eq_false_iff_not,Bool.not_eq_true,Bool.not_eq_false] at g6_3;omega)))) O<|i [(70,_)] O O O O gv1 ⟨O,O,T⟩ (fun g6_3=>qJ O zCe O) O<|i [(71,_)] O O O O gv1 ⟨O,O,T⟩ (fun g6_3=>Q O one9 O qA O) O<|i [] O O O O gv1 T (fun g6_3=>w O O) O<|i [(73,_)] O O O O gv1 ⟨O,O,T⟩ (fun g6_3=>qE O P O O (by simp only [Lz,cond_true,cond_false,Bool.and_eq_true,Bool.or_eq_true,Bool.not_eq_true',Bool.not_eq_false',Bool.or_eq_false_iff,Bool.and_eq_false_iff,decide_eq_true_eq,decide_eq_false_iff_not,Bool.not_eq_true,Bool.not_eq_false] at g6_3;omega) (v (zHf (by simp only [Lz,cond_true,cond_false,Bool.and_eq_true,Bool.or_eq_true,Bool.not_eq_true',Bool.not_eq_false',Bool.or_eq_false_iff,Bool.and_eq_false_iff,decide_eq_true_eq,decide_eq_false_iff_not,Bool.not_eq_true,Bool.not_eq_false] at g6_3;omega)))) O<|i [(74,_)] O O O O gv1 ⟨O,O,T⟩ (fun g6_3=>qJ O zCe O) O<|i [(75,_)] O O O O gv1 ⟨O,O,T⟩ (fun g6_3=>Q O one9 O qA O) O<|i [(72,_),(76,_)] O O O O gv1 ⟨O,O,O,O,T⟩ (fun g6_3=>det_slss O O O) O<|Y O O (zDh O O O O (fun h=>(lzf h)))<|Y O O (yC O O)<|kH<|H<|zD O (fun c3=>?_) (fun c3=>?_)
   ·have hL:=merge_right (by omega) c2 c3
    have hdec:(a).length+(b.drop 1).length<a.length+b.length:=by simp only [List.length_drop];omega
    have hm1:mergeL a0 b0=(d++[((hdM b).Name,0,(hdM b).By)])++mergeL (a) (b.drop 1):=by rw [hm,hL.2];simp
    refine zI<|qY 9 mixed (by kernel_rfl) O O<|Y O O (w O O)<|Y O O (w O O)<|Y O O (qE O P O O (by omega) (v (zHf (by omega))))<|Y O O (qJ O zCe O)<|Y O O (Q O one9 O qA O)<|Y O O (w O O)<|Y O O (qE O P O O (by omega) (v (zHf (by omega))))<|Y O O (qJ O zGc O)<|Y O O (Q O n O qA O)<|kH<|zU O O (wG O O (hy d ((hdM b).Name,0,(hdM b).By) _ m (by rw [hm1,List.append_assoc];rfl) hJ) ⟨G,O,G,O,G,O,T⟩) ?_
    rintro _ m1 ⟨rfl,hJ1⟩
    refine H<|zT O<|A O<|zR O (zAr (k:=1) O P O O (by omega))<|A O<|H ?_
    refine ⟨⟨_,_,_,_⟩,⟨by first|omega|(simp only [List.length_drop];omega),by first|omega|(simp only [List.length_drop];omega),hm1,hJ1⟩,hdec,Weak.regs ⟨G,G,G,T⟩⟩
   ·have hL:=merge_both c2 c3
    have hdec:(a.drop 1).length+(b.drop 1).length<a.length+b.length:=by simp only [List.length_drop];omega
    have hm1:mergeL a0 b0=(d++[((hdM a).Name,(hdM a).By,(hdM b).By)])++mergeL (a.drop 1) (b.drop 1):=by rw [hm,hL.2.2];simp
    refine zI<|qY 13 mixed (by kernel_rfl) O O<|Y O O (w O O)<|Y O O (w O O)<|Y O O (qE O P O O (by omega) (v (zHf (by omega))))<|Y O O (qJ O zCe O)<|Y O O (Q O one9 O qA O)<|Y O O (w O O)<|Y O O (qE O P O O (by omega) (v (zHf (by omega))))<|Y O O (qJ O zGc O)<|Y O O (Q O n O qA O)<|Y O O (w O O)<|Y O O (qE O P O O (by omega) (v (zHf (by omega))))<|Y O O (qJ O zGc O)<|Y O O (Q O n O qA O)<|kH<|zU O O (wG O O (hy d ((hdM a).Name,(hdM a).By,(hdM b).By) _ m (by rw [hm1,List.append_assoc];rfl) hJ) ⟨G,O,G,O,G,O,T⟩) ?_
    rintro _ m1 ⟨rfl,hJ1⟩
    refine H<|qY 6 mixed (by kernel_rfl) O O<|Y O O (w O O)<|Y O O (zAr (k:=1) O P O O (by omega))<|Y O O (w O O)<|Y O O (zAr (k:=1) O P O O (by omega))<|Y O O (yC O O)<|Y O O (yC O O)<|kH<|H ?_
    refine ⟨⟨_,_,_,_⟩,⟨by first|omega|(simp only [List.length_drop];omega),by first|omega|(simp only [List.length_drop];omega),hm1,hJ1⟩,hdec,Weak.regs ⟨G,G,G,T⟩⟩
 ·try simp only [I] at c1
  refine qQ ?_
  repeat (first|refine zGk ?_|refine zFb ?_)
  refine zQl<|fin0 ?_
  exact ⟨O,by rw [hm,show a=[] from List.eq_nil_of_length_eq_zero (by omega),show b=[] from List.eq_nil_of_length_eq_zero (by omega),mergeL_nil,List.append_nil];exact hJ⟩
theorem lin_Add_1 (bo bl:Nat) (ok:Bool) (K:Int) (sv:Value) (d:List Tr) (t:Tr) (h1:r64 t.2.1) (h2:r64 t.2.2) (hd:d.length<=8589934592):
    Con cfg 107 [vS t.1,vI t.2.1,vI t.2.2,.c (.lit (.pointer (some ⟨bo,0,none⟩))),.c (.lit (.pointer (some ⟨bl,0,none⟩)))] [E.row bo 4 [cB (okF ok (d))],E.vec sv 69 2 ((sumW (d)).map Mono.cells),E.row bl 41 [cI K,.lit sv]] fun r μ'=>r=.tup []/\∃sv',μ'=[E.row bo 4 [cB (okF ok (d++[t]))],E.vec sv' 69 2 ((sumW (d++[t])).map Mono.cells),E.row bl 41 [cI K,.lit sv']]:=by
 refine zQ Tryz.func107 O Tryz.ntmps107 Tryz.results107 O ?_
 intro z hz
 refine F O<|A O<|A O<|qG O ok105 (lin_plus t.2.1 t.2.2 h1 h2) ⟨G,O,G,O,T⟩<|qN O<|qU O<|qU O<|A O<|A O<|H<|F O<|zK one4 (R 0 O) O<|A O<|M O (fun g1_1=>w O O) O<|kD O (fun h=>h)<|D 0 sz4 O<|H<|F O<|A O<|yP O<|H<|zD O (fun c1=>?_) (fun c1=>?_)
 ·try simp only [I] at c1
  refine zT O<|zJ O wU<|zK zDl (R 2 O) O<|A O<|A O<|yS O zr69 pl69<|zR O (qW O P zr69 O O O O)<|zU O O (yU 1 O P O O O (by have:=zNq d;simp only [List.length_map,List.length_append,List.length_cons,List.length_nil];omega) (by have:=zNq d;simp only [List.length_map,List.length_append,List.length_cons,List.length_nil];omega)) ?_
  rintro _ _ ⟨sv1,rfl,rfl⟩
  refine zJ O wU<|D 2 sz39 O<|H ?_
  repeat (first|refine zGk ?_|refine zFb ?_)
  refine zQl<|fin0 ?_
  exact ⟨O,_,by rw [okF_next,sumW_next,if_neg (show ¬w64 (trV t)=0 from c1),List.map_append];rfl⟩
 ·try simp only [I] at c1
  refine zH ?_
  repeat (first|refine zGk ?_|refine zFb ?_)
  refine zQl<|fin0 ?_
  exact ⟨O,_,by rw [okF_next,sumW_next,if_pos (show w64 (trV t)=0 from c1),List.append_nil];rfl⟩
theorem lin_Add (a b:Lf) (ha:a.L.length<=4294967296) (hb:b.L.length<=4294967296) (hra:a.rng) (hrb:b.rng):
    Pur cfg 53 [vLin a,vLin b] (.tup [vLin (addL a b).1,vI (addL a b).2]):=by
 refine zQ Tryz.func53 O Tryz.ntmps53 Tryz.results53 O ?_
 intro z hz
 refine F O<|zU O O (qL O O) ?_
 rintro _ _ ⟨b1,rfl,rfl⟩
 refine zU O O (qL O O) ?_
 rintro _ _ ⟨b2,rfl,rfl⟩
 refine zU O O (qC [none,some 2] O zr41 O) ?_
 rintro _ _ ⟨b3,rfl,rfl⟩
 refine A O<|H<|zI<|F O<|zO kE (R 2 O) O<|qG O ok102 (zBs a (by omega)) ⟨G,O,T⟩<|yP O<|A O<|M O (fun g1_3=>zX O kE O (R 1 O) O) O<|B 12 O (fun g1_3=>qI O ok102 (zBs b (by omega)) ⟨G,O,T⟩) O<|B 13 O (fun g1_3=>kT O O O) O<|j O (fun h=>(lzf h))<|H<|zD O (fun c1=>?_) (fun c1=>?_)
 ·try simp only [I] at c1
  refine F O<|qV [none,some 2] O zr41 pl41<|D 0 sz41 O<|A O<|H<|o<|p (y kE O (R 0 O) O) (N O) ?_
  rw [add_c1 c1];rfl
 ·try simp only [I] at c1
  have hla:=zMe c1.1
  have hlb:=zMe c1.2
  refine zH<|F O<|zU O O (yV O zr41) ?_
  rintro _ _ ⟨b4,rfl,rfl⟩
  refine yJ _ (wL 69 2)<|H<|F O<|zU O O (yV O zr4) ?_
  rintro _ _ ⟨b6,rfl,rfl⟩
  refine H<|F O<|zJ O zGd<|zK n (R 5 O) O<|zJ O zGd<|zK n (R 4 O) O<|qG O ok105 (lin_plus a.K b.K hra.1 hrb.1) ⟨G,O,G,O,T⟩<|qN O<|qU O<|qU O<|zJ O zGd<|D 2 sz2 O<|D 0 sz4 O<|H<|F O<|zJ O wU<|zK zDl (R 5 O) O<|zJ O wU<|zK zDl (R 4 O) O<|zR O (zCx O O O O O)<|zU O O (zAb O ok106 (Con.frame (merge_con a.L b.L ha hb _ (fun d m=>∃sv,m=[E.row b6 4 [cB (okF (decide (r64 (a.K+b.K))) (d))],E.vec sv 69 2 ((sumW (d)).map Mono.cells),E.row b4 41 [cI (w64 (a.K+b.K)),.lit sv]]) _ (fun d t s m he hj=>by obtain ⟨sv,rfl⟩:=hj;obtain ⟨k1,k2,k3⟩:=merge_rng hra.2 hrb.2 he;exact FnCon.of_con (first:=[]) (cap:=[.lit (.pointer (some ⟨b6,0,none⟩)),.lit (.pointer (some ⟨b4,0,none⟩))]) ok107 (lin_Add_1 b6 b4 (decide (r64 (a.K+b.K))) (w64 (a.K+b.K)) sv d t k1 k2 (by omega))) ⟨_,O⟩) _) ⟨G,O,G,O,G,O,T⟩) ?_
  rintro _ _ ⟨_,⟨rfl,sv7,rfl⟩,rfl⟩
  refine H<|zI<|F O<|zK one4 (R 0 O) O<|kY O<|H<|zD O (fun c2=>?_) (fun c2=>?_)
  ·try simp only [I] at c2
   refine F O<|qV [none,some 2] O zr41 pl41<|D 3 sz41 O<|A O<|H<|o<|p (y kE O (R 3 O) O) (N O) ?_
   rw [add_no hla hlb c2];rfl
  ·try simp only [I] at c2
   refine zH<|F O<|zO kE (R 2 O) O<|D 3 sz41 O<|A O<|H<|zV _ (yY 1 O (regs':=[(35,.agg [_,_])]) (μ':=[_,_,_,_,_]) ⟨FLe.agg ⟨.inl O,.inr ⟨O,O⟩,T⟩,T⟩ ⟨EFle.refl _,EFle.row (ds:=[_,_]) ⟨.inl O,.inr ⟨O,O⟩,T⟩,EFle.row (ds:=[_,_]) ⟨.inl O,.inr ⟨O,O⟩,T⟩,EFle.refl _,EFle.refl _,T⟩)<|o<|p (y kE O (R 2 O) O) (N O) ?_
   rw [add_ok hla hlb c2];rfl
theorem lin_Substitute (l:Lf) (s:ByteArray) (u:Lf) (hl:l.L.length<=4294967296) (ht:u.L.length<=4294967296) (hrl:l.rng) (hrt:u.rng):
    Pur cfg 109 [vLin l,vS s,vLin u] (.tup [vLin (substP l s u).1,vI (substP l s u).2]):=by
 refine zQ Tryz.func109 O Tryz.ntmps109 Tryz.results109 O ?_
 intro z hz
 obtain ⟨hs1,hs2⟩:=zJx u (lastBy l.L s)
 obtain ⟨hr1,hr2⟩:=rest_rng hrl s
 refine F O<|zU O O (qL O O) ?_
 rintro _ _ ⟨b1,rfl,rfl⟩
 refine zU O O (qL O O) ?_
 rintro _ _ ⟨b2,rfl,rfl⟩
 refine zU O O (qC [none,some 2] O zr41 O) ?_
 rintro _ _ ⟨b3,rfl,rfl⟩
 refine A O<|H<|zI<|F O<|zO kE (R 2 O) O<|qG O ok102 (zBs l (by omega)) ⟨G,O,T⟩<|yP O<|A O<|M O (fun g1_3=>w O O) O<|B 18 O (fun g1_3=>qI O ok104 (zEj s) ⟨G,O,T⟩) O<|B 19 O (fun g1_3=>wC O O) O<|j O (fun h=>(lzf h))<|A O<|M O (fun g1_8=>zX O kE O (R 1 O) O) O<|B 23 O (fun g1_8=>qI O ok102 (zBs u (by omega)) ⟨G,O,T⟩) O<|B 24 O (fun g1_8=>kT O O O) O<|j O (fun h=>(lzf h))<|H<|zD O (fun c1=>?_) (fun c1=>?_)
 ·try simp only [I] at c1
  refine F O<|qV [none,some 2] O zr41 pl41<|D 0 sz41 O<|A O<|H<|o<|p (y kE O (R 0 O) O) (N O) ?_
  rw [subst_c1 c1];rfl
 ·try simp only [I] at c1
  refine zH<|F O<|zJ O zGd<|zK n (R 2 O) O<|yS O zr41 pl41<|zU O O (yV O zr41) ?_
  rintro _ _ ⟨b4,rfl,rfl⟩
  refine yJ _ (wL 69 2)<|D 1 sz41 O<|H<|F O<|A O<|H<|zI<|F O<|zJ O wU<|zK zDl (R 4 O) O<|qB O P<|A O<|H<|zS<|zV ⟨[(34,.c _),(9,.c _),(1,.c _),(5,.c _),(6,.c _),(8,.c _),(32,.c _),(33,.c _)],[_,_,_,_]⟩ (Weak.mk [true,true,true,true,false] ⟨G,G,G,G,G,G,G,G,T⟩ O)<|qO 2 2 O O (Nat×Value) (fun ⟨k,sv⟩=>[(34,vI k),(9,vI (lastBy (l.L.take k) s))]) (fun ⟨k,sv⟩=>[E.vec sv 69 2 (((l.L.take k).filter (fun m=> !decide (m.Name=s))).map Mono.cells),E.row b4 41 [cI l.K,.lit sv]]) (fun ⟨k,sv⟩=>k<=l.L.length) (fun ⟨k,sv⟩=>l.L.length-k) ⟨⟨0,_⟩,(by omega),Weak.mk [true,true,true,true] ⟨G,VLe.of_eq (O),G,G,G,G,G,G,T⟩ O⟩ ?_
  rintro ⟨k,sv⟩ hk
  show AWP _ _ _ _ _ ⟨[(34,vI k),(9,vI (lastBy (l.L.take k) s))]++_,[E.vec sv 69 2 (((l.L.take k).filter (fun m=> !decide (m.Name=s))).map Mono.cells),E.row b4 41 [cI l.K,.lit sv]]++_⟩
  refine F O<|yN O<|H<|zI<|zD O (fun c2=>?_) (fun c2=>?_)
  ·try simp only [I] at c2
   obtain ⟨x,hx⟩:=qZ l.L k (by omega)
   refine zH<|zI<|zS<|F O<|qD O P (by omega) (v (by assumption))<|zO zMq qA O<|zU O O (yV O zr69) ?_
   rintro _ _ ⟨b6,rfl,rfl⟩
   refine D 0 sz69 O<|H<|zI<|F O<|zJ O zCe<|zK one9 (R 0 O) O<|A O<|zR O (yM O O O)<|H<|zD O (fun c3=>?_) (fun c3=>?_)
   ·try simp only [I] at c3
    refine F O<|zJ O zGc<|zK n (R 0 O) O<|A O<|H<|qQ<|zT O<|qK O ⟨by omega,by omega⟩<|A O<|H ?_
    refine ⟨⟨k+1,_⟩,(by omega),(by show l.L.length-(k+1)<l.L.length-k;omega),Weak.mk [false,true,true,true,true] ⟨G,VLe.of_eq (by rw [zQf hx];first|(rw [if_pos c3];rfl)|(rw [if_neg c3];rfl)),G,G,G,G,G,G,T⟩ (by exact mem2c_eq (by rw [rest_next hx];first|(rw [if_pos c3,List.append_nil])|(rw [if_neg c3,List.map_append];rfl)))⟩
   ·try simp only [I] at c3
    refine zH<|zT O<|zJ O wU<|zK zDl (R 2 O) O<|zO zMq (R 0 O) O<|zR O (qW O P zr69 O O O O)<|zU O O (yU 1 O P O O O (by have:=List.length_filter_le (fun m:Mono=> !decide (m.Name=s)) (l.L.take k);simp only [List.length_map,List.length_append,List.length_cons,List.length_nil,List.length_take] at *;omega) (by have:=List.length_filter_le (fun m:Mono=> !decide (m.Name=s)) (l.L.take k);simp only [List.length_map,List.length_append,List.length_cons,List.length_nil,List.length_take] at *;omega)) ?_
    rintro _ _ ⟨sv7,rfl,rfl⟩
    refine zJ O wU<|D 2 sz39 O<|H<|zT O<|qK O ⟨by omega,by omega⟩<|A O<|H ?_
    refine ⟨⟨k+1,_⟩,(by omega),(by show l.L.length-(k+1)<l.L.length-k;omega),Weak.mk [false,true,true,true,true] ⟨G,VLe.of_eq (by rw [zQf hx];first|(rw [if_pos c3];rfl)|(rw [if_neg c3];rfl)),G,G,G,G,G,G,T⟩ (by exact mem2c_eq (by rw [rest_next hx];first|(rw [if_pos c3,List.append_nil])|(rw [if_neg c3,List.map_append];rfl)))⟩
  ·try simp only [I] at c2
   rw [kG (l:=l.L) (k:=k) (by omega)]
   refine qQ<|F O<|zO kE (R 3 O) O<|A O<|qG O ok51 (zPy u (lastBy l.L s) ht hrt (last_rng hrl s)) ⟨G,O,G,O,T⟩<|qN O<|zR O (qT O O O)<|qU O<|zU O O (qC [none,some 2] O zr41 O) ?_
   rintro _ _ ⟨b8,rfl,rfl⟩
   refine D 0 sz41 O<|A O<|H<|zI<|F O<|A O<|yP O<|H<|zD O (fun c4=>?_) (fun c4=>?_)
   ·try simp only [I] at c4
    refine F O<|qV [none,some 2] O zr41 pl41<|A O<|D 3 sz41 O<|A O<|H<|o<|p (y kE O (R 3 O) O) (N O) ?_
    rw [subst_c4 c1 c4];rfl
   ·try simp only [I] at c4
    refine zV _ (yY 1 O (regs':=[]) (μ':=[_,_,_,_]) T ⟨EFle.refl _,EFle.row (ds:=[_,_]) ⟨.inl O,.inr ⟨O,O⟩,T⟩,EFle.refl _,EFle.refl _,T⟩)<|zH<|F O<|zO kE (R 1 O) O<|zO kE (R 0 O) O<|qG O ok53 (lin_Add (restL l s) (scaleL u (lastBy l.L s)).1 (by omega) (by omega) hr1 hs1) ⟨G,O,G,O,T⟩<|zR O (qT O O O)<|qU O<|D 2 sz41 O<|A O<|H<|o<|p (y kE O (R 2 O) O) (N O) ?_
    rw [subst_ok c1 c4];rfl
end Go.W
end
section
set_option maxRecDepth 10000
namespace Go.W
open Go Go.Eng Go.Proofs Go.L41 Go.Br
attribute [local irreducible] AWP RWP TD finQ
end Go.W
end
