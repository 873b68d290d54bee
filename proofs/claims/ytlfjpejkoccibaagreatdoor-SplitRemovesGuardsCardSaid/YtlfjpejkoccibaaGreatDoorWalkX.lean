/-
  Walks: what functions of the program compute. Printed by wip/gen/mk2.py.
  Walks: what functions of the program compute. Printed by wip/gen/mk2.py.
  Walks: what functions of the program compute. Printed by wip/gen/mk2.py.
  Conditions: none.
-/
import Derived.Test.YtlfjpejkoccibaaGreatDoorWV
import Derived.Test.YtlfjpejkoccibaaGreatDoorPlain2
import Derived.Test.YtlfjpejkoccibaaGreatDoorEngZ
set_option linter.unusedSimpArgs false
set_option linter.unusedVariables false
section
set_option maxRecDepth 10000
namespace Go.W
open Go Go.Eng Go.Proofs Go.L41 Go.Br
attribute [local irreducible] AWP RWP TD finQ
theorem ik2:intT Tryz.prog 2=some .i64:=by kernel_rfl
theorem ok103:callOk Tryz.prog 103=true:=by kernel_rfl
theorem ok145:callOk Tryz.prog 145=true:=by kernel_rfl
theorem ok146:callOk Tryz.prog 146=true:=by kernel_rfl
theorem sz39:(Tryz.prog.info? 39).map (·.size)=some 1:=by kernel_rfl
theorem us180:(Tryz.prog.underlying 180).isSome=true:=by kernel_rfl
theorem lin_plus (a b:Int) (ha:r64 a) (hb:r64 b):
    Pur cfg 105 [vI a,vI b] (.tup [vI (w64 (a+b)),vB (decide (r64 (a+b)))]):=by
 refine zR Tryz.func105 O Tryz.ntmps105 Tryz.results105 O ?_
 intro z hz
 refine G O<|F O<|F O<|I<|G O<|F O<|F O<|zX O (zKs O O O)<|F O<|I<|G O<|F O<|F O<|F O<|zX O (yC O O O)<|F O<|zX O (yC O O O)<|zX O (det_beql O un4 O O)<|F O<|F O<|I<|o<|w (p O) (p O) ?_
 rw [←plus_ok ha hb];rfl
theorem zLu (x:Int) (hx:r64 x):
    Pur cfg 146 [vI x] (vUn x.natAbs):=by
 refine zR Tryz.func146 O Tryz.ntmps146 Tryz.results146 O ?_
 intro z hz
 refine G O<|F O<|I<|zJ<|G O<|F O<|yH O<|I<|zF O (fun c1=>?_) (fun c1=>?_)
 ·try simp only [R] at c1
  refine G O<|F O<|zX O (zCu O us2 ik180 O)<|zX O (zNr O O)<|F O<|I<|o<|X O ?_
  exact congrArg (fun n=>V.c (.lit (.int .u64 n))) (magn_neg hx c1)
 ·try simp only [R] at c1
  refine zI<|G O<|F O<|zX O (zCu O us2 ik180 O)<|F O<|I<|o<|X O ?_
  exact congrArg (fun n=>V.c (.lit (.int .u64 n))) (magn_pos hx (by omega))
theorem lin_product (a b:Nat) (ha:a<18446744073709551616) (hb:b<18446744073709551616):
    Pur cfg 145 [vUn a,vUn b] (.tup [vUn (hiN a b),vUn (a*b%18446744073709551616)]):=by
 refine zR Tryz.func145 O Tryz.ntmps145 Tryz.results145 O ?_
 intro z hz
 obtain ⟨p1,p2,p3,p4⟩:=part_le ha hb
 obtain ⟨q1,q2,q3,q4⟩:=hi_bounds ha hb
 refine G O<|F O<|F O<|I<|G O<|F O<|zX O (zMc O O O ha)<|F O<|zX O (zMc O O O hb)<|zX O (zPx O O O (by omega))<|F O<|I<|G O<|F O<|zX O (zGt O O O )<|F O<|zX O (zMc O O O hb)<|zX O (zPx O O O (by omega))<|F O<|zX O (zGt O O O )<|zX O (zPy O O O q1)<|F O<|I<|G O<|F O<|zX O (zMc O O O ha)<|F O<|zX O (zGt O O O )<|zX O (zPx O O O (by omega))<|F O<|zX O (zMc O O O q1)<|zX O (zPy O O O q2)<|F O<|I<|G O<|F O<|zX O (zGt O O O )<|F O<|zX O (zGt O O O )<|zX O (zPx O O O (by omega))<|F O<|zX O (zGt O O O )<|zX O (zPy O O O q3)<|F O<|zX O (zGt O O O )<|zX O (zPy O O O q4)<|F O<|F O<|zX O (det_umod O O O )<|F O<|F O<|I<|o<|w (p O) (p O) ?_
 exact O
theorem lin_times (x y:Int) (hx:r64 x) (hy:r64 y):
    Pur cfg 103 [vI x,vI y] (.tup [vI (timesT x y).1,vB (timesT x y).2]):=by
 refine zR Tryz.func103 O Tryz.ntmps103 Tryz.results103 O ?_
 intro z hz
 have hm1:=magn_le hx
 have hm2:=magn_le hy
 refine G O<|F O<|F O<|I<|G O<|F O<|qJ O ok146 (zLu x hx) ⟨H,O,T⟩<|F O<|qJ O ok146 (zLu y hy) ⟨H,O,T⟩<|qJ O ok145 (lin_product x.natAbs y.natAbs (by omega) (by omega)) ⟨H,O,H,O,T⟩<|qP O<|qT O<|qT O<|F O<|F O<|I<|G O<|F O<|yH O<|F O<|yH O<|zX O (det_bneq O un4 O O)<|F O<|I<|zJ<|zQ<|G O<|F O<|yR O<|F O<|rL0 O (fun g3_2=>zN O O) O<|B 26 O (fun g3_2=>yC O O O) O<|r_or O (fun h=>(lzf h))<|F O<|rL0 O (fun g3_6=>zN O O) O<|B 30 O (fun g3_6=>yG O O O) O<|B 31 O (fun g3_6=>zN O O) O<|rLz [] O P T (fun g3_9=>zN O O) O<|rLz [(33,_)] O P ⟨O,O,T⟩ (fun g3_9=>kV O O) O<|B 32 O (fun g3_6=>kW O O O (fun h=>kA (by assumption) h) O) O<|r_or O (fun h=>(lzf h))<|F O<|I<|zF O (fun c1=>?_) (fun c1=>?_)
 ·try simp only [R] at c1
  refine G O<|F O<|F O<|I<|o<|w (p O) (p O) ?_
  rw [times_f hx hy c1]
 ·try simp only [R] at c1
  refine G O<|F O<|F O<|I<|zF O (fun c2=>?_) (fun c2=>?_)
  ·try simp only [R] at c2
   refine G O<|F O<|zX O (zNr O O)<|zX O (zCu O us180 ik2 O)<|F O<|F O<|I<|o<|w (p O) (p O) ?_
   rw [times_neg c2 (by have:=c1.1.1;omega) (by have:=c1.1.2;omega)]
  ·try simp only [R] at c2
   refine zI<|G O<|F O<|zX O (zCu O us180 ik2 O)<|F O<|F O<|I<|o<|w (p O) (p O) ?_
   have hlt:x.natAbs*y.natAbs%18446744073709551616<9223372036854775808:=by
     have h1:=c1.1.2
     rcases c1.2 with h|h
     · omega
     · rw [c2] at h;cases h
   rw [times_pos c2 (by have:=c1.1.1;omega) hlt]
theorem zSf (l:Lf) (by_:Int) (hl:l.L.length<=4294967296) (hr:l.rng) (hb:r64 by_):
    Pur cfg 51 [vLin l,vI by_] (.tup [vLin (scaleL l by_).1,vI (scaleL l by_).2]):=by
 refine zR Tryz.func51 O Tryz.ntmps51 Tryz.results51 O ?_
 intro z hz
 refine G O<|zU O O (qM O O) ?_
 rintro _ _ ⟨b1,rfl,rfl⟩
 refine zU O O (qE [none,some 2] O zr41 O) ?_
 rintro _ _ ⟨b2,rfl,rfl⟩
 refine F O<|I<|zJ<|G O<|zO yY (Y 1 O) O<|qJ O ok102 (zCi l (by omega)) ⟨H,O,T⟩<|yR O<|I<|zF O (fun c1=>?_) (fun c1=>?_)
 ·try simp only [R] at c1
  have hl0:=linErr_no c1
  refine G O<|qV [none,some 2] O zr41 pl41<|D 0 sz41 O<|F O<|I<|o<|w (zV yY O (Y 0 O) O) (p O) ?_
  rw [scale_bad hl0];rfl
 ·try simp only [R] at c1
  have hl1:=zEa c1
  refine zI<|zJ<|G O<|F O<|yE O<|I<|zF O (fun c2=>?_) (fun c2=>?_)
  ·try simp only [R] at c2
   refine G O<|qV [none,some 2] O zr41 pl41<|D 0 sz41 O<|F O<|I<|o<|w (zV yY O (Y 0 O) O) (p O) ?_
   rw [scale_zero hl1 c2];rfl
  ·try simp only [R] at c2
   refine zI<|G O<|zH O zCw<|zK W (Y 1 O) O<|F O<|qJ O ok103 (lin_times l.K by_ hr.1 hb) ⟨H,O,H,O,T⟩<|qP O<|qT O<|qT O<|F O<|F O<|I<|G O<|F O<|yP O zr41 pl41<|zU O O (yW O zr41) ?_
   rintro _ _ ⟨b3,rfl,rfl⟩
   refine yN _ (kX 69 2)<|D 1 sz41 O<|I<|zJ<|G O<|zH O kM<|zK wX (Y 3 O) O<|qB O U<|F O<|I<|zQ<|zW ⟨[(32,.c _),(7,.c _),(1,.c _),(4,.c _),(8,.c _),(30,.c _),(31,.c _)],[_,_,_]⟩ (Weak.mk [true,true,true,false] ⟨H,H,H,H,H,H,H,T⟩ O)<|qK 2 2 O O (Nat×Value) (fun ⟨k,sv⟩=>[(32,vI k),(7,vB ((timesT l.K by_).2&&scaleB by_ (l.L.take k)))]) (fun ⟨k,sv⟩=>[E.vec sv 69 2 ((scaleW by_ (l.L.take k)).map Mono.cells),E.row b3 41 [cI (timesT l.K by_).1,.lit sv]]) (fun ⟨k,sv⟩=>k<=l.L.length) (fun ⟨k,sv⟩=>l.L.length-k) ⟨⟨0,_⟩,(by omega),Weak.mk [true,true,true] ⟨H,VLe.of_eq (by rw [show scaleB by_ (l.L.take 0)=true from rfl,Bool.and_true];rfl),H,H,H,H,H,T⟩ O⟩ ?_
   rintro ⟨k,sv⟩ hk
   show AWP _ _ _ _ _ ⟨[(32,vI k),(7,vB ((timesT l.K by_).2&&scaleB by_ (l.L.take k)))]++_,[E.vec sv 69 2 ((scaleW by_ (l.L.take k)).map Mono.cells),E.row b3 41 [cI (timesT l.K by_).1,.lit sv]]++_⟩
   refine G O<|yH O<|I<|zJ<|zF O (fun c3=>?_) (fun c3=>?_)
   ·try simp only [R] at c3
    obtain ⟨x,hx⟩:=qW l.L k (by omega)
    refine zI<|zJ<|zQ<|G O<|qC O U (by omega) (N (by assumption))<|zO zOb qA O<|zU O O (yW O zr69) ?_
    rintro _ _ ⟨b5,rfl,rfl⟩
    refine D 0 sz69 O<|I<|G O<|zH O zDo<|zK W (Y 0 O) O<|F O<|qJ O ok103 (lin_times x.By by_ (hr.2 x (zZ hx)) hb) ⟨H,O,H,O,T⟩<|qP O<|qT O<|qT O<|F O<|F O<|I<|G O<|F O<|F O<|rL0 O (fun g11_1=>zN O O) O<|yQ O (fun h=>h)<|F O<|I<|zS O<|zH O kM<|zK wX (Y 2 O) O<|zH O zAl<|zK one9 (Y 0 O) O<|F O<|yP O zr69 pl69<|zX O (qS O U zr69 O O O O)<|zU O O (yD 1 O U O O O (by simp only [List.length_map,List.length_append,List.length_cons,List.length_nil,zJd,List.length_take];omega) (by simp only [List.length_map,List.length_append,List.length_cons,List.length_nil,zJd,List.length_take];omega)) ?_
    rintro _ _ ⟨sv6,rfl,rfl⟩
    refine zH O kM<|D 2 sz39 O<|I<|zS O<|qH O ⟨by omega,by omega⟩<|F O<|I ?_
    refine ⟨⟨k+1,sv6⟩,(by omega),(by show l.L.length-(k+1)<l.L.length-k;omega),Weak.mk [false,true,true,true] ⟨H,VLe.of_eq (by rw [zRf hx,←Bool.and_assoc];rfl),H,H,H,H,H,T⟩ (by show _=[E.vec sv6 _ 2 ((scaleW by_ (l.L.take (k+1))).map Mono.cells),E.row b3 _ [cI (timesT l.K by_).1,.lit sv6]]++_;rw [zRe hx,List.map_append];rfl)⟩
   ·try simp only [R] at c3
    rw [yL (l:=l.L) (k:=k) (by omega)]
    refine qN<|zJ<|G O<|F O<|kO O<|I<|zF O (fun c4=>?_) (fun c4=>?_)
    ·try simp only [R] at c4
     refine G O<|qV [none,some 2] O zr41 pl41<|D 2 sz41 O<|F O<|I<|o<|w (zV yY O (Y 2 O) O) (p O) ?_
     rw [scale_no hl1 c2 c4];rfl
    ·try simp only [R] at c4
     refine zI<|G O<|zO yY (Y 1 O) O<|D 2 sz41 O<|F O<|I<|zW _ (yS 0 O (regs':=[(60,.agg [_,_])]) (μ':=[_,_]) ⟨FLe.agg ⟨.inl O,.inr ⟨O,O⟩,T⟩,T⟩ ⟨EFle.row (ds:=[_,_]) ⟨.inl O,.inr ⟨O,O⟩,T⟩,EFle.row (ds:=[_,_]) ⟨.inl O,.inr ⟨O,O⟩,T⟩,T⟩)<|o<|w (zV yY O (Y 1 O) O) (p O) ?_
     rw [scale_ok hl1 c2 c4];rfl
end Go.W
end
section
set_option maxRecDepth 10000
namespace Go.W
open Go Go.Eng Go.Proofs Go.L41 Go.Br
attribute [local irreducible] AWP RWP TD finQ
theorem ok51:callOk Tryz.prog 51=true:=by kernel_rfl
theorem ok53:callOk Tryz.prog 53=true:=by kernel_rfl
theorem ok105:callOk Tryz.prog 105=true:=by kernel_rfl
theorem ok106:callOk Tryz.prog 106=true:=by kernel_rfl
theorem ok107:callOk Tryz.prog 107=true:=by kernel_rfl
theorem one4:oneT Tryz.prog 4=true:=by kernel_rfl
theorem sz2:(Tryz.prog.info? 2).map (·.size)=some 1:=by kernel_rfl
theorem sz4:(Tryz.prog.info? 4).map (·.size)=some 1:=by kernel_rfl
theorem zr4:zeroT Tryz.prog 4=some [(Value.bool false)]:=by kernel_rfl
theorem merge_con (a0 b0:List Mono) (ha0:a0.length<=4294967296) (hb0:b0.length<=4294967296):
    ∀(y:C) (J:List Tr->List E->Prop) (μ:List E),(∀d t s m,mergeL a0 b0=d++t::s->J d m->FnCon cfg y [vS t.1,vI t.2.1,vI t.2.2] m fun r m'=>r=.tup []/\J (d++[t]) m')->J [] μ->Con cfg 106 [.c (.sl 2 (a0.map Mono.cells)),.c (.sl 2 (b0.map Mono.cells)),.c y] μ fun r μ'=>r=.tup []/\J (mergeL a0 b0) μ':=by
 intro y J μ hy h0
 refine zR Tryz.func106 O Tryz.ntmps106 Tryz.results106 O ?_
 intro z hz
 refine zQ<|zW ⟨[(0,.c _),(1,.c _),(2,.c _)],_⟩ (Weak.regs ⟨H,H,H,T⟩)<|zCj 2 O (List Mono×List Mono×List Tr×List E) (fun ⟨a,b,d,m⟩=>[(0,.c (.sl 2 (a.map Mono.cells))),(1,.c (.sl 2 (b.map Mono.cells)))]) (fun ⟨a,b,d,m⟩=>m) (fun ⟨a,b,d,m⟩=>a.length<=4294967296/\b.length<=4294967296/\mergeL a0 b0=d++mergeL a b/\J d m) (fun ⟨a,b,d,m⟩=>a.length+b.length) ⟨⟨a0,b0,[],μ⟩,⟨ha0,hb0,O,h0⟩,Weak.regs ⟨H,H,H,T⟩⟩ ?_
 rintro ⟨a,b,d,m⟩ ⟨hal,hbl,hm,hJ⟩
 refine zJ<|G O<|F O<|qB O U<|zX O (yC O O O)<|F O<|rL0 O (fun g0_3=>zN O O) O<|B 10 O (fun g0_3=>yB O U O) O<|B 11 O (fun g0_3=>yC O O O) O<|r_or O (fun h=>(lzf h))<|I<|zF O (fun c1=>?_) (fun c1=>?_)
 ·try simp only [R] at c1
  refine zI<|zQ<|zQ<|zJ<|qX 20 mixed (by kernel_rfl) O O<|M O O (zN O O)<|M O O (yB O U O)<|M O O (yG O O O)<|M O O (zN O O)<|f [] O O O O gv1 T (fun g3_3=>zN O O) O<|f [(37,_)] O O O O gv1 ⟨O,O,T⟩ (fun g3_3=>yB O U O) O<|f [(38,_)] O O O O gv1 ⟨O,O,T⟩ (fun g3_3=>yC O O O) O<|f [(39,_)] O O O O gv1 ⟨O,O,T⟩ (fun g3_3=>zN O O) O<|f [] O O O O P T (fun g3_7=>zN O O) O<|f [(41,_)] O O O O P ⟨O,O,T⟩ (fun g3_7=>qD O U O O (by simp only [Lz,cond_true,cond_false,Bool.and_eq_true,Bool.or_eq_true,Bool.not_eq_true',Bool.not_eq_false',Bool.or_eq_false_iff,Bool.and_eq_false_iff,decide_eq_true_eq,decide_eq_false_iff_not,Bool.not_eq_true,Bool.not_eq_false] at g3_7;omega) (N (zIq (by simp only [Lz,cond_true,cond_false,Bool.and_eq_true,Bool.or_eq_true,Bool.not_eq_true',Bool.not_eq_false',Bool.or_eq_false_iff,Bool.and_eq_false_iff,decide_eq_true_eq,decide_eq_false_iff_not,Bool.not_eq_true,Bool.not_eq_false] at g3_7;omega)))) O<|f [(42,_)] O O O O P ⟨O,O,T⟩ (fun g3_7=>qI O zAl O) O<|f [(43,_)] O O O O P ⟨O,O,T⟩ (fun g3_7=>Q O one9 O qA O) O<|f [] O O O O P T (fun g3_7=>zN O O) O<|f [(45,_)] O O O O P ⟨O,O,T⟩ (fun g3_7=>qD O U O O (by simp only [Lz,cond_true,cond_false,Bool.and_eq_true,Bool.or_eq_true,Bool.not_eq_true',Bool.not_eq_false',Bool.or_eq_false_iff,Bool.and_eq_false_iff,decide_eq_true_eq,decide_eq_false_iff_not,Bool.not_eq_true,Bool.not_eq_false] at g3_7;omega) (N (zIq (by simp only [Lz,cond_true,cond_false,Bool.and_eq_true,Bool.or_eq_true,Bool.not_eq_true',Bool.not_eq_false',Bool.or_eq_false_iff,Bool.and_eq_false_iff,decide_eq_true_eq,decide_eq_false_iff_not,Bool.not_eq_true,Bool.not_eq_false] at g3_7;omega)))) O<|f [(46,_)] O O O O P ⟨O,O,T⟩ (fun g3_7=>qI O zAl O) O<|f [(47,_)] O O O O P ⟨O,O,T⟩ (fun g3_7=>Q O one9 O qA O) O<|f [(44,_),(48,_)] O O O O P ⟨O,O,O,O,T⟩ (fun g3_7=>det_slss O O O) O<|f [(40,_)] O O O O gv1 ⟨O,O,T⟩ (fun g3_3=>kW O O O (fun h=>kA (by assumption) h) O) O<|M O O (zAm O O O O (fun h=>(lzf h)))<|M O O (qY O O)<|kB<|I<|zF O (fun c2=>?_) (fun c2=>?_)
  ·have hL:=merge_left (by omega) c2
   have hdec:(a.drop 1).length+(b).length<a.length+b.length:=by simp only [List.length_drop];omega
   have hm1:mergeL a0 b0=(d++[((hdM a).Name,(hdM a).By,0)])++mergeL (a.drop 1) (b):=by rw [hm,hL.2];simp
   refine zJ<|qX 9 mixed (by kernel_rfl) O O<|M O O (zN O O)<|M O O (zN O O)<|M O O (qD O U O O (by omega) (N (zIq (by omega))))<|M O O (qI O zAl O)<|M O O (Q O one9 O qA O)<|M O O (zN O O)<|M O O (qD O U O O (by omega) (N (zIq (by omega))))<|M O O (qI O zDo O)<|M O O (Q O W O qA O)<|kB<|zU O O (wU O O (hy d ((hdM a).Name,(hdM a).By,0) _ m (by rw [hm1,List.append_assoc];rfl) hJ) ⟨H,O,H,O,H,O,T⟩) ?_
   rintro _ m1 ⟨rfl,hJ1⟩
   refine I<|zS O<|F O<|zX O (zBk (k:=1) O U O O (by omega))<|F O<|I ?_
   refine ⟨⟨_,_,_,_⟩,⟨by first|omega|(simp only [List.length_drop];omega),by first|omega|(simp only [List.length_drop];omega),hm1,hJ1⟩,hdec,Weak.regs ⟨H,H,H,T⟩⟩
  ·have hb1:=mC2_b c2
   refine zJ<|qX 15 mixed (by kernel_rfl) O O<|M O O (zN O O)<|M O O (yB O U O)<|M O O (yG O O O)<|M O O (zN O O)<|f [] O O O O gv1 T (fun g6_3=>zN O O) O<|f [(69,_)] O O O O gv1 ⟨O,O,T⟩ (fun g6_3=>qD O U O O (by simp only [Lz,cond_true,cond_false,Bool.and_eq_true,Bool.or_eq_true,Bool.not_eq_true',Bool.not_eq_false',Bool.or_eq_false_iff,Bool.and_eq_false_iff,decide_eq_true_eq,decide_eq_false_iff_not,Bool.not_eq_true,Bool.not_eq_false] at g6_3;omega) (N (zIq (by simp only [Lz,cond_true,cond_false,Bool.and_eq_true,Bool.or_eq_true,Bool.not_eq_true',Bool.not_eq_false',Bool.or_eq_false_iff,Bool.and_eq_false_iff,decide_eq_true_eq,decide_eq_false_iff_not,Bool.not_eq_true,Bool.not_eq_false] at g6_3;omega)))) O<|f [(70,_)] O O O O gv1 ⟨O,O,T⟩ (fun g6_3=>qI O zAl O) O<|f [(71,_)] O O O O gv1 ⟨O,O,T⟩ (fun g6_3=>Q O one9 O qA O) O<|f [] O O O O gv1 T (fun g6_3=>zN O O) O<|f [(73,_)] O O O O gv1 ⟨O,O,T⟩ (fun g6_3=>qD O U O O (by simp only [Lz,cond_true,cond_false,Bool.and_eq_true,Bool.or_eq_true,Bool.not_eq_true',Bool.not_eq_false',Bool.or_eq_false_iff,Bool.and_eq_false_iff,decide_eq_true_eq,decide_eq_false_iff_not,Bool.not_eq_true,Bool.not_eq_false] at g6_3;omega) (N (zIq (by simp only [Lz,cond_true,cond_false,Bool.and_eq_true,Bool.or_eq_true,Bool.not_eq_true',Bool.not_eq_false',Bool.or_eq_false_iff,Bool.and_eq_false_iff,decide_eq_true_eq,decide_eq_false_iff_not,Bool.not_eq_true,Bool.not_eq_false] at g6_3;omega)))) O<|f [(74,_)] O O O O gv1 ⟨O,O,T⟩ (fun g6_3=>qI O zAl O) O<|f [(75,_)] O O O O gv1 ⟨O,O,T⟩ (fun g6_3=>Q O one9 O qA O) O<|f [(72,_),(76,_)] O O O O gv1 ⟨O,O,O,O,T⟩ (fun g6_3=>det_slss O O O) O<|M O O (zAm O O O O (fun h=>(lzf h)))<|M O O (qY O O)<|kB<|I<|zF O (fun c3=>?_) (fun c3=>?_)
   ·have hL:=merge_right (by omega) c2 c3
    have hdec:(a).length+(b.drop 1).length<a.length+b.length:=by simp only [List.length_drop];omega
    have hm1:mergeL a0 b0=(d++[((hdM b).Name,0,(hdM b).By)])++mergeL (a) (b.drop 1):=by rw [hm,hL.2];simp
    refine zJ<|qX 9 mixed (by kernel_rfl) O O<|M O O (zN O O)<|M O O (zN O O)<|M O O (qD O U O O (by omega) (N (zIq (by omega))))<|M O O (qI O zAl O)<|M O O (Q O one9 O qA O)<|M O O (zN O O)<|M O O (qD O U O O (by omega) (N (zIq (by omega))))<|M O O (qI O zDo O)<|M O O (Q O W O qA O)<|kB<|zU O O (wU O O (hy d ((hdM b).Name,0,(hdM b).By) _ m (by rw [hm1,List.append_assoc];rfl) hJ) ⟨H,O,H,O,H,O,T⟩) ?_
    rintro _ m1 ⟨rfl,hJ1⟩
    refine I<|zS O<|F O<|zX O (zBk (k:=1) O U O O (by omega))<|F O<|I ?_
    refine ⟨⟨_,_,_,_⟩,⟨by first|omega|(simp only [List.length_drop];omega),by first|omega|(simp only [List.length_drop];omega),hm1,hJ1⟩,hdec,Weak.regs ⟨H,H,H,T⟩⟩
   ·have hL:=merge_both c2 c3
    have hdec:(a.drop 1).length+(b.drop 1).length<a.length+b.length:=by simp only [List.length_drop];omega
    have hm1:mergeL a0 b0=(d++[((hdM a).Name,(hdM a).By,(hdM b).By)])++mergeL (a.drop 1) (b.drop 1):=by rw [hm,hL.2.2];simp
    refine zJ<|qX 13 mixed (by kernel_rfl) O O<|M O O (zN O O)<|M O O (zN O O)<|M O O (qD O U O O (by omega) (N (zIq (by omega))))<|M O O (qI O zAl O)<|M O O (Q O one9 O qA O)<|M O O (zN O O)<|M O O (qD O U O O (by omega) (N (zIq (by omega))))<|M O O (qI O zDo O)<|M O O (Q O W O qA O)<|M O O (zN O O)<|M O O (qD O U O O (by omega) (N (zIq (by omega))))<|M O O (qI O zDo O)<|M O O (Q O W O qA O)<|kB<|zU O O (wU O O (hy d ((hdM a).Name,(hdM a).By,(hdM b).By) _ m (by rw [hm1,List.append_assoc];rfl) hJ) ⟨H,O,H,O,H,O,T⟩) ?_
    rintro _ m1 ⟨rfl,hJ1⟩
    refine I<|qX 6 mixed (by kernel_rfl) O O<|M O O (zN O O)<|M O O (zBk (k:=1) O U O O (by omega))<|M O O (zN O O)<|M O O (zBk (k:=1) O U O O (by omega))<|M O O (qY O O)<|M O O (qY O O)<|kB<|I ?_
    refine ⟨⟨_,_,_,_⟩,⟨by first|omega|(simp only [List.length_drop];omega),by first|omega|(simp only [List.length_drop];omega),hm1,hJ1⟩,hdec,Weak.regs ⟨H,H,H,T⟩⟩
 ·try simp only [R] at c1
  refine qN ?_
  repeat (first|refine zHo ?_|refine zFu ?_)
  refine zSq<|fin0 ?_
  exact ⟨O,by rw [hm,show a=[] from List.eq_nil_of_length_eq_zero (by omega),show b=[] from List.eq_nil_of_length_eq_zero (by omega),zNg,List.append_nil];exact hJ⟩
theorem lin_Add_1 (bo bl:Nat) (ok:Bool) (K:Int) (sv:Value) (d:List Tr) (t:Tr) (h1:r64 t.2.1) (h2:r64 t.2.2) (hd:d.length<=8589934592):
    Con cfg 107 [vS t.1,vI t.2.1,vI t.2.2,.c (.lit (.pointer (some ⟨bo,0,none⟩))),.c (.lit (.pointer (some ⟨bl,0,none⟩)))] [E.row bo 4 [cB (okF ok (d))],E.vec sv 69 2 ((sumW (d)).map Mono.cells),E.row bl 41 [cI K,.lit sv]] fun r μ'=>r=.tup []/\∃sv',μ'=[E.row bo 4 [cB (okF ok (d++[t]))],E.vec sv' 69 2 ((sumW (d++[t])).map Mono.cells),E.row bl 41 [cI K,.lit sv']]:=by
 refine zR Tryz.func107 O Tryz.ntmps107 Tryz.results107 O ?_
 intro z hz
 refine G O<|F O<|F O<|qJ O ok105 (lin_plus t.2.1 t.2.2 h1 h2) ⟨H,O,H,O,T⟩<|qP O<|qT O<|qT O<|F O<|F O<|I<|G O<|zK one4 (Y 0 O) O<|F O<|rL0 O (fun g1_1=>zN O O) O<|yQ O (fun h=>h)<|D 0 sz4 O<|I<|G O<|F O<|yR O<|I<|zF O (fun c1=>?_) (fun c1=>?_)
 ·try simp only [R] at c1
  refine zS O<|zH O kM<|zK wX (Y 2 O) O<|F O<|F O<|yP O zr69 pl69<|zX O (qS O U zr69 O O O O)<|zU O O (yD 1 O U O O O (by have:=zPg d;simp only [List.length_map,List.length_append,List.length_cons,List.length_nil];omega) (by have:=zPg d;simp only [List.length_map,List.length_append,List.length_cons,List.length_nil];omega)) ?_
  rintro _ _ ⟨sv1,rfl,rfl⟩
  refine zH O kM<|D 2 sz39 O<|I ?_
  repeat (first|refine zHo ?_|refine zFu ?_)
  refine zSq<|fin0 ?_
  exact ⟨O,_,by rw [okF_next,sumW_next,if_neg (show ¬w64 (trV t)=0 from c1),List.map_append];rfl⟩
 ·try simp only [R] at c1
  refine zI ?_
  repeat (first|refine zHo ?_|refine zFu ?_)
  refine zSq<|fin0 ?_
  exact ⟨O,_,by rw [okF_next,sumW_next,if_pos (show w64 (trV t)=0 from c1),List.append_nil];rfl⟩
theorem lin_Add (a b:Lf) (ha:a.L.length<=4294967296) (hb:b.L.length<=4294967296) (hra:a.rng) (hrb:b.rng):
    Pur cfg 53 [vLin a,vLin b] (.tup [vLin (addL a b).1,vI (addL a b).2]):=by
 refine zR Tryz.func53 O Tryz.ntmps53 Tryz.results53 O ?_
 intro z hz
 refine G O<|zU O O (qM O O) ?_
 rintro _ _ ⟨b1,rfl,rfl⟩
 refine zU O O (qM O O) ?_
 rintro _ _ ⟨b2,rfl,rfl⟩
 refine zU O O (qE [none,some 2] O zr41 O) ?_
 rintro _ _ ⟨b3,rfl,rfl⟩
 refine F O<|I<|zJ<|G O<|zO yY (Y 2 O) O<|qJ O ok102 (zCi a (by omega)) ⟨H,O,T⟩<|yR O<|F O<|rL0 O (fun g1_3=>zY O yY O (Y 1 O) O) O<|B 12 O (fun g1_3=>qL O ok102 (zCi b (by omega)) ⟨H,O,T⟩) O<|B 13 O (fun g1_3=>kH O O O) O<|r_or O (fun h=>(lzf h))<|I<|zF O (fun c1=>?_) (fun c1=>?_)
 ·try simp only [R] at c1
  refine G O<|qV [none,some 2] O zr41 pl41<|D 0 sz41 O<|F O<|I<|o<|w (zV yY O (Y 0 O) O) (p O) ?_
  rw [add_c1 c1];rfl
 ·try simp only [R] at c1
  have hla:=zEa c1.1
  have hlb:=zEa c1.2
  refine zI<|G O<|zU O O (yW O zr41) ?_
  rintro _ _ ⟨b4,rfl,rfl⟩
  refine yN _ (kX 69 2)<|I<|G O<|zU O O (yW O zr4) ?_
  rintro _ _ ⟨b6,rfl,rfl⟩
  refine I<|G O<|zH O zCw<|zK W (Y 5 O) O<|zH O zCw<|zK W (Y 4 O) O<|qJ O ok105 (lin_plus a.K b.K hra.1 hrb.1) ⟨H,O,H,O,T⟩<|qP O<|qT O<|qT O<|zH O zCw<|D 2 sz2 O<|D 0 sz4 O<|I<|G O<|zH O kM<|zK wX (Y 5 O) O<|zH O kM<|zK wX (Y 4 O) O<|zX O (zDj O O O O O)<|zU O O (zAh O ok106 (Con.frame (merge_con a.L b.L ha hb _ (fun d m=>∃sv,m=[E.row b6 4 [cB (okF (decide (r64 (a.K+b.K))) (d))],E.vec sv 69 2 ((sumW (d)).map Mono.cells),E.row b4 41 [cI (w64 (a.K+b.K)),.lit sv]]) _ (fun d t s m he hj=>by obtain ⟨sv,rfl⟩:=hj;obtain ⟨k1,k2,k3⟩:=merge_rng hra.2 hrb.2 he;exact FnCon.of_con (first:=[]) (cap:=[.lit (.pointer (some ⟨b6,0,none⟩)),.lit (.pointer (some ⟨b4,0,none⟩))]) ok107 (lin_Add_1 b6 b4 (decide (r64 (a.K+b.K))) (w64 (a.K+b.K)) sv d t k1 k2 (by omega))) ⟨_,O⟩) _) ⟨H,O,H,O,H,O,T⟩) ?_
  rintro _ _ ⟨_,⟨rfl,sv7,rfl⟩,rfl⟩
  refine I<|zJ<|G O<|zK one4 (Y 0 O) O<|kO O<|I<|zF O (fun c2=>?_) (fun c2=>?_)
  ·try simp only [R] at c2
   refine G O<|qV [none,some 2] O zr41 pl41<|D 3 sz41 O<|F O<|I<|o<|w (zV yY O (Y 3 O) O) (p O) ?_
   rw [add_no hla hlb c2];rfl
  ·try simp only [R] at c2
   refine zI<|G O<|zO yY (Y 2 O) O<|D 3 sz41 O<|F O<|I<|zW _ (yS 1 O (regs':=[(35,.agg [_,_])]) (μ':=[_,_,_,_,_]) ⟨FLe.agg ⟨.inl O,.inr ⟨O,O⟩,T⟩,T⟩ ⟨EFle.refl _,EFle.row (ds:=[_,_]) ⟨.inl O,.inr ⟨O,O⟩,T⟩,EFle.row (ds:=[_,_]) ⟨.inl O,.inr ⟨O,O⟩,T⟩,EFle.refl _,EFle.refl _,T⟩)<|o<|w (zV yY O (Y 2 O) O) (p O) ?_
   rw [add_ok hla hlb c2];rfl
theorem lin_Substitute (l:Lf) (s:ByteArray) (u:Lf) (hl:l.L.length<=4294967296) (ht:u.L.length<=4294967296) (hrl:l.rng) (hrt:u.rng):
    Pur cfg 109 [vLin l,vS s,vLin u] (.tup [vLin (substP l s u).1,vI (substP l s u).2]):=by
 refine zR Tryz.func109 O Tryz.ntmps109 Tryz.results109 O ?_
 intro z hz
 obtain ⟨hs1,hs2⟩:=zHz u (lastBy l.L s)
 obtain ⟨hr1,hr2⟩:=rest_rng hrl s
 refine G O<|zU O O (qM O O) ?_
 rintro _ _ ⟨b1,rfl,rfl⟩
 refine zU O O (qM O O) ?_
 rintro _ _ ⟨b2,rfl,rfl⟩
 refine zU O O (qE [none,some 2] O zr41 O) ?_
 rintro _ _ ⟨b3,rfl,rfl⟩
 refine F O<|I<|zJ<|G O<|zO yY (Y 2 O) O<|qJ O ok102 (zCi l (by omega)) ⟨H,O,T⟩<|yR O<|F O<|rL0 O (fun g1_3=>zN O O) O<|B 18 O (fun g1_3=>qL O ok104 (zFb s) ⟨H,O,T⟩) O<|B 19 O (fun g1_3=>kV O O) O<|r_or O (fun h=>(lzf h))<|F O<|rL0 O (fun g1_8=>zY O yY O (Y 1 O) O) O<|B 23 O (fun g1_8=>qL O ok102 (zCi u (by omega)) ⟨H,O,T⟩) O<|B 24 O (fun g1_8=>kH O O O) O<|r_or O (fun h=>(lzf h))<|I<|zF O (fun c1=>?_) (fun c1=>?_)
 ·try simp only [R] at c1
  refine G O<|qV [none,some 2] O zr41 pl41<|D 0 sz41 O<|F O<|I<|o<|w (zV yY O (Y 0 O) O) (p O) ?_
  rw [subst_c1 c1];rfl
 ·try simp only [R] at c1
  refine zI<|G O<|zH O zCw<|zK W (Y 2 O) O<|yP O zr41 pl41<|zU O O (yW O zr41) ?_
  rintro _ _ ⟨b4,rfl,rfl⟩
  refine yN _ (kX 69 2)<|D 1 sz41 O<|I<|G O<|F O<|I<|zJ<|G O<|zH O kM<|zK wX (Y 4 O) O<|qB O U<|F O<|I<|zQ<|zW ⟨[(34,.c _),(9,.c _),(1,.c _),(5,.c _),(6,.c _),(8,.c _),(32,.c _),(33,.c _)],[_,_,_,_]⟩ (Weak.mk [true,true,true,true,false] ⟨H,H,H,H,H,H,H,H,T⟩ O)<|qK 2 2 O O (Nat×Value) (fun ⟨k,sv⟩=>[(34,vI k),(9,vI (lastBy (l.L.take k) s))]) (fun ⟨k,sv⟩=>[E.vec sv 69 2 (((l.L.take k).filter (fun m=> !decide (m.Name=s))).map Mono.cells),E.row b4 41 [cI l.K,.lit sv]]) (fun ⟨k,sv⟩=>k<=l.L.length) (fun ⟨k,sv⟩=>l.L.length-k) ⟨⟨0,_⟩,(by omega),Weak.mk [true,true,true,true] ⟨H,VLe.of_eq (O),H,H,H,H,H,H,T⟩ O⟩ ?_
  rintro ⟨k,sv⟩ hk
  show AWP _ _ _ _ _ ⟨[(34,vI k),(9,vI (lastBy (l.L.take k) s))]++_,[E.vec sv 69 2 (((l.L.take k).filter (fun m=> !decide (m.Name=s))).map Mono.cells),E.row b4 41 [cI l.K,.lit sv]]++_⟩
  refine G O<|yH O<|I<|zJ<|zF O (fun c2=>?_) (fun c2=>?_)
  ·try simp only [R] at c2
   obtain ⟨x,hx⟩:=qW l.L k (by omega)
   refine zI<|zJ<|zQ<|G O<|qC O U (by omega) (N (by assumption))<|zO zOb qA O<|zU O O (yW O zr69) ?_
   rintro _ _ ⟨b6,rfl,rfl⟩
   refine D 0 sz69 O<|I<|zJ<|G O<|zH O zAl<|zK one9 (Y 0 O) O<|F O<|zX O (yU O O O)<|I<|zF O (fun c3=>?_) (fun c3=>?_)
   ·try simp only [R] at c3
    refine G O<|zH O zDo<|zK W (Y 0 O) O<|F O<|I<|qN<|zS O<|qH O ⟨by omega,by omega⟩<|F O<|I ?_
    refine ⟨⟨k+1,_⟩,(by omega),(by show l.L.length-(k+1)<l.L.length-k;omega),Weak.mk [false,true,true,true,true] ⟨H,VLe.of_eq (by rw [zSm hx];first|(rw [if_pos c3];rfl)|(rw [if_neg c3];rfl)),H,H,H,H,H,H,T⟩ (by exact mem2c_eq (by rw [rest_next hx];first|(rw [if_pos c3,List.append_nil])|(rw [if_neg c3,List.map_append];rfl)))⟩
   ·try simp only [R] at c3
    refine zI<|zS O<|zH O kM<|zK wX (Y 2 O) O<|zO zOb (Y 0 O) O<|zX O (qS O U zr69 O O O O)<|zU O O (yD 1 O U O O O (by have:=List.length_filter_le (fun m:Mono=> !decide (m.Name=s)) (l.L.take k);simp only [List.length_map,List.length_append,List.length_cons,List.length_nil,List.length_take] at *;omega) (by have:=List.length_filter_le (fun m:Mono=> !decide (m.Name=s)) (l.L.take k);simp only [List.length_map,List.length_append,List.length_cons,List.length_nil,List.length_take] at *;omega)) ?_
    rintro _ _ ⟨sv7,rfl,rfl⟩
    refine zH O kM<|D 2 sz39 O<|I<|zS O<|qH O ⟨by omega,by omega⟩<|F O<|I ?_
    refine ⟨⟨k+1,_⟩,(by omega),(by show l.L.length-(k+1)<l.L.length-k;omega),Weak.mk [false,true,true,true,true] ⟨H,VLe.of_eq (by rw [zSm hx];first|(rw [if_pos c3];rfl)|(rw [if_neg c3];rfl)),H,H,H,H,H,H,T⟩ (by exact mem2c_eq (by rw [rest_next hx];first|(rw [if_pos c3,List.append_nil])|(rw [if_neg c3,List.map_append];rfl)))⟩
  ·try simp only [R] at c2
   rw [yL (l:=l.L) (k:=k) (by omega)]
   refine qN<|G O<|zO yY (Y 3 O) O<|F O<|qJ O ok51 (zSf u (lastBy l.L s) ht hrt (last_rng hrl s)) ⟨H,O,H,O,T⟩<|qP O<|yO O<|qT O<|zU O O (qE [none,some 2] O zr41 O) ?_
   rintro _ _ ⟨b8,rfl,rfl⟩
   refine D 0 sz41 O<|F O<|I<|zJ<|G O<|F O<|yR O<|I<|zF O (fun c4=>?_) (fun c4=>?_)
   ·try simp only [R] at c4
    refine G O<|qV [none,some 2] O zr41 pl41<|F O<|D 3 sz41 O<|F O<|I<|o<|w (zV yY O (Y 3 O) O) (p O) ?_
    rw [subst_c4 c1 c4];rfl
   ·try simp only [R] at c4
    refine zW _ (yS 1 O (regs':=[]) (μ':=[_,_,_,_]) T ⟨EFle.refl _,EFle.row (ds:=[_,_]) ⟨.inl O,.inr ⟨O,O⟩,T⟩,EFle.refl _,EFle.refl _,T⟩)<|zI<|G O<|zO yY (Y 1 O) O<|zO yY (Y 0 O) O<|qJ O ok53 (lin_Add (restL l s) (scaleL u (lastBy l.L s)).1 (by omega) (by omega) hr1 hs1) ⟨H,O,H,O,T⟩<|yO O<|qT O<|D 2 sz41 O<|F O<|I<|o<|w (zV yY O (Y 2 O) O) (p O) ?_
    rw [subst_ok c1 c4];rfl
end Go.W
end
section
set_option maxRecDepth 10000
namespace Go.W
open Go Go.Eng Go.Proofs Go.L41 Go.Br
attribute [local irreducible] AWP RWP TD finQ
end Go.W
end
