/-
  Walks: what functions of the program compute. Printed by wip/gen/mk2.py.
  Walks: what functions of the program compute. Printed by wip/gen/mk2.py.
  Walks: what functions of the program compute. Printed by wip/gen/mk2.py.
  Walks: what functions of the program compute. Printed by wip/gen/mk2.py.
  Walks: what functions of the program compute. Printed by wip/gen/mk2.py.
  Walks: what functions of the program compute. Printed by wip/gen/mk2.py.
  Conditions: none.
-/
import Derived.Test.YtgfomfnjionbeaaGreatDoorGA
import Derived.Test.YtgfomfnjionbeaaGreatDoorPlain2
import Derived.Test.YtgfomfnjionbeaaGreatDoorEngZ
set_option linter.unusedSimpArgs false
set_option linter.unusedVariables false
section
set_option maxRecDepth 10000
namespace Go.W
open Go Go.Eng Go.Proofs Go.L41 Go.Br
attribute [local irreducible] AWP RWP TD finQ
theorem ik2:intT Tryz.prog 2=some .i64:=by kernel_rfl
theorem ok124:callOk Tryz.prog 124=true:=by kernel_rfl
theorem ok126:callOk Tryz.prog 126=true:=by kernel_rfl
theorem ok184:callOk Tryz.prog 184=true:=by kernel_rfl
theorem sz57:(Tryz.prog.info? 57).map (·.size)=some 1:=by kernel_rfl
theorem us154:(Tryz.prog.underlying 154).isSome=true:=by kernel_rfl
theorem lin_plus (a b:Int) (ha:r64 a) (hb:r64 b):
    Pur cfg 185 [vI a,vI b] (.tup [vI (w64 (a+b)),vB (decide (r64 (a+b)))]):=by
 refine zW Tryz.func185 O Tryz.ntmps185 Tryz.results185 O ?_
 intro z hz
 refine Y O<|G O<|G O<|zA<|Y O<|G O<|G O<|zR O (det_add O O O)<|G O<|zA<|Y O<|G O<|G O<|G O<|zR O (yU O O O)<|G O<|zR O (yU O O O)<|zR O (det_beql O un4 O O)<|G O<|G O<|zA<|zG<|fin2 (N O) (N O) ?_
 rw [←plus_ok ha hb];rfl
theorem zCd (x:Int) (hx:r64 x):
    Pur cfg 124 [vI x] (vUn x.natAbs):=by
 refine zW Tryz.func124 O Tryz.ntmps124 Tryz.results124 O ?_
 intro z hz
 refine Y O<|G O<|zA<|zH<|Y O<|G O<|yB O<|zA<|zE O (fun c1=>?_) (fun c1=>?_)
 ·try simp only [sx] at c1
  refine Y O<|G O<|zR O (zAv O us2 ik154 O)<|zR O (det_neg O O)<|G O<|zA<|zG<|zV O ?_
  exact congrArg (fun n=>V.c (.lit (.int .u64 n))) (magn_neg hx c1)
 ·try simp only [sx] at c1
  refine zF<|Y O<|G O<|zR O (zAv O us2 ik154 O)<|G O<|zA<|zG<|zV O ?_
  exact congrArg (fun n=>V.c (.lit (.int .u64 n))) (magn_pos hx (by omega))
theorem zPo (a b:Nat) (ha:a<18446744073709551616) (hb:b<18446744073709551616):
    Pur cfg 126 [vUn a,vUn b] (.tup [vUn (hiN a b),vUn (a*b%18446744073709551616)]):=by
 refine zW Tryz.func126 O Tryz.ntmps126 Tryz.results126 O ?_
 intro z hz
 obtain ⟨p1,p2,p3,p4⟩:=part_le ha hb
 obtain ⟨q1,q2,q3,q4⟩:=hi_bounds ha hb
 refine Y O<|G O<|G O<|zA<|Y O<|G O<|zR O (zLa O O O ha)<|G O<|zR O (zLa O O O hb)<|zR O (zOa O O O (by omega))<|G O<|zA<|Y O<|G O<|zR O (zGc O O O )<|G O<|zR O (zLa O O O hb)<|zR O (zOa O O O (by omega))<|G O<|zR O (zGc O O O )<|zR O (zOb O O O q1)<|G O<|zA<|Y O<|G O<|zR O (zLa O O O ha)<|G O<|zR O (zGc O O O )<|zR O (zOa O O O (by omega))<|G O<|zR O (zLa O O O q1)<|zR O (zOb O O O q2)<|G O<|zA<|Y O<|G O<|zR O (zGc O O O )<|G O<|zR O (zGc O O O )<|zR O (zOa O O O (by omega))<|G O<|zR O (zGc O O O )<|zR O (zOb O O O q3)<|G O<|zR O (zGc O O O )<|zR O (zOb O O O q4)<|G O<|G O<|zR O (det_umod O O O )<|G O<|G O<|zA<|zG<|fin2 (N O) (N O) ?_
 exact O
theorem lin_times (x y:Int) (hx:r64 x) (hy:r64 y):
    Pur cfg 184 [vI x,vI y] (.tup [vI (timesT x y).1,vB (timesT x y).2]):=by
 refine zW Tryz.func184 O Tryz.ntmps184 Tryz.results184 O ?_
 intro z hz
 have hm1:=zEv hx
 have hm2:=zEv hy
 refine Y O<|G O<|G O<|zA<|Y O<|G O<|qK O ok124 (zCd x hx) ⟨zB,O,T⟩<|G O<|qK O ok124 (zCd y hy) ⟨zB,O,T⟩<|qK O ok126 (zPo x.natAbs y.natAbs (by omega) (by omega)) ⟨zB,O,zB,O,T⟩<|qV O<|yI O<|yI O<|G O<|G O<|zA<|Y O<|G O<|yB O<|G O<|yB O<|zR O (det_bneq O un4 O O)<|G O<|zA<|zH<|zT<|Y O<|G O<|yM O<|G O<|rL0 O (fun g3_2=>zS O O) O<|rL1 26 O (fun g3_2=>yU O O O) O<|r_or O (fun h=>(lzf h))<|G O<|rL0 O (fun g3_6=>zS O O) O<|rL1 30 O (fun g3_6=>kC O O O) O<|rL1 31 O (fun g3_6=>zS O O) O<|rLz [] O gv2 T (fun g3_9=>zS O O) O<|rLz [(33,_)] O gv2 ⟨O,O,T⟩ (fun g3_9=>zAz O O) O<|rL1 32 O (fun g3_6=>zCj O O O (fun h=>kU (by assumption) h) O) O<|r_or O (fun h=>(lzf h))<|G O<|zA<|zE O (fun c1=>?_) (fun c1=>?_)
 ·try simp only [sx] at c1
  refine Y O<|G O<|G O<|zA<|zG<|fin2 (N O) (N O) ?_
  rw [times_f hx hy c1]
 ·try simp only [sx] at c1
  refine Y O<|G O<|G O<|zA<|zE O (fun c2=>?_) (fun c2=>?_)
  ·try simp only [sx] at c2
   refine Y O<|G O<|zR O (det_neg O O)<|zR O (zAv O us154 ik2 O)<|G O<|G O<|zA<|zG<|fin2 (N O) (N O) ?_
   rw [times_neg c2 (by have:=c1.1.1;omega) (by have:=c1.1.2;omega)]
  ·try simp only [sx] at c2
   refine zF<|Y O<|G O<|zR O (zAv O us154 ik2 O)<|G O<|G O<|zA<|zG<|fin2 (N O) (N O) ?_
   have hlt:x.natAbs*y.natAbs%18446744073709551616<9223372036854775808:=by
     have h1:=c1.1.2
     rcases c1.2 with h|h
     · omega
     · rw [c2] at h;cases h
   rw [times_pos c2 (by have:=c1.1.1;omega) hlt]
theorem lin_Scale (l:Lf) (by_:Int) (hl:l.L.length<=4294967296) (hr:l.rng) (hb:r64 by_):
    Pur cfg 131 [vLin l,vI by_] (.tup [vLin (scaleL l by_).1,vI (scaleL l by_).2]):=by
 refine zW Tryz.func131 O Tryz.ntmps131 Tryz.results131 O ?_
 intro z hz
 refine Y O<|zZ O O (qO O O) ?_
 rintro _ _ ⟨b1,rfl,rfl⟩
 refine zZ O O (qF [none,some 2] O W O) ?_
 rintro _ _ ⟨b2,rfl,rfl⟩
 refine G O<|zA<|zH<|Y O<|zM kE (J 1 O) O<|qK O ok122 (wW l (by omega)) ⟨zB,O,T⟩<|yM O<|zA<|zE O (fun c1=>?_) (fun c1=>?_)
 ·try simp only [sx] at c1
  have hl0:=zPp c1
  refine Y O<|yY [none,some 2] O W pl59<|D 0 sz59 O<|G O<|zA<|zG<|fin2 (zY kE O (J 0 O) O) (N O) ?_
  rw [scale_bad hl0];rfl
 ·try simp only [sx] at c1
  have hl1:=zFj c1
  refine zF<|zH<|Y O<|G O<|yX O<|zA<|zE O (fun c2=>?_) (fun c2=>?_)
  ·try simp only [sx] at c2
   refine Y O<|yY [none,some 2] O W pl59<|D 0 sz59 O<|G O<|zA<|zG<|fin2 (zY kE O (J 0 O) O) (N O) ?_
   rw [scale_zero hl1 c2];rfl
  ·try simp only [sx] at c2
   refine zF<|Y O<|zD O zFk<|zI one2 (J 1 O) O<|G O<|qK O ok184 (lin_times l.K by_ hr.1 hb) ⟨zB,O,zB,O,T⟩<|qV O<|yI O<|yI O<|G O<|G O<|zA<|Y O<|G O<|yF O W pl59<|zZ O O (qX O W) ?_
   rintro _ _ ⟨b3,rfl,rfl⟩
   refine yK _ (kI 139 2)<|D 1 sz59 O<|zA<|zH<|Y O<|zD O zAe<|zI zEg (J 3 O) O<|qB O U<|G O<|zA<|zT<|zU ⟨[(32,.c _),(7,.c _),(1,.c _),(4,.c _),(8,.c _),(30,.c _),(31,.c _)],[_,_,_]⟩ (Weak.mk [true,true,true,false] ⟨zB,zB,zB,zB,zB,zB,zB,T⟩ O)<|qJ 2 2 O O (Nat×Value) (fun ⟨k,sv⟩=>[(32,vI k),(7,vB ((timesT l.K by_).2&&scaleB by_ (l.L.take k)))]) (fun ⟨k,sv⟩=>[E.vec sv 139 2 ((scaleW by_ (l.L.take k)).map Mono.cells),E.row b3 59 [cI (timesT l.K by_).1,.lit sv]]) (fun ⟨k,sv⟩=>k<=l.L.length) (fun ⟨k,sv⟩=>l.L.length-k) ⟨⟨0,_⟩,(by omega),Weak.mk [true,true,true] ⟨zB,VLe.of_eq (by rw [show scaleB by_ (l.L.take 0)=true from rfl,Bool.and_true];rfl),zB,zB,zB,zB,zB,T⟩ O⟩ ?_
   rintro ⟨k,sv⟩ hk
   show AWP _ _ _ _ _ ⟨[(32,vI k),(7,vB ((timesT l.K by_).2&&scaleB by_ (l.L.take k)))]++_,[E.vec sv 139 2 ((scaleW by_ (l.L.take k)).map Mono.cells),E.row b3 59 [cI (timesT l.K by_).1,.lit sv]]++_⟩
   refine Y O<|yB O<|zA<|zH<|zE O (fun c3=>?_) (fun c3=>?_)
   ·try simp only [sx] at c3
    obtain ⟨x,hx⟩:=yD l.L k (by omega)
    refine zF<|zH<|zT<|Y O<|qD O U (by omega) (getm (by assumption))<|zM zEf qH O<|zZ O O (qX O zEr) ?_
    rintro _ _ ⟨b5,rfl,rfl⟩
    refine D 0 sz139 O<|zA<|Y O<|zD O zEb<|zI one2 (J 0 O) O<|G O<|qK O ok184 (lin_times x.By by_ (hr.2 x (qC hx)) hb) ⟨zB,O,zB,O,T⟩<|qV O<|yI O<|yI O<|G O<|G O<|zA<|Y O<|G O<|G O<|rL0 O (fun g11_1=>zS O O) O<|wC O (fun h=>h)<|G O<|zA<|zP O<|zD O zAe<|zI zEg (J 2 O) O<|zD O wS<|zI one9 (J 0 O) O<|G O<|yF O zEr pl139<|zR O (qS O U zEr O O O O)<|zZ O O (yH 1 O U O O O (by simp only [List.length_map,List.length_append,List.length_cons,List.length_nil,scaleW_len,List.length_take];omega) (by simp only [List.length_map,List.length_append,List.length_cons,List.length_nil,scaleW_len,List.length_take];omega)) ?_
    rintro _ _ ⟨sv6,rfl,rfl⟩
    refine zD O zAe<|D 2 sz57 O<|zA<|zP O<|qM O ⟨by omega,by omega⟩<|G O<|zA ?_
    refine ⟨⟨k+1,sv6⟩,(by omega),(by show l.L.length-(k+1)<l.L.length-k;omega),Weak.mk [false,true,true,true] ⟨zB,VLe.of_eq (by rw [scaleB_next hx,←Bool.and_assoc];rfl),zB,zB,zB,zB,zB,T⟩ (by show _=[E.vec sv6 _ 2 ((scaleW by_ (l.L.take (k+1))).map Mono.cells),E.row b3 _ [cI (timesT l.K by_).1,.lit sv6]]++_;rw [scaleW_next hx,List.map_append];rfl)⟩
   ·try simp only [sx] at c3
    rw [yC (l:=l.L) (k:=k) (by omega)]
    refine qP<|zH<|Y O<|G O<|wG O<|zA<|zE O (fun c4=>?_) (fun c4=>?_)
    ·try simp only [sx] at c4
     refine Y O<|yY [none,some 2] O W pl59<|D 2 sz59 O<|G O<|zA<|zG<|fin2 (zY kE O (J 2 O) O) (N O) ?_
     rw [scale_no hl1 c2 c4];rfl
    ·try simp only [sx] at c4
     refine zF<|Y O<|zM kE (J 1 O) O<|D 2 sz59 O<|G O<|zA<|zU _ (yJ 0 O (regs':=[(60,.agg [_,_])]) (μ':=[_,_]) ⟨FLe.agg ⟨.inl O,.inr ⟨O,O⟩,T⟩,T⟩ ⟨EFle.row (ds:=[_,_]) ⟨.inl O,.inr ⟨O,O⟩,T⟩,EFle.row (ds:=[_,_]) ⟨.inl O,.inr ⟨O,O⟩,T⟩,T⟩)<|zG<|fin2 (zY kE O (J 1 O) O) (N O) ?_
     rw [scale_ok hl1 c2 c4];rfl
end Go.W
end
section
set_option maxRecDepth 10000
namespace Go.W
open Go Go.Eng Go.Proofs Go.L41 Go.Br
attribute [local irreducible] AWP RWP TD finQ
theorem ok131:callOk Tryz.prog 131=true:=by kernel_rfl
theorem ok132:callOk Tryz.prog 132=true:=by kernel_rfl
theorem ok185:callOk Tryz.prog 185=true:=by kernel_rfl
theorem ok186:callOk Tryz.prog 186=true:=by kernel_rfl
theorem ok187:callOk Tryz.prog 187=true:=by kernel_rfl
theorem one4:oneT Tryz.prog 4=true:=by kernel_rfl
theorem sz2:(Tryz.prog.info? 2).map (·.size)=some 1:=by kernel_rfl
theorem sz4:(Tryz.prog.info? 4).map (·.size)=some 1:=by kernel_rfl
theorem zr4:zeroT Tryz.prog 4=some [(Value.bool false)]:=by kernel_rfl
theorem merge_con (a0 b0:List Mono) (ha0:a0.length<=4294967296) (hb0:b0.length<=4294967296):
    ∀(y:C) (J:List Tr->List E->Prop) (μ:List E),(∀d t s m,mergeL a0 b0=d++t::s->J d m->FnCon cfg y [vS t.1,vI t.2.1,vI t.2.2] m fun r m'=>r=.tup []/\J (d++[t]) m')->J [] μ->Con cfg 186 [.c (.sl 2 (a0.map Mono.cells)),.c (.sl 2 (b0.map Mono.cells)),.c y] μ fun r μ'=>r=.tup []/\J (mergeL a0 b0) μ':=by
 intro y J μ hy h0
 refine zW Tryz.func186 O Tryz.ntmps186 Tryz.results186 O ?_
 intro z hz
 refine zT<|zU ⟨[(0,.c _),(1,.c _),(2,.c _)],_⟩ (Weak.regs ⟨zB,zB,zB,T⟩)<|zDp 2 O (List Mono×List Mono×List Tr×List E) (fun ⟨a,b,d,m⟩=>[(0,.c (.sl 2 (a.map Mono.cells))),(1,.c (.sl 2 (b.map Mono.cells)))]) (fun ⟨a,b,d,m⟩=>m) (fun ⟨a,b,d,m⟩=>a.length<=4294967296/\b.length<=4294967296/\mergeL a0 b0=d++mergeL a b/\J d m) (fun ⟨a,b,d,m⟩=>a.length+b.length) ⟨⟨a0,b0,[],μ⟩,⟨ha0,hb0,O,h0⟩,Weak.regs ⟨zB,zB,zB,T⟩⟩ ?_
 rintro ⟨a,b,d,m⟩ ⟨hal,hbl,hm,hJ⟩
 refine zH<|Y O<|G O<|qB O U<|zR O (yU O O O)<|G O<|rL0 O (fun g0_3=>zS O O) O<|rL1 10 O (fun g0_3=>yW O U O) O<|rL1 11 O (fun g0_3=>yU O O O) O<|r_or O (fun h=>(lzf h))<|zA<|zE O (fun c1=>?_) (fun c1=>?_)
 ·try simp only [sx] at c1
  refine zF<|zT<|zT<|zH<|yL 20 mixed (by kernel_rfl) O O<|zQ O O (zS O O)<|zQ O O (yW O U O)<|zQ O O (kC O O O)<|zQ O O (zS O O)<|qQ [] O O O O gv1 T (fun g3_3=>zS O O) O<|qQ [(37,_)] O O O O gv1 ⟨O,O,T⟩ (fun g3_3=>yW O U O) O<|qQ [(38,_)] O O O O gv1 ⟨O,O,T⟩ (fun g3_3=>yU O O O) O<|qQ [(39,_)] O O O O gv1 ⟨O,O,T⟩ (fun g3_3=>zS O O) O<|qQ [] O O O O gv2 T (fun g3_7=>zS O O) O<|qQ [(41,_)] O O O O gv2 ⟨O,O,T⟩ (fun g3_7=>qU O U O O (by simp only [Lz,cond_true,cond_false,Bool.and_eq_true,Bool.or_eq_true,Bool.not_eq_true',Bool.not_eq_false',Bool.or_eq_false_iff,Bool.and_eq_false_iff,decide_eq_true_eq,decide_eq_false_iff_not,Bool.not_eq_true,Bool.not_eq_false] at g3_7;omega) (getm (zHv (by simp only [Lz,cond_true,cond_false,Bool.and_eq_true,Bool.or_eq_true,Bool.not_eq_true',Bool.not_eq_false',Bool.or_eq_false_iff,Bool.and_eq_false_iff,decide_eq_true_eq,decide_eq_false_iff_not,Bool.not_eq_true,Bool.not_eq_false] at g3_7;omega)))) O<|qQ [(42,_)] O O O O gv2 ⟨O,O,T⟩ (fun g3_7=>qI O wS O) O<|qQ [(43,_)] O O O O gv2 ⟨O,O,T⟩ (fun g3_7=>zK O one9 O qH O) O<|qQ [] O O O O gv2 T (fun g3_7=>zS O O) O<|qQ [(45,_)] O O O O gv2 ⟨O,O,T⟩ (fun g3_7=>qU O U O O (by simp only [Lz,cond_true,cond_false,Bool.and_eq_true,Bool.or_eq_true,Bool.not_eq_true',Bool.not_eq_false',Bool.or_eq_false_iff,Bool.and_eq_false_iff,decide_eq_true_eq,decide_eq_false_iff_not,Bool.not_eq_true,Bool.not_eq_false] at g3_7;omega) (getm (zHv (by simp only [Lz,cond_true,cond_false,Bool.and_eq_true,Bool.or_eq_true,Bool.not_eq_true',Bool.not_eq_false',Bool.or_eq_false_iff,Bool.and_eq_false_iff,decide_eq_true_eq,decide_eq_false_iff_not,Bool.not_eq_true,Bool.not_eq_false] at g3_7;omega)))) O<|qQ [(46,_)] O O O O gv2 ⟨O,O,T⟩ (fun g3_7=>qI O wS O) O<|qQ [(47,_)] O O O O gv2 ⟨O,O,T⟩ (fun g3_7=>zK O one9 O qH O) O<|qQ [(44,_),(48,_)] O O O O gv2 ⟨O,O,O,O,T⟩ (fun g3_7=>det_slss O O O) O<|qQ [(40,_)] O O O O gv1 ⟨O,O,T⟩ (fun g3_3=>zCj O O O (fun h=>kU (by assumption) h) O) O<|zQ O O (zDh O O O O (fun h=>(lzf h)))<|zQ O O (yV O O)<|kL<|zA<|zE O (fun c2=>?_) (fun c2=>?_)
  ·have hL:=merge_left (by omega) c2
   have hdec:(a.drop 1).length+(b).length<a.length+b.length:=by simp only [List.length_drop];omega
   have hm1:mergeL a0 b0=(d++[((hdM a).Name,(hdM a).By,0)])++mergeL (a.drop 1) (b):=by rw [hm,hL.2];simp
   refine zH<|yL 9 mixed (by kernel_rfl) O O<|zQ O O (zS O O)<|zQ O O (zS O O)<|zQ O O (qU O U O O (by omega) (getm (zHv (by omega))))<|zQ O O (qI O wS O)<|zQ O O (zK O one9 O qH O)<|zQ O O (zS O O)<|zQ O O (qU O U O O (by omega) (getm (zHv (by omega))))<|zQ O O (qI O zEb O)<|zQ O O (zK O one2 O qH O)<|kL<|zZ O O (wU O O (hy d ((hdM a).Name,(hdM a).By,0) _ m (by rw [hm1,List.append_assoc];rfl) hJ) ⟨zB,O,zB,O,zB,O,T⟩) ?_
   rintro _ m1 ⟨rfl,hJ1⟩
   refine zA<|zP O<|G O<|zR O (zEp (k:=1) O U O O (by omega))<|G O<|zA ?_
   exact l5
  ·have hb1:=mC2_b c2
   refine zH<|yL 15 mixed (by kernel_rfl) O O<|zQ O O (zS O O)<|zQ O O (yW O U O)<|zQ O O (kC O O O)<|zQ O O (zS O O)<|qQ [] O O O O gv1 T (fun g6_3=>zS O O) O<|qQ [(69,_)] O O O O gv1 ⟨O,O,T⟩ (fun g6_3=>qU O U O O (by simp only [Lz,cond_true,cond_false,Bool.and_eq_true,Bool.or_eq_true,Bool.not_eq_true',Bool.not_eq_false',Bool.or_eq_false_iff,Bool.and_eq_false_iff,decide_eq_true_eq,decide_eq_false_iff_not,Bool.not_eq_true,Bool.not_eq_false] at g6_3;omega) (getm (zHv (by simp only [Lz,cond_true,cond_false,Bool.and_eq_true,Bool.or_eq_true,Bool.not_eq_true',Bool.not_eq_false',Bool.or_eq_false_iff,Bool.and_eq_false_iff,decide_eq_true_eq,decide_eq_false_iff_not,Bool.not_eq_true,Bool.not_eq_false] at g6_3;omega)))) O<|qQ [(70,_)] O O O O gv1 ⟨O,O,T⟩ (fun g6_3=>qI O wS O) O<|qQ [(71,_)] O O O O gv1 ⟨O,O,T⟩ (fun g6_3=>zK O one9 O qH O) O<|qQ [] O O O O gv1 T (fun g6_3=>zS O O) O<|qQ [(73,_)] O O O O gv1 ⟨O,O,T⟩ (fun g6_3=>qU O U O O (by simp only [Lz,cond_true,cond_false,Bool.and_eq_true,Bool.or_eq_true,Bool.not_eq_true',Bool.not_eq_false',Bool.or_eq_false_iff,Bool.and_eq_false_iff,decide_eq_true_eq,decide_eq_false_iff_not,Bool.not_eq_true,Bool.not_eq_false] at g6_3;omega) (getm (zHv (by simp only [Lz,cond_true,cond_false,Bool.and_eq_true,Bool.or_eq_true,Bool.not_eq_true',Bool.not_eq_false',Bool.or_eq_false_iff,Bool.and_eq_false_iff,decide_eq_true_eq,decide_eq_false_iff_not,Bool.not_eq_true,Bool.not_eq_false] at g6_3;omega)))) O<|qQ [(74,_)] O O O O gv1 ⟨O,O,T⟩ (fun g6_3=>qI O wS O) O<|qQ [(75,_)] O O O O gv1 ⟨O,O,T⟩ (fun g6_3=>zK O one9 O qH O) O<|qQ [(72,_),(76,_)] O O O O gv1 ⟨O,O,O,O,T⟩ (fun g6_3=>det_slss O O O) O<|zQ O O (zDh O O O O (fun h=>(lzf h)))<|zQ O O (yV O O)<|kL<|zA<|zE O (fun c3=>?_) (fun c3=>?_)
   ·have hL:=merge_right (by omega) c2 c3
    have hdec:(a).length+(b.drop 1).length<a.length+b.length:=by simp only [List.length_drop];omega
    have hm1:mergeL a0 b0=(d++[((hdM b).Name,0,(hdM b).By)])++mergeL (a) (b.drop 1):=by rw [hm,hL.2];simp
    refine zH<|yL 9 mixed (by kernel_rfl) O O<|zQ O O (zS O O)<|zQ O O (zS O O)<|zQ O O (qU O U O O (by omega) (getm (zHv (by omega))))<|zQ O O (qI O wS O)<|zQ O O (zK O one9 O qH O)<|zQ O O (zS O O)<|zQ O O (qU O U O O (by omega) (getm (zHv (by omega))))<|zQ O O (qI O zEb O)<|zQ O O (zK O one2 O qH O)<|kL<|zZ O O (wU O O (hy d ((hdM b).Name,0,(hdM b).By) _ m (by rw [hm1,List.append_assoc];rfl) hJ) ⟨zB,O,zB,O,zB,O,T⟩) ?_
    rintro _ m1 ⟨rfl,hJ1⟩
    refine zA<|zP O<|G O<|zR O (zEp (k:=1) O U O O (by omega))<|G O<|zA ?_
    exact l5
   ·have hL:=merge_both c2 c3
    have hdec:(a.drop 1).length+(b.drop 1).length<a.length+b.length:=by simp only [List.length_drop];omega
    have hm1:mergeL a0 b0=(d++[((hdM a).Name,(hdM a).By,(hdM b).By)])++mergeL (a.drop 1) (b.drop 1):=by rw [hm,hL.2.2];simp
    refine zH<|yL 13 mixed (by kernel_rfl) O O<|zQ O O (zS O O)<|zQ O O (zS O O)<|zQ O O (qU O U O O (by omega) (getm (zHv (by omega))))<|zQ O O (qI O wS O)<|zQ O O (zK O one9 O qH O)<|zQ O O (zS O O)<|zQ O O (qU O U O O (by omega) (getm (zHv (by omega))))<|zQ O O (qI O zEb O)<|zQ O O (zK O one2 O qH O)<|zQ O O (zS O O)<|zQ O O (qU O U O O (by omega) (getm (zHv (by omega))))<|zQ O O (qI O zEb O)<|zQ O O (zK O one2 O qH O)<|kL<|zZ O O (wU O O (hy d ((hdM a).Name,(hdM a).By,(hdM b).By) _ m (by rw [hm1,List.append_assoc];rfl) hJ) ⟨zB,O,zB,O,zB,O,T⟩) ?_
    rintro _ m1 ⟨rfl,hJ1⟩
    refine zA<|yL 6 mixed (by kernel_rfl) O O<|zQ O O (zS O O)<|zQ O O (zEp (k:=1) O U O O (by omega))<|zQ O O (zS O O)<|zQ O O (zEp (k:=1) O U O O (by omega))<|zQ O O (yV O O)<|zQ O O (yV O O)<|kL<|zA ?_
    exact l5
 ·try simp only [sx] at c1
  refine qP ?_
  repeat (first|refine yN ?_|refine yE ?_)
  refine kJ<|q ?_
  exact ⟨O,by rw [hm,show a=[] from List.eq_nil_of_length_eq_zero (by omega),show b=[] from List.eq_nil_of_length_eq_zero (by omega),mergeL_nil,List.append_nil];exact hJ⟩
theorem lin_Add_1 (bo bl:Nat) (ok:Bool) (K:Int) (sv:Value) (d:List Tr) (t:Tr) (h1:r64 t.2.1) (h2:r64 t.2.2) (hd:d.length<=8589934592):
    Con cfg 187 [vS t.1,vI t.2.1,vI t.2.2,.c (.lit (.pointer (some ⟨bo,0,none⟩))),.c (.lit (.pointer (some ⟨bl,0,none⟩)))] [E.row bo 4 [cB (okF ok (d))],E.vec sv 139 2 ((sumW (d)).map Mono.cells),E.row bl 59 [cI K,.lit sv]] fun r μ'=>r=.tup []/\∃sv',μ'=[E.row bo 4 [cB (okF ok (d++[t]))],E.vec sv' 139 2 ((sumW (d++[t])).map Mono.cells),E.row bl 59 [cI K,.lit sv']]:=by
 refine zW Tryz.func187 O Tryz.ntmps187 Tryz.results187 O ?_
 intro z hz
 refine Y O<|G O<|G O<|qK O ok185 (lin_plus t.2.1 t.2.2 h1 h2) ⟨zB,O,zB,O,T⟩<|qV O<|yI O<|yI O<|G O<|G O<|zA<|Y O<|zI one4 (J 0 O) O<|G O<|rL0 O (fun g1_1=>zS O O) O<|wC O (fun h=>h)<|D 0 sz4 O<|zA<|Y O<|G O<|yM O<|zA<|zE O (fun c1=>?_) (fun c1=>?_)
 ·try simp only [sx] at c1
  refine zP O<|zD O zAe<|zI zEg (J 2 O) O<|G O<|G O<|yF O zEr pl139<|zR O (qS O U zEr O O O O)<|zZ O O (yH 1 O U O O O (by have:=zNy d;simp only [List.length_map,List.length_append,List.length_cons,List.length_nil];omega) (by have:=zNy d;simp only [List.length_map,List.length_append,List.length_cons,List.length_nil];omega)) ?_
  rintro _ _ ⟨sv1,rfl,rfl⟩
  refine zD O zAe<|D 2 sz57 O<|zA ?_
  repeat (first|refine yN ?_|refine yE ?_)
  refine kJ<|q ?_
  exact ⟨O,_,by rw [okF_next,sumW_next,if_neg (show ¬w64 (trV t)=0 from c1),List.map_append];rfl⟩
 ·try simp only [sx] at c1
  refine zF ?_
  repeat (first|refine yN ?_|refine yE ?_)
  refine kJ<|q ?_
  exact ⟨O,_,by rw [okF_next,sumW_next,if_pos (show w64 (trV t)=0 from c1),List.append_nil];rfl⟩
theorem lin_Add (a b:Lf) (ha:a.L.length<=4294967296) (hb:b.L.length<=4294967296) (hra:a.rng) (hrb:b.rng):
    Pur cfg 132 [vLin a,vLin b] (.tup [vLin (addL a b).1,vI (addL a b).2]):=by
 refine zW Tryz.func132 O Tryz.ntmps132 Tryz.results132 O ?_
 intro z hz
 refine Y O<|zZ O O (qO O O) ?_
 rintro _ _ ⟨b1,rfl,rfl⟩
 refine zZ O O (qO O O) ?_
 rintro _ _ ⟨b2,rfl,rfl⟩
 refine zZ O O (qF [none,some 2] O W O) ?_
 rintro _ _ ⟨b3,rfl,rfl⟩
 refine G O<|zA<|zH<|Y O<|zM kE (J 2 O) O<|qK O ok122 (wW a (by omega)) ⟨zB,O,T⟩<|yM O<|G O<|rL0 O (fun g1_3=>qA O kE O (J 1 O) O) O<|rL1 12 O (fun g1_3=>qR O ok122 (wW b (by omega)) ⟨zB,O,T⟩) O<|rL1 13 O (fun g1_3=>zBa O O O) O<|r_or O (fun h=>(lzf h))<|zA<|zE O (fun c1=>?_) (fun c1=>?_)
 ·try simp only [sx] at c1
  refine Y O<|yY [none,some 2] O W pl59<|D 0 sz59 O<|G O<|zA<|zG<|fin2 (zY kE O (J 0 O) O) (N O) ?_
  rw [add_c1 c1];rfl
 ·try simp only [sx] at c1
  have hla:=zFj c1.1
  have hlb:=zFj c1.2
  refine zF<|Y O<|zZ O O (qX O W) ?_
  rintro _ _ ⟨b4,rfl,rfl⟩
  refine yK _ (kI 139 2)<|zA<|Y O<|zZ O O (qX O zr4) ?_
  rintro _ _ ⟨b6,rfl,rfl⟩
  refine zA<|Y O<|zD O zFk<|zI one2 (J 5 O) O<|zD O zFk<|zI one2 (J 4 O) O<|qK O ok185 (lin_plus a.K b.K hra.1 hrb.1) ⟨zB,O,zB,O,T⟩<|qV O<|yI O<|yI O<|zD O zFk<|D 2 sz2 O<|D 0 sz4 O<|zA<|Y O<|zD O zAe<|zI zEg (J 5 O) O<|zD O zAe<|zI zEg (J 4 O) O<|zR O (zCw O O O O O)<|zZ O O (zCs O ok186 (Con.frame (merge_con a.L b.L ha hb _ (fun d m=>∃sv,m=[E.row b6 4 [cB (okF (decide (r64 (a.K+b.K))) (d))],E.vec sv 139 2 ((sumW (d)).map Mono.cells),E.row b4 59 [cI (w64 (a.K+b.K)),.lit sv]]) _ (fun d t s m he hj=>by obtain ⟨sv,rfl⟩:=hj;obtain ⟨k1,k2,k3⟩:=merge_rng hra.2 hrb.2 he;exact FnCon.of_con (first:=[]) (cap:=[.lit (.pointer (some ⟨b6,0,none⟩)),.lit (.pointer (some ⟨b4,0,none⟩))]) ok187 (lin_Add_1 b6 b4 (decide (r64 (a.K+b.K))) (w64 (a.K+b.K)) sv d t k1 k2 (by omega))) ⟨_,O⟩) _) ⟨zB,O,zB,O,zB,O,T⟩) ?_
  rintro _ _ ⟨_,⟨rfl,sv7,rfl⟩,rfl⟩
  refine zA<|zH<|Y O<|zI one4 (J 0 O) O<|wG O<|zA<|zE O (fun c2=>?_) (fun c2=>?_)
  ·try simp only [sx] at c2
   refine Y O<|yY [none,some 2] O W pl59<|D 3 sz59 O<|G O<|zA<|zG<|fin2 (zY kE O (J 3 O) O) (N O) ?_
   rw [add_no hla hlb c2];rfl
  ·try simp only [sx] at c2
   refine zF<|Y O<|zM kE (J 2 O) O<|D 3 sz59 O<|G O<|zA<|zU _ (yJ 1 O (regs':=[(35,.agg [_,_])]) (μ':=[_,_,_,_,_]) ⟨FLe.agg ⟨.inl O,.inr ⟨O,O⟩,T⟩,T⟩ ⟨EFle.refl _,EFle.row (ds:=[_,_]) ⟨.inl O,.inr ⟨O,O⟩,T⟩,EFle.row (ds:=[_,_]) ⟨.inl O,.inr ⟨O,O⟩,T⟩,EFle.refl _,EFle.refl _,T⟩)<|zG<|fin2 (zY kE O (J 2 O) O) (N O) ?_
   rw [add_ok hla hlb c2];rfl
theorem lin_Substitute (l:Lf) (s:ByteArray) (u:Lf) (hl:l.L.length<=4294967296) (ht:u.L.length<=4294967296) (hrl:l.rng) (hrt:u.rng):
    Pur cfg 71 [vLin l,vS s,vLin u] (.tup [vLin (substP l s u).1,vI (substP l s u).2]):=by
 refine zW Tryz.func71 O Tryz.ntmps71 Tryz.results71 O ?_
 intro z hz
 obtain ⟨hs1,hs2⟩:=scale_rng u (lastBy l.L s)
 obtain ⟨hr1,hr2⟩:=rest_rng hrl s
 refine Y O<|zZ O O (qO O O) ?_
 rintro _ _ ⟨b1,rfl,rfl⟩
 refine zZ O O (qO O O) ?_
 rintro _ _ ⟨b2,rfl,rfl⟩
 refine zZ O O (qF [none,some 2] O W O) ?_
 rintro _ _ ⟨b3,rfl,rfl⟩
 refine G O<|zA<|zH<|Y O<|zM kE (J 2 O) O<|qK O ok122 (wW l (by omega)) ⟨zB,O,T⟩<|yM O<|G O<|rL0 O (fun g1_3=>zS O O) O<|rL1 18 O (fun g1_3=>qR O ok73 (zEy s) ⟨zB,O,T⟩) O<|rL1 19 O (fun g1_3=>zAz O O) O<|r_or O (fun h=>(lzf h))<|G O<|rL0 O (fun g1_8=>qA O kE O (J 1 O) O) O<|rL1 23 O (fun g1_8=>qR O ok122 (wW u (by omega)) ⟨zB,O,T⟩) O<|rL1 24 O (fun g1_8=>zBa O O O) O<|r_or O (fun h=>(lzf h))<|zA<|zE O (fun c1=>?_) (fun c1=>?_)
 ·try simp only [sx] at c1
  refine Y O<|yY [none,some 2] O W pl59<|D 0 sz59 O<|G O<|zA<|zG<|fin2 (zY kE O (J 0 O) O) (N O) ?_
  rw [subst_c1 c1];rfl
 ·try simp only [sx] at c1
  refine zF<|Y O<|zD O zFk<|zI one2 (J 2 O) O<|yF O W pl59<|zZ O O (qX O W) ?_
  rintro _ _ ⟨b4,rfl,rfl⟩
  refine yK _ (kI 139 2)<|D 1 sz59 O<|zA<|Y O<|G O<|zA<|zH<|Y O<|zD O zAe<|zI zEg (J 4 O) O<|qB O U<|G O<|zA<|zT<|zU ⟨[(34,.c _),(9,.c _),(1,.c _),(5,.c _),(6,.c _),(8,.c _),(32,.c _),(33,.c _)],[_,_,_,_]⟩ (Weak.mk [true,true,true,true,false] ⟨zB,zB,zB,zB,zB,zB,zB,zB,T⟩ O)<|qJ 2 2 O O (Nat×Value) (fun ⟨k,sv⟩=>[(34,vI k),(9,vI (lastBy (l.L.take k) s))]) (fun ⟨k,sv⟩=>[E.vec sv 139 2 (((l.L.take k).filter (fun m=> !decide (m.Name=s))).map Mono.cells),E.row b4 59 [cI l.K,.lit sv]]) (fun ⟨k,sv⟩=>k<=l.L.length) (fun ⟨k,sv⟩=>l.L.length-k) ⟨⟨0,_⟩,(by omega),Weak.mk [true,true,true,true] ⟨zB,VLe.of_eq (O),zB,zB,zB,zB,zB,zB,T⟩ O⟩ ?_
  rintro ⟨k,sv⟩ hk
  show AWP _ _ _ _ _ ⟨[(34,vI k),(9,vI (lastBy (l.L.take k) s))]++_,[E.vec sv 139 2 (((l.L.take k).filter (fun m=> !decide (m.Name=s))).map Mono.cells),E.row b4 59 [cI l.K,.lit sv]]++_⟩
  refine Y O<|yB O<|zA<|zH<|zE O (fun c2=>?_) (fun c2=>?_)
  ·try simp only [sx] at c2
   obtain ⟨x,hx⟩:=yD l.L k (by omega)
   refine zF<|zH<|zT<|Y O<|qD O U (by omega) (getm (by assumption))<|zM zEf qH O<|zZ O O (qX O zEr) ?_
   rintro _ _ ⟨b6,rfl,rfl⟩
   refine D 0 sz139 O<|zA<|zH<|Y O<|zD O wS<|zI one9 (J 0 O) O<|G O<|kY O<|zA<|zE O (fun c3=>?_) (fun c3=>?_)
   ·try simp only [sx] at c3
    refine Y O<|zD O zEb<|zI one2 (J 0 O) O<|G O<|zA<|qP<|zP O<|qM O ⟨by omega,by omega⟩<|G O<|zA ?_
    exact l7
   ·try simp only [sx] at c3
    refine zF<|zP O<|zD O zAe<|zI zEg (J 2 O) O<|zM zEf (J 0 O) O<|zR O (qS O U zEr O O O O)<|zZ O O (yH 1 O U O O O (by have:=List.length_filter_le (fun m:Mono=> !decide (m.Name=s)) (l.L.take k);simp only [List.length_map,List.length_append,List.length_cons,List.length_nil,List.length_take] at *;omega) (by have:=List.length_filter_le (fun m:Mono=> !decide (m.Name=s)) (l.L.take k);simp only [List.length_map,List.length_append,List.length_cons,List.length_nil,List.length_take] at *;omega)) ?_
    rintro _ _ ⟨sv7,rfl,rfl⟩
    refine zD O zAe<|D 2 sz57 O<|zA<|zP O<|qM O ⟨by omega,by omega⟩<|G O<|zA ?_
    exact l7
  ·try simp only [sx] at c2
   rw [yC (l:=l.L) (k:=k) (by omega)]
   refine qP<|Y O<|zM kE (J 3 O) O<|G O<|qK O ok131 (lin_Scale u (lastBy l.L s) ht hrt (last_rng hrl s)) ⟨zB,O,zB,O,T⟩<|qV O<|zR O (yA O O O)<|yI O<|zZ O O (qF [none,some 2] O W O) ?_
   rintro _ _ ⟨b8,rfl,rfl⟩
   refine D 0 sz59 O<|G O<|zA<|zH<|Y O<|G O<|yM O<|zA<|zE O (fun c4=>?_) (fun c4=>?_)
   ·try simp only [sx] at c4
    refine Y O<|yY [none,some 2] O W pl59<|G O<|D 3 sz59 O<|G O<|zA<|zG<|fin2 (zY kE O (J 3 O) O) (N O) ?_
    rw [subst_c4 c1 c4];rfl
   ·try simp only [sx] at c4
    refine zU _ (yJ 1 O (regs':=[]) (μ':=[_,_,_,_]) T ⟨EFle.refl _,EFle.row (ds:=[_,_]) ⟨.inl O,.inr ⟨O,O⟩,T⟩,EFle.refl _,EFle.refl _,T⟩)<|zF<|Y O<|zM kE (J 1 O) O<|zM kE (J 0 O) O<|qK O ok132 (lin_Add (restL l s) (scaleL u (lastBy l.L s)).1 (by omega) (by omega) hr1 hs1) ⟨zB,O,zB,O,T⟩<|zR O (yA O O O)<|yI O<|D 2 sz59 O<|G O<|zA<|zG<|fin2 (zY kE O (J 2 O) O) (N O) ?_
    rw [subst_ok c1 c4];rfl
end Go.W
end
section
set_option maxRecDepth 10000
namespace Go.W
open Go Go.Eng Go.Proofs Go.L41 Go.Br
attribute [local irreducible] AWP RWP TD finQ
theorem ok70:callOk Tryz.prog 70=true:=by kernel_rfl
theorem ok71:callOk Tryz.prog 71=true:=by kernel_rfl
theorem zMr (l:Lf) (s:ByteArray) (u:Lf) (hl:l.L.length<=4294967296) (ht:u.L.length<=4294967296) (hrl:l.rng) (hrt:u.rng):
    Pur cfg 70 [vLin l,.c (.iptr [cS s]),.c (.iptr u.cells)] (.tup [vLin (substP l s u).1,vI (substP l s u).2]):=by
 refine zW Tryz.func70 O Tryz.ntmps70 Tryz.results70 O ?_
 intro z hz
 refine Y O<|zZ O O (qO O O) ?_
 rintro _ _ ⟨b1,rfl,rfl⟩
 refine zZ O O (qF [none,some 2] O W O) ?_
 rintro _ _ ⟨b2,rfl,rfl⟩
 refine G O<|zA<|Y O<|zM kE (J 1 O) O<|zI one9 qH O<|zM kE qH O<|qK O ok71 (lin_Substitute l s u hl ht hrl hrt) ⟨zB,O,zB,O,zB,O,T⟩<|zR O (yA O O O)<|yI O<|D 0 sz59 O<|G O<|zA<|zG<|fin2 (zY kE O (J 0 O) O) (N O) ?_
 exact O
theorem zId (e:Ex) (s:ByteArray) (u:Lf) (he:e.wt<=4294967296) (hP:e.allF Lf.rng) (ht:u.L.length<=4294967296) (hrt:u.rng):
    Pur cfg 27 [vE e,vS s,vLin u] (.tup [vE (outE (mEx (fun l=>substP l s u) e)),vI (errE (mEx (fun l=>substP l s u) e))]):=by
 refine zW Tryz.func27 O Tryz.ntmps27 Tryz.results27 O ?_
 intro z hz
 refine Y O<|zZ O O (qO O O) ?_
 rintro _ _ ⟨b1,rfl,rfl⟩
 refine zZ O O (qO O O) ?_
 rintro _ _ ⟨b2,rfl,rfl⟩
 refine zZ O O (qO O O) ?_
 rintro _ _ ⟨b3,rfl,rfl⟩
 refine zZ O O (qF [none,none,none,none,none,none,none,none,none,none,some 2,some 4,some 13] O zr62 O) ?_
 rintro _ _ ⟨b4,rfl,rfl⟩
 refine G O<|zA<|Y O<|zM kD (J 3 O) O<|zR O (zCw O O O O O)<|yK _ (yZ 2 O 9 (.c (.fn _ _ [_,_])) (PLe.fn ⟨.inr ⟨O,O⟩,.inl O,T⟩))<|yK _ (yZ 1 O 9 (.c (.fn _ _ [_,_])) (PLe.fn ⟨.inl O,.inr ⟨O,O⟩,T⟩))<|qK O ok69 (mapForms_con (fun l=>substP l s u) _ Lf.rng (fun l hr hl=>FnPur.of_pur (first:=[]) (cap:=[.iptr [cS s],.iptr u.cells]) ok70 (zMr l s u hl ht hr hrt)) e hP he) ⟨zB,O,zB,O,T⟩<|zR O (yA O O O)<|yI O<|D 0 sz62 O<|G O<|zA<|zG<|fin2 (zY kD O (J 0 O) O) (N O) ?_
 exact O
end Go.W
end
section
set_option maxRecDepth 10000
namespace Go.W
open Go Go.Eng Go.Proofs Go.L41 Go.Br
attribute [local irreducible] AWP RWP TD finQ
theorem pl93:placesT Tryz.prog 93=some [(0,2),(2,1),(3,1)]:=by kernel_rfl
end Go.W
end
section
set_option maxRecDepth 10000
namespace Go.W
open Go Go.Eng Go.Proofs Go.L41 Go.Br
attribute [local irreducible] AWP RWP TD finQ
end Go.W
end
section
set_option maxRecDepth 10000
namespace Go.W
open Go Go.Eng Go.Proofs Go.L41 Go.Br
attribute [local irreducible] AWP RWP TD finQ
end Go.W
end
