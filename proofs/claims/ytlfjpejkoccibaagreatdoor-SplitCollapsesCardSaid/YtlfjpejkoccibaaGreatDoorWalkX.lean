/-
  What functions compute.
  What functions compute.
  What functions compute.
  Conditions: none.
-/
import Derived.Test.YtlfjpejkoccibaaGreatDoorWV
import Derived.Test.YtlfjpejkoccibaaGreatDoorPlain2
import Derived.Test.YtlfjpejkoccibaaGreatDoorEngZ
set_option linter.unusedSimpArgs false
set_option linter.unusedVariables false
section
set_option maxRecDepth 10000
namespace Go.W
open Go Go.Eng Go.Proofs Go.L41 Go.Br
attribute [local irreducible] AWP RWP TD fH
theorem ik2:sM Tryz.prog 2=some .i64:=by kernel_rfl
theorem ok103:bA Tryz.prog 103=true:=by kernel_rfl
theorem ok145:bA Tryz.prog 145=true:=by kernel_rfl
theorem ok146:bA Tryz.prog 146=true:=by kernel_rfl
theorem sz39:(Tryz.prog.info? 39).map (·.size)=some 1:=by kernel_rfl
theorem zIw:(Tryz.prog.underlying 180).isSome=true:=by kernel_rfl
theorem lin_plus (a b:Int) (ha:r64 a) (hb:r64 b):
    Pur cfg 105 [vI a,vI b] (.tup [vI (w64 (a+b)),vB (decide (r64 (a+b)))]):=by
 refine zT Tryz.func105 O Tryz.ntmps105 Tryz.results105 O ?_
 intro z hz
 refine F O<|A O<|A O<|H<|F O<|A O<|A O<|zU O (zIk O O O)<|A O<|H<|F O<|A O<|A O<|A O<|zU O (yG O O O)<|A O<|zU O (yG O O O)<|zU O (det_beql O un4 O O)<|A O<|A O<|H<|o<|w (J O) (J O) ?_
 rw [←plus_ok ha hb];rfl
theorem zOl (x:Int) (hx:r64 x):
    Pur cfg 146 [vI x] (vUn x.natAbs):=by
 refine zT Tryz.func146 O Tryz.ntmps146 Tryz.results146 O ?_
 intro z hz
 refine F O<|A O<|H<|zK<|F O<|A O<|yD O<|H<|zD O (fun c1=>?_) (fun c1=>?_)
 ·try simp only [I] at c1
  refine F O<|A O<|zU O (kU O us2 ik180 O)<|zU O (zGo O O)<|A O<|H<|o<|X O ?_
  exact congrArg (fun n=>V.c (.lit (.int .u64 n))) (zSi hx c1)
 ·try simp only [I] at c1
  refine zM<|F O<|A O<|zU O (kU O us2 ik180 O)<|A O<|H<|o<|X O ?_
  exact congrArg (fun n=>V.c (.lit (.int .u64 n))) (zSh hx (by omega))
theorem lin_product (a b:Nat) (ha:a<18446744073709551616) (hb:b<18446744073709551616):
    Pur cfg 145 [vUn a,vUn b] (.tup [vUn (hiN a b),vUn (a*b%18446744073709551616)]):=by
 refine zT Tryz.func145 O Tryz.ntmps145 Tryz.results145 O ?_
 intro z hz
 obtain ⟨p1,p2,p3,p4⟩:=part_le ha hb
 obtain ⟨q1,q2,q3,q4⟩:=hi_bounds ha hb
 refine F O<|A O<|A O<|H<|F O<|A O<|zU O (wK O O O ha)<|A O<|zU O (wK O O O hb)<|zU O (zAb O O O (by omega))<|A O<|H<|F O<|A O<|zU O (kT O O O )<|A O<|zU O (wK O O O hb)<|zU O (zAb O O O (by omega))<|A O<|zU O (kT O O O )<|zU O (wM O O O q1)<|A O<|H<|F O<|A O<|zU O (wK O O O ha)<|A O<|zU O (kT O O O )<|zU O (zAb O O O (by omega))<|A O<|zU O (wK O O O q1)<|zU O (wM O O O q2)<|A O<|H<|F O<|A O<|zU O (kT O O O )<|A O<|zU O (kT O O O )<|zU O (zAb O O O (by omega))<|A O<|zU O (kT O O O )<|zU O (wM O O O q3)<|A O<|zU O (kT O O O )<|zU O (wM O O O q4)<|A O<|A O<|zU O (det_umod O O O )<|A O<|A O<|H<|o<|w (J O) (J O) ?_
 exact O
theorem lin_times (x y:Int) (hx:r64 x) (hy:r64 y):
    Pur cfg 103 [vI x,vI y] (.tup [vI (dI x y).1,vB (dI x y).2]):=by
 refine zT Tryz.func103 O Tryz.ntmps103 Tryz.results103 O ?_
 intro z hz
 have hm1:=zQd hx
 have hm2:=zQd hy
 refine F O<|A O<|A O<|H<|F O<|A O<|qI O ok146 (zOl x hx) ⟨G,O,T⟩<|A O<|qI O ok146 (zOl y hy) ⟨G,O,T⟩<|qI O ok145 (lin_product x.natAbs y.natAbs (by omega) (by omega)) ⟨G,O,G,O,T⟩<|qP O<|qU O<|qU O<|A O<|A O<|H<|F O<|A O<|yD O<|A O<|yD O<|zU O (zSu O un4 O O)<|A O<|H<|zK<|zR<|F O<|A O<|yM O<|A O<|rL0 O (fun g3_2=>zN O O) O<|B 26 O (fun g3_2=>yG O O O) O<|r_or O (fun h=>(lzf h))<|A O<|rL0 O (fun g3_6=>zN O O) O<|B 30 O (fun g3_6=>yH O O O) O<|B 31 O (fun g3_6=>zN O O) O<|rLz [] O N T (fun g3_9=>zN O O) O<|rLz [(33,_)] O N ⟨O,O,T⟩ (fun g3_9=>kW O O) O<|B 32 O (fun g3_6=>kZ O O O (fun h=>kD (by assumption) h) O) O<|r_or O (fun h=>(lzf h))<|A O<|H<|zD O (fun c1=>?_) (fun c1=>?_)
 ·try simp only [I] at c1
  refine F O<|A O<|A O<|H<|o<|w (J O) (J O) ?_
  rw [times_f hx hy c1]
 ·try simp only [I] at c1
  refine F O<|A O<|A O<|H<|zD O (fun c2=>?_) (fun c2=>?_)
  ·try simp only [I] at c2
   refine F O<|A O<|zU O (zGo O O)<|zU O (kU O zIw ik2 O)<|A O<|A O<|H<|o<|w (J O) (J O) ?_
   rw [times_neg c2 (by have:=c1.1.1;omega) (by have:=c1.1.2;omega)]
  ·try simp only [I] at c2
   refine zM<|F O<|A O<|zU O (kU O zIw ik2 O)<|A O<|A O<|H<|o<|w (J O) (J O) ?_
   have hlt:x.natAbs*y.natAbs%18446744073709551616<9223372036854775808:=by
     have h1:=c1.1.2
     rcases c1.2 with h|h
     · omega
     · rw [c2] at h;cases h
   rw [times_pos c2 (by have:=c1.1.1;omega) hlt]
theorem zVn (l:Lf) (by_:Int) (hl:l.L.length<=4294967296) (hr:l.rng) (hb:r64 by_):
    Pur cfg 51 [bZ l,vI by_] (.tup [bZ (dF l by_).1,vI (dF l by_).2]):=by
 refine zT Tryz.func51 O Tryz.ntmps51 Tryz.results51 O ?_
 intro z hz
 refine F O<|zV O O (qN O O) ?_
 rintro _ _ ⟨b1,rfl,rfl⟩
 refine zV O O (qE [none,some 2] O v O) ?_
 rintro _ _ ⟨b2,rfl,rfl⟩
 refine A O<|H<|zK<|F O<|zP yX (R 1 O) O<|qI O ok102 (zDd l (by omega)) ⟨G,O,T⟩<|yM O<|H<|zD O (fun c1=>?_) (fun c1=>?_)
 ·try simp only [I] at c1
  have hl0:=linErr_no c1
  refine F O<|qT [none,some 2] O v pl41<|Y 0 sz41 O<|A O<|H<|o<|w (y yX O (R 0 O) O) (J O) ?_
  rw [scale_bad hl0];rfl
 ·try simp only [I] at c1
  have hl1:=zQg c1
  refine zM<|zK<|F O<|A O<|yF O<|H<|zD O (fun c2=>?_) (fun c2=>?_)
  ·try simp only [I] at c2
   refine F O<|qT [none,some 2] O v pl41<|Y 0 sz41 O<|A O<|H<|o<|w (y yX O (R 0 O) O) (J O) ?_
   rw [scale_zero hl1 c2];rfl
  ·try simp only [I] at c2
   refine zM<|F O<|zG O zDt<|zJ U (R 1 O) O<|A O<|qI O ok103 (lin_times l.K by_ hr.1 hb) ⟨G,O,G,O,T⟩<|qP O<|qU O<|qU O<|A O<|A O<|H<|F O<|A O<|yP O v pl41<|zV O O (yT O v) ?_
   rintro _ _ ⟨b3,rfl,rfl⟩
   refine yI _ (kR 69 2)<|Y 1 sz41 O<|H<|zK<|F O<|zG O kC<|zJ wN (R 3 O) O<|qC O P<|A O<|H<|zR<|zY ⟨[(32,.c _),(7,.c _),(1,.c _),(4,.c _),(8,.c _),(30,.c _),(31,.c _)],[_,_,_]⟩ (Weak.mk [true,true,true,false] ⟨G,G,G,G,G,G,G,T⟩ O)<|qK 2 2 O O (Nat×Value) (fun ⟨k,sv⟩=>[(32,vI k),(7,vB ((dI l.K by_).2&&mE by_ (l.L.take k)))]) (fun ⟨k,sv⟩=>[E.vec sv 69 2 ((lP by_ (l.L.take k)).map Mono.cells),E.row b3 41 [cI (dI l.K by_).1,.lit sv]]) (fun ⟨k,sv⟩=>k<=l.L.length) (fun ⟨k,sv⟩=>l.L.length-k) ⟨⟨0,_⟩,(by omega),Weak.mk [true,true,true] ⟨G,VLe.of_eq (by rw [show mE by_ (l.L.take 0)=true from rfl,Bool.and_true];rfl),G,G,G,G,G,T⟩ O⟩ ?_
   rintro ⟨k,sv⟩ hk
   show AWP _ _ _ _ _ ⟨[(32,vI k),(7,vB ((dI l.K by_).2&&mE by_ (l.L.take k)))]++_,[E.vec sv 69 2 ((lP by_ (l.L.take k)).map Mono.cells),E.row b3 41 [cI (dI l.K by_).1,.lit sv]]++_⟩
   refine F O<|yD O<|H<|zK<|zD O (fun c3=>?_) (fun c3=>?_)
   ·try simp only [I] at c3
    obtain ⟨x,hx⟩:=qY l.L k (by omega)
    refine zM<|zK<|zR<|F O<|qD O P (by omega) (Q (by assumption))<|zP zPk qA O<|zV O O (yT O zr69) ?_
    rintro _ _ ⟨b5,rfl,rfl⟩
    refine Y 0 sz69 O<|H<|F O<|zG O zDn<|zJ U (R 0 O) O<|A O<|qI O ok103 (lin_times x.By by_ (hr.2 x (zZ hx)) hb) ⟨G,O,G,O,T⟩<|qP O<|qU O<|qU O<|A O<|A O<|H<|F O<|A O<|A O<|rL0 O (fun g11_1=>zN O O) O<|yQ O (fun h=>h)<|A O<|H<|zQ O<|zG O kC<|zJ wN (R 2 O) O<|zG O zAn<|zJ one9 (R 0 O) O<|A O<|yP O zr69 pl69<|yV O P zr69<|zV O O (qV 1 O P O O O (by simp only [List.length_map,List.length_append,List.length_cons,List.length_nil,scaleW_len,List.length_take];omega) (by simp only [List.length_map,List.length_append,List.length_cons,List.length_nil,scaleW_len,List.length_take];omega)) ?_
    rintro _ _ ⟨sv6,rfl,rfl⟩
    refine zG O kC<|Y 2 sz39 O<|H<|zQ O<|qJ O ⟨by omega,by omega⟩<|A O<|H ?_
    refine ⟨⟨k+1,sv6⟩,(by omega),(by show l.L.length-(k+1)<l.L.length-k;omega),Weak.mk [false,true,true,true] ⟨G,VLe.of_eq (by rw [scaleB_next hx,←Bool.and_assoc];rfl),G,G,G,G,G,T⟩ (by show _=[E.vec sv6 _ 2 ((lP by_ (l.L.take (k+1))).map Mono.cells),E.row b3 _ [cI (dI l.K by_).1,.lit sv6]]++_;rw [scaleW_next hx,List.map_append];rfl)⟩
   ·try simp only [I] at c3
    rw [yU (l:=l.L) (k:=k) (by omega)]
    refine qQ<|zK<|F O<|A O<|kQ O<|H<|zD O (fun c4=>?_) (fun c4=>?_)
    ·try simp only [I] at c4
     refine F O<|qT [none,some 2] O v pl41<|Y 2 sz41 O<|A O<|H<|o<|w (y yX O (R 2 O) O) (J O) ?_
     rw [scale_no hl1 c2 c4];rfl
    ·try simp only [I] at c4
     refine zM<|F O<|zP yX (R 1 O) O<|Y 2 sz41 O<|A O<|H<|zY _ (yK 0 O (regs':=[(60,.agg [_,_])]) (μ':=[_,_]) ⟨FLe.agg ⟨.inl O,.inr ⟨O,O⟩,T⟩,T⟩ ⟨EFle.row (ds:=[_,_]) ⟨.inl O,.inr ⟨O,O⟩,T⟩,EFle.row (ds:=[_,_]) ⟨.inl O,.inr ⟨O,O⟩,T⟩,T⟩)<|o<|w (y yX O (R 1 O) O) (J O) ?_
     rw [scale_ok hl1 c2 c4];rfl
end Go.W
end
section
set_option maxRecDepth 10000
namespace Go.W
open Go Go.Eng Go.Proofs Go.L41 Go.Br
attribute [local irreducible] AWP RWP TD fH
theorem ok51:bA Tryz.prog 51=true:=by kernel_rfl
theorem ok53:bA Tryz.prog 53=true:=by kernel_rfl
theorem ok105:bA Tryz.prog 105=true:=by kernel_rfl
theorem ok106:bA Tryz.prog 106=true:=by kernel_rfl
theorem ok107:bA Tryz.prog 107=true:=by kernel_rfl
theorem one4:lV Tryz.prog 4=true:=by kernel_rfl
theorem sz2:(Tryz.prog.info? 2).map (·.size)=some 1:=by kernel_rfl
theorem sz4:(Tryz.prog.info? 4).map (·.size)=some 1:=by kernel_rfl
theorem zr4:fS Tryz.prog 4=some [(Value.bool false)]:=by kernel_rfl
theorem merge_con (a0 b0:List Mono) (ha0:a0.length<=4294967296) (hb0:b0.length<=4294967296):
    ∀(y:C) (J:List Tr->List E->Prop) (μ:List E),(∀d t s m,bG a0 b0=d++t::s->J d m->FnCon cfg y [vS t.1,vI t.2.1,vI t.2.2] m fun r m'=>r=.tup []/\J (d++[t]) m')->J [] μ->Con cfg 106 [.c (.sl 2 (a0.map Mono.cells)),.c (.sl 2 (b0.map Mono.cells)),.c y] μ fun r μ'=>r=.tup []/\J (bG a0 b0) μ':=by
 intro y J μ hy h0
 refine zT Tryz.func106 O Tryz.ntmps106 Tryz.results106 O ?_
 intro z hz
 refine zR<|zY ⟨[(0,.c _),(1,.c _),(2,.c _)],_⟩ (Weak.regs ⟨G,G,G,T⟩)<|zDf 2 O (List Mono×List Mono×List Tr×List E) (fun ⟨a,b,d,m⟩=>[(0,.c (.sl 2 (a.map Mono.cells))),(1,.c (.sl 2 (b.map Mono.cells)))]) (fun ⟨a,b,d,m⟩=>m) (fun ⟨a,b,d,m⟩=>a.length<=4294967296/\b.length<=4294967296/\bG a0 b0=d++bG a b/\J d m) (fun ⟨a,b,d,m⟩=>a.length+b.length) ⟨⟨a0,b0,[],μ⟩,⟨ha0,hb0,O,h0⟩,Weak.regs ⟨G,G,G,T⟩⟩ ?_
 rintro ⟨a,b,d,m⟩ ⟨hal,hbl,hm,hJ⟩
 refine zK<|F O<|A O<|qC O P<|zU O (yG O O O)<|A O<|rL0 O (fun g0_3=>zN O O) O<|B 10 O (fun g0_3=>yB O P O) O<|B 11 O (fun g0_3=>yG O O O) O<|r_or O (fun h=>(lzf h))<|H<|zD O (fun c1=>?_) (fun c1=>?_)
 ·try simp only [I] at c1
  refine zM<|zR<|zR<|zK<|qZ 20 mixed (by kernel_rfl) O O<|M O O (zN O O)<|M O O (yB O P O)<|M O O (yH O O O)<|M O O (zN O O)<|f [] O O O O gv1 T (fun g3_3=>zN O O) O<|f [(37,_)] O O O O gv1 ⟨O,O,T⟩ (fun g3_3=>yB O P O) O<|f [(38,_)] O O O O gv1 ⟨O,O,T⟩ (fun g3_3=>yG O O O) O<|f [(39,_)] O O O O gv1 ⟨O,O,T⟩ (fun g3_3=>zN O O) O<|f [] O O O O N T (fun g3_7=>zN O O) O<|f [(41,_)] O O O O N ⟨O,O,T⟩ (fun g3_7=>qF O P O O (by simp only [Lz,cond_true,cond_false,Bool.and_eq_true,Bool.or_eq_true,Bool.not_eq_true',Bool.not_eq_false',Bool.or_eq_false_iff,Bool.and_eq_false_iff,decide_eq_true_eq,decide_eq_false_iff_not,Bool.not_eq_true,Bool.not_eq_false] at g3_7;omega) (Q (zKk (by simp only [Lz,cond_true,cond_false,Bool.and_eq_true,Bool.or_eq_true,Bool.not_eq_true',Bool.not_eq_false',Bool.or_eq_false_iff,Bool.and_eq_false_iff,decide_eq_true_eq,decide_eq_false_iff_not,Bool.not_eq_true,Bool.not_eq_false] at g3_7;omega)))) O<|f [(42,_)] O O O O N ⟨O,O,T⟩ (fun g3_7=>qL O zAn O) O<|f [(43,_)] O O O O N ⟨O,O,T⟩ (fun g3_7=>zF O one9 O qA O) O<|f [] O O O O N T (fun g3_7=>zN O O) O<|f [(45,_)] O O O O N ⟨O,O,T⟩ (fun g3_7=>qF O P O O (by simp only [Lz,cond_true,cond_false,Bool.and_eq_true,Bool.or_eq_true,Bool.not_eq_true',Bool.not_eq_false',Bool.or_eq_false_iff,Bool.and_eq_false_iff,decide_eq_true_eq,decide_eq_false_iff_not,Bool.not_eq_true,Bool.not_eq_false] at g3_7;omega) (Q (zKk (by simp only [Lz,cond_true,cond_false,Bool.and_eq_true,Bool.or_eq_true,Bool.not_eq_true',Bool.not_eq_false',Bool.or_eq_false_iff,Bool.and_eq_false_iff,decide_eq_true_eq,decide_eq_false_iff_not,Bool.not_eq_true,Bool.not_eq_false] at g3_7;omega)))) O<|f [(46,_)] O O O O N ⟨O,O,T⟩ (fun g3_7=>qL O zAn O) O<|f [(47,_)] O O O O N ⟨O,O,T⟩ (fun g3_7=>zF O one9 O qA O) O<|f [(44,_),(48,_)] O O O O N ⟨O,O,O,O,T⟩ (fun g3_7=>det_slss O O O) O<|f [(40,_)] O O O O gv1 ⟨O,O,T⟩ (fun g3_3=>kZ O O O (fun h=>kD (by assumption) h) O) O<|M O O (zAu O O O O (fun h=>(lzf h)))<|M O O (yA O O)<|kE<|H<|zD O (fun c2=>?_) (fun c2=>?_)
  ·have hL:=merge_left (by omega) c2
   have hdec:(a.drop 1).length+(b).length<a.length+b.length:=by simp only [List.length_drop];omega
   have hm1:bG a0 b0=(d++[((hdM a).Name,(hdM a).By,0)])++bG (a.drop 1) (b):=by rw [hm,hL.2];simp
   refine zK<|qZ 9 mixed (by kernel_rfl) O O<|M O O (zN O O)<|M O O (zN O O)<|M O O (qF O P O O (by omega) (Q (zKk (by omega))))<|M O O (qL O zAn O)<|M O O (zF O one9 O qA O)<|M O O (zN O O)<|M O O (qF O P O O (by omega) (Q (zKk (by omega))))<|M O O (qL O zDn O)<|M O O (zF O U O qA O)<|kE<|zV O O (zAh O O (hy d ((hdM a).Name,(hdM a).By,0) _ m (by rw [hm1,List.append_assoc];rfl) hJ) ⟨G,O,G,O,G,O,T⟩) ?_
   rintro _ m1 ⟨rfl,hJ1⟩
   refine H<|zQ O<|A O<|zU O (zAk (k:=1) O P O O (by omega))<|A O<|H ?_
   refine ⟨⟨_,_,_,_⟩,⟨by first|omega|(simp only [List.length_drop];omega),by first|omega|(simp only [List.length_drop];omega),hm1,hJ1⟩,hdec,Weak.regs ⟨G,G,G,T⟩⟩
  ·have hb1:=mC2_b c2
   refine zK<|qZ 15 mixed (by kernel_rfl) O O<|M O O (zN O O)<|M O O (yB O P O)<|M O O (yH O O O)<|M O O (zN O O)<|f [] O O O O gv1 T (fun g6_3=>zN O O) O<|f [(69,_)] O O O O gv1 ⟨O,O,T⟩ (fun g6_3=>qF O P O O (by simp only [Lz,cond_true,cond_false,Bool.and_eq_true,Bool.or_eq_true,Bool.not_eq_true',Bool.not_eq_false',Bool.or_eq_false_iff,Bool.and_eq_false_iff,decide_eq_true_eq,decide_eq_false_iff_not,Bool.not_eq_true,Bool.not_eq_false] at g6_3;omega) (Q (zKk (by simp only [Lz,cond_true,cond_false,Bool.and_eq_true,Bool.or_eq_true,Bool.not_eq_true',Bool.not_eq_false',Bool.or_eq_false_iff,Bool.and_eq_false_iff,decide_eq_true_eq,decide_eq_false_iff_not,Bool.not_eq_true,Bool.not_eq_false] at g6_3;omega)))) O<|f [(70,_)] O O O O gv1 ⟨O,O,T⟩ (fun g6_3=>qL O zAn O) O<|f [(71,_)] O O O O gv1 ⟨O,O,T⟩ (fun g6_3=>zF O one9 O qA O) O<|f [] O O O O gv1 T (fun g6_3=>zN O O) O<|f [(73,_)] O O O O gv1 ⟨O,O,T⟩ (fun g6_3=>qF O P O O (by simp only [Lz,cond_true,cond_false,Bool.and_eq_true,Bool.or_eq_true,Bool.not_eq_true',Bool.not_eq_false',Bool.or_eq_false_iff,Bool.and_eq_false_iff,decide_eq_true_eq,decide_eq_false_iff_not,Bool.not_eq_true,Bool.not_eq_false] at g6_3;omega) (Q (zKk (by simp only [Lz,cond_true,cond_false,Bool.and_eq_true,Bool.or_eq_true,Bool.not_eq_true',Bool.not_eq_false',Bool.or_eq_false_iff,Bool.and_eq_false_iff,decide_eq_true_eq,decide_eq_false_iff_not,Bool.not_eq_true,Bool.not_eq_false] at g6_3;omega)))) O<|f [(74,_)] O O O O gv1 ⟨O,O,T⟩ (fun g6_3=>qL O zAn O) O<|f [(75,_)] O O O O gv1 ⟨O,O,T⟩ (fun g6_3=>zF O one9 O qA O) O<|f [(72,_),(76,_)] O O O O gv1 ⟨O,O,O,O,T⟩ (fun g6_3=>det_slss O O O) O<|M O O (zAu O O O O (fun h=>(lzf h)))<|M O O (yA O O)<|kE<|H<|zD O (fun c3=>?_) (fun c3=>?_)
   ·have hL:=merge_right (by omega) c2 c3
    have hdec:(a).length+(b.drop 1).length<a.length+b.length:=by simp only [List.length_drop];omega
    have hm1:bG a0 b0=(d++[((hdM b).Name,0,(hdM b).By)])++bG (a) (b.drop 1):=by rw [hm,hL.2];simp
    refine zK<|qZ 9 mixed (by kernel_rfl) O O<|M O O (zN O O)<|M O O (zN O O)<|M O O (qF O P O O (by omega) (Q (zKk (by omega))))<|M O O (qL O zAn O)<|M O O (zF O one9 O qA O)<|M O O (zN O O)<|M O O (qF O P O O (by omega) (Q (zKk (by omega))))<|M O O (qL O zDn O)<|M O O (zF O U O qA O)<|kE<|zV O O (zAh O O (hy d ((hdM b).Name,0,(hdM b).By) _ m (by rw [hm1,List.append_assoc];rfl) hJ) ⟨G,O,G,O,G,O,T⟩) ?_
    rintro _ m1 ⟨rfl,hJ1⟩
    refine H<|zQ O<|A O<|zU O (zAk (k:=1) O P O O (by omega))<|A O<|H ?_
    refine ⟨⟨_,_,_,_⟩,⟨by first|omega|(simp only [List.length_drop];omega),by first|omega|(simp only [List.length_drop];omega),hm1,hJ1⟩,hdec,Weak.regs ⟨G,G,G,T⟩⟩
   ·have hL:=merge_both c2 c3
    have hdec:(a.drop 1).length+(b.drop 1).length<a.length+b.length:=by simp only [List.length_drop];omega
    have hm1:bG a0 b0=(d++[((hdM a).Name,(hdM a).By,(hdM b).By)])++bG (a.drop 1) (b.drop 1):=by rw [hm,hL.2.2];simp
    refine zK<|qZ 13 mixed (by kernel_rfl) O O<|M O O (zN O O)<|M O O (zN O O)<|M O O (qF O P O O (by omega) (Q (zKk (by omega))))<|M O O (qL O zAn O)<|M O O (zF O one9 O qA O)<|M O O (zN O O)<|M O O (qF O P O O (by omega) (Q (zKk (by omega))))<|M O O (qL O zDn O)<|M O O (zF O U O qA O)<|M O O (zN O O)<|M O O (qF O P O O (by omega) (Q (zKk (by omega))))<|M O O (qL O zDn O)<|M O O (zF O U O qA O)<|kE<|zV O O (zAh O O (hy d ((hdM a).Name,(hdM a).By,(hdM b).By) _ m (by rw [hm1,List.append_assoc];rfl) hJ) ⟨G,O,G,O,G,O,T⟩) ?_
    rintro _ m1 ⟨rfl,hJ1⟩
    refine H<|qZ 6 mixed (by kernel_rfl) O O<|M O O (zN O O)<|M O O (zAk (k:=1) O P O O (by omega))<|M O O (zN O O)<|M O O (zAk (k:=1) O P O O (by omega))<|M O O (yA O O)<|M O O (yA O O)<|kE<|H ?_
    refine ⟨⟨_,_,_,_⟩,⟨by first|omega|(simp only [List.length_drop];omega),by first|omega|(simp only [List.length_drop];omega),hm1,hJ1⟩,hdec,Weak.regs ⟨G,G,G,T⟩⟩
 ·try simp only [I] at c1
  refine qQ ?_
  repeat (first|refine zJg ?_|refine zHk ?_)
  refine zVz<|fin0 ?_
  exact ⟨O,by rw [hm,show a=[] from List.eq_nil_of_length_eq_zero (by omega),show b=[] from List.eq_nil_of_length_eq_zero (by omega),zQc,List.append_nil];exact hJ⟩
theorem lin_Add_1 (bo bl:Nat) (ok:Bool) (K:Int) (sv:Value) (d:List Tr) (t:Tr) (h1:r64 t.2.1) (h2:r64 t.2.2) (hd:d.length<=8589934592):
    Con cfg 107 [vS t.1,vI t.2.1,vI t.2.2,.c (.lit (.pointer (some ⟨bo,0,none⟩))),.c (.lit (.pointer (some ⟨bl,0,none⟩)))] [E.row bo 4 [cB (okF ok (d))],E.vec sv 69 2 ((lM (d)).map Mono.cells),E.row bl 41 [cI K,.lit sv]] fun r μ'=>r=.tup []/\∃sv',μ'=[E.row bo 4 [cB (okF ok (d++[t]))],E.vec sv' 69 2 ((lM (d++[t])).map Mono.cells),E.row bl 41 [cI K,.lit sv']]:=by
 refine zT Tryz.func107 O Tryz.ntmps107 Tryz.results107 O ?_
 intro z hz
 refine F O<|A O<|A O<|qI O ok105 (lin_plus t.2.1 t.2.2 h1 h2) ⟨G,O,G,O,T⟩<|qP O<|qU O<|qU O<|A O<|A O<|H<|F O<|zJ one4 (R 0 O) O<|A O<|rL0 O (fun g1_1=>zN O O) O<|yQ O (fun h=>h)<|Y 0 sz4 O<|H<|F O<|A O<|yM O<|H<|zD O (fun c1=>?_) (fun c1=>?_)
 ·try simp only [I] at c1
  refine zQ O<|zG O kC<|zJ wN (R 2 O) O<|A O<|A O<|yP O zr69 pl69<|yV O P zr69<|zV O O (qV 1 O P O O O (by have:=zRy d;simp only [List.length_map,List.length_append,List.length_cons,List.length_nil];omega) (by have:=zRy d;simp only [List.length_map,List.length_append,List.length_cons,List.length_nil];omega)) ?_
  rintro _ _ ⟨sv1,rfl,rfl⟩
  refine zG O kC<|Y 2 sz39 O<|H ?_
  repeat (first|refine zJg ?_|refine zHk ?_)
  refine zVz<|fin0 ?_
  exact ⟨O,_,by rw [zGe,zEg,if_neg (show ¬w64 (trV t)=0 from c1),List.map_append];rfl⟩
 ·try simp only [I] at c1
  refine zM ?_
  repeat (first|refine zJg ?_|refine zHk ?_)
  refine zVz<|fin0 ?_
  exact ⟨O,_,by rw [zGe,zEg,if_pos (show w64 (trV t)=0 from c1),List.append_nil];rfl⟩
theorem lin_Add (a b:Lf) (ha:a.L.length<=4294967296) (hb:b.L.length<=4294967296) (hra:a.rng) (hrb:b.rng):
    Pur cfg 53 [bZ a,bZ b] (.tup [bZ (jI a b).1,vI (jI a b).2]):=by
 refine zT Tryz.func53 O Tryz.ntmps53 Tryz.results53 O ?_
 intro z hz
 refine F O<|zV O O (qN O O) ?_
 rintro _ _ ⟨b1,rfl,rfl⟩
 refine zV O O (qN O O) ?_
 rintro _ _ ⟨b2,rfl,rfl⟩
 refine zV O O (qE [none,some 2] O v O) ?_
 rintro _ _ ⟨b3,rfl,rfl⟩
 refine A O<|H<|zK<|F O<|zP yX (R 2 O) O<|qI O ok102 (zDd a (by omega)) ⟨G,O,T⟩<|yM O<|A O<|rL0 O (fun g1_3=>qB O yX O (R 1 O) O) O<|B 12 O (fun g1_3=>qM O ok102 (zDd b (by omega)) ⟨G,O,T⟩) O<|B 13 O (fun g1_3=>kN O O O) O<|r_or O (fun h=>(lzf h))<|H<|zD O (fun c1=>?_) (fun c1=>?_)
 ·try simp only [I] at c1
  refine F O<|qT [none,some 2] O v pl41<|Y 0 sz41 O<|A O<|H<|o<|w (y yX O (R 0 O) O) (J O) ?_
  rw [add_c1 c1];rfl
 ·try simp only [I] at c1
  have hla:=zQg c1.1
  have hlb:=zQg c1.2
  refine zM<|F O<|zV O O (yT O v) ?_
  rintro _ _ ⟨b4,rfl,rfl⟩
  refine yI _ (kR 69 2)<|H<|F O<|zV O O (yT O zr4) ?_
  rintro _ _ ⟨b6,rfl,rfl⟩
  refine H<|F O<|zG O zDt<|zJ U (R 5 O) O<|zG O zDt<|zJ U (R 4 O) O<|qI O ok105 (lin_plus a.K b.K hra.1 hrb.1) ⟨G,O,G,O,T⟩<|qP O<|qU O<|qU O<|zG O zDt<|Y 2 sz2 O<|Y 0 sz4 O<|H<|F O<|zG O kC<|zJ wN (R 5 O) O<|zG O kC<|zJ wN (R 4 O) O<|zU O (zEe O O O O O)<|zV O O (zBe O ok106 (Con.frame (merge_con a.L b.L ha hb _ (fun d m=>∃sv,m=[E.row b6 4 [cB (okF (decide (r64 (a.K+b.K))) (d))],E.vec sv 69 2 ((lM (d)).map Mono.cells),E.row b4 41 [cI (w64 (a.K+b.K)),.lit sv]]) _ (fun d t s m he hj=>by obtain ⟨sv,rfl⟩:=hj;obtain ⟨k1,k2,k3⟩:=merge_rng hra.2 hrb.2 he;exact FnCon.of_con (first:=[]) (cap:=[.lit (.pointer (some ⟨b6,0,none⟩)),.lit (.pointer (some ⟨b4,0,none⟩))]) ok107 (lin_Add_1 b6 b4 (decide (r64 (a.K+b.K))) (w64 (a.K+b.K)) sv d t k1 k2 (by omega))) ⟨_,O⟩) _) ⟨G,O,G,O,G,O,T⟩) ?_
  rintro _ _ ⟨_,⟨rfl,sv7,rfl⟩,rfl⟩
  refine H<|zK<|F O<|zJ one4 (R 0 O) O<|kQ O<|H<|zD O (fun c2=>?_) (fun c2=>?_)
  ·try simp only [I] at c2
   refine F O<|qT [none,some 2] O v pl41<|Y 3 sz41 O<|A O<|H<|o<|w (y yX O (R 3 O) O) (J O) ?_
   rw [add_no hla hlb c2];rfl
  ·try simp only [I] at c2
   refine zM<|F O<|zP yX (R 2 O) O<|Y 3 sz41 O<|A O<|H<|zY _ (yK 1 O (regs':=[(35,.agg [_,_])]) (μ':=[_,_,_,_,_]) ⟨FLe.agg ⟨.inl O,.inr ⟨O,O⟩,T⟩,T⟩ ⟨EFle.refl _,EFle.row (ds:=[_,_]) ⟨.inl O,.inr ⟨O,O⟩,T⟩,EFle.row (ds:=[_,_]) ⟨.inl O,.inr ⟨O,O⟩,T⟩,EFle.refl _,EFle.refl _,T⟩)<|o<|w (y yX O (R 2 O) O) (J O) ?_
   rw [add_ok hla hlb c2];rfl
theorem lin_Substitute (l:Lf) (s:ByteArray) (u:Lf) (hl:l.L.length<=4294967296) (ht:u.L.length<=4294967296) (hrl:l.rng) (hrt:u.rng):
    Pur cfg 109 [bZ l,vS s,bZ u] (.tup [bZ (mD l s u).1,vI (mD l s u).2]):=by
 refine zT Tryz.func109 O Tryz.ntmps109 Tryz.results109 O ?_
 intro z hz
 obtain ⟨hs1,hs2⟩:=zNq u (bS l.L s)
 obtain ⟨hr1,hr2⟩:=rest_rng hrl s
 refine F O<|zV O O (qN O O) ?_
 rintro _ _ ⟨b1,rfl,rfl⟩
 refine zV O O (qN O O) ?_
 rintro _ _ ⟨b2,rfl,rfl⟩
 refine zV O O (qE [none,some 2] O v O) ?_
 rintro _ _ ⟨b3,rfl,rfl⟩
 refine A O<|H<|zK<|F O<|zP yX (R 2 O) O<|qI O ok102 (zDd l (by omega)) ⟨G,O,T⟩<|yM O<|A O<|rL0 O (fun g1_3=>zN O O) O<|B 18 O (fun g1_3=>qM O ok104 (zGm s) ⟨G,O,T⟩) O<|B 19 O (fun g1_3=>kW O O) O<|r_or O (fun h=>(lzf h))<|A O<|rL0 O (fun g1_8=>qB O yX O (R 1 O) O) O<|B 23 O (fun g1_8=>qM O ok102 (zDd u (by omega)) ⟨G,O,T⟩) O<|B 24 O (fun g1_8=>kN O O O) O<|r_or O (fun h=>(lzf h))<|H<|zD O (fun c1=>?_) (fun c1=>?_)
 ·try simp only [I] at c1
  refine F O<|qT [none,some 2] O v pl41<|Y 0 sz41 O<|A O<|H<|o<|w (y yX O (R 0 O) O) (J O) ?_
  rw [subst_c1 c1];rfl
 ·try simp only [I] at c1
  refine zM<|F O<|zG O zDt<|zJ U (R 2 O) O<|yP O v pl41<|zV O O (yT O v) ?_
  rintro _ _ ⟨b4,rfl,rfl⟩
  refine yI _ (kR 69 2)<|Y 1 sz41 O<|H<|F O<|A O<|H<|zK<|F O<|zG O kC<|zJ wN (R 4 O) O<|qC O P<|A O<|H<|zR<|zY ⟨[(34,.c _),(9,.c _),(1,.c _),(5,.c _),(6,.c _),(8,.c _),(32,.c _),(33,.c _)],[_,_,_,_]⟩ (Weak.mk [true,true,true,true,false] ⟨G,G,G,G,G,G,G,G,T⟩ O)<|qK 2 2 O O (Nat×Value) (fun ⟨k,sv⟩=>[(34,vI k),(9,vI (bS (l.L.take k) s))]) (fun ⟨k,sv⟩=>[E.vec sv 69 2 (((l.L.take k).filter (fun m=> !decide (m.Name=s))).map Mono.cells),E.row b4 41 [cI l.K,.lit sv]]) (fun ⟨k,sv⟩=>k<=l.L.length) (fun ⟨k,sv⟩=>l.L.length-k) ⟨⟨0,_⟩,(by omega),Weak.mk [true,true,true,true] ⟨G,VLe.of_eq (O),G,G,G,G,G,G,T⟩ O⟩ ?_
  rintro ⟨k,sv⟩ hk
  show AWP _ _ _ _ _ ⟨[(34,vI k),(9,vI (bS (l.L.take k) s))]++_,[E.vec sv 69 2 (((l.L.take k).filter (fun m=> !decide (m.Name=s))).map Mono.cells),E.row b4 41 [cI l.K,.lit sv]]++_⟩
  refine F O<|yD O<|H<|zK<|zD O (fun c2=>?_) (fun c2=>?_)
  ·try simp only [I] at c2
   obtain ⟨x,hx⟩:=qY l.L k (by omega)
   refine zM<|zK<|zR<|F O<|qD O P (by omega) (Q (by assumption))<|zP zPk qA O<|zV O O (yT O zr69) ?_
   rintro _ _ ⟨b6,rfl,rfl⟩
   refine Y 0 sz69 O<|H<|zK<|F O<|zG O zAn<|zJ one9 (R 0 O) O<|A O<|zU O (yR O O O)<|H<|zD O (fun c3=>?_) (fun c3=>?_)
   ·try simp only [I] at c3
    refine F O<|zG O zDn<|zJ U (R 0 O) O<|A O<|H<|qQ<|zQ O<|qJ O ⟨by omega,by omega⟩<|A O<|H ?_
    refine ⟨⟨k+1,_⟩,(by omega),(by show l.L.length-(k+1)<l.L.length-k;omega),Weak.mk [false,true,true,true,true] ⟨G,VLe.of_eq (by rw [zIi hx];first|(rw [if_pos c3];rfl)|(rw [if_neg c3];rfl)),G,G,G,G,G,G,T⟩ (by exact zEc (by rw [zNu hx];first|(rw [if_pos c3,List.append_nil])|(rw [if_neg c3,List.map_append];rfl)))⟩
   ·try simp only [I] at c3
    refine zM<|zQ O<|zG O kC<|zJ wN (R 2 O) O<|zP zPk (R 0 O) O<|yV O P zr69<|zV O O (qV 1 O P O O O (by have:=List.length_filter_le (fun m:Mono=> !decide (m.Name=s)) (l.L.take k);simp only [List.length_map,List.length_append,List.length_cons,List.length_nil,List.length_take] at *;omega) (by have:=List.length_filter_le (fun m:Mono=> !decide (m.Name=s)) (l.L.take k);simp only [List.length_map,List.length_append,List.length_cons,List.length_nil,List.length_take] at *;omega)) ?_
    rintro _ _ ⟨sv7,rfl,rfl⟩
    refine zG O kC<|Y 2 sz39 O<|H<|zQ O<|qJ O ⟨by omega,by omega⟩<|A O<|H ?_
    refine ⟨⟨k+1,_⟩,(by omega),(by show l.L.length-(k+1)<l.L.length-k;omega),Weak.mk [false,true,true,true,true] ⟨G,VLe.of_eq (by rw [zIi hx];first|(rw [if_pos c3];rfl)|(rw [if_neg c3];rfl)),G,G,G,G,G,G,T⟩ (by exact zEc (by rw [zNu hx];first|(rw [if_pos c3,List.append_nil])|(rw [if_neg c3,List.map_append];rfl)))⟩
  ·try simp only [I] at c2
   rw [yU (l:=l.L) (k:=k) (by omega)]
   refine qQ<|F O<|zP yX (R 3 O) O<|A O<|qI O ok51 (zVn u (bS l.L s) ht hrt (last_rng hrl s)) ⟨G,O,G,O,T⟩<|qP O<|yJ O<|qU O<|zV O O (qE [none,some 2] O v O) ?_
   rintro _ _ ⟨b8,rfl,rfl⟩
   refine Y 0 sz41 O<|A O<|H<|zK<|F O<|A O<|yM O<|H<|zD O (fun c4=>?_) (fun c4=>?_)
   ·try simp only [I] at c4
    refine F O<|qT [none,some 2] O v pl41<|A O<|Y 3 sz41 O<|A O<|H<|o<|w (y yX O (R 3 O) O) (J O) ?_
    rw [subst_c4 c1 c4];rfl
   ·try simp only [I] at c4
    refine zY _ (yK 1 O (regs':=[]) (μ':=[_,_,_,_]) T ⟨EFle.refl _,EFle.row (ds:=[_,_]) ⟨.inl O,.inr ⟨O,O⟩,T⟩,EFle.refl _,EFle.refl _,T⟩)<|zM<|F O<|zP yX (R 1 O) O<|zP yX (R 0 O) O<|qI O ok53 (lin_Add (lQ l s) (dF u (bS l.L s)).1 (by omega) (by omega) hr1 hs1) ⟨G,O,G,O,T⟩<|yJ O<|qU O<|Y 2 sz41 O<|A O<|H<|o<|w (y yX O (R 2 O) O) (J O) ?_
    rw [subst_ok c1 c4];rfl
end Go.W
end
section
set_option maxRecDepth 10000
namespace Go.W
open Go Go.Eng Go.Proofs Go.L41 Go.Br
attribute [local irreducible] AWP RWP TD fH
theorem ok204:bA Tryz.prog 204=true:=by kernel_rfl
theorem ok233:bA Tryz.prog 233=true:=by kernel_rfl
theorem ref14_wide (x y:Int) (hx:r64 x) (hy:r64 y):
    Pur cfg 233 [vI x,vI y] (.tup [vI ((x*y)/18446744073709551616),vUn ((x*y)%18446744073709551616).toNat]):=by
 refine zT Tryz.func233 O Tryz.ntmps233 Tryz.results233 O ?_
 intro z hz
 have hA:=zQd hx
 have hB:=zQd hy
 obtain ⟨p1,p2,p3,p4⟩:=part_le (a:=x.natAbs) (b:=y.natAbs) (by omega) (by omega)
 obtain ⟨w1,w2⟩:=wide_lt hx hy
 have hmid:sK x.natAbs y.natAbs<18446744073709551616:=by unfold sK;omega
 refine F O<|A O<|A O<|H<|F O<|A O<|yD O<|A O<|yD O<|zU O (zSu O un4 O O)<|A O<|H<|F O<|A O<|zU O (kU O us2 ik180 O)<|A O<|zU O (kU O us2 ik180 O)<|A O<|A O<|H<|zK<|F O<|A O<|yD O<|H<|zD O (fun c1=>?_) (fun c1=>?_)
 ·try simp only [I] at c1
  refine zQ O<|A O<|zU O (zGo O O) ?_
  rw [zSi hx c1]
  refine A O<|H<|zK<|F O<|A O<|yD O<|H<|zD O (fun c2=>?_) (fun c2=>?_)
  ·try simp only [I] at c2
   refine zQ O<|A O<|zU O (zGo O O) ?_
   rw [zSi hy c2]
   refine A O<|H<|F O<|A O<|zU O (kT O O O )<|A O<|zU O (wK O O O (by omega))<|A O<|zU O (kT O O O )<|A O<|zU O (wK O O O (by omega))<|A O<|A O<|A O<|A O<|H<|F O<|A O<|A O<|zU O (zAb O O O (by omega))<|A O<|A O<|zU O (zAb O O O (by omega))<|A O<|A O<|zU O (zAb O O O (by omega))<|A O<|A O<|zU O (zAb O O O (by omega))<|A O<|A O<|A O<|A O<|H<|F O<|A O<|zU O (kT O O O )<|A O<|zU O (wK O O O (by omega))<|zU O (wM O O O (by omega))<|A O<|zU O (wK O O O (by omega))<|zU O (wM O O O (by omega))<|A O<|H<|F O<|A O<|zU O (wK O O O (by omega))<|A O<|zU O (zSq O O O )<|zU O (det_uor O O O )<|A O<|H<|F O<|A O<|A O<|zU O (kT O O O )<|zU O (wM O O O (by omega))<|A O<|zU O (kT O O O )<|zU O (wM O O O (by omega)) ?_
   refine A O<|zU O (kT O O O )<|zU O (wM O O O (by unfold wHi at w1;unfold sK at w1;omega))<|A O<|H<|zK<|F O<|A O<|H<|zD O (fun c3=>?_) (fun c3=>?_)
   ·try simp only [I] at c3
    refine F O<|A O<|zU O (zSs O O w2)<|A O<|H<|F O<|A O<|zU O (zSr O O w1)<|A O<|H<|F O<|A O<|yF O<|H<|zD O (fun c4=>?_) (fun c4=>?_)
    ·try simp only [I] at c4
     refine zQ O<|A O<|zU O (zOu O O O )<|A O<|H<|F O<|A O<|zU O (kU O zIw ik2 O)<|A O<|A O<|A O<|H<|o<|w (J O) (J O) ?_
     obtain ⟨e1,e2⟩:=zNc hx hy c3 (by exact Int.ofNat_eq_zero.1 c4)
     rw [←e2,←e1];rfl
    ·try simp only [I] at c4
     refine zM<|F O<|A O<|zU O (kU O zIw ik2 O)<|A O<|A O<|A O<|H<|o<|w (J O) (J O) ?_
     obtain ⟨e1,e2⟩:=zNb hx hy c3 (fun h=>c4 (by exact Int.ofNat_eq_zero.2 h))
     rw [←e2,←e1];rfl
   ·try simp only [I] at c3
    refine zM<|F O<|A O<|zU O (kU O zIw ik2 O)<|A O<|A O<|A O<|H<|o<|w (J O) (J O) ?_
    obtain ⟨e1,e2⟩:=zRt hx hy c3
    rw [←e2,←e1];rfl
  ·try simp only [I] at c2
   rw [zSh hy (by omega)]
   refine zM<|F O<|A O<|zU O (kT O O O )<|A O<|zU O (wK O O O (by omega))<|A O<|zU O (kT O O O )<|A O<|zU O (wK O O O (by omega))<|A O<|A O<|A O<|A O<|H<|F O<|A O<|A O<|zU O (zAb O O O (by omega))<|A O<|A O<|zU O (zAb O O O (by omega))<|A O<|A O<|zU O (zAb O O O (by omega))<|A O<|A O<|zU O (zAb O O O (by omega))<|A O<|A O<|A O<|A O<|H<|F O<|A O<|zU O (kT O O O )<|A O<|zU O (wK O O O (by omega))<|zU O (wM O O O (by omega))<|A O<|zU O (wK O O O (by omega))<|zU O (wM O O O (by omega))<|A O<|H<|F O<|A O<|zU O (wK O O O (by omega))<|A O<|zU O (zSq O O O )<|zU O (det_uor O O O )<|A O<|H<|F O<|A O<|A O<|zU O (kT O O O )<|zU O (wM O O O (by omega))<|A O<|zU O (kT O O O )<|zU O (wM O O O (by omega))<|A O ?_
   refine zU O (kT O O O )<|zU O (wM O O O (by unfold wHi at w1;unfold sK at w1;omega))<|A O<|H<|zK<|F O<|A O<|H<|zD O (fun c3=>?_) (fun c3=>?_)
   ·try simp only [I] at c3
    refine F O<|A O<|zU O (zSs O O w2)<|A O<|H<|F O<|A O<|zU O (zSr O O w1)<|A O<|H<|F O<|A O<|yF O<|H<|zD O (fun c4=>?_) (fun c4=>?_)
    ·try simp only [I] at c4
     refine zQ O<|A O<|zU O (zOu O O O )<|A O<|H<|F O<|A O<|zU O (kU O zIw ik2 O)<|A O<|A O<|A O<|H<|o<|w (J O) (J O) ?_
     obtain ⟨e1,e2⟩:=zNc hx hy c3 (by exact Int.ofNat_eq_zero.1 c4)
     rw [←e2,←e1];rfl
    ·try simp only [I] at c4
     refine zM<|F O<|A O<|zU O (kU O zIw ik2 O)<|A O<|A O<|A O<|H<|o<|w (J O) (J O) ?_
     obtain ⟨e1,e2⟩:=zNb hx hy c3 (fun h=>c4 (by exact Int.ofNat_eq_zero.2 h))
     rw [←e2,←e1];rfl
   ·try simp only [I] at c3
    refine zM<|F O<|A O<|zU O (kU O zIw ik2 O)<|A O<|A O<|A O<|H<|o<|w (J O) (J O) ?_
    obtain ⟨e1,e2⟩:=zRt hx hy c3
    rw [←e2,←e1];rfl
 ·try simp only [I] at c1
  rw [zSh hx (by omega)]
  refine zM<|zK<|F O<|A O<|yD O<|H<|zD O (fun c2=>?_) (fun c2=>?_)
  ·try simp only [I] at c2
   refine zQ O<|A O<|zU O (zGo O O) ?_
   rw [zSi hy c2]
   refine A O<|H<|F O<|A O<|zU O (kT O O O )<|A O<|zU O (wK O O O (by omega))<|A O<|zU O (kT O O O )<|A O<|zU O (wK O O O (by omega))<|A O<|A O<|A O<|A O<|H<|F O<|A O<|A O<|zU O (zAb O O O (by omega))<|A O<|A O<|zU O (zAb O O O (by omega))<|A O<|A O<|zU O (zAb O O O (by omega))<|A O<|A O<|zU O (zAb O O O (by omega))<|A O<|A O<|A O<|A O<|H<|F O<|A O<|zU O (kT O O O )<|A O<|zU O (wK O O O (by omega))<|zU O (wM O O O (by omega))<|A O<|zU O (wK O O O (by omega))<|zU O (wM O O O (by omega))<|A O<|H<|F O<|A O<|zU O (wK O O O (by omega))<|A O<|zU O (zSq O O O )<|zU O (det_uor O O O )<|A O<|H<|F O<|A O<|A O<|zU O (kT O O O )<|zU O (wM O O O (by omega))<|A O<|zU O (kT O O O )<|zU O (wM O O O (by omega)) ?_
   refine A O<|zU O (kT O O O )<|zU O (wM O O O (by unfold wHi at w1;unfold sK at w1;omega))<|A O<|H<|zK<|F O<|A O<|H<|zD O (fun c3=>?_) (fun c3=>?_)
   ·try simp only [I] at c3
    refine F O<|A O<|zU O (zSs O O w2)<|A O<|H<|F O<|A O<|zU O (zSr O O w1)<|A O<|H<|F O<|A O<|yF O<|H<|zD O (fun c4=>?_) (fun c4=>?_)
    ·try simp only [I] at c4
     refine zQ O<|A O<|zU O (zOu O O O )<|A O<|H<|F O<|A O<|zU O (kU O zIw ik2 O)<|A O<|A O<|A O<|H<|o<|w (J O) (J O) ?_
     obtain ⟨e1,e2⟩:=zNc hx hy c3 (by exact Int.ofNat_eq_zero.1 c4)
     rw [←e2,←e1];rfl
    ·try simp only [I] at c4
     refine zM<|F O<|A O<|zU O (kU O zIw ik2 O)<|A O<|A O<|A O<|H<|o<|w (J O) (J O) ?_
     obtain ⟨e1,e2⟩:=zNb hx hy c3 (fun h=>c4 (by exact Int.ofNat_eq_zero.2 h))
     rw [←e2,←e1];rfl
   ·try simp only [I] at c3
    refine zM<|F O<|A O<|zU O (kU O zIw ik2 O)<|A O<|A O<|A O<|H<|o<|w (J O) (J O) ?_
    obtain ⟨e1,e2⟩:=zRt hx hy c3
    rw [←e2,←e1];rfl
  ·try simp only [I] at c2
   rw [zSh hy (by omega)]
   refine zM<|F O<|A O<|zU O (kT O O O )<|A O<|zU O (wK O O O (by omega))<|A O<|zU O (kT O O O )<|A O<|zU O (wK O O O (by omega))<|A O<|A O<|A O<|A O<|H<|F O<|A O<|A O<|zU O (zAb O O O (by omega))<|A O<|A O<|zU O (zAb O O O (by omega))<|A O<|A O<|zU O (zAb O O O (by omega))<|A O<|A O<|zU O (zAb O O O (by omega))<|A O<|A O<|A O<|A O<|H<|F O<|A O<|zU O (kT O O O )<|A O<|zU O (wK O O O (by omega))<|zU O (wM O O O (by omega))<|A O<|zU O (wK O O O (by omega))<|zU O (wM O O O (by omega))<|A O<|H<|F O<|A O<|zU O (wK O O O (by omega))<|A O<|zU O (zSq O O O )<|zU O (det_uor O O O )<|A O<|H<|F O<|A O<|A O<|zU O (kT O O O )<|zU O (wM O O O (by omega))<|A O<|zU O (kT O O O )<|zU O (wM O O O (by omega))<|A O ?_
   refine zU O (kT O O O )<|zU O (wM O O O (by unfold wHi at w1;unfold sK at w1;omega))<|A O<|H<|zK<|F O<|A O<|H<|zD O (fun c3=>?_) (fun c3=>?_)
   ·try simp only [I] at c3
    refine F O<|A O<|zU O (zSs O O w2)<|A O<|H<|F O<|A O<|zU O (zSr O O w1)<|A O<|H<|F O<|A O<|yF O<|H<|zD O (fun c4=>?_) (fun c4=>?_)
    ·try simp only [I] at c4
     refine zQ O<|A O<|zU O (zOu O O O )<|A O<|H<|F O<|A O<|zU O (kU O zIw ik2 O)<|A O<|A O<|A O<|H<|o<|w (J O) (J O) ?_
     obtain ⟨e1,e2⟩:=zNc hx hy c3 (by exact Int.ofNat_eq_zero.1 c4)
     rw [←e2,←e1];rfl
    ·try simp only [I] at c4
     refine zM<|F O<|A O<|zU O (kU O zIw ik2 O)<|A O<|A O<|A O<|H<|o<|w (J O) (J O) ?_
     obtain ⟨e1,e2⟩:=zNb hx hy c3 (fun h=>c4 (by exact Int.ofNat_eq_zero.2 h))
     rw [←e2,←e1];rfl
   ·try simp only [I] at c3
    refine zM<|F O<|A O<|zU O (kU O zIw ik2 O)<|A O<|A O<|A O<|H<|o<|w (J O) (J O) ?_
    obtain ⟨e1,e2⟩:=zRt hx hy c3
    rw [←e2,←e1];rfl
theorem zFe (a b c:Int) (ha:r64 a) (hb:r64 b) (hc:r64 c):
    Pur cfg 204 [vI a,vI b,vI c] (.tup [vI (w64 (a+b*c)),vB (decide (r64 (a+b*c)))]):=by
 refine zT Tryz.func204 O Tryz.ntmps204 Tryz.results204 O ?_
 intro z hz
 obtain ⟨z1,z2⟩:=prod_bd hb hc
 refine F O<|A O<|A O<|H<|F O<|A O<|A O<|qI O ok233 (ref14_wide b c hb hc) ⟨G,O,G,O,T⟩<|qP O<|qU O<|qU O<|A O<|A O<|H<|F O<|A O<|A O<|zU O (kU O us2 ik180 O)<|zU O (zIk O O O)<|A O<|H<|F O<|A O<|H<|zK<|F O<|A O<|A O<|yD O<|H<|zD O (fun c1=>?_) (fun c1=>?_)
 ·try simp only [I] at c1
  refine zQ O<|A O<|H<|F O<|A O<|A O<|qJ O ⟨by omega,by omega⟩<|A O<|H<|zK<|F O<|A O<|yD O<|H<|zD O (fun c2=>?_) (fun c2=>?_)
  ·try simp only [I] at c2
   refine zQ O<|A O<|zU O (yE O O O ⟨by omega,by omega⟩)<|A O<|H<|F O<|A O<|zU O (kU O zIw ik2 O)<|A O<|H<|F O<|A O<|A O<|yF O<|A O<|rL0 O (fun g10_3=>zN O O) O<|B 40 O (fun g10_3=>wI O O O) O<|yQ O (fun h=>h)<|A O<|rL0 O (fun g10_7=>zN O O) O<|B 44 O (fun g10_7=>yH O O O) O<|B 45 O (fun g10_7=>zN O O) O<|rLz [] O N T (fun g10_10=>zN O O) O<|rLz [(47,_)] O N ⟨O,O,T⟩ (fun g10_10=>zBr O O O) O<|B 46 O (fun g10_7=>kZ O O O (fun h=>kD (by assumption) h) O) O<|r_or O (fun h=>(lzf h))<|A O<|A O<|H<|o<|w (J O) (J O) ?_
   obtain ⟨S,hS,s0,s1,s2,s3⟩:=zTc (z:=b*c) ha
   rw [←hS,s3] at c1
   rw [←hS]
   clear hS
   unfold r64 at ha
   exact zTd s0 s1 (by generalize b*c=z at *;omega)
  ·try simp only [I] at c2
   refine zM<|F O<|A O<|zU O (kU O zIw ik2 O)<|A O<|H<|F O<|A O<|A O<|yF O<|A O<|rL0 O (fun g10_3=>zN O O) O<|B 40 O (fun g10_3=>wI O O O) O<|yQ O (fun h=>h)<|A O<|rL0 O (fun g10_7=>zN O O) O<|B 44 O (fun g10_7=>yH O O O) O<|B 45 O (fun g10_7=>zN O O) O<|rLz [] O N T (fun g10_10=>zN O O) O<|rLz [(47,_)] O N ⟨O,O,T⟩ (fun g10_10=>zBr O O O) O<|B 46 O (fun g10_7=>kZ O O O (fun h=>kD (by assumption) h) O) O<|r_or O (fun h=>(lzf h))<|A O<|A O<|H<|o<|w (J O) (J O) ?_
   obtain ⟨S,hS,s0,s1,s2,s3⟩:=zTc (z:=b*c) ha
   rw [←hS,s3] at c1
   rw [←hS]
   clear hS
   unfold r64 at ha
   exact zTd s0 s1 (by generalize b*c=z at *;omega)
 ·try simp only [I] at c1
  refine zM<|F O<|A O<|A O<|qJ O ⟨by omega,by omega⟩<|A O<|H<|zK<|F O<|A O<|yD O<|H<|zD O (fun c2=>?_) (fun c2=>?_)
  ·try simp only [I] at c2
   refine zQ O<|A O<|zU O (yE O O O ⟨by omega,by omega⟩)<|A O<|H<|F O<|A O<|zU O (kU O zIw ik2 O)<|A O<|H<|F O<|A O<|A O<|yF O<|A O<|rL0 O (fun g10_3=>zN O O) O<|B 40 O (fun g10_3=>wI O O O) O<|yQ O (fun h=>h)<|A O<|rL0 O (fun g10_7=>zN O O) O<|B 44 O (fun g10_7=>yH O O O) O<|B 45 O (fun g10_7=>zN O O) O<|rLz [] O N T (fun g10_10=>zN O O) O<|rLz [(47,_)] O N ⟨O,O,T⟩ (fun g10_10=>zBr O O O) O<|B 46 O (fun g10_7=>kZ O O O (fun h=>kD (by assumption) h) O) O<|r_or O (fun h=>(lzf h))<|A O<|A O<|H<|o<|w (J O) (J O) ?_
   obtain ⟨S,hS,s0,s1,s2,s3⟩:=zTc (z:=b*c) ha
   rw [←hS,s3] at c1
   rw [←hS]
   clear hS
   unfold r64 at ha
   exact zTd s0 s1 (by generalize b*c=z at *;omega)
  ·try simp only [I] at c2
   refine zM<|F O<|A O<|zU O (kU O zIw ik2 O)<|A O<|H<|F O<|A O<|A O<|yF O<|A O<|rL0 O (fun g10_3=>zN O O) O<|B 40 O (fun g10_3=>wI O O O) O<|yQ O (fun h=>h)<|A O<|rL0 O (fun g10_7=>zN O O) O<|B 44 O (fun g10_7=>yH O O O) O<|B 45 O (fun g10_7=>zN O O) O<|rLz [] O N T (fun g10_10=>zN O O) O<|rLz [(47,_)] O N ⟨O,O,T⟩ (fun g10_10=>zBr O O O) O<|B 46 O (fun g10_7=>kZ O O O (fun h=>kD (by assumption) h) O) O<|r_or O (fun h=>(lzf h))<|A O<|A O<|H<|o<|w (J O) (J O) ?_
   obtain ⟨S,hS,s0,s1,s2,s3⟩:=zTc (z:=b*c) ha
   rw [←hS,s3] at c1
   rw [←hS]
   clear hS
   unfold r64 at ha
   exact zTd s0 s1 (by generalize b*c=z at *;omega)
theorem ref14_scales (l:Lf) (by_:Int) (hl:l.L.length<=4294967296) (hr:l.rng) (hb:r64 by_):
    Pur cfg 185 [bZ l,vI by_] (vB (decide (r64 (l.K*by_))&&fT by_ l.L)):=by
 refine zT Tryz.func185 O Tryz.ntmps185 Tryz.results185 O ?_
 intro z hz
 have z0:r64 0:=by unfold r64;omega
 refine F O<|zV O O (qN O O) ?_
 rintro _ _ ⟨b1,rfl,rfl⟩
 refine A O<|H<|zK<|F O<|zG O zDt<|zJ U (R 0 O) O<|A O<|qI O ok204 (zFe 0 l.K by_ z0 hr.1 hb) ⟨G,O,G,O,G,O,T⟩<|qP O<|qU O<|qU O<|A O<|A O<|H<|F O<|A O<|kQ O<|H<|zD O (fun c1=>?_) (fun c1=>?_)
 ·try simp only [I] at c1
  rw [Int.zero_add] at c1
  refine F O<|A O<|H<|o<|X O ?_
  rw [decide_eq_false c1];rfl
 ·try simp only [I] at c1
  rw [Int.zero_add] at c1
  refine zM<|zK<|F O<|A O<|H<|zR<|zY ⟨[(7,.c _),(1,.c _),(2,.c _)],[_]⟩ (Weak.mk [true] ⟨G,G,G,T⟩ O)<|qK 1 0 O O (Nat) (fun k=>[(7,vI k)]) (fun k=>[]) (fun k=>k<=l.L.length/\(fT by_ (l.L.take k)=true)) (fun k=>l.L.length-k) ⟨0,⟨by omega,O⟩,Weak.mk [true] ⟨G,G,G,T⟩ O⟩ ?_
  rintro k ⟨hk,hp⟩
  refine zK<|F O<|A O<|zG O kC<|zJ wN (R 0 O) O<|qC O P<|yD O<|H<|zD O (fun c2=>?_) (fun c2=>?_)
  ·try simp only [I] at c2
   obtain ⟨x,hx⟩:=qY l.L k (by omega)
   refine zM<|zK<|zR<|F O<|zG O kC<|zJ wN (R 0 O) O<|A O<|qD O P (by omega) (Q (by assumption))<|qO O zDn<|zJ U qA O<|A O<|qI O ok204 (zFe 0 x.By by_ z0 (hr.2 x (zZ hx)) hb) ⟨G,O,G,O,G,O,T⟩<|qP O<|qU O<|qU O<|A O<|A O<|H<|F O<|A O<|kQ O<|H<|zD O (fun c3=>?_) (fun c3=>?_)
   ·try simp only [I] at c3
    rw [Int.zero_add] at c3
    refine F O<|A O<|H<|o<|X O ?_
    rw [scaleOk_no hx c3,Bool.and_false]
   ·try simp only [I] at c3
    rw [Int.zero_add] at c3
    refine zM<|zQ O<|A O<|qJ O ⟨by omega,by omega⟩<|A O<|H ?_
    refine ⟨k+1,⟨by omega,scaleOk_next hx hp c3⟩,(by omega),Weak.mk [true] ⟨G,G,G,T⟩ O⟩
  ·try simp only [I] at c2
   refine qQ<|F O<|A O<|H<|o<|X O ?_
   rw [yU (by omega)] at hp
   rw [hp,decide_eq_true c1];rfl
end Go.W
end
