/-
  What functions compute.
  What functions compute.
  What functions compute.
  What functions compute.
  What functions compute.
  What functions compute.
  Conditions: none.
-/
import Derived.Test.YtgfomfnjionbeaaGreatDoorGA
import Derived.Test.YtgfomfnjionbeaaGreatDoorPlain2
import Derived.Test.YtgfomfnjionbeaaGreatDoorEngZ
set_option linter.unusedSimpArgs false
set_option linter.unusedVariables false
section
set_option maxRecDepth 10000
namespace Go.W
open Go Go.Eng Go.Proofs Go.L41 Go.Br
attribute [local irreducible] AWP RWP TD fQ
theorem ik2:sZ Tryz.prog 2=some .i64:=by kernel_rfl
theorem ok124:bA Tryz.prog 124=true:=by kernel_rfl
theorem ok126:bA Tryz.prog 126=true:=by kernel_rfl
theorem ok184:bA Tryz.prog 184=true:=by kernel_rfl
theorem sz57:(Tryz.prog.info? 57).map (·.size)=some 1:=by kernel_rfl
theorem us154:(Tryz.prog.underlying 154).isSome=true:=by kernel_rfl
theorem lin_plus (a b:Int) (ha:r64 a) (hb:r64 b):
    Pur cfg 185 [vI a,vI b] (.tup [vI (w64 (a+b)),vB (decide (r64 (a+b)))]):=by
 refine zV Tryz.func185 O Tryz.ntmps185 Tryz.results185 O ?_
 intro z hz
 refine Y O<|G O<|G O<|zA<|Y O<|G O<|G O<|zW O (det_add O O O)<|G O<|zA<|Y O<|G O<|G O<|G O<|zW O (yF O O O)<|G O<|zW O (yF O O O)<|zW O (det_beql O un4 O O)<|G O<|G O<|zA<|zJ<|fin2 (rs_c O) (rs_c O) ?_
 rw [←plus_ok ha hb];rfl
theorem zDe (x:Int) (hx:r64 x):
    Pur cfg 124 [vI x] (vUn x.natAbs):=by
 refine zV Tryz.func124 O Tryz.ntmps124 Tryz.results124 O ?_
 intro z hz
 refine Y O<|G O<|zA<|zH<|Y O<|G O<|yA O<|zA<|zE O (fun c1=>?_) (fun c1=>?_)
 ·try simp only [sx] at c1
  refine Y O<|G O<|zW O (zCb O us2 ik154 O)<|zW O (zPc O O)<|G O<|zA<|zJ<|zT O ?_
  exact congrArg (fun n=>V.c (.lit (.int .u64 n))) (magn_neg hx c1)
 ·try simp only [sx] at c1
  refine zI<|Y O<|G O<|zW O (zCb O us2 ik154 O)<|G O<|zA<|zJ<|zT O ?_
  exact congrArg (fun n=>V.c (.lit (.int .u64 n))) (magn_pos hx zC)
theorem zTg (a b:Nat) (ha:a<18446744073709551616) (hb:b<18446744073709551616):
    Pur cfg 126 [vUn a,vUn b] (.tup [vUn (hiN a b),vUn (a*b%18446744073709551616)]):=by
 refine zV Tryz.func126 O Tryz.ntmps126 Tryz.results126 O ?_
 intro z hz
 obtain ⟨p1,p2,p3,p4⟩:=part_le ha hb
 obtain ⟨q1,q2,q3,q4⟩:=hi_bounds ha hb
 refine Y O<|G O<|G O<|zA<|Y O<|G O<|zW O (zNc O O O ha)<|G O<|zW O (zNc O O O hb)<|zW O (zRd O O O zC)<|G O<|zA<|Y O<|G O<|zW O (zHr O O O )<|G O<|zW O (zNc O O O hb)<|zW O (zRd O O O zC)<|G O<|zW O (zHr O O O )<|zW O (zRe O O O q1)<|G O<|zA<|Y O<|G O<|zW O (zNc O O O ha)<|G O<|zW O (zHr O O O )<|zW O (zRd O O O zC)<|G O<|zW O (zNc O O O q1)<|zW O (zRe O O O q2)<|G O<|zA<|Y O<|G O<|zW O (zHr O O O )<|G O<|zW O (zHr O O O )<|zW O (zRd O O O zC)<|G O<|zW O (zHr O O O )<|zW O (zRe O O O q3)<|G O<|zW O (zHr O O O )<|zW O (zRe O O O q4)<|G O<|G O<|zW O (det_umod O O O )<|G O<|G O<|zA<|zJ<|fin2 (rs_c O) (rs_c O) ?_
 exact O
theorem lin_times (x y:Int) (hx:r64 x) (hy:r64 y):
    Pur cfg 184 [vI x,vI y] (.tup [vI (dW x y).1,vB (dW x y).2]):=by
 refine zV Tryz.func184 O Tryz.ntmps184 Tryz.results184 O ?_
 intro z hz
 have hm1:=zGe hx
 have hm2:=zGe hy
 refine Y O<|G O<|G O<|zA<|Y O<|G O<|qJ O ok124 (zDe x hx) ⟨zB,O,T⟩<|G O<|qJ O ok124 (zDe y hy) ⟨zB,O,T⟩<|qJ O ok126 (zTg x.natAbs y.natAbs zC zC) ⟨zB,O,zB,O,T⟩<|qU O<|yK O<|yK O<|G O<|G O<|zA<|Y O<|G O<|yA O<|G O<|yA O<|zW O (zRf O un4 O O)<|G O<|zA<|zH<|zR<|Y O<|G O<|yN O<|G O<|rL0 O (fun g3_2=>zP O O) O<|rL1 26 O (fun g3_2=>yF O O O) O<|r_or O (fun h=>(lzf h))<|G O<|rL0 O (fun g3_6=>zP O O) O<|rL1 30 O (fun g3_6=>yR O O O) O<|rL1 31 O (fun g3_6=>zP O O) O<|rLz [] O gv2 T (fun g3_9=>zP O O) O<|rLz [(33,_)] O gv2 ⟨O,O,T⟩ (fun g3_9=>wJ O O) O<|rL1 32 O (fun g3_6=>zAc O O O (fun h=>kM uD h) O) O<|r_or O (fun h=>(lzf h))<|G O<|zA<|zE O (fun c1=>?_) (fun c1=>?_)
 ·try simp only [sx] at c1
  refine Y O<|G O<|G O<|zA<|zJ<|fin2 (rs_c O) (rs_c O) ?_
  rw [times_f hx hy c1]
 ·try simp only [sx] at c1
  refine Y O<|G O<|G O<|zA<|zE O (fun c2=>?_) (fun c2=>?_)
  ·try simp only [sx] at c2
   refine Y O<|G O<|zW O (zPc O O)<|zW O (zCb O us154 ik2 O)<|G O<|G O<|zA<|zJ<|fin2 (rs_c O) (rs_c O) ?_
   rw [times_neg c2 (by have:=c1.1.1;omega) (by have:=c1.1.2;omega)]
  ·try simp only [sx] at c2
   refine zI<|Y O<|G O<|zW O (zCb O us154 ik2 O)<|G O<|G O<|zA<|zJ<|fin2 (rs_c O) (rs_c O) ?_
   have hlt:x.natAbs*y.natAbs%18446744073709551616<9223372036854775808:=by
     have h1:=c1.1.2
     rcases c1.2 with h|h
     · omega
     · rw [c2] at h;cases h
   rw [times_pos c2 (by have:=c1.1.1;omega) hlt]
theorem lin_Scale (l:Lf) (by_:Int) (hl:l.L.length<=4294967296) (hr:l.rng) (hb:r64 by_):
    Pur cfg 131 [dP l,vI by_] (.tup [dP (dX l by_).1,vI (dX l by_).2]):=by
 refine zV Tryz.func131 O Tryz.ntmps131 Tryz.results131 O ?_
 intro z hz
 refine Y O<|zY O O (qL O O) ?_
 rintro _ _ ⟨b1,rfl,rfl⟩
 refine zY O O (qG [none,some 2] O zr59 O) ?_
 rintro _ _ ⟨b2,rfl,rfl⟩
 refine G O<|zA<|zH<|Y O<|zM kD (J 1 O) O<|qJ O ok122 (zAn l zC) ⟨zB,O,T⟩<|yN O<|zA<|zE O (fun c1=>?_) (fun c1=>?_)
 ·try simp only [sx] at c1
  have hl0:=zTh c1
  refine Y O<|yZ [none,some 2] O zr59 pl59<|D 0 sz59 O<|G O<|zA<|zJ<|fin2 (zZ kD O (J 0 O) O) (rs_c O) ?_
  rw [scale_bad hl0];rfl
 ·try simp only [sx] at c1
  have hl1:=zGt c1
  refine zI<|zH<|Y O<|G O<|yJ O<|zA<|zE O (fun c2=>?_) (fun c2=>?_)
  ·try simp only [sx] at c2
   refine Y O<|yZ [none,some 2] O zr59 pl59<|D 0 sz59 O<|G O<|zA<|zJ<|fin2 (zZ kD O (J 0 O) O) (rs_c O) ?_
   rw [scale_zero hl1 c2];rfl
  ·try simp only [sx] at c2
   refine zI<|Y O<|zD O zEd<|zG W (J 1 O) O<|G O<|qJ O ok184 (lin_times l.K by_ hr.1 hb) ⟨zB,O,zB,O,T⟩<|qU O<|yK O<|yK O<|G O<|G O<|zA<|Y O<|G O<|yI O zr59 pl59<|zY O O (yC O zr59) ?_
   rintro _ _ ⟨b3,rfl,rfl⟩
   refine yT _ (kO 139 2)<|D 1 sz59 O<|zA<|zH<|Y O<|zD O wC<|zG zBe (J 3 O) O<|qB O U<|G O<|zA<|zR<|zU ⟨[(32,.c _),(7,.c _),(1,.c _),(4,.c _),(8,.c _),(30,.c _),(31,.c _)],[_,_,_]⟩ (Weak.mk [true,true,true,false] ⟨zB,zB,zB,zB,zB,zB,zB,T⟩ O)<|qF 2 2 O O (Nat×Value) (fun ⟨k,sv⟩=>[(32,vI k),(7,vB ((dW l.K by_).2&&mQ by_ (l.L.take k)))]) (fun ⟨k,sv⟩=>[E.vec sv 139 2 ((mA by_ (l.L.take k)).map Mono.cells),E.row b3 59 [cI (dW l.K by_).1,.lit sv]]) (fun ⟨k,sv⟩=>k<=l.L.length) (fun ⟨k,sv⟩=>l.L.length-k) ⟨⟨0,_⟩,zC,Weak.mk [true,true,true] ⟨zB,VLe.of_eq (by rw [show mQ by_ (l.L.take 0)=true from rfl,Bool.and_true];rfl),zB,zB,zB,zB,zB,T⟩ O⟩ ?_
   rintro ⟨k,sv⟩ hk
   show AWP _ _ _ _ _ ⟨[(32,vI k),(7,vB ((dW l.K by_).2&&mQ by_ (l.L.take k)))]++_,[E.vec sv 139 2 ((mA by_ (l.L.take k)).map Mono.cells),E.row b3 59 [cI (dW l.K by_).1,.lit sv]]++_⟩
   refine Y O<|yA O<|zA<|zH<|zE O (fun c3=>?_) (fun c3=>?_)
   ·try simp only [sx] at c3
    obtain ⟨x,hx⟩:=qV l.L k zC
    refine zI<|zH<|zR<|Y O<|qE O U zC (getm uD)<|zM zEf qD O<|zY O O (yC O zGb) ?_
    rintro _ _ ⟨b5,rfl,rfl⟩
    refine D 0 sz139 O<|zA<|Y O<|zD O zEi<|zG W (J 0 O) O<|G O<|qJ O ok184 (lin_times x.By by_ (hr.2 x (qC hx)) hb) ⟨zB,O,zB,O,T⟩<|qU O<|yK O<|yK O<|G O<|G O<|zA<|Y O<|G O<|G O<|rL0 O (fun g11_1=>zP O O) O<|kB O (fun h=>h)<|G O<|zA<|zO O<|zD O wC<|zG zBe (J 2 O) O<|zD O wV<|zG one9 (J 0 O) O<|G O<|yI O zGb pl139<|kA O U zGb<|zY O O (yH 1 O U O O O (by simp only [List.length_map,List.length_append,List.length_cons,List.length_nil,scaleW_len,List.length_take];omega) (by simp only [List.length_map,List.length_append,List.length_cons,List.length_nil,scaleW_len,List.length_take];omega)) ?_
    rintro _ _ ⟨sv6,rfl,rfl⟩
    refine zD O wC<|D 2 sz57 O<|zA<|zO O<|qH O ⟨zC,zC⟩<|G O<|zA ?_
    refine ⟨⟨k+1,sv6⟩,zC,(by show l.L.length-(k+1)<l.L.length-k;omega),Weak.mk [false,true,true,true] ⟨zB,VLe.of_eq (by rw [scaleB_next hx,←Bool.and_assoc];rfl),zB,zB,zB,zB,zB,T⟩ (by show _=[E.vec sv6 _ 2 ((mA by_ (l.L.take (k+1))).map Mono.cells),E.row b3 _ [cI (dW l.K by_).1,.lit sv6]]++_;rw [scaleW_next hx,List.map_append];rfl)⟩
   ·try simp only [sx] at c3
    rw [yD (l:=l.L) (k:=k) zC]
    refine qM<|zH<|Y O<|G O<|kZ O<|zA<|zE O (fun c4=>?_) (fun c4=>?_)
    ·try simp only [sx] at c4
     refine Y O<|yZ [none,some 2] O zr59 pl59<|D 2 sz59 O<|G O<|zA<|zJ<|fin2 (zZ kD O (J 2 O) O) (rs_c O) ?_
     rw [scale_no hl1 c2 c4];rfl
    ·try simp only [sx] at c4
     refine zI<|Y O<|zM kD (J 1 O) O<|D 2 sz59 O<|G O<|zA<|zU _ (yO 0 O (regs':=[(60,.agg [_,_])]) (μ':=[_,_]) ⟨FLe.agg ⟨.inl O,.inr ⟨O,O⟩,T⟩,T⟩ ⟨EFle.row (ds:=[_,_]) ⟨.inl O,.inr ⟨O,O⟩,T⟩,EFle.row (ds:=[_,_]) ⟨.inl O,.inr ⟨O,O⟩,T⟩,T⟩)<|zJ<|fin2 (zZ kD O (J 1 O) O) (rs_c O) ?_
     rw [scale_ok hl1 c2 c4];rfl
end Go.W
end
section
set_option maxRecDepth 10000
namespace Go.W
open Go Go.Eng Go.Proofs Go.L41 Go.Br
attribute [local irreducible] AWP RWP TD fQ
theorem ok131:bA Tryz.prog 131=true:=by kernel_rfl
theorem ok132:bA Tryz.prog 132=true:=by kernel_rfl
theorem ok185:bA Tryz.prog 185=true:=by kernel_rfl
theorem ok186:bA Tryz.prog 186=true:=by kernel_rfl
theorem ok187:bA Tryz.prog 187=true:=by kernel_rfl
theorem one4:gB Tryz.prog 4=true:=by kernel_rfl
theorem sz2:(Tryz.prog.info? 2).map (·.size)=some 1:=by kernel_rfl
theorem sz4:(Tryz.prog.info? 4).map (·.size)=some 1:=by kernel_rfl
theorem zr4:dO Tryz.prog 4=some [(Value.bool false)]:=by kernel_rfl
theorem merge_con (a0 b0:List Mono) (ha0:a0.length<=4294967296) (hb0:b0.length<=4294967296):
    ∀(y:C) (J:List Tr->List E->Prop) (μ:List E),(∀d t s m,bR a0 b0=d++t::s->J d m->FnCon cfg y [vS t.1,vI t.2.1,vI t.2.2] m fun r m'=>r=.tup []/\J (d++[t]) m')->J [] μ->Con cfg 186 [.c (.sl 2 (a0.map Mono.cells)),.c (.sl 2 (b0.map Mono.cells)),.c y] μ fun r μ'=>r=.tup []/\J (bR a0 b0) μ':=by
 intro y J μ hy h0
 refine zV Tryz.func186 O Tryz.ntmps186 Tryz.results186 O ?_
 intro z hz
 refine zR<|zU ⟨[(0,.c _),(1,.c _),(2,.c _)],_⟩ (Weak.regs ⟨zB,zB,zB,T⟩)<|zFb 2 O (List Mono×List Mono×List Tr×List E) (fun ⟨a,b,d,m⟩=>[(0,.c (.sl 2 (a.map Mono.cells))),(1,.c (.sl 2 (b.map Mono.cells)))]) (fun ⟨a,b,d,m⟩=>m) (fun ⟨a,b,d,m⟩=>a.length<=4294967296/\b.length<=4294967296/\bR a0 b0=d++bR a b/\J d m) (fun ⟨a,b,d,m⟩=>a.length+b.length) ⟨⟨a0,b0,[],μ⟩,⟨ha0,hb0,O,h0⟩,Weak.regs ⟨zB,zB,zB,T⟩⟩ ?_
 rintro ⟨a,b,d,m⟩ ⟨hal,hbl,hm,hJ⟩
 refine zH<|Y O<|G O<|qB O U<|zW O (yF O O O)<|G O<|rL0 O (fun g0_3=>zP O O) O<|rL1 10 O (fun g0_3=>qT O U O) O<|rL1 11 O (fun g0_3=>yF O O O) O<|r_or O (fun h=>(lzf h))<|zA<|zE O (fun c1=>?_) (fun c1=>?_)
 ·try simp only [sx] at c1
  refine zI<|zR<|zR<|zH<|yE 20 mixed uC O O<|zN O O (zP O O)<|zN O O (qT O U O)<|zN O O (yR O O O)<|zN O O (zP O O)<|qP [] O O O O gv1 T (fun g3_3=>zP O O) O<|qP [(37,_)] O O O O gv1 ⟨O,O,T⟩ (fun g3_3=>qT O U O) O<|qP [(38,_)] O O O O gv1 ⟨O,O,T⟩ (fun g3_3=>yF O O O) O<|qP [(39,_)] O O O O gv1 ⟨O,O,T⟩ (fun g3_3=>zP O O) O<|qP [] O O O O gv2 T (fun g3_7=>zP O O) O<|qP [(41,_)] O O O O gv2 ⟨O,O,T⟩ (fun g3_7=>qN O U O O (by simp only [Lz,cond_true,cond_false,Bool.and_eq_true,Bool.or_eq_true,Bool.not_eq_true',Bool.not_eq_false',Bool.or_eq_false_iff,Bool.and_eq_false_iff,decide_eq_true_eq,decide_eq_false_iff_not,Bool.not_eq_true,Bool.not_eq_false] at g3_7;omega) (getm (zJn (by simp only [Lz,cond_true,cond_false,Bool.and_eq_true,Bool.or_eq_true,Bool.not_eq_true',Bool.not_eq_false',Bool.or_eq_false_iff,Bool.and_eq_false_iff,decide_eq_true_eq,decide_eq_false_iff_not,Bool.not_eq_true,Bool.not_eq_false] at g3_7;omega)))) O<|qP [(42,_)] O O O O gv2 ⟨O,O,T⟩ (fun g3_7=>qQ O wV O) O<|qP [(43,_)] O O O O gv2 ⟨O,O,T⟩ (fun g3_7=>zK O one9 O qD O) O<|qP [] O O O O gv2 T (fun g3_7=>zP O O) O<|qP [(45,_)] O O O O gv2 ⟨O,O,T⟩ (fun g3_7=>qN O U O O (by simp only [Lz,cond_true,cond_false,Bool.and_eq_true,Bool.or_eq_true,Bool.not_eq_true',Bool.not_eq_false',Bool.or_eq_false_iff,Bool.and_eq_false_iff,decide_eq_true_eq,decide_eq_false_iff_not,Bool.not_eq_true,Bool.not_eq_false] at g3_7;omega) (getm (zJn (by simp only [Lz,cond_true,cond_false,Bool.and_eq_true,Bool.or_eq_true,Bool.not_eq_true',Bool.not_eq_false',Bool.or_eq_false_iff,Bool.and_eq_false_iff,decide_eq_true_eq,decide_eq_false_iff_not,Bool.not_eq_true,Bool.not_eq_false] at g3_7;omega)))) O<|qP [(46,_)] O O O O gv2 ⟨O,O,T⟩ (fun g3_7=>qQ O wV O) O<|qP [(47,_)] O O O O gv2 ⟨O,O,T⟩ (fun g3_7=>zK O one9 O qD O) O<|qP [(44,_),(48,_)] O O O O gv2 ⟨O,O,O,O,T⟩ (fun g3_7=>det_slss O O O) O<|qP [(40,_)] O O O O gv1 ⟨O,O,T⟩ (fun g3_3=>zAc O O O (fun h=>kM uD h) O) O<|zN O O (zAy O O O O (fun h=>(lzf h)))<|zN O O (yL O O)<|kE<|zA<|zE O (fun c2=>?_) (fun c2=>?_)
  ·have hL:=merge_left zC c2
   have hdec:(a.drop 1).length+(b).length<a.length+b.length:=by simp only [List.length_drop];omega
   have hm1:bR a0 b0=(d++[((hdM a).Name,(hdM a).By,0)])++bR (a.drop 1) (b):=by rw [hm,hL.2];simp
   refine zH<|yE 9 mixed uC O O<|zN O O (zP O O)<|zN O O (zP O O)<|zN O O (qN O U O O zC (getm (zJn zC)))<|zN O O (qQ O wV O)<|zN O O (zK O one9 O qD O)<|zN O O (zP O O)<|zN O O (qN O U O O zC (getm (zJn zC)))<|zN O O (qQ O zEi O)<|zN O O (zK O W O qD O)<|kE<|zY O O (zAl O O (hy d ((hdM a).Name,(hdM a).By,0) _ m (by rw [hm1,List.append_assoc];rfl) hJ) ⟨zB,O,zB,O,zB,O,T⟩) ?_
   rintro _ m1 ⟨rfl,hJ1⟩
   refine zA<|zO O<|G O<|zW O (zFz (k:=1) O U O O zC)<|G O<|zA ?_
   exact j6
  ·have hb1:=mC2_b c2
   refine zH<|yE 15 mixed uC O O<|zN O O (zP O O)<|zN O O (qT O U O)<|zN O O (yR O O O)<|zN O O (zP O O)<|qP [] O O O O gv1 T (fun g6_3=>zP O O) O<|qP [(69,_)] O O O O gv1 ⟨O,O,T⟩ (fun g6_3=>qN O U O O (by simp only [Lz,cond_true,cond_false,Bool.and_eq_true,Bool.or_eq_true,Bool.not_eq_true',Bool.not_eq_false',Bool.or_eq_false_iff,Bool.and_eq_false_iff,decide_eq_true_eq,decide_eq_false_iff_not,Bool.not_eq_true,Bool.not_eq_false] at g6_3;omega) (getm (zJn (by simp only [Lz,cond_true,cond_false,Bool.and_eq_true,Bool.or_eq_true,Bool.not_eq_true',Bool.not_eq_false',Bool.or_eq_false_iff,Bool.and_eq_false_iff,decide_eq_true_eq,decide_eq_false_iff_not,Bool.not_eq_true,Bool.not_eq_false] at g6_3;omega)))) O<|qP [(70,_)] O O O O gv1 ⟨O,O,T⟩ (fun g6_3=>qQ O wV O) O<|qP [(71,_)] O O O O gv1 ⟨O,O,T⟩ (fun g6_3=>zK O one9 O qD O) O<|qP [] O O O O gv1 T (fun g6_3=>zP O O) O<|qP [(73,_)] O O O O gv1 ⟨O,O,T⟩ (fun g6_3=>qN O U O O (by simp only [Lz,cond_true,cond_false,Bool.and_eq_true,Bool.or_eq_true,Bool.not_eq_true',Bool.not_eq_false',Bool.or_eq_false_iff,Bool.and_eq_false_iff,decide_eq_true_eq,decide_eq_false_iff_not,Bool.not_eq_true,Bool.not_eq_false] at g6_3;omega) (getm (zJn (by simp only [Lz,cond_true,cond_false,Bool.and_eq_true,Bool.or_eq_true,Bool.not_eq_true',Bool.not_eq_false',Bool.or_eq_false_iff,Bool.and_eq_false_iff,decide_eq_true_eq,decide_eq_false_iff_not,Bool.not_eq_true,Bool.not_eq_false] at g6_3;omega)))) O<|qP [(74,_)] O O O O gv1 ⟨O,O,T⟩ (fun g6_3=>qQ O wV O) O<|qP [(75,_)] O O O O gv1 ⟨O,O,T⟩ (fun g6_3=>zK O one9 O qD O) O<|qP [(72,_),(76,_)] O O O O gv1 ⟨O,O,O,O,T⟩ (fun g6_3=>det_slss O O O) O<|zN O O (zAy O O O O (fun h=>(lzf h)))<|zN O O (yL O O)<|kE<|zA<|zE O (fun c3=>?_) (fun c3=>?_)
   ·have hL:=merge_right zC c2 c3
    have hdec:(a).length+(b.drop 1).length<a.length+b.length:=by simp only [List.length_drop];omega
    have hm1:bR a0 b0=(d++[((hdM b).Name,0,(hdM b).By)])++bR (a) (b.drop 1):=by rw [hm,hL.2];simp
    refine zH<|yE 9 mixed uC O O<|zN O O (zP O O)<|zN O O (zP O O)<|zN O O (qN O U O O zC (getm (zJn zC)))<|zN O O (qQ O wV O)<|zN O O (zK O one9 O qD O)<|zN O O (zP O O)<|zN O O (qN O U O O zC (getm (zJn zC)))<|zN O O (qQ O zEi O)<|zN O O (zK O W O qD O)<|kE<|zY O O (zAl O O (hy d ((hdM b).Name,0,(hdM b).By) _ m (by rw [hm1,List.append_assoc];rfl) hJ) ⟨zB,O,zB,O,zB,O,T⟩) ?_
    rintro _ m1 ⟨rfl,hJ1⟩
    refine zA<|zO O<|G O<|zW O (zFz (k:=1) O U O O zC)<|G O<|zA ?_
    exact j6
   ·have hL:=merge_both c2 c3
    have hdec:(a.drop 1).length+(b.drop 1).length<a.length+b.length:=by simp only [List.length_drop];omega
    have hm1:bR a0 b0=(d++[((hdM a).Name,(hdM a).By,(hdM b).By)])++bR (a.drop 1) (b.drop 1):=by rw [hm,hL.2.2];simp
    refine zH<|yE 13 mixed uC O O<|zN O O (zP O O)<|zN O O (zP O O)<|zN O O (qN O U O O zC (getm (zJn zC)))<|zN O O (qQ O wV O)<|zN O O (zK O one9 O qD O)<|zN O O (zP O O)<|zN O O (qN O U O O zC (getm (zJn zC)))<|zN O O (qQ O zEi O)<|zN O O (zK O W O qD O)<|zN O O (zP O O)<|zN O O (qN O U O O zC (getm (zJn zC)))<|zN O O (qQ O zEi O)<|zN O O (zK O W O qD O)<|kE<|zY O O (zAl O O (hy d ((hdM a).Name,(hdM a).By,(hdM b).By) _ m (by rw [hm1,List.append_assoc];rfl) hJ) ⟨zB,O,zB,O,zB,O,T⟩) ?_
    rintro _ m1 ⟨rfl,hJ1⟩
    refine zA<|yE 6 mixed uC O O<|zN O O (zP O O)<|zN O O (zFz (k:=1) O U O O zC)<|zN O O (zP O O)<|zN O O (zFz (k:=1) O U O O zC)<|zN O O (yL O O)<|zN O O (yL O O)<|kE<|zA ?_
    exact j6
 ·try simp only [sx] at c1
  refine qM ?_
  repeat (first|refine yV ?_|refine yP ?_)
  refine kR<|fin0 ?_
  exact ⟨O,by rw [hm,show a=[] from List.eq_nil_of_length_eq_zero zC,show b=[] from List.eq_nil_of_length_eq_zero zC,mergeL_nil,List.append_nil];exact hJ⟩
theorem lin_Add_1 (bo bl:Nat) (ok:Bool) (K:Int) (sv:Value) (d:List Tr) (t:Tr) (h1:r64 t.2.1) (h2:r64 t.2.2) (hd:d.length<=8589934592):
    Con cfg 187 [vS t.1,vI t.2.1,vI t.2.2,.c (.lit (.pointer (some ⟨bo,0,none⟩))),.c (.lit (.pointer (some ⟨bl,0,none⟩)))] [E.row bo 4 [cB (okF ok (d))],E.vec sv 139 2 ((nB (d)).map Mono.cells),E.row bl 59 [cI K,.lit sv]] fun r μ'=>r=.tup []/\∃sv',μ'=[E.row bo 4 [cB (okF ok (d++[t]))],E.vec sv' 139 2 ((nB (d++[t])).map Mono.cells),E.row bl 59 [cI K,.lit sv']]:=by
 refine zV Tryz.func187 O Tryz.ntmps187 Tryz.results187 O ?_
 intro z hz
 refine Y O<|G O<|G O<|qJ O ok185 (lin_plus t.2.1 t.2.2 h1 h2) ⟨zB,O,zB,O,T⟩<|qU O<|yK O<|yK O<|G O<|G O<|zA<|Y O<|zG one4 (J 0 O) O<|G O<|rL0 O (fun g1_1=>zP O O) O<|kB O (fun h=>h)<|D 0 sz4 O<|zA<|Y O<|G O<|yN O<|zA<|zE O (fun c1=>?_) (fun c1=>?_)
 ·try simp only [sx] at c1
  refine zO O<|zD O wC<|zG zBe (J 2 O) O<|G O<|G O<|yI O zGb pl139<|kA O U zGb<|zY O O (yH 1 O U O O O (by have:=zQu d;simp only [List.length_map,List.length_append,List.length_cons,List.length_nil];omega) (by have:=zQu d;simp only [List.length_map,List.length_append,List.length_cons,List.length_nil];omega)) ?_
  rintro _ _ ⟨sv1,rfl,rfl⟩
  refine zD O wC<|D 2 sz57 O<|zA ?_
  repeat (first|refine yV ?_|refine yP ?_)
  refine kR<|fin0 ?_
  exact ⟨O,_,by rw [okF_next,sumW_next,if_neg (show ¬w64 (trV t)=0 from c1),List.map_append];rfl⟩
 ·try simp only [sx] at c1
  refine zI ?_
  repeat (first|refine yV ?_|refine yP ?_)
  refine kR<|fin0 ?_
  exact ⟨O,_,by rw [okF_next,sumW_next,if_pos (show w64 (trV t)=0 from c1),List.append_nil];rfl⟩
theorem lin_Add (a b:Lf) (ha:a.L.length<=4294967296) (hb:b.L.length<=4294967296) (hra:a.rng) (hrb:b.rng):
    Pur cfg 132 [dP a,dP b] (.tup [dP (lE a b).1,vI (lE a b).2]):=by
 refine zV Tryz.func132 O Tryz.ntmps132 Tryz.results132 O ?_
 intro z hz
 refine Y O<|zY O O (qL O O) ?_
 rintro _ _ ⟨b1,rfl,rfl⟩
 refine zY O O (qL O O) ?_
 rintro _ _ ⟨b2,rfl,rfl⟩
 refine zY O O (qG [none,some 2] O zr59 O) ?_
 rintro _ _ ⟨b3,rfl,rfl⟩
 refine G O<|zA<|zH<|Y O<|zM kD (J 2 O) O<|qJ O ok122 (zAn a zC) ⟨zB,O,T⟩<|yN O<|G O<|rL0 O (fun g1_3=>qA O kD O (J 1 O) O) O<|rL1 12 O (fun g1_3=>qS O ok122 (zAn b zC) ⟨zB,O,T⟩) O<|rL1 13 O (fun g1_3=>wM O O O) O<|r_or O (fun h=>(lzf h))<|zA<|zE O (fun c1=>?_) (fun c1=>?_)
 ·try simp only [sx] at c1
  refine Y O<|yZ [none,some 2] O zr59 pl59<|D 0 sz59 O<|G O<|zA<|zJ<|fin2 (zZ kD O (J 0 O) O) (rs_c O) ?_
  rw [add_c1 c1];rfl
 ·try simp only [sx] at c1
  have hla:=zGt c1.1
  have hlb:=zGt c1.2
  refine zI<|Y O<|zY O O (yC O zr59) ?_
  rintro _ _ ⟨b4,rfl,rfl⟩
  refine yT _ (kO 139 2)<|zA<|Y O<|zY O O (yC O zr4) ?_
  rintro _ _ ⟨b6,rfl,rfl⟩
  refine zA<|Y O<|zD O zEd<|zG W (J 5 O) O<|zD O zEd<|zG W (J 4 O) O<|qJ O ok185 (lin_plus a.K b.K hra.1 hrb.1) ⟨zB,O,zB,O,T⟩<|qU O<|yK O<|yK O<|zD O zEd<|D 2 sz2 O<|D 0 sz4 O<|zA<|Y O<|zD O wC<|zG zBe (J 5 O) O<|zD O wC<|zG zBe (J 4 O) O<|zW O (zDw O O O O O)<|zY O O (zDs O ok186 (Con.frame (merge_con a.L b.L ha hb _ (fun d m=>∃sv,m=[E.row b6 4 [cB (okF (decide (r64 (a.K+b.K))) (d))],E.vec sv 139 2 ((nB (d)).map Mono.cells),E.row b4 59 [cI (w64 (a.K+b.K)),.lit sv]]) _ (fun d t s m he hj=>by obtain ⟨sv,rfl⟩:=hj;obtain ⟨k1,k2,k3⟩:=merge_rng hra.2 hrb.2 he;exact FnCon.of_con (first:=[]) (cap:=[.lit (.pointer (some ⟨b6,0,none⟩)),.lit (.pointer (some ⟨b4,0,none⟩))]) ok187 (lin_Add_1 b6 b4 (decide (r64 (a.K+b.K))) (w64 (a.K+b.K)) sv d t k1 k2 zC)) ⟨_,O⟩) _) ⟨zB,O,zB,O,zB,O,T⟩) ?_
  rintro _ _ ⟨_,⟨rfl,sv7,rfl⟩,rfl⟩
  refine zA<|zH<|Y O<|zG one4 (J 0 O) O<|kZ O<|zA<|zE O (fun c2=>?_) (fun c2=>?_)
  ·try simp only [sx] at c2
   refine Y O<|yZ [none,some 2] O zr59 pl59<|D 3 sz59 O<|G O<|zA<|zJ<|fin2 (zZ kD O (J 3 O) O) (rs_c O) ?_
   rw [add_no hla hlb c2];rfl
  ·try simp only [sx] at c2
   refine zI<|Y O<|zM kD (J 2 O) O<|D 3 sz59 O<|G O<|zA<|zU _ (yO 1 O (regs':=[(35,.agg [_,_])]) (μ':=[_,_,_,_,_]) ⟨FLe.agg ⟨.inl O,.inr ⟨O,O⟩,T⟩,T⟩ ⟨EFle.refl _,EFle.row (ds:=[_,_]) ⟨.inl O,.inr ⟨O,O⟩,T⟩,EFle.row (ds:=[_,_]) ⟨.inl O,.inr ⟨O,O⟩,T⟩,EFle.refl _,EFle.refl _,T⟩)<|zJ<|fin2 (zZ kD O (J 2 O) O) (rs_c O) ?_
   rw [add_ok hla hlb c2];rfl
theorem lin_Substitute (l:Lf) (s:ByteArray) (u:Lf) (hl:l.L.length<=4294967296) (ht:u.L.length<=4294967296) (hrl:l.rng) (hrt:u.rng):
    Pur cfg 71 [dP l,vS s,dP u] (.tup [dP (fC l s u).1,vI (fC l s u).2]):=by
 refine zV Tryz.func71 O Tryz.ntmps71 Tryz.results71 O ?_
 intro z hz
 obtain ⟨hs1,hs2⟩:=scale_rng u (dA l.L s)
 obtain ⟨hr1,hr2⟩:=rest_rng hrl s
 refine Y O<|zY O O (qL O O) ?_
 rintro _ _ ⟨b1,rfl,rfl⟩
 refine zY O O (qL O O) ?_
 rintro _ _ ⟨b2,rfl,rfl⟩
 refine zY O O (qG [none,some 2] O zr59 O) ?_
 rintro _ _ ⟨b3,rfl,rfl⟩
 refine G O<|zA<|zH<|Y O<|zM kD (J 2 O) O<|qJ O ok122 (zAn l zC) ⟨zB,O,T⟩<|yN O<|G O<|rL0 O (fun g1_3=>zP O O) O<|rL1 18 O (fun g1_3=>qS O ok73 (zGf s) ⟨zB,O,T⟩) O<|rL1 19 O (fun g1_3=>wJ O O) O<|r_or O (fun h=>(lzf h))<|G O<|rL0 O (fun g1_8=>qA O kD O (J 1 O) O) O<|rL1 23 O (fun g1_8=>qS O ok122 (zAn u zC) ⟨zB,O,T⟩) O<|rL1 24 O (fun g1_8=>wM O O O) O<|r_or O (fun h=>(lzf h))<|zA<|zE O (fun c1=>?_) (fun c1=>?_)
 ·try simp only [sx] at c1
  refine Y O<|yZ [none,some 2] O zr59 pl59<|D 0 sz59 O<|G O<|zA<|zJ<|fin2 (zZ kD O (J 0 O) O) (rs_c O) ?_
  rw [subst_c1 c1];rfl
 ·try simp only [sx] at c1
  refine zI<|Y O<|zD O zEd<|zG W (J 2 O) O<|yI O zr59 pl59<|zY O O (yC O zr59) ?_
  rintro _ _ ⟨b4,rfl,rfl⟩
  refine yT _ (kO 139 2)<|D 1 sz59 O<|zA<|Y O<|G O<|zA<|zH<|Y O<|zD O wC<|zG zBe (J 4 O) O<|qB O U<|G O<|zA<|zR<|zU ⟨[(34,.c _),(9,.c _),(1,.c _),(5,.c _),(6,.c _),(8,.c _),(32,.c _),(33,.c _)],[_,_,_,_]⟩ (Weak.mk [true,true,true,true,false] ⟨zB,zB,zB,zB,zB,zB,zB,zB,T⟩ O)<|qF 2 2 O O (Nat×Value) (fun ⟨k,sv⟩=>[(34,vI k),(9,vI (dA (l.L.take k) s))]) (fun ⟨k,sv⟩=>[E.vec sv 139 2 (((l.L.take k).filter (fun m=> !decide (m.Name=s))).map Mono.cells),E.row b4 59 [cI l.K,.lit sv]]) (fun ⟨k,sv⟩=>k<=l.L.length) (fun ⟨k,sv⟩=>l.L.length-k) ⟨⟨0,_⟩,zC,Weak.mk [true,true,true,true] ⟨zB,VLe.of_eq (O),zB,zB,zB,zB,zB,zB,T⟩ O⟩ ?_
  rintro ⟨k,sv⟩ hk
  show AWP _ _ _ _ _ ⟨[(34,vI k),(9,vI (dA (l.L.take k) s))]++_,[E.vec sv 139 2 (((l.L.take k).filter (fun m=> !decide (m.Name=s))).map Mono.cells),E.row b4 59 [cI l.K,.lit sv]]++_⟩
  refine Y O<|yA O<|zA<|zH<|zE O (fun c2=>?_) (fun c2=>?_)
  ·try simp only [sx] at c2
   obtain ⟨x,hx⟩:=qV l.L k zC
   refine zI<|zH<|zR<|Y O<|qE O U zC (getm uD)<|zM zEf qD O<|zY O O (yC O zGb) ?_
   rintro _ _ ⟨b6,rfl,rfl⟩
   refine D 0 sz139 O<|zA<|zH<|Y O<|zD O wV<|zG one9 (J 0 O) O<|G O<|wD O<|zA<|zE O (fun c3=>?_) (fun c3=>?_)
   ·try simp only [sx] at c3
    refine Y O<|zD O zEi<|zG W (J 0 O) O<|G O<|zA<|qM<|zO O<|qH O ⟨zC,zC⟩<|G O<|zA ?_
    exact j8
   ·try simp only [sx] at c3
    refine zI<|zO O<|zD O wC<|zG zBe (J 2 O) O<|zM zEf (J 0 O) O<|kA O U zGb<|zY O O (yH 1 O U O O O (by have:=List.length_filter_le (fun m:Mono=> !decide (m.Name=s)) (l.L.take k);simp only [List.length_map,List.length_append,List.length_cons,List.length_nil,List.length_take] at *;omega) (by have:=List.length_filter_le (fun m:Mono=> !decide (m.Name=s)) (l.L.take k);simp only [List.length_map,List.length_append,List.length_cons,List.length_nil,List.length_take] at *;omega)) ?_
    rintro _ _ ⟨sv7,rfl,rfl⟩
    refine zD O wC<|D 2 sz57 O<|zA<|zO O<|qH O ⟨zC,zC⟩<|G O<|zA ?_
    exact j8
  ·try simp only [sx] at c2
   rw [yD (l:=l.L) (k:=k) zC]
   refine qM<|Y O<|zM kD (J 3 O) O<|G O<|qJ O ok131 (lin_Scale u (dA l.L s) ht hrt (last_rng hrl s)) ⟨zB,O,zB,O,T⟩<|qU O<|zW O (qY O O O)<|yK O<|zY O O (qG [none,some 2] O zr59 O) ?_
   rintro _ _ ⟨b8,rfl,rfl⟩
   refine D 0 sz59 O<|G O<|zA<|zH<|Y O<|G O<|yN O<|zA<|zE O (fun c4=>?_) (fun c4=>?_)
   ·try simp only [sx] at c4
    refine Y O<|yZ [none,some 2] O zr59 pl59<|G O<|D 3 sz59 O<|G O<|zA<|zJ<|fin2 (zZ kD O (J 3 O) O) (rs_c O) ?_
    rw [subst_c4 c1 c4];rfl
   ·try simp only [sx] at c4
    refine zU _ (yO 1 O (regs':=[]) (μ':=[_,_,_,_]) T ⟨EFle.refl _,EFle.row (ds:=[_,_]) ⟨.inl O,.inr ⟨O,O⟩,T⟩,EFle.refl _,EFle.refl _,T⟩)<|zI<|Y O<|zM kD (J 1 O) O<|zM kD (J 0 O) O<|qJ O ok132 (lin_Add (nJ l s) (dX u (dA l.L s)).1 zC zC hr1 hs1) ⟨zB,O,zB,O,T⟩<|zW O (qY O O O)<|yK O<|D 2 sz59 O<|G O<|zA<|zJ<|fin2 (zZ kD O (J 2 O) O) (rs_c O) ?_
    rw [subst_ok c1 c4];rfl
end Go.W
end
section
set_option maxRecDepth 10000
namespace Go.W
open Go Go.Eng Go.Proofs Go.L41 Go.Br
attribute [local irreducible] AWP RWP TD fQ
theorem ok70:bA Tryz.prog 70=true:=by kernel_rfl
theorem ok71:bA Tryz.prog 71=true:=by kernel_rfl
theorem zOz (l:Lf) (s:ByteArray) (u:Lf) (hl:l.L.length<=4294967296) (ht:u.L.length<=4294967296) (hrl:l.rng) (hrt:u.rng):
    Pur cfg 70 [dP l,.c (.iptr [cS s]),.c (.iptr u.cells)] (.tup [dP (fC l s u).1,vI (fC l s u).2]):=by
 refine zV Tryz.func70 O Tryz.ntmps70 Tryz.results70 O ?_
 intro z hz
 refine Y O<|zY O O (qL O O) ?_
 rintro _ _ ⟨b1,rfl,rfl⟩
 refine zY O O (qG [none,some 2] O zr59 O) ?_
 rintro _ _ ⟨b2,rfl,rfl⟩
 refine G O<|zA<|Y O<|zM kD (J 1 O) O<|zG one9 qD O<|zM kD qD O<|qJ O ok71 (lin_Substitute l s u hl ht hrl hrt) ⟨zB,O,zB,O,zB,O,T⟩<|zW O (qY O O O)<|yK O<|D 0 sz59 O<|G O<|zA<|zJ<|fin2 (zZ kD O (J 0 O) O) (rs_c O) ?_
 exact O
theorem zJr (e:Ex) (s:ByteArray) (u:Lf) (he:e.wt<=4294967296) (hP:e.allF Lf.rng) (ht:u.L.length<=4294967296) (hrt:u.rng):
    Pur cfg 27 [vE e,vS s,dP u] (.tup [vE (nW (mEx (fun l=>fC l s u) e)),vI (jR (mEx (fun l=>fC l s u) e))]):=by
 refine zV Tryz.func27 O Tryz.ntmps27 Tryz.results27 O ?_
 intro z hz
 refine Y O<|zY O O (qL O O) ?_
 rintro _ _ ⟨b1,rfl,rfl⟩
 refine zY O O (qL O O) ?_
 rintro _ _ ⟨b2,rfl,rfl⟩
 refine zY O O (qL O O) ?_
 rintro _ _ ⟨b3,rfl,rfl⟩
 refine zY O O (qG [none,none,none,none,none,none,none,none,none,none,some 2,some 4,some 13] O zr62 O) ?_
 rintro _ _ ⟨b4,rfl,rfl⟩
 refine G O<|zA<|Y O<|zM yU (J 3 O) O<|zW O (zDw O O O O O)<|yT _ (kG 2 O 9 (.c (.fn _ _ [_,_])) (PLe.fn ⟨.inr ⟨O,O⟩,.inl O,T⟩))<|yT _ (kG 1 O 9 (.c (.fn _ _ [_,_])) (PLe.fn ⟨.inl O,.inr ⟨O,O⟩,T⟩))<|qJ O ok69 (mapForms_con (fun l=>fC l s u) _ Lf.rng (fun l hr hl=>FnPur.of_pur (first:=[]) (cap:=[.iptr [cS s],.iptr u.cells]) ok70 (zOz l s u hl ht hr hrt)) e hP he) ⟨zB,O,zB,O,T⟩<|zW O (qY O O O)<|yK O<|D 0 sz62 O<|G O<|zA<|zJ<|fin2 (zZ yU O (J 0 O) O) (rs_c O) ?_
 exact O
end Go.W
end
section
set_option maxRecDepth 10000
namespace Go.W
open Go Go.Eng Go.Proofs Go.L41 Go.Br
attribute [local irreducible] AWP RWP TD fQ
theorem pl93:dL Tryz.prog 93=some [(0,2),(2,1),(3,1)]:=by kernel_rfl
end Go.W
end
section
set_option maxRecDepth 10000
namespace Go.W
open Go Go.Eng Go.Proofs Go.L41 Go.Br
attribute [local irreducible] AWP RWP TD fQ
end Go.W
end
section
set_option maxRecDepth 10000
namespace Go.W
open Go Go.Eng Go.Proofs Go.L41 Go.Br
attribute [local irreducible] AWP RWP TD fQ
theorem ok212:bA Tryz.prog 212=true:=by kernel_rfl
theorem ref14_All_step (e:Ex) (ih:∀a,a∈e.Args->a.wt<=2000000->OwnR cfg 212 [vE a] 62 13 ((bY a).map Ex.cells)) (he:e.wt<=2000000):
    OwnR cfg 212 [vE e] 62 13 ((bY e).map Ex.cells):=by
 refine zV Tryz.func212 O Tryz.ntmps212 Tryz.results212 O ?_
 intro z hz
 obtain ⟨hL,hI,hA⟩:=e.parts he
 have hn:=nodes_wt e
 refine Y O<|zY O O (qL O O) ?_
 rintro _ _ ⟨b1,rfl,rfl⟩
 refine qX 13 O<|zA<|Y O<|zM yU (J 0 O) O<|zY O O (zBx O el60 zr62 O O O O) ?_
 rintro _ _ ⟨sv2,rfl,rfl⟩
 refine G O<|zA<|zH<|Y O<|G O<|zA<|zR<|zU ⟨[(4,.c _),(3,.c _),(1,.c _)],[_,_]⟩ (Weak.mk [true,true] ⟨zB,zB,zB,T⟩ O)<|qF 2 1 O O (Nat×Value) (fun ⟨k,sv⟩=>[(4,vI k),(3,.c (.lit sv))]) (fun ⟨k,sv⟩=>[E.vec sv 62 13 ((e::bM (e.Args.take k)).map Ex.cells)]) (fun ⟨k,sv⟩=>k<=e.Args.length) (fun ⟨k,sv⟩=>e.Args.length-k) ⟨⟨0,_⟩,zC,Weak.mk [true,true] ⟨zB,zB,zB,T⟩ (by exact zHk (by simp [bM,Ex.cells_eq];rfl))⟩ ?_
 rintro ⟨k,sv⟩ hk
 show AWP _ _ _ _ _ ⟨[(4,vI k),(3,.c (.lit sv))]++_,[E.vec sv 62 13 ((e::bM (e.Args.take k)).map Ex.cells)]++_⟩
 refine zH<|Y O<|G O<|zD O wP<|zG zBy (J 1 O) O<|qB O el60<|yA O<|zA<|zE O (fun c1=>?_) (fun c1=>?_)
 ·try simp only [sx] at c1
  obtain ⟨x,hx⟩:=qV e.Args k zC
  have hn1:=nodes_take hx
  refine zI<|zH<|zR<|zO O<|G O<|zD O wP<|zG zBy (J 1 O) O<|G O<|qE O el60 zC (zGh uD)<|zM yU qD O<|qJ O ok212 (OwnR.pur (ih x (qC hx) (by have:=Ex.arg_wt (qC hx);omega))) ⟨zB,O,T⟩<|zY O O (yH 0 O el60 O O O uB uB) ?_
  rintro _ _ ⟨sv3,rfl,rfl⟩
  refine G O<|zA<|zO O<|G O<|qH O ⟨zC,zC⟩<|G O<|zA ?_
  refine ⟨⟨k+1,sv3⟩,zC,(by show e.Args.length-(k+1)<e.Args.length-k;omega),Weak.mk [true,true] ⟨zB,zB,zB,T⟩ (by exact zHk (by rw [zSv hx,←List.cons_append,List.map_append]))⟩
 ·try simp only [sx] at c1
  refine qM<|Y O<|G O<|G O<|zA<|zU _ (Weak.mem [true,false] O)<|zJ<|zT O ?_
  exact ⟨_,O,by rw [yD zC,←wZ];rfl⟩
theorem ref14_All (e:Ex) (he:e.wt<=2000000):OwnR cfg 212 [vE e] 62 13 ((bY e).map Ex.cells):=by
  induction e using Ex.ind with
  |_ e ih=>exact ref14_All_step e ih he
end Go.W
end
