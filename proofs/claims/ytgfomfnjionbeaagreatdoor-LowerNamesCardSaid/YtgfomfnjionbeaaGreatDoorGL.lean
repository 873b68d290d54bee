/-
  Walks: what functions of the program compute. Printed by wip/gen/mk2.py.
  Walks: what functions of the program compute. Printed by wip/gen/mk2.py.
  Walks: what functions of the program compute. Printed by wip/gen/mk2.py.
  Conditions: none.
-/
import Derived.Test.YtgfomfnjionbeaaGreatDoorNI
import Derived.Test.YtgfomfnjionbeaaGreatDoorPlainL
import Derived.Test.YtgfomfnjionbeaaGreatDoorEngZ
import Derived.Test.YtgfomfnjionbeaaGreatDoorPlain2
set_option linter.unusedSimpArgs false
set_option linter.unusedVariables false
section
set_option maxRecDepth 10000
namespace Go.W
open Go Go.Eng Go.Proofs Go.L41 Go.Br
attribute [local irreducible] AWP RWP TD finQ
abbrev vPt (b:Nat):V:=.c (.lit (.pointer (some ⟨b,0,none⟩)))
abbrev vBd (x:Bd):V:=.agg x.cells
theorem agg50:aggT Tryz.prog 50=some 2:=by kernel_rfl
theorem fd50_1:fieldT Tryz.prog 50 1=some (1,2):=by kernel_rfl
theorem fd123_1:fieldT Tryz.prog 123 1=some (2,4):=by kernel_rfl
theorem yG:fieldT Tryz.prog 184 0=some (0,154):=by kernel_rfl
theorem kH:fieldT Tryz.prog 184 1=some (1,154):=by kernel_rfl
theorem zCp:fieldT Tryz.prog 184 2=some (2,154):=by kernel_rfl
theorem ok22:callOk Tryz.prog 22=true:=by kernel_rfl
theorem ok23:callOk Tryz.prog 23=true:=by kernel_rfl
theorem ok63:callOk Tryz.prog 63=true:=by kernel_rfl
theorem ok64:callOk Tryz.prog 64=true:=by kernel_rfl
theorem ok65:callOk Tryz.prog 65=true:=by kernel_rfl
theorem ok66:callOk Tryz.prog 66=true:=by kernel_rfl
theorem ok67:callOk Tryz.prog 67=true:=by kernel_rfl
theorem ok68:callOk Tryz.prog 68=true:=by kernel_rfl
theorem ok120:callOk Tryz.prog 120=true:=by kernel_rfl
theorem ok121:callOk Tryz.prog 121=true:=by kernel_rfl
theorem ok123:callOk Tryz.prog 123=true:=by kernel_rfl
theorem ok125:callOk Tryz.prog 125=true:=by kernel_rfl
theorem ok127:callOk Tryz.prog 127=true:=by kernel_rfl
theorem ok191:callOk Tryz.prog 191=true:=by kernel_rfl
theorem ok192:callOk Tryz.prog 192=true:=by kernel_rfl
theorem yS:oneT Tryz.prog 154=true:=by kernel_rfl
theorem wF:(Tryz.prog.info? 154).map (·.size)=some 1:=by kernel_rfl
theorem zr184:zeroT Tryz.prog 184=some [(Value.int IntKind.u64 0),(Value.int IntKind.u64 0),(Value.int IntKind.u64 0)]:=by kernel_rfl
theorem wide_add (b:Nat) (w:W3) (hi lo:Nat) (neg:Bool) (hw:w.ok) (h1:hi<18446744073709551616) (h2:lo<18446744073709551616):
    Con cfg 123 [vPt b,vUn hi,vUn lo,vB neg] [E.row b 184 (w3C w)] fun r μ'=>r=.tup []/\μ'=[E.row b 184 (w3C (w3a w (w3x hi lo neg)))]:=by
 refine zW Tryz.func123 O Tryz.ntmps123 Tryz.results123 O ?_
 intro z hz
 obtain ⟨hwh,hwm,hwl⟩:=hw
 refine Y O<|G O<|zA<|zH<|Y O<|G O<|zA<|zE O (fun c1=>?_) (fun c1=>?_)
 ·try simp only [sx] at c1
  have hx:=w3x_t hi lo c1
  refine Y O<|G O<|zR O (det_unot O O (a:=0) (by decide))<|G O<|zR O (det_unot O O h1)<|G O<|zR O (det_unot O O h2)<|G O<|G O<|G O<|zA<|Y O<|G O<|zR O (qE O O O )<|G O<|zA<|Y O<|G O<|yX O<|zA<|zE O (fun c2=>?_) (fun c2=>?_)
  ·try simp only [sx] at c2
   refine Y O<|G O<|zR O (qE O O O )<|G O<|zA<|Y O<|G O<|yX O<|zA<|zE O (fun c3=>?_) (fun c3=>?_)
   ·try simp only [sx] at c3
    have hx:=hx.trans (w3n_2 c2 c3)
    refine zP O<|G O<|zR O (qE O O O )<|G O<|zA<|Y O<|G O<|zN O<|zD O zCp<|zI yS (J 0 O) O<|G O<|zR O (qE O O O )<|zN O<|zD O zCp<|D 0 wF O<|zA<|Y O<|G O<|zA<|zH<|Y O<|G O<|zN O<|zD O zCp<|zI yS (J 0 O) O<|G O<|yB O<|zA<|zE O (fun c4=>?_) (fun c4=>?_)
    ·exact v24
    ·exact v28
   ·try simp only [sx] at c3
    have hx:=hx.trans (w3n_1 c2 c3)
    exact q7
  ·try simp only [sx] at c2
   have hx:=hx.trans (w3n_0 c2)
   exact q7
 ·try simp only [sx] at c1
  have hx:=w3x_f hi lo c1
  exact q7
theorem wide_narrow (b:Nat) (w:W3) (hw:w.ok):
    Con cfg 127 [vPt b] [E.row b 184 (w3C w)] fun r μ'=>r=.tup [vI (w64 (w.l:Int)),vB (decide ((w.m:Int)=(w3s w.l:Nat))&&decide ((w.h:Int)=(w3s w.l:Nat)))]/\μ'=[E.row b 184 (w3C w)]:=by
 refine zW Tryz.func127 O Tryz.ntmps127 Tryz.results127 O ?_
 intro z hz
 refine Y O<|G O<|G O<|zA<|Y O<|G O<|zN O<|zD O zCp<|zI yS (J 0 O) O<|zR O (zAv O us154 ik2 O)<|G O<|zA<|Y O<|G O<|zR O (det_shrE O O O (by decide) (w3_shr hw.2.2))<|zR O (det_convE O us2 ik154 O (w3_sgn hw.2.2))<|G O<|zA<|zH<|yL 17 mixed (by kernel_rfl) O O<|zQ O O (zS O O)<|zQ O O (zS O O)<|zQ O O (qG O O)<|zQ O O (zJ O kH O)<|zQ O O (zK O yS O (J 0 O) O)<|zQ O O (zS O O)<|zQ O O (kC O O O)<|zQ O O (zS O O)<|qQ [] O O O O gv1 T (fun g3_7=>zS O O) O<|qQ [(22,_)] O O O O gv1 ⟨O,O,T⟩ (fun g3_7=>qG O O) O<|qQ [(23,_)] O O O O gv1 ⟨O,O,T⟩ (fun g3_7=>zJ O yG O) O<|qQ [(24,_)] O O O O gv1 ⟨O,O,T⟩ (fun g3_7=>zK O yS O (J 0 O) O) O<|qQ [] O O O O gv1 T (fun g3_7=>zS O O) O<|qQ [(25,_),(26,_)] O O O O gv1 ⟨O,O,O,O,T⟩ (fun g3_7=>kC O O O) O<|zQ O O (zCj O O O (fun h=>h) O)<|zQ O O (yV O O)<|zQ O O (yV O O)<|kL<|zA<|zG<|fin2 (N O) (N O) ?_
 exact ⟨O,O⟩
theorem linEval_1 (x:Bd) (m:Mono):
    Pur cfg 125 [vBd x,.c (.iptr m.cells)] (vB (decide (x.Name=m.Name))):=by
 refine zW Tryz.func125 O Tryz.ntmps125 Tryz.results125 O ?_
 intro z hz
 refine Y O<|zZ O O (qO O O) ?_
 rintro _ _ ⟨b1,rfl,rfl⟩
 refine G O<|zA<|Y O<|zD O zPy<|zI one9 (J 0 O) O<|zR O (qI O wS O)<|zI one9 qH O<|kY O<|G O<|zA<|zG<|zV O ?_
 exact O
theorem zDs (l:List Bd) (c:C) (p:Bd->Bool) (hl:l.length<=4294967296) (hc:∀x,x∈l->FnPur cfg c [vBd x] (vB (p x))):
    Pur cfg 63 [vBds l,.c c] (vI (idxOf p l)):=by
 refine zW Tryz.func63 O Tryz.ntmps63 Tryz.results63 O ?_
 intro z hz
 refine Y O<|G O<|zA<|zH<|Y O<|G O<|qB O el31<|G O<|zA<|zT<|zU ⟨[(8,.c _),(0,.c _),(1,.c _),(7,.c _)],[]⟩ (Weak.mk [] ⟨zB,zB,zB,zB,T⟩ O)<|qJ 1 0 O O (Nat) (fun k=>[(8,vI k)]) (fun k=>[]) (fun k=>k<=l.length/\((l.take k).any p=false)) (fun k=>l.length-k) ⟨0,⟨by omega,O⟩,Weak.mk [] ⟨zB,zB,zB,zB,T⟩ O⟩ ?_
 rintro k ⟨hk,hp⟩
 refine Y O<|yB O<|zA<|zH<|zE O (fun c1=>?_) (fun c1=>?_)
 ·try simp only [sx] at c1
  obtain ⟨x,hx⟩:=yD l k (by omega)
  refine zF<|zH<|zT<|Y O<|G O<|G O<|zA<|Y O<|G O<|G O<|G O<|qD O el31 (by omega) (getm (by assumption))<|zM agg50 qH O<|zR O (kP O O (hc _ (qC hx)) ⟨zB,O,T⟩)<|zA<|zE O (fun c2=>?_) (fun c2=>?_)
  ·exact v23
  ·exact n4
 ·exact j4
theorem lin_Eval (l:Lf) (env:List Bd) (hel:env.length<=1000000) (her:∀x,x∈env->r64 x.Val) (hl:l.L.length<=5864062014805) (hr:l.rng):
    Pur cfg 68 [vLin l,vBds env] (.tup [vI (evalT l env).1,vI (evalT l env).2]):=by
 refine zW Tryz.func68 O Tryz.ntmps68 Tryz.results68 O ?_
 intro z hz
 refine Y O<|zZ O O (qO O O) ?_
 rintro _ _ ⟨b1,rfl,rfl⟩
 refine G O<|G O<|zA<|zH<|Y O<|zM kE (J 0 O) O<|qK O ok122 (wW l (by omega)) ⟨zB,O,T⟩<|yM O<|zA<|zE O (fun c1=>?_) (fun c1=>?_)
 ·try simp only [sx] at c1
  have hE:evalT l env=(0,1):=ev_bad c1
  refine Y O<|G O<|G O<|zA<|zG<|fin2 (N O) (N O) ?_
  rw [hE]
 ·try simp only [sx] at c1
  refine zF<|Y O<|zZ O O (qX O zr184) ?_
  rintro _ _ ⟨b2,rfl,rfl⟩
  refine zA<|zH<|yL 6 mixed (by kernel_rfl) O O<|zQ O O (zJ O zFk O)<|zQ O O (zK O one2 O (J 1 O) O)<|zQ O O (qR O ok124 (zCd l.K hr.1) ⟨zB,O,T⟩)<|zQ O O (zJ O zFk O)<|zQ O O (zK O one2 O (J 1 O) O)<|zQ O O (zGd O O O)<|kL<|zR O (yQ [0] O ok123 (wide_add b2 ⟨0,0,0⟩ 0 l.K.natAbs (decide (l.K<0)) ⟨by decide,by decide,by decide⟩ (by decide) (by have:=zEv hr.1;omega)) ⟨zB,O,zB,O,zB,O,zB,O,T⟩ O)<|zA<|zH<|Y O<|zD O zAe<|zI zEg (J 1 O) O<|qB O U<|G O<|zA<|zT<|zU ⟨[(28,.c _),(1,.c _),(6,.c _),(26,.c _),(27,.c _)],[_]⟩ (Weak.mk [true,false] ⟨zB,zB,zB,zB,zB,T⟩ O)<|qJ 1 1 O O (Nat×W3×Int) (fun ⟨k,w,z⟩=>[(28,vI k)]) (fun ⟨k,w,z⟩=>[E.row b2 184 (w3C w)]) (fun ⟨k,w,z⟩=>k<=l.L.length/\(EvJ l env k w z)) (fun ⟨k,w,z⟩=>l.L.length-k) ⟨⟨0,w3a ⟨0,0,0⟩ (w3x 0 l.K.natAbs (decide (l.K<0))),0⟩,⟨by omega,ev_first hr.1⟩,Weak.mk [true] ⟨zB,zB,zB,zB,zB,T⟩ O⟩ ?_
  rintro ⟨k,w,z⟩ ⟨hk,hj⟩
  show AWP _ _ _ _ _ ⟨[(28,vI k)]++_,[E.row b2 184 (w3C w)]++_⟩
  refine Y O<|yB O<|zA<|zH<|zE O (fun c2=>?_) (fun c2=>?_)
  ·try simp only [sx] at c2
   obtain ⟨m,hm⟩:=yD l.L k (by omega)
   refine zF<|zH<|zT<|Y O<|qD O U (by omega) (getm hm)<|zM zEf qH O<|zZ O O (qX O zEr) ?_
   rintro _ _ ⟨b3,rfl,rfl⟩
   refine D 0 sz139 O<|zA<|Y O<|G O<|yK _ (yZ 0 O 8 _ PLe.ptr)<|zR O (zCw O O O O O)<|qK O ok63 (zDs env _ (fun y=>decide (y.Name=m.Name)) (by omega) (fun y _=>FnPur.of_pur (first:=[]) (cap:=[.iptr m.cells]) ok125 (linEval_1 y m))) ⟨zB,O,zB,O,T⟩<|G O<|zA<|zH<|Y O<|G O<|yB O<|zA<|zE O (fun c3=>?_) (fun c3=>?_)
   ·try simp only [sx] at c3
    have hE:=ev_none c1 hm (env_no (idx_lt c3))
    refine Y O<|G O<|G O<|zA<|zG<|fin2 (N O) (N O) ?_
    rw [hE]
   ·try simp only [sx] at c3
    obtain ⟨i,x,hi,hci,hhit,hbef⟩:=idx_le (show 0<=idxOf (fun y:Bd=>decide (y.Name=m.Name)) env by omega)
    rw [hi]
    have hil:=get_len hci
    have hv:=env_at hci (of_decide_eq_true hhit) hbef
    have hxr:=her x (qC hci)
    have hbr:=hr.2 m (qC hm)
    have h1:=zEv hbr
    have h2:=zEv hxr
    have h3:=hi_le h1 h2
    refine zF<|Y O<|G O<|G O<|qD O el31 (by omega) (getm hci)<|zR O (qI O fd50_1 O)<|zI one2 qH O<|G O<|zA<|Y O<|zR O (qI O zEb O)<|zI one2 qH O<|qK O ok124 (zCd m.By hbr) ⟨zB,O,T⟩<|G O<|qK O ok124 (zCd x.Val hxr) ⟨zB,O,T⟩<|qK O ok126 (zPo m.By.natAbs x.Val.natAbs (by omega) (by omega)) ⟨zB,O,zB,O,T⟩<|qV O<|yI O<|yI O<|G O<|G O<|zA<|zP O<|G O<|G O<|zR O (qI O zEb O)<|zI one2 qH O<|yB O<|G O<|yB O<|zR O (det_bneq O un4 O O)<|zR O (yQ [0] O ok123 (wide_add b2 w (hiN m.By.natAbs x.Val.natAbs) (m.By.natAbs*x.Val.natAbs%18446744073709551616) (!(decide (m.By<0)==decide (x.Val<0))) hj.ok (by omega) (Nat.mod_lt _ (by decide))) ⟨zB,O,zB,O,zB,O,zB,O,T⟩ O)<|zA<|zP O<|qM O ⟨by omega,by omega⟩<|G O<|zA ?_
    refine ⟨⟨k+1,w3a w (w3x (hiN m.By.natAbs x.Val.natAbs) (m.By.natAbs*x.Val.natAbs%18446744073709551616) (!(decide (m.By<0)==decide (x.Val<0)))),z+m.By*x.Val⟩,⟨by omega,ev_next hr hm hv hxr hj⟩,(by show l.L.length-(k+1)<l.L.length-k;omega),Weak.mk [true] ⟨zB,zB,zB,zB,zB,T⟩ O⟩
  ·try simp only [sx] at c2
   have hE:=ev_end (show l.L.length<=k by omega) (by omega) c1 hj
   refine qP<|Y O<|zR O (qY [0] O ok127 (wide_narrow b2 w hj.ok) ⟨zB,O,T⟩ O)<|qV O<|yI O<|yI O<|G O<|G O<|zA<|zH<|Y O<|G O<|wG O<|zA<|zE O (fun c4=>?_) (fun c4=>?_)
   ·rw [if_neg (ev_cond c4)] at hE
    refine Y O<|G O<|G O<|zA<|zG<|fin2 (N O) (N O) ?_
    rw [hE]
   ·rw [if_pos (ev_cond2 c4)] at hE
    refine zF<|Y O<|G O<|G O<|G O<|zA<|zG<|fin2 (N O) (N O) ?_
    rw [hE]
theorem zNs (c:Cn) (env:List Bd) (hel:env.length<=1000000) (her:∀x,x∈env->r64 x.Val) (hl:c.Lin.L.length<=5864062014805) (hr:c.Lin.rng):
    Pur cfg 65 [vCn c,vBds env] (.tup [vB (if (evalT c.Lin env).2=0 then hldC c (evalT c.Lin env).1 else false),vI (evalT c.Lin env).2]):=by
 refine zW Tryz.func65 O Tryz.ntmps65 Tryz.results65 O ?_
 intro z hz
 refine Y O<|zZ O O (qO O O) ?_
 rintro _ _ ⟨b1,rfl,rfl⟩
 refine G O<|G O<|zA<|Y O<|zD O fd123_0<|zM kE (J 0 O) O<|G O<|qK O ok68 (lin_Eval c.Lin env hel her hl hr) ⟨zB,O,zB,O,T⟩<|qV O<|yI O<|yI O<|G O<|G O<|zA<|zH<|Y O<|G O<|yM O<|zA<|zE O (fun c1=>?_) (fun c1=>?_)
 ·try simp only [sx] at c1
  refine Y O<|G O<|G O<|G O<|zA<|zG<|fin2 (N O) (N O) ?_
  rw [if_neg c1]
 ·try simp only [sx] at c1
  refine zF<|Y O<|G O<|yX O<|G O<|rL0 O (fun g4_2=>zS O O) O<|rL1 21 O (fun g4_2=>yU O O O) O<|rL1 22 O (fun g4_2=>zS O O) O<|rLz [] O gv2 T (fun g4_5=>zJ O fd123_1 O) O<|rLz [(24,_)] O gv2 ⟨O,O,T⟩ (fun g4_5=>zK O one4 O (J 0 O) O) O<|rLz [(25,_)] O gv2 ⟨O,O,T⟩ (fun g4_5=>zAz O O) O<|rL1 23 O (fun g4_2=>zCj O O O (fun h=>kU (by assumption) h) O) O<|r_or O (fun h=>(lzf h))<|G O<|G O<|zA<|zG<|fin2 (N O) (N O) ?_
  rw [if_pos c1,c1];rfl
theorem CheckSizes_1 (x:Bd) (s:ByteArray):
    Pur cfg 64 [vBd x,.c (.iptr [cS s])] (vB (decide (x.Name=s))):=by
 refine zW Tryz.func64 O Tryz.ntmps64 Tryz.results64 O ?_
 intro z hz
 refine Y O<|zZ O O (qO O O) ?_
 rintro _ _ ⟨b1,rfl,rfl⟩
 refine G O<|zA<|Y O<|zD O zPy<|zI one9 (J 0 O) O<|zI one9 qH O<|kY O<|G O<|zA<|zG<|zV O ?_
 exact O
theorem zEc (p:Pg) (env:List Bd) (hel:env.length<=1000000) (her:∀x,x∈env->r64 x.Val) (hP:p.Ok) (hR:p.Rng):
    Pur cfg 23 [vPg p,vBds env] (vI (chkZ p env)):=by
 refine zW Tryz.func23 O Tryz.ntmps23 Tryz.results23 O ?_
 intro z hz
 have hps:=hP.sizes
 have hpw:=hP.wh
 refine Y O<|zZ O O (qO O O) ?_
 rintro _ _ ⟨b1,rfl,rfl⟩
 refine G O<|zA<|zH<|Y O<|G O<|qB O el31<|zD O fd30_0<|zI zGt (J 0 O) O<|qB O el25<|yM O<|zA<|zE O (fun c1=>?_) (fun c1=>?_)
 ·try simp only [sx] at c1
  refine Y O<|G O<|zA<|zG<|zV O ?_
  rw [chk_len (by omega)]
 ·try simp only [sx] at c1
  have hpl:env.length=p.Sizes.length:=by omega
  refine zF<|zH<|Y O<|zD O fd30_0<|zI zGt (J 0 O) O<|qB O el25<|G O<|zA<|zT<|zU ⟨[(21,.c _),(1,.c _),(2,.c _),(19,.c _),(20,.c _)],[_]⟩ (Weak.mk [true] ⟨zB,zB,zB,zB,zB,T⟩ O)<|qJ 1 0 O O (Nat) (fun k=>[(21,vI k)]) (fun k=>[]) (fun k=>k<=p.Sizes.length/\((p.Sizes.take k).all (szGood env)=true)) (fun k=>p.Sizes.length-k) ⟨0,⟨by omega,O⟩,Weak.mk [true] ⟨zB,zB,zB,zB,zB,T⟩ O⟩ ?_
  rintro k ⟨hk,hp⟩
  refine Y O<|yB O<|zA<|zH<|zE O (fun c2=>?_) (fun c2=>?_)
  ·try simp only [sx] at c2
   obtain ⟨s,hs⟩:=yD p.Sizes k (by omega)
   refine zF<|zH<|zT<|Y O<|qD O el25 (by omega) (getm hs)<|zI one9 qH O<|zZ O O (qX O zr9) ?_
   rintro _ _ ⟨b2,rfl,rfl⟩
   refine D 0 sz9 O<|zA<|Y O<|G O<|yK _ (yZ 0 O 6 _ PLe.ptr)<|zR O (zCw O O O O O)<|qK O ok63 (zDs env _ (fun y=>decide (y.Name=s)) (by omega) (fun y _=>FnPur.of_pur (first:=[]) (cap:=[.iptr [cS s]]) ok64 (CheckSizes_1 y s))) ⟨zB,O,zB,O,T⟩<|G O<|zA<|Y O ?_
   obtain ⟨x,hci,hgd⟩:=sz_at env s
   refine G O<|yB O<|G O<|rL0 O (fun g7_2=>zS O O) O<|rL0 O (fun g7_2=>zS O O) O<|rLz [(31,_),(32,_)] O gv1 ⟨O,O,O,O,T⟩ (fun g7_2=>qU O el31 O O (by simp only [Lz,cond_true,cond_false,Bool.and_eq_true,Bool.or_eq_true,Bool.not_eq_true',Bool.not_eq_false',Bool.or_eq_false_iff,Bool.and_eq_false_iff,decide_eq_true_eq,decide_eq_false_iff_not,Bool.not_eq_true,Bool.not_eq_false] at g7_2;omega) (getm (hci (by simp only [Lz,cond_true,cond_false,Bool.and_eq_true,Bool.or_eq_true,Bool.not_eq_true',Bool.not_eq_false',Bool.or_eq_false_iff,Bool.and_eq_false_iff,decide_eq_true_eq,decide_eq_false_iff_not,Bool.not_eq_true,Bool.not_eq_false] at g7_2;omega)))) O<|rL1 33 O (fun g7_2=>qI O fd50_1 O) O<|rL1 34 O (fun g7_2=>zK O one2 O qH O) O<|rL1 35 O (fun g7_2=>zGd O O O) O<|r_or O (fun h=>(lzf h))<|G O<|rL0 O (fun g7_10=>zS O O) O<|rL0 O (fun g7_10=>zS O O) O<|rLz [(39,_),(40,_)] O gv1 ⟨O,O,O,O,T⟩ (fun g7_10=>qU O el31 O O (by simp only [Lz,cond_true,cond_false,Bool.and_eq_true,Bool.or_eq_true,Bool.not_eq_true',Bool.not_eq_false',Bool.or_eq_false_iff,Bool.and_eq_false_iff,decide_eq_true_eq,decide_eq_false_iff_not,Bool.not_eq_true,Bool.not_eq_false] at g7_10;omega) (getm (hci (by simp only [Lz,cond_true,cond_false,Bool.and_eq_true,Bool.or_eq_true,Bool.not_eq_true',Bool.not_eq_false',Bool.or_eq_false_iff,Bool.and_eq_false_iff,decide_eq_true_eq,decide_eq_false_iff_not,Bool.not_eq_true,Bool.not_eq_false] at g7_10;omega)))) O<|rL1 41 O (fun g7_10=>qI O fd50_1 O) O<|rL1 42 O (fun g7_10=>zK O one2 O qH O) O<|rL1 43 O (fun g7_10=>yU O O O) O<|r_or O (fun h=>(lzf h))<|zA<|zE O (fun c3=>?_) (fun c3=>?_)
   ·have hG:=chk_bad hpl hs (by have h9:=hgd.symm.trans c3;simpa using h9)
    refine Y O<|G O<|zA<|zG<|zV O ?_
    rw [hG]
   ·have hG:szGood env s=true:=by have h9:=hgd.symm.trans c3;simpa using h9
    refine zF<|zP O<|qM O ⟨by omega,by omega⟩<|G O<|zA ?_
    refine ⟨k+1,⟨by omega,allz_next hs hp hG⟩,(by omega),Weak.mk [true] ⟨zB,zB,zB,zB,zB,T⟩ O⟩
  ·try simp only [sx] at c2
   rw [yC (by omega)] at hp
   have hZ:=chk_wh hpl hp
   refine qP<|zH<|Y O<|zD O fd30_1<|zI one26 (J 0 O) O<|qB O el26<|G O<|zA<|zT<|zU ⟨[(50,.c _),(1,.c _),(48,.c _),(49,.c _)],[]⟩ (Weak.mk [false] ⟨zB,zB,zB,zB,T⟩ O)<|qJ 1 0 O O (Nat) (fun j=>[(50,vI j)]) (fun j=>[]) (fun j=>j<=p.Where.length/\(whE env p.Where=whE env (p.Where.drop j))) (fun j=>p.Where.length-j) ⟨0,⟨by omega,O⟩,Weak.mk [] ⟨zB,zB,zB,zB,T⟩ O⟩ ?_
   rintro j ⟨hj,hq⟩
   refine Y O<|yB O<|zA<|zH<|zE O (fun c4=>?_) (fun c4=>?_)
   ·try simp only [sx] at c4
    obtain ⟨c,hc⟩:=yD p.Where j (by omega)
    refine zF<|zH<|zT<|Y O<|qD O el26 (by omega) (getm hc)<|zM agg123 qH O<|zZ O O (qF [none,some 2,none] O zr123 O) ?_
    rintro _ _ ⟨b3,rfl,rfl⟩
    refine D 0 sz123 O<|zA<|Y O<|zM agg123 (J 0 O) O<|G O<|qK O ok65 (zNs c env hel her (hP.whs c (qC hc)) (hR.wh c (qC hc))) ⟨zB,O,zB,O,T⟩<|qV O<|yI O<|yI O<|G O<|G O<|zA<|zH<|Y O<|G O<|yM O<|zA<|zE O (fun c5=>?_) (fun c5=>?_)
    ·try simp only [sx] at c5
     have hW:=wh_err hc hq c5
     refine Y O<|G O<|G O<|zA<|zG<|zV O ?_
     rw [hZ,hW]
    ·try simp only [sx] at c5
     refine zF<|Y O<|G O<|wG O<|zA<|zE O (fun c6=>?_) (fun c6=>?_)
     ·try simp only [sx] at c6
      rw [if_pos c5] at c6
      have hW:=wh_no hc hq c5 c6
      refine Y O<|G O<|zA<|zG<|zV O ?_
      rw [hZ,hW]
     ·try simp only [sx] at c6
      rw [if_pos c5] at c6
      refine zF<|zP O<|qM O ⟨by omega,by omega⟩<|G O<|zA ?_
      refine ⟨j+1,⟨by omega,wh_next hc hq c5 c6⟩,(by omega),Weak.mk [false] ⟨zB,zB,zB,zB,T⟩ O⟩
   ·try simp only [sx] at c4
    have hW:=wh_end (show p.Where.length<=j by omega) hq
    refine qP<|Y O<|G O<|zA<|zG<|zV O ?_
    rw [hZ,hW]
theorem zMt (p:Pg) (env:List Bd) (hel:env.length<=1000000) (her:∀x,x∈env->r64 x.Val) (hP:p.Ok) (hR:p.Rng):
    Pur cfg 66 [vPg p,vBds env] (vI (if (validM p).2=0 then chkZ p env else (validM p).2)):=by
 refine zW Tryz.func66 O Tryz.ntmps66 Tryz.results66 O ?_
 intro z hz
 refine Y O<|zZ O O (qO O O) ?_
 rintro _ _ ⟨b1,rfl,rfl⟩
 refine G O<|zA<|zH<|Y O<|zM zEe (J 0 O) O<|qK O ok22 (zDd p hP) ⟨zB,O,T⟩<|qV O<|yI O<|yI O<|G O<|G O<|zA<|Y O<|G O<|yM O<|zA<|zE O (fun c1=>?_) (fun c1=>?_)
 ·try simp only [sx] at c1
  refine Y O<|G O<|G O<|zA<|zG<|zV O ?_
  rw [if_neg c1]
 ·try simp only [sx] at c1
  refine zF<|Y O<|zM zEe (J 0 O) O<|G O<|qK O ok23 (zEc p env hel her hP hR) ⟨zB,O,zB,O,T⟩<|G O<|zA<|zG<|zV O ?_
  rw [if_pos c1]
theorem eval_extents (l:List Lf) (env:List Bd) (hel:env.length<=1000000) (her:∀x,x∈env->r64 x.Val) (hl:l.length<=4294967296) (hf:∀f,f∈l->f.L.length<=5864062014805/\f.rng):
    Pur cfg 120 [vLins l,vBds env] (.tup [vIs (extL env l),vI (extE env l)]):=by
 refine zW Tryz.func120 O Tryz.ntmps120 Tryz.results120 O ?_
 intro z hz
 refine Y O<|qT 1 O<|G O<|zA<|Y O<|G O<|yK _ (kI 3 1)<|zA<|zH<|Y O<|G O<|qB O el72<|G O<|zA<|zT<|zU ⟨[(13,.c _),(6,.c _),(1,.c _),(11,.c _),(12,.c _)],[_]⟩ (Weak.mk [true] ⟨zB,zB,zB,zB,zB,T⟩ O)<|qJ 2 1 O O (Nat×Value) (fun ⟨k,sv⟩=>[(13,vI k),(6,.c (.lit sv))]) (fun ⟨k,sv⟩=>[E.vec sv 3 1 ((extV env (l.take k)).map fun n=>[cI n])]) (fun ⟨k,sv⟩=>k<=l.length/\(extE env l=extE env (l.drop k))) (fun ⟨k,sv⟩=>l.length-k) ⟨⟨0,(.slice none 0 0)⟩,⟨by omega,O⟩,Weak.mk [true] ⟨zB,zB,zB,zB,zB,T⟩ O⟩ ?_
 rintro ⟨k,sv⟩ ⟨hk,hp⟩
 show AWP _ _ _ _ _ ⟨[(13,vI k),(6,.c (.lit sv))]++_,[E.vec sv 3 1 ((extV env (l.take k)).map fun n=>[cI n])]++_⟩
 refine Y O<|yB O<|zA<|zH<|zE O (fun c1=>?_) (fun c1=>?_)
 ·try simp only [sx] at c1
  obtain ⟨f,hx⟩:=yD l k (by omega)
  refine zF<|zH<|zT<|Y O<|qD O el72 (by omega) (getm hx)<|zM kE qH O<|zZ O O (qF [none,some 2] O W O) ?_
  rintro _ _ ⟨b2,rfl,rfl⟩
  refine D 0 sz59 O<|zA<|Y O<|zM kE (J 0 O) O<|G O<|qK O ok68 (lin_Eval f env hel her (hf f (qC hx)).1 (hf f (qC hx)).2) ⟨zB,O,zB,O,T⟩<|qV O<|yI O<|yI O<|G O<|G O<|zA<|zH<|Y O<|G O<|yM O<|zA<|zE O (fun c2=>?_) (fun c2=>?_)
  ·try simp only [sx] at c2
   have hE:=ext_err hx hp c2
   refine Y O<|G O<|qT 1 O<|G O<|zA<|zG<|fin2 (N O) (N O) ?_
   rw [ext_no (by rw [hE];exact c2),hE];rfl
  ·try simp only [sx] at c2
   refine zF<|zH<|Y O<|G O<|yB O<|G O<|rL0 O (fun g8_2=>zS O O) O<|rL1 29 O (fun g8_2=>yU O O O) O<|r_or O (fun h=>(lzf h))<|zA<|zE O (fun c3=>?_) (fun c3=>?_)
   ·try simp only [sx] at c3
    have hE:=ext_bad hx hp c2 (by simpa using c3)
    refine Y O<|qT 1 O<|G O<|zA<|zG<|fin2 (N O) (N O) ?_
    rw [ext_no (by rw [hE];decide),hE];rfl
   ·try simp only [sx] at c3
    have hn:=ext_next hx hp c2 (by simpa using c3)
    refine zF<|zP O<|G O<|G O<|zR O (qS O el46 zr3 O O O O)<|zZ O O (yH 1 O el46 O O O (by simp [extV];omega) (by simp [extV];omega)) ?_
    rintro _ _ ⟨sv3,rfl,rfl⟩
    refine G O<|zA<|zP O<|qM O ⟨by omega,by omega⟩<|G O<|zA ?_
    refine ⟨⟨k+1,sv3⟩,⟨by omega,hn⟩,(by show l.length-(k+1)<l.length-k;omega),Weak.mk [false,true] ⟨zB,zB,zB,zB,zB,T⟩ (by exact mem1_eq (by rw [qW hx];unfold extV;rw [List.map_append,List.map_append];rfl))⟩
 ·try simp only [sx] at c1
  have hE:=ext_end (show l.length<=k by omega) hp
  rw [yC (l:=l) (k:=k) (by omega)]
  refine zU _ (yJ 0 O (regs':=[(6,_)]) (μ':=[]) ⟨FLe.sl,T⟩ T)<|qP<|Y O<|G O<|G O<|G O<|zA<|zG<|fin2 (N O) (N O) ?_
  rw [ext_ok hE,hE]
theorem eval_count (l:List Int) (hl:l.length<=4294967296) (h:∀n,n∈l->1<=n/\n<=4096):
    Pur cfg 121 [vIs l,vI 4096] (vI ((sizeFrom 1 l).getD 4097)):=by
 refine zW Tryz.func121 O Tryz.ntmps121 Tryz.results121 O ?_
 intro z hz
 refine Y O<|G O<|zA<|Y O<|G O<|zA<|zH<|Y O<|G O<|qB O el46<|G O<|zA<|zT<|zU ⟨[(10,.c _),(5,.c _),(1,.c _),(8,.c _),(9,.c _)],[]⟩ (Weak.mk [] ⟨zB,zB,zB,zB,zB,T⟩ O)<|qJ 2 0 O O (Nat×Int) (fun ⟨k,s⟩=>[(10,vI k),(5,vI s)]) (fun ⟨k,s⟩=>[]) (fun ⟨k,s⟩=>k<=l.length/\(1<=s/\s<=4096)/\(sizeFrom 1 l=sizeFrom s (l.drop k))) (fun ⟨k,s⟩=>l.length-k) ⟨⟨0,1⟩,⟨by omega,⟨by decide,by decide⟩,O⟩,Weak.mk [] ⟨zB,zB,zB,zB,zB,T⟩ O⟩ ?_
 rintro ⟨k,s⟩ ⟨hk,hs,hp⟩
 show AWP _ _ _ _ _ ⟨[(10,vI k),(5,vI s)]++_,[]++_⟩
 refine Y O<|yB O<|zA<|zH<|zE O (fun c1=>?_) (fun c1=>?_)
 ·try simp only [sx] at c1
  obtain ⟨n,hn⟩:=yD l k (by omega)
  have hnb:=h n (qC hn)
  have hmb:=Int.mul_le_mul hs.2 hnb.2 (by omega) (by omega)
  have hmb2:=Int.mul_le_mul (show 1<=s from hs.1) hnb.1 (by omega) (by omega)
  rw [qN hn,sizeFrom] at hp
  refine zF<|zH<|zT<|Y O<|qD O el46 (by omega) (getm hn)<|zI one3 qH O<|G O<|zA<|Y O<|G O<|G O<|zR O (det_mul_nw O O O ⟨by omega,by omega⟩)<|G O<|zA<|Y O<|G O<|G O<|zR O (yU O O O)<|zA<|zE O (fun c2=>?_) (fun c2=>?_)
  ·try simp only [sx] at c2
   rw [if_pos (by omega)] at hp
   refine Y O<|G O<|qM O ⟨by omega,by omega⟩<|G O<|zA<|zG<|zV O ?_
   rw [hp];rfl
  ·try simp only [sx] at c2
   rw [if_neg (by omega)] at hp
   refine zF<|zP O<|qM O ⟨by omega,by omega⟩<|G O<|zA ?_
   refine ⟨⟨k+1,s*n⟩,⟨by omega,⟨by omega,by omega⟩,hp⟩,(by show l.length-(k+1)<l.length-k;omega),Weak.mk [] ⟨zB,zB,zB,zB,zB,T⟩ O⟩
 ·try simp only [sx] at c1
  rw [zCv (by omega),sizeFrom] at hp
  refine qP<|Y O<|G O<|G O<|zA<|zG<|zV O ?_
  rw [hp];rfl
theorem eval_dims (p:Pg) (s:ByteArray) (env:List Bd) (hel:env.length<=1000000) (her:∀x,x∈env->r64 x.Val) (hP:p.Ok) (hR:p.Rng):
    Pur cfg 67 [vPg p,vBds env,vS s] (.tup [vIs (dimL p env s).1,vTy (p.en.find s).ty,vI (dimL p env s).2]):=by
 refine zW Tryz.func67 O Tryz.ntmps67 Tryz.results67 O ?_
 intro z hz
 have hfd:=find_fit hP hR s
 refine Y O<|zZ O O (qO O O) ?_
 rintro _ _ ⟨b1,rfl,rfl⟩
 refine qT 1 O<|zZ O O (qX O zr56) ?_
 rintro _ _ ⟨b2,rfl,rfl⟩
 refine G O<|zA<|Y O<|zM zEe (J 1 O) O<|G O<|qK O ok119 (zHg p s hP) ⟨zB,O,zB,O,T⟩<|qV O<|zR O (yA O O O)<|yI O<|yI O<|zZ O O (qX O zr56) ?_
 rintro _ _ ⟨b3,rfl,rfl⟩
 refine D 0 v O<|G O<|G O<|zA<|zH<|Y O<|G O<|wG O<|zA<|zE O (fun c1=>?_) (fun c1=>?_)
 ·try simp only [sx] at c1
  refine zH<|yL 2 mixed (by kernel_rfl) O O<|zQ O O (qA O qZ O (J 0 O) O)<|zQ O O (zGe 1 O O)<|kL<|D 1 v O<|G O<|zA<|zG<|fin3 (N O) (zY qZ O (J 1 O) O) (N O) ?_
  rw [dim_no c1];rfl
 ·try simp only [sx] at c1
  refine zF<|Y O<|G O<|G O<|qK O ok120 (eval_extents (p.en.find s).dims env hel her hfd.1 hfd.2) ⟨zB,O,zB,O,T⟩<|qV O<|yI O<|yI O<|G O<|G O<|zA<|zH<|Y O<|G O<|yM O<|zA<|zE O (fun c2=>?_) (fun c2=>?_)
  ·try simp only [sx] at c2
   refine zH<|yP 4 0 [⟨0,.q [0]⟩,⟨1,.q []⟩,⟨2,.q []⟩,⟨3,.e 1 []⟩] mixed (by kernel_rfl) (by kernel_rfl) O O O<|zO O<|zO O<|zO O<|zO O<|wR<|zX O (by decide) O O (qA O qZ O (J 0 O) O)<|zX O (by decide) O O (zS O O)<|zX O (by decide) O O (zGe 1 O O)<|zDr O O (by decide) O O (yT O v O O O (zCx 0 O O)) ?_
   rintro _ _ ⟨rfl,rfl⟩
   refine ⟨_,O,?_⟩
   refine wQ O<|G O<|zA<|zG<|fin3 (N O) (zY qZ O (J 1 O) O) (N O) ?_
   rw [dim_e c1 c2];rfl
  ·try simp only [sx] at c2
   refine zF<|zH<|Y O<|G O<|qK O ok121 (show Pur cfg 121 [vIs (extL env (p.en.find s).dims),vI 4096] (vI ((sizeFrom 1 (extV env (p.en.find s).dims)).getD 4097)) by rw [ext_ok c2];exact eval_count _ (by unfold extV;rw [List.length_map];exact hfd.1) (ext_all c2)) ⟨zB,O,zB,O,T⟩<|zR O (yU O O O)<|zA<|zE O (fun c3=>?_) (fun c3=>?_)
   ·try simp only [sx] at c3
    refine zH<|yL 2 mixed (by kernel_rfl) O O<|zQ O O (qA O qZ O (J 0 O) O)<|zQ O O (zGe 1 O O)<|kL<|D 1 v O<|G O<|zA<|zG<|fin3 (N O) (zY qZ O (J 1 O) O) (N O) ?_
    rw [dim_b c1 c2 (cnt_big c3)];rfl
   ·try simp only [sx] at c3
    refine zF<|zH<|yL 3 mixed (by kernel_rfl) O O<|zQ O O (zS O O)<|zQ O O (qA O qZ O (J 0 O) O)<|zQ O O (yV O O)<|kL<|D 1 v O<|G O<|zA<|zG<|fin3 (N O) (zY qZ O (J 1 O) O) (N O) ?_
    rw [dim_ok c1 c2 (cnt_fit (by omega)),ext_ok c2];rfl
theorem zQd (p:Pg) (s:ByteArray) (env:List Bd) (hel:env.length<=1000000) (her:∀x,x∈env->r64 x.Val) (hP:p.Ok) (hR:p.Rng):
    Pur cfg 24 [vPg p,vBds env,vS s] (.tup [vIs (dimsT p env s).1,vI (dimsT p env s).2]):=by
 refine zW Tryz.func24 O Tryz.ntmps24 Tryz.results24 O ?_
 intro z hz
 refine Y O<|zZ O O (qO O O) ?_
 rintro _ _ ⟨b1,rfl,rfl⟩
 refine qT 1 O<|G O<|zA<|zH<|Y O<|zM zEe (J 0 O) O<|G O<|qK O ok66 (zMt p env hel her hP hR) ⟨zB,O,zB,O,T⟩<|G O<|zA<|Y O<|G O<|yM O<|zA<|zE O (fun c1=>?_) (fun c1=>?_)
 ·try simp only [sx] at c1
  refine Y O<|G O<|qT 1 O<|G O<|zA<|zG<|fin2 (N O) (N O) ?_
  rw [dmT_no c1];rfl
 ·try simp only [sx] at c1
  refine zF<|Y O<|zM zEe (J 0 O) O<|G O<|G O<|qK O ok67 (eval_dims p s env hel her hP hR) ⟨zB,O,zB,O,zB,O,T⟩<|qV O<|yI O<|zR O (yA O O O)<|yI O<|zZ O O (qX O zr56) ?_
  rintro _ _ ⟨b2,rfl,rfl⟩
  refine G O<|D 0 v O<|G O<|zA<|Y O<|G O<|G O<|G O<|G O<|zA<|zG<|fin2 (N O) (N O) ?_
  rw [dmT_ok c1]
theorem value_One (t:Ty):
    Pur cfg 192 [vTy t] (.tup [vVal (oneT t).1,vI (oneT t).2]):=by
 refine zW Tryz.func192 O Tryz.ntmps192 Tryz.results192 O ?_
 intro z hz
 refine Y O<|zZ O O (qO O O) ?_
 rintro _ _ ⟨b1,rfl,rfl⟩
 refine zZ O O (qX O zr54) ?_
 rintro _ _ ⟨b2,rfl,rfl⟩
 refine G O<|zA<|zH<|zT<|Y O<|zM qZ (J 1 O) O<|qK O ok167 (kW _) ⟨zB,O,T⟩<|yM O<|G O<|zA<|zE O (fun c1=>?_) (fun c1=>?_)
 ·try simp only [sx] at c1
  refine Y O<|yF O zr54 pl54<|D 0 sz54 O<|G O<|zA<|zG<|fin2 (zY zGk O (J 0 O) O) (N O) ?_
  rw [one_no c1];rfl
 ·try simp only [sx] at c1
  refine Y O<|zD O zKw<|zI one3 (J 1 O) O<|yM O<|G O<|zA<|zE O (fun c2=>?_) (fun c2=>?_)
  ·try simp only [sx] at c2
   refine Y O<|yF O zr54 pl54<|D 0 sz54 O<|G O<|zA<|zG<|fin2 (zY zGk O (J 0 O) O) (N O) ?_
   rw [one_p c1 c2];rfl
  ·try simp only [sx] at c2
   refine zF<|Y O<|zD O fd56_2<|zI one3 (J 1 O) O<|zR O (det_shlE O O O (one_sh c1 c2).1 (one_sh c1 c2).2)<|yF O zr54 pl54<|zZ O O (qX O zr54) ?_
   rintro _ _ ⟨b3,rfl,rfl⟩
   refine D 0 sz54 O<|zA<|zH<|Y O<|zM qZ (J 2 O) O<|zM zGk (J 0 O) O<|qK O ok238 (zPu t ⟨2^t.Frac.toNat,1⟩) ⟨zB,O,zB,O,T⟩<|wG O<|zA<|zE O (fun c3=>?_) (fun c3=>?_)
   ·refine Y O<|yF O zr54 pl54<|D 1 sz54 O<|G O<|zA<|zG<|fin2 (zY zGk O (J 1 O) O) (N O) ?_
    rw [one_r c1 c2 (notT c3)];rfl
   ·refine zF<|Y O<|zM zGk (J 0 O) O<|D 1 sz54 O<|G O<|zA<|zG<|fin2 (zY zGk O (J 1 O) O) (N O) ?_
    rw [one_ok c1 c2 (notF c3)];rfl
theorem value_Identity (f:Int) (t:Ty):
    Pur cfg 139 [vI f,vTy t] (.tup [vVal (idT f t).1,vB (idT f t).2]):=by
 refine zW Tryz.func139 O Tryz.ntmps139 Tryz.results139 O ?_
 intro z hz
 refine Y O<|zZ O O (qO O O) ?_
 rintro _ _ ⟨b1,rfl,rfl⟩
 refine zZ O O (qX O zr54) ?_
 rintro _ _ ⟨b2,rfl,rfl⟩
 refine G O<|zA<|zH<|Y O<|zM qZ (J 1 O) O<|qK O ok167 (kW _) ⟨zB,O,T⟩<|yM O<|zA<|zE O (fun c1=>?_) (fun c1=>?_)
 ·try simp only [sx] at c1
  refine Y O<|yF O zr54 pl54<|D 0 sz54 O<|G O<|zA<|zG<|fin2 (zY zGk O (J 0 O) O) (N O) ?_
  exact n0
 ·try simp only [sx] at c1
  refine zF<|zH<|Y O<|G O<|zA<|zT<|zH<|Y O<|yX O<|G O<|zA<|zE O (fun c2=>?_) (fun c2=>?_)
  ·try simp only [sx] at c2
   refine zF<|zE O (fun c3=>?_) (fun c3=>?_)
   ·try simp only [sx] at c3
    refine Y O<|zM qZ (J 1 O) O<|qK O ok191 (value_Zero _) ⟨zB,O,T⟩<|D 0 sz54 O<|G O<|zA<|zG<|fin2 (zY zGk O (J 0 O) O) (N O) ?_
    exact n0
   ·try simp only [sx] at c3
    exact absurd c2 c3
  ·try simp only [sx] at c2
   refine zP O<|yX O<|G O<|zA<|zE O (fun c3=>?_) (fun c3=>?_)
   ·try simp only [sx] at c3
    refine Y O<|zM qZ (J 1 O) O<|qK O ok191 (value_Zero _) ⟨zB,O,T⟩<|D 0 sz54 O<|G O<|zA<|zG<|fin2 (zY zGk O (J 0 O) O) (N O) ?_
    exact n0
   ·try simp only [sx] at c3
    refine Y O<|yX O<|G O<|zA<|zE O (fun c4=>?_) (fun c4=>?_)
    ·try simp only [sx] at c4
     refine Y O<|zM qZ (J 1 O) O<|qK O ok192 (value_One _) ⟨zB,O,T⟩<|qV O<|zR O (yA O O O)<|yI O<|zZ O O (qX O zr54) ?_
     rintro _ _ ⟨b3,rfl,rfl⟩
     refine D 0 sz54 O<|G O<|zA<|Y O<|zM zGk (J 0 O) O<|G O<|yX O<|D 1 sz54 O<|G O<|zA<|zG<|fin2 (zY zGk O (J 1 O) O) (N O) ?_
     exact n0
    ·try simp only [sx] at c4
     refine zF<|Y O<|yF O zr54 pl54<|D 0 sz54 O<|G O<|zA<|zG<|fin2 (zY zGk O (J 0 O) O) (N O) ?_
     exact n0
end Go.W
end
section
set_option maxRecDepth 10000
namespace Go.W
open Go Go.Eng Go.Proofs Go.L41 Go.Br
attribute [local irreducible] AWP RWP TD finQ
theorem rwp_show {X:Cfg} {n:Nat} {z:Z} {Q:Exit->S->Prop} {ops:Array Oper} {l:List Oper} {regs:List (Nat×V)} {μ μ':List E} (h:μ=μ') (k:RWP X n z ops l Q ⟨regs,μ'⟩):RWP X n z ops l Q ⟨regs,μ⟩:=h ▸ k
theorem zDg:fieldT Tryz.prog 80 0=some (0,70):=by kernel_rfl
theorem fd80_2:fieldT Tryz.prog 80 2=some (23,31):=by kernel_rfl
theorem fd80_3:fieldT Tryz.prog 80 3=some (24,62):=by kernel_rfl
theorem zNi:fieldT Tryz.prog 80 4=some (37,52):=by kernel_rfl
theorem ok27:callOk Tryz.prog 27=true:=by kernel_rfl
theorem ok28:callOk Tryz.prog 28=true:=by kernel_rfl
theorem ok31:callOk Tryz.prog 31=true:=by kernel_rfl
theorem ok74:callOk Tryz.prog 74=true:=by kernel_rfl
theorem ok75:callOk Tryz.prog 75=true:=by kernel_rfl
theorem ok137:callOk Tryz.prog 137=true:=by kernel_rfl
theorem ok138:callOk Tryz.prog 138=true:=by kernel_rfl
theorem ok139:callOk Tryz.prog 139=true:=by kernel_rfl
theorem one31:oneT Tryz.prog 31=true:=by kernel_rfl
theorem pl64:placesT Tryz.prog 64=some [(0,1),(1,1),(2,1),(3,1),(4,1),(5,1),(6,13),(19,1)]:=by kernel_rfl
theorem sz50:(Tryz.prog.info? 50).map (·.size)=some 2:=by kernel_rfl
theorem zEw (d a:ByteArray) (hs:d.size<=100000) (hs2:a.size<=100000):
    Pur cfg 8 [vS d,vS a] (vS (lnT d a)):=by
 refine zW Tryz.func8 O Tryz.ntmps8 Tryz.results8 O ?_
 intro z hz
 refine Y O<|G O<|zA<|Y O<|G O<|zR O (zOc O O O (by show d.size+1<=_;omega))<|G O<|zR O (zOc O O O (by rw [ByteArray.size_append];show d.size+1+a.size<=_;omega))<|G O<|zA<|zH<|Y O<|G O<|qK O ok19 (zAq (d++bs [95]++a)) ⟨zB,O,T⟩<|wG O<|zA<|zE O (fun c1=>?_) (fun c1=>?_)
 ·try simp only [sx] at c1
  refine Y O<|G O<|zA<|zG<|zV O ?_
  rw [ln_no (by rw [c1];simp)]
 ·try simp only [sx] at c1
  refine zF<|Y O<|G O<|G O<|zA<|zG<|zV O ?_
  rw [ln_ne c1]
theorem ref32_LoopName (d a:ByteArray) (hs:d.size<=100000) (hs2:a.size<=100000):
    Pur cfg 9 [vS d,vS a] (vS (lnT d a)):=by
 refine zW Tryz.func9 O Tryz.ntmps9 Tryz.results9 O ?_
 intro z hz
 refine Y O<|G O<|zA<|Y O<|G O<|zR O (zOc O O O (by show d.size+1<=_;omega))<|G O<|zR O (zOc O O O (by rw [ByteArray.size_append];show d.size+1+a.size<=_;omega))<|G O<|zA<|zH<|Y O<|G O<|qK O ok20 (base_Name (d++bs [95]++a)) ⟨zB,O,T⟩<|wG O<|zA<|zE O (fun c1=>?_) (fun c1=>?_)
 ·try simp only [sx] at c1
  refine Y O<|G O<|zA<|zG<|zV O ?_
  rw [ln_no (by rw [c1];simp)]
 ·try simp only [sx] at c1
  refine zF<|Y O<|G O<|G O<|zA<|zG<|zV O ?_
  rw [ln_ne c1]
theorem lower_bound (env:List Bd) (s:ByteArray) (hel:env.length<=1000000):
    Pur cfg 29 [vBds env,vS s] (vI (envD env s)):=by
 refine zW Tryz.func29 O Tryz.ntmps29 Tryz.results29 O ?_
 intro z hz
 refine Y O<|G O<|zA<|zH<|Y O<|G O<|qB O el31<|G O<|zA<|zT<|zU ⟨[(9,.c _),(1,.c _),(7,.c _),(8,.c _)],[]⟩ (Weak.mk [] ⟨zB,zB,zB,zB,T⟩ O)<|qJ 1 0 O O (Nat) (fun k=>[(9,vI k)]) (fun k=>[]) (fun k=>k<=env.length/\((env.take k).any (fun y=>decide (y.Name=s))=false)) (fun k=>env.length-k) ⟨0,⟨by omega,O⟩,Weak.mk [] ⟨zB,zB,zB,zB,T⟩ O⟩ ?_
 rintro k ⟨hk,hp⟩
 refine Y O<|yB O<|zA<|zH<|zE O (fun c1=>?_) (fun c1=>?_)
 ·try simp only [sx] at c1
  obtain ⟨x,hx⟩:=yD env k (by omega)
  refine zF<|zH<|zT<|Y O<|qD O el31 (by omega) (getm hx)<|zM agg50 qH O<|zZ O O (qX O zr50) ?_
  rintro _ _ ⟨b1,rfl,rfl⟩
  refine D 0 sz50 O<|zA<|Y O<|zD O zPy<|zI one9 (J 0 O) O<|G O<|kY O<|zA<|zE O (fun c2=>?_) (fun c2=>?_)
  ·try simp only [sx] at c2
   refine Y O<|zD O fd50_1<|zI one2 (J 0 O) O<|G O<|zA<|zG<|zV O ?_
   rw [envD_at hx c2 hp]
  ·exact v30
 ·try simp only [sx] at c1
  refine qP<|Y O<|G O<|zA<|zG<|zV O ?_
  rw [yC (by omega)] at hp
  rw [envD_no hp]
theorem zDw (l:List Bd) (b:List St) (hl:l.length<=4294967296):
    Pur cfg 74 [vBds l,vSts b] (vSts (loopsT l b)):=by
 refine zW Tryz.func74 O Tryz.ntmps74 Tryz.results74 O ?_
 intro z hz
 refine Y O<|qT 20 O<|zA<|zH<|Y O<|G O<|qB O el31<|zR O (yO O O O ⟨by omega,by omega⟩)<|G O<|zA<|zT<|zU ⟨[(5,.c _),(1,.c _),(0,.c _)],[]⟩ (Weak.mk [] ⟨zB,zB,zB,T⟩ O) ?_
 refine qJ 2 0 O O (Nat) (fun q=>[(5,vI ((q:Int)-1)),(1,vSts (loopsT (l.drop q) b))]) (fun q=>[]) (fun q=>q<=l.length) (fun q=>q) ⟨l.length,(Nat.le_refl _),Weak.mk [] ⟨zB,VLe.of_eq ((congrArg vSts (loops_end l b).symm)),zB,T⟩ O⟩ ?_
 rintro q hq
 refine zH<|Y O<|G O<|zR O (wT O O O)<|zA<|zE O (fun c1=>?_) (fun c1=>?_)
 ·try simp only [sx] at c1
  obtain ⟨j,rfl⟩:∃j,q=j+1:=⟨q-1,by omega⟩
  obtain ⟨x,hx⟩:=yD l j (by omega)
  rw [show (((j+1:Nat):Int)-1)=(j:Int) by omega]
  refine zF<|zH<|zT<|yL 14 mixed (by kernel_rfl) O O<|zQ O O (zS O O)<|zQ O O (zS O O)<|zQ O O (qU O el31 O O (by omega) (getm hx))<|zQ O O (qI O zPy O)<|zQ O O (zK O one9 O qH O)<|zQ O O (zS O O)<|zQ O O (zS O O)<|zQ O O (qU O el31 O O (by omega) (getm hx))<|zQ O O (qI O fd50_1 O)<|zQ O O (zK O one2 O qH O)<|zQ O O (zS O O)<|zQ O O (zCr [none,none,none,none,none,some 4,none,none,none,none,none,none,none,none,none,none,some 2,some 4,some 13,none] O zr64 pl64 O O)<|zQ O O (qS O L zr64 O O O O)<|zQ O O (yV O O)<|kL<|zA<|zP O<|G O<|zR O (yO O O O ⟨by omega,by omega⟩)<|G O<|zA ?_
  refine ⟨j,(by omega),(by omega),Weak.mk [] ⟨VLe.of_eq ((congrArg vI (by omega))),VLe.of_eq ((by rw [loops_back hx,←one_rows];rfl)),zB,T⟩ O⟩
 ·try simp only [sx] at c1
  obtain rfl:q=0:=by omega
  refine qP<|Y O<|G O<|G O<|zA<|zG<|zV O ?_
  rfl
theorem mk_set (b:Nat) (d:Df) (dims red:List Bd) (body:Ex) (e:Ex):
    Con cfg 75 [vPt b,vE e] [E.row b 80 (mkC d dims red body (ixT dims))] fun r μ'=>r=vSt (lSet d (ixT dims) e)/\μ'=[E.row b 80 (mkC d dims red body (ixT dims))]:=by
 refine Con.drop<|zW Tryz.func75 O Tryz.ntmps75 Tryz.results75 O ?_
 intro z hz
 refine Y O<|zZ O O (qO O O) ?_
 rintro _ _ ⟨b1,rfl,rfl⟩
 refine zZ O O (qF [none,none,none,none,none,some 4,none,none,none,none,none,none,none,none,none,none,some 2,some 4,some 13,some 20] O zr64 O) ?_
 rintro _ _ ⟨b2,rfl,rfl⟩
 refine zA<|zH<|yL 11 mixed (by kernel_rfl) O O<|zQ O O (zS O O)<|zQ O O (qG O O)<|zQ O O (zJ O zDg O)<|zQ O O (zJ O zHw O)<|zQ O O (zK O one9 O (J 2 O) O)<|zQ O O (zS O O)<|zQ O O (qG O O)<|zQ O O (zJ O zNi O)<|zQ O O (zK O zBr O (J 2 O) O)<|zQ O O (qA O kD O (J 1 O) O)<|zQ O O (zCr [none,none,none,none,none,none,none,none,none,none,none,none,none,none,none,none,none,none,none,some 20] O zr64 pl64 O O)<|kL<|D 0 sz64 O<|zA<|zU _ (Weak.mem [true,false,true] O)<|zG<|fin1 (zY zNt O (J 0 O) O) ?_
 exact s5
theorem mk_fold (b:Nat) (d:Df) (dims red:List Bd) (body:Ex) (f:Int) (e:Ex):
    Con cfg 137 [vPt b,vI f,vE e] [E.row b 80 (mkC d dims red body (ixT dims))] fun r μ'=>r=vSt (lFld d (ixT dims) f e)/\μ'=[E.row b 80 (mkC d dims red body (ixT dims))]:=by
 refine Con.drop<|zW Tryz.func137 O Tryz.ntmps137 Tryz.results137 O ?_
 intro z hz
 refine Y O<|zZ O O (qO O O) ?_
 rintro _ _ ⟨b1,rfl,rfl⟩
 refine zZ O O (qF [none,none,none,none,none,some 4,none,none,none,none,none,none,none,none,none,none,some 2,some 4,some 13,some 20] O zr64 O) ?_
 rintro _ _ ⟨b2,rfl,rfl⟩
 refine zA<|zH<|yL 12 mixed (by kernel_rfl) O O<|zQ O O (zS O O)<|zQ O O (qG O O)<|zQ O O (zJ O zDg O)<|zQ O O (zJ O zHw O)<|zQ O O (zK O one9 O (J 2 O) O)<|zQ O O (zS O O)<|zQ O O (zS O O)<|zQ O O (qG O O)<|zQ O O (zJ O zNi O)<|zQ O O (zK O zBr O (J 2 O) O)<|zQ O O (qA O kD O (J 1 O) O)<|zQ O O (zCr [none,none,none,none,none,none,none,none,none,none,none,none,none,none,none,none,none,none,none,some 20] O zr64 pl64 O O)<|kL<|D 0 sz64 O<|zA<|zU _ (Weak.mem [true,false,true] O)<|zG<|fin1 (zY zNt O (J 0 O) O) ?_
 exact s5
theorem zJa (l:Lf):
    Pur cfg 138 [vLin l] (vE (posX l)):=by
 refine zW Tryz.func138 O Tryz.ntmps138 Tryz.results138 O ?_
 intro z hz
 refine Y O<|zZ O O (qO O O) ?_
 rintro _ _ ⟨b1,rfl,rfl⟩
 refine zZ O O (qF [none,none,none,none,none,none,none,none,none,none,some 2,some 4,some 13] O zr62 O) ?_
 rintro _ _ ⟨b2,rfl,rfl⟩
 refine zA<|Y O<|yY [none,none,none,none,none,none,none,none,none,none,some 2,some 4,some 13] O zr62 pl62<|zM kE (J 1 O) O<|yY [none,none,none,none,none,none,none,none,none,none,none,some 4,some 13] O zr62 pl62<|zR O (qS O el60 zr62 O O O O)<|yY [none,none,none,none,none,none,none,none,none,none,some 2,some 4,none] O zr62 pl62<|D 0 sz62 O<|zA<|zG<|fin1 (zY kD O (J 0 O) O) ?_
 exact O
theorem mk_reduce (b:Nat) (d:Df) (dims red:List Bd) (body:Ex) (hrl:red.length<=1000000) (hbw:body.wt<=1000000) (hbr:body.allF Lf.rng):
    Con cfg 77 [vPt b] [E.row b 80 (mkC d dims red body (ixT dims))] fun r μ'=>r=.tup [vSts (outL (redT d (ixT dims) red body)),vI (errL (redT d (ixT dims) red body))]/\μ'=[E.row b 80 (mkC d dims red body (ixT dims))]:=by
 refine Con.drop<|zW Tryz.func77 O Tryz.ntmps77 Tryz.results77 O ?_
 intro z hz
 refine Y O<|qT 20 O<|G O<|zA<|zH<|zH<|yP 16 1 [⟨0,.q []⟩,⟨1,.q []⟩,⟨2,.q []⟩,⟨3,.q []⟩,⟨4,.q [1]⟩,⟨5,.q []⟩,⟨6,.q []⟩,⟨7,.q []⟩,⟨8,.q []⟩,⟨9,.q [1]⟩,⟨10,.q []⟩,⟨11,.q []⟩,⟨12,.q []⟩,⟨13,.q []⟩,⟨14,.e 0 []⟩,⟨15,.e 0 []⟩] mixed (by kernel_rfl) (by kernel_rfl) O O O<|zO O<|zO O<|zO O<|zO O<|zO O<|zO O<|zO O<|zO O<|zO O<|zO O<|zO O<|zO O<|zO O<|zO O<|zO O<|zO O<|wR<|zX O (by decide) O O (zS O O)<|zX O (by decide) O O (qG O O)<|zX O (by decide) O O (zJ O zDg O)<|zX O (by decide) O O (zJ O fd70_4 O)<|zX O (by decide) O O (zK O one3 O (J 0 O) O)<|zX O (by decide) O O (zS O O)<|zX O (by decide) O O (qG O O)<|zX O (by decide) O O (zJ O zDg O)<|zX O (by decide) O O (zJ O fd70_1 O)<|zX O (by decide) O O (qA O qZ O (J 0 O) O)<|zX O (by decide) O O (qR O ok139 (value_Identity d.Fold d.T) ⟨zB,O,zB,O,T⟩)<|zX O (by decide) O O (yR O O)<|zX O (by decide) O O (yA O O O)<|zX O (by decide) O O (kR O O O)<|zIu O O (by decide) O O (qX O zr54) ?_
 rintro _ _ ⟨b1,rfl,rfl⟩
 refine ⟨_,O,?_⟩
 refine zDr O O (by decide) O O (yT O sz54 O O O (zCx 0 O O)) ?_
 rintro _ _ ⟨rfl,rfl⟩
 refine ⟨_,O,?_⟩
 refine wQ O<|G O<|zA<|Y O<|G O<|zA<|zE O (fun c1=>?_) (fun c1=>?_)
 ·try simp only [sx] at c1
  have hD:=red_id (at_:=ixT dims) (red:=red) (body:=body) c1
  refine zH<|yP 10 1 [⟨0,.q []⟩,⟨1,.q []⟩,⟨2,.q []⟩,⟨3,.q []⟩,⟨4,.q []⟩,⟨5,.q [2]⟩,⟨6,.q [1]⟩,⟨7,.q []⟩,⟨8,.q [2]⟩,⟨9,.f 0⟩] mixed (by kernel_rfl) (by kernel_rfl) O O O<|zO O<|zO O<|zO O<|zO O<|zO O<|zO O<|zO O<|zO O<|zO O<|zKt O O (zAh (qF [none,none,none,none,none,some 4,none,none,none,none,none,none,none,none,none,none,some 2,some 4,some 13,some 20] O zr64 O)) ⟨_,_,0,O,O⟩<|wR<|zX O (by decide) O O (zS O O)<|zX O (by decide) O O (zS O O)<|zX O (by decide) O O (qG O O)<|zX O (by decide) O O (zJ O zDg O)<|zX O (by decide) O O (zJ O fd70_1 O)<|zX O (by decide) O O (qA O qZ O (J 0 O) O)<|zX O (by decide) O O (qA O zGk O (J 0 O) O)<|zX O (by decide) O O (zCr [none,none,none,none,none,none,none,none,none,none,some 2,some 4,some 13] O zr62 pl62 O O)<|zX O (by decide) O O (qY [0] O ok75 (mk_set b d dims red body (.mk 1 (bs []) (idT d.Fold d.T).1 d.T ⟨0,[]⟩ [] [])) ⟨zB,O,zB,O,T⟩ O)<|zKa O O ?_
  rintro _ _ ⟨b2,rfl,rfl⟩
  refine wQ O<|D 0 sz64 O<|zA<|zH<|yP 19 1 [⟨0,.q [1]⟩,⟨2,.q []⟩,⟨3,.q []⟩,⟨4,.q []⟩,⟨5,.q [3]⟩,⟨6,.q []⟩,⟨7,.q []⟩,⟨8,.q []⟩,⟨9,.q []⟩,⟨10,.q []⟩,⟨11,.q [3]⟩,⟨12,.q []⟩,⟨13,.q []⟩,⟨14,.q []⟩,⟨15,.q [3]⟩,⟨16,.q [3]⟩,⟨17,.q []⟩,⟨18,.q []⟩,⟨1,.e 0 []⟩] mixed (by kernel_rfl) (by kernel_rfl) O O O<|zO O<|zO O<|zO O<|zO O<|zO O<|zO O<|zO O<|zO O<|zO O<|zO O<|zO O<|zO O<|zO O<|zO O<|zO O<|zO O<|zO O<|zO O<|zO O<|wR<|zX O (by decide) O O (qA O zNt O (J 0 O) O)<|zX O (by decide) O O (zS O O)<|zX O (by decide) O O (qG O O)<|zX O (by decide) O O (zJ O fd80_2 O)<|zX O (by decide) O O (zK O one31 O (J 0 O) O)<|zX O (by decide) O O (zS O O)<|zX O (by decide) O O (zS O O)<|zX O (by decide) O O (qG O O)<|zX O (by decide) O O (zJ O zDg O)<|zX O (by decide) O O (zJ O fd70_4 O)<|zX O (by decide) O O (zK O one3 O (J 0 O) O)<|zX O (by decide) O O (zS O O)<|zX O (by decide) O O (qG O O)<|zX O (by decide) O O (zJ O fd80_3 O)<|zX O (by decide) O O (qA O kD O (J 0 O) O)<|zX O (by decide) O O (qY [0] O ok137 (mk_fold b d dims red body d.Fold body) ⟨zB,O,zB,O,zB,O,T⟩ O)<|zX O (by decide) O O (qS O L zr64 O O O O)<|zX O (by decide) O O (qR O ok74 (zDw red [lFld d (ixT dims) d.Fold body] (by omega)) ⟨zB,O,VLe.of_eq (one_rows _),O,T⟩)<|zIu O O (by decide) O O (zBv O L zr64 O O O O) ?_
  rintro _ _ ⟨sv3,rfl,rfl⟩
  refine ⟨_,O,?_⟩
  refine wQ O<|zZ O O (yH 0 O L O O O (by have:=zKo red [lFld d (ixT dims) d.Fold body];simp only [List.length_map,List.length_append,List.length_cons,List.length_nil] at this⊢;omega) (by have:=zKo red [lFld d (ixT dims) d.Fold body];simp only [List.length_map,List.length_append,List.length_cons,List.length_nil] at this⊢;omega)) ?_
  rintro _ _ ⟨sv4,rfl,rfl⟩
  refine G O<|G O<|zA<|zU _ (yJ 0 O (regs':=[(2,_),(57,_)]) (μ':=[_,_,_]) ⟨FLe.sl,FLe.sl,T⟩ ⟨EFle.refl _,EFle.refl _,EFle.refl _,T⟩)<|zU _ (Weak.mem [false,false,true] O)<|zG<|fin2 (N O) (N O) ?_
  exact m7
 ·try simp only [sx] at c1
  refine zF<|Y O<|G O<|zN O<|zD O fd80_3<|zM kD (J 1 O) O<|yY [none,some 2] O W pl59<|zZ O O (qF [none,none,none,none,none,none,none,none,none,none,some 2,some 4,some 13] O zr62 O) ?_
  rintro _ _ ⟨b5,rfl,rfl⟩
  refine zZ O O (qF [none,some 2] O W O) ?_
  rintro _ _ ⟨b6,rfl,rfl⟩
  refine D 1 sz62 O<|D 0 sz59 O<|zA<|zH<|Y O<|G O<|zN O<|zD O fd80_2<|zI one31 (J 3 O) O<|qB O el31<|G O<|zA<|zT<|zU ⟨[(68,.c _),(0,.c _),(7,.c _),(8,.c _),(66,.c _),(67,.c _)],[_,_,_]⟩ (Weak.mk [true,true,false,true] ⟨zB,zB,zB,zB,zB,zB,T⟩ O)<|qJ 1 2 O O (Nat×Ex×Lf) (fun ⟨k,e,s⟩=>[(68,vI k)]) (fun ⟨k,e,s⟩=>[E.row b6 59 s.cells,E.row b5 62 e.cs]) (fun ⟨k,e,s⟩=>k<=red.length/\(SbJ (fun _:ByteArray=>(⟨0,[]⟩:Lf)) (red.map Bd.Name) body k e)/\(SmJ red k s)) (fun ⟨k,e,s⟩=>red.length-k) ⟨⟨0,body,⟨0,[]⟩⟩,⟨by omega,sbJ_first hbr,smJ_first red⟩,Weak.mk [true,true,true] ⟨zB,zB,zB,zB,zB,zB,T⟩ O⟩ ?_
  rintro ⟨k,e,s⟩ ⟨hk,hs1,hs2⟩
  show AWP _ _ _ _ _ ⟨[(68,vI k)]++_,[E.row b6 59 s.cells,E.row b5 62 e.cs]++_⟩
  refine Y O<|yB O<|zA<|zH<|zE O (fun c2=>?_) (fun c2=>?_)
  ·try simp only [sx] at c2
   obtain ⟨x,hx⟩:=yD red k (by omega)
   refine zF<|zH<|zT<|Y O<|qD O el31 (by omega) (getm hx)<|zM agg50 qH O<|zZ O O (qX O zr50) ?_
   rintro _ _ ⟨b7,rfl,rfl⟩
   refine D 0 sz50 O<|zA<|Y O<|zM kD (J 2 O) O<|zD O zPy<|zI one9 (J 0 O) O<|yY [none,some 2] O W pl59<|qK O ok27 (zId e x.Name ⟨0,[]⟩ (by have:=hs1.wt;omega) hs1.rg (Nat.zero_le _) (smJ_first []).rg) ⟨zB,O,zB,O,zB,O,T⟩<|qV O<|zR O (yA O O O)<|yI O<|zZ O O (qF [none,none,none,none,none,none,none,none,none,none,some 2,some 4,some 13] O zr62 O) ?_
   rintro _ _ ⟨b8,rfl,rfl⟩
   refine D 0 sz62 O<|G O<|zA<|zH<|Y O<|G O<|yM O<|zA<|zE O (fun c3=>?_) (fun c3=>?_)
   ·try simp only [sx] at c3
    have hD:=red_e (at_:=ixT dims) c1 (sbJ_err (u:=(fun _:ByteArray=>(⟨0,[]⟩:Lf))) hs1 (map_get hx) c3)
    refine Y O<|G O<|qT 20 O<|G O<|zA<|zU _ (Weak.mem [false,false,false,false,true] O)<|zG<|fin2 (N O) (N O) ?_
    rw [hD]
    exact s5
   ·try simp only [sx] at c3
    refine zF<|Y O<|zM kD (J 0 O) O<|D 3 sz62 O<|zA<|yP 9 0 [⟨0,.q [2]⟩,⟨1,.q []⟩,⟨2,.q [1]⟩,⟨3,.q []⟩,⟨4,.q []⟩,⟨5,.q []⟩,⟨6,.q []⟩,⟨7,.q []⟩,⟨8,.e 2 []⟩] mixed (by kernel_rfl) (by kernel_rfl) O O O<|zO O<|zO O<|zO O<|zO O<|zO O<|zO O<|zO O<|zO O<|zO O<|wR<|zX O (by decide) O O (qA O kE O (J 0 O) O)<|zX O (by decide) O O (zJ O zPy O)<|zX O (by decide) O O (zK O one9 O (J 0 O) O)<|zX O (by decide) O O (qR O ok31 (lin_Var x.Name) ⟨zB,O,T⟩)<|zX O (by decide) O O (qR O ok132 (lin_Add s (varL x.Name) (by have:=hs2.ln;omega) (by have:=varL_len x.Name;omega) hs2.rg (varL_rng _)) ⟨zB,O,zB,O,T⟩)<|zX O (by decide) O O (yR O O)<|zX O (by decide) O O (yA O O O)<|zX O (by decide) O O (kR O O O)<|zDr O O (by decide) O O (yT O sz59 O O O (zCx 0 O O)) ?_
    rintro _ _ ⟨rfl,rfl⟩
    refine ⟨_,O,?_⟩
    refine wQ O<|zA<|zP O<|qM O ⟨by omega,by omega⟩<|G O<|zA ?_
    refine ⟨⟨k+1,outE (mEx (fun l=>substP l x.Name ⟨0,[]⟩) e),(addL s (varL x.Name)).1⟩,⟨by omega,sbJ_next (u:=(fun _:ByteArray=>(⟨0,[]⟩:Lf))) (fun _=>O) hs1 (map_get hx) c3,smJ_next hs2 hx⟩,(by show red.length-(k+1)<red.length-k;omega),Weak.mk [false,false,true,true,true] ⟨zB,zB,zB,zB,zB,zB,T⟩ O⟩
  ·try simp only [sx] at c2
   have hD:=red_ok (at_:=ixT dims) c1 (sbJ_end hs1 (by rw [List.length_map];omega)) (smJ_end hs2 (by omega))
   refine qP<|zH<|yP 16 1 [⟨0,.q [1]⟩,⟨1,.q []⟩,⟨2,.q []⟩,⟨3,.q []⟩,⟨4,.q []⟩,⟨5,.q []⟩,⟨6,.q []⟩,⟨7,.q [3]⟩,⟨8,.q []⟩,⟨9,.q []⟩,⟨10,.q []⟩,⟨11,.q [3]⟩,⟨12,.q [3]⟩,⟨13,.q []⟩,⟨14,.q []⟩,⟨15,.f 0⟩] mixed (by kernel_rfl) (by kernel_rfl) O O O<|zO O<|zO O<|zO O<|zO O<|zO O<|zO O<|zO O<|zO O<|zO O<|zO O<|zO O<|zO O<|zO O<|zO O<|zO O<|zKt O O (zAh (qF [none,none,none,none,none,some 4,none,none,none,none,none,none,none,none,none,none,some 2,some 4,some 13,some 20] O zr64 O)) ⟨_,_,0,O,O⟩<|wR<|zX O (by decide) O O (qA O kE O (J 0 O) O)<|zX O (by decide) O O (qR O ok138 (zJa s) ⟨zB,O,T⟩)<|zX O (by decide) O O (zS O O)<|zX O (by decide) O O (zS O O)<|zX O (by decide) O O (qG O O)<|zX O (by decide) O O (zJ O zDg O)<|zX O (by decide) O O (zJ O fd70_4 O)<|zX O (by decide) O O (zK O one3 O (J 0 O) O)<|zX O (by decide) O O (zS O O)<|zX O (by decide) O O (qG O O)<|zX O (by decide) O O (zJ O fd80_3 O)<|zX O (by decide) O O (qA O kD O (J 0 O) O)<|zX O (by decide) O O (qY [0] O ok137 (mk_fold b d dims red body d.Fold body) ⟨zB,O,zB,O,zB,O,T⟩ O)<|zX O (by decide) O O (qS O L zr64 O O O O)<|zX O (by decide) O O (zCr [none,none,none,none,none,some 4,none,none,none,none,none,none,none,none,none,none,none,none,none,none] O zr64 pl64 O O)<|zKa O O ?_
   rintro _ _ ⟨b9,rfl,rfl⟩
   refine wQ O<|D 0 sz64 O<|zA<|zH<|yP 11 1 [⟨0,.q []⟩,⟨1,.q [3]⟩,⟨2,.q [4]⟩,⟨4,.q []⟩,⟨5,.q []⟩,⟨6,.q []⟩,⟨7,.q [4]⟩,⟨8,.q [1]⟩,⟨9,.q []⟩,⟨10,.q []⟩,⟨3,.e 0 []⟩] mixed (by kernel_rfl) (by kernel_rfl) O O O<|zO O<|zO O<|zO O<|zO O<|zO O<|zO O<|zO O<|zO O<|zO O<|zO O<|zO O<|wR<|zX O (by decide) O O (zS O O)<|zX O (by decide) O O (qA O kD O (J 0 O) O)<|zX O (by decide) O O (qY [0] O ok75 (mk_set b d dims red body e) ⟨zB,O,zB,O,T⟩ O)<|zX O (by decide) O O (zS O O)<|zX O (by decide) O O (qG O O)<|zX O (by decide) O O (zJ O fd80_2 O)<|zX O (by decide) O O (zK O one31 O (J 0 O) O)<|zX O (by decide) O O (qA O zNt O (J 0 O) O)<|zX O (by decide) O O (qS O L zr64 O O O O)<|zX O (by decide) O O (qR O ok74 (zDw red [lIf (posX s) [lFld d (ixT dims) d.Fold body]] (by omega)) ⟨zB,O,VLe.of_eq (if_rows _ _),O,T⟩)<|zIu O O (by decide) O O (zBv O L zr64 O O O O) ?_
   rintro _ _ ⟨sv10,rfl,rfl⟩
   refine ⟨_,O,?_⟩
   refine wQ O<|zZ O O (yH 0 O L O O O (by have:=zKo red [lIf (posX s) [lFld d (ixT dims) d.Fold body]];simp only [List.length_map,List.length_append,List.length_cons,List.length_nil] at this⊢;omega) (by have:=zKo red [lIf (posX s) [lFld d (ixT dims) d.Fold body]];simp only [List.length_map,List.length_append,List.length_cons,List.length_nil] at this⊢;omega)) ?_
   rintro _ _ ⟨sv11,rfl,rfl⟩
   refine G O<|G O<|zA<|zU _ (yJ 0 O (regs':=[(119,_),(2,_)]) (μ':=[_,_,_,_]) ⟨FLe.sl,FLe.sl,T⟩ ⟨EFle.refl _,EFle.refl _,EFle.refl _,EFle.refl _,T⟩)<|zU _ (Weak.mem [false,false,false,true] O)<|zG<|fin2 (N O) (N O) ?_
   exact m7
theorem mk_scan (b:Nat) (d:Df) (dims red:List Bd) (body:Ex) (hdl:dims.length<=1000000) (hd0:0<dims.length):
    Con cfg 76 [vPt b] [E.row b 80 (mkC d dims red body (ixT dims))] fun r μ'=>r=vSts (scnT d (ixT dims) body)/\μ'=[E.row b 80 (mkC d dims red body (ixT dims))]:=by
 refine Con.drop<|zW Tryz.func76 O Tryz.ntmps76 Tryz.results76 O ?_
 intro z hz
 obtain ⟨x,hx⟩:=yD dims (dims.length-1) (by omega)
 have hix:=ix_at hx
 have hil:(ixT dims).length=dims.length:=by unfold ixT;rw [List.length_map]
 refine Y O<|qT 20 O<|zA<|Y O<|G O<|zN O<|zD O zNi<|zI zBr (J 0 O) O<|qB O el52<|zR O (yO O O O ⟨by omega,by omega⟩)<|G O<|zA<|Y O<|G O<|zN O<|zD O zNi<|zI zBr (J 0 O) O<|yK _ (kI 93 4)<|zZ O O (yH 0 O el52 O O O (by simp only [List.length_map,List.length_append,List.length_cons,List.length_nil,List.length_take,List.length_drop];omega) (by simp only [List.length_map,List.length_append,List.length_cons,List.length_nil,List.length_take,List.length_drop];omega)) ?_
 rintro _ _ ⟨sv1,rfl,rfl⟩
 refine G O<|zA<|zH<|yP 18 0 [⟨0,.q []⟩,⟨1,.q []⟩,⟨2,.q []⟩,⟨3,.q []⟩,⟨4,.q []⟩,⟨5,.q [1]⟩,⟨6,.q []⟩,⟨7,.q []⟩,⟨8,.q []⟩,⟨9,.q []⟩,⟨10,.q []⟩,⟨11,.q []⟩,⟨12,.q []⟩,⟨13,.q []⟩,⟨14,.q []⟩,⟨15,.q [0]⟩,⟨16,.q []⟩,⟨17,.e 0 []⟩] mixed (by kernel_rfl) (by kernel_rfl) O O O<|zO O<|zO O<|zO O<|zO O<|zO O<|zO O<|zO O<|zO O<|zO O<|zO O<|zO O<|zO O<|zO O<|zO O<|zO O<|zO O<|zO O<|zO O<|wR<|zX O (by decide) O O (zS O O)<|zX O (by decide) O O (zS O O)<|zX O (by decide) O O (zS O O)<|zX O (by decide) O O (qG O O)<|zX O (by decide) O O (zJ O zNi O)<|zX O (by decide) O O (zK O zBr O (J 0 O) O)<|zX O (by decide) O O (zS O O)<|zX O (by decide) O O (qU O el52 O O (by omega) (last_get hix))<|zX O (by decide) O O (qI O zEl O)<|zX O (by decide) O O (qA O kE O qH O)<|zX O (by decide) O O (qR O ok28 (lin_Const (-1)) ⟨zB,O,T⟩)<|zX O (by decide) O O (qR O ok132 (lin_Add (varL x.Name) ⟨-1,[]⟩ (by have:=varL_len x.Name;omega) (by decide) (varL_rng _) m1_rng) ⟨zB,O,zB,O,T⟩)<|zX O (by decide) O O (yR O O)<|zX O (by decide) O O (yA O O O)<|zX O (by decide) O O (kR O O O)<|zX O (by decide) O O (qL 0 O el52 O O O (by omega) (by simp only [List.nil_append,List.length_map];omega))<|zX O (by decide) O O (kK O zEl O)<|zDr O O (by decide) O O (yT O sz59 O O O (zDf 0 O (last_get hix) O)) ?_
 rintro _ _ ⟨rfl,rfl⟩
 refine ⟨_,O,?_⟩
 refine wQ O<|zA<|Y O<|rwp_show (μ':=[E.vec sv1 93 4 (((ixT dims).set ((ixT dims).length-1) ⟨(addL (varL x.Name) ⟨-1,[]⟩).1,bs [],[]⟩).map Ix.cells),E.row b 80 (mkC d dims red body (ixT dims))]) (by rw [←scn_rows];rfl)<|yK _ (yJ 0 O (regs':=[(16,_),(4,_),(18,_)]) (μ':=[_]) ⟨FLe.sl,FLe.sl,FLe.sl,T⟩ ⟨EFle.refl _,T⟩)<|G O<|G O<|zN O<|zD O zDg<|zD O zHw<|zI one9 (J 0 O) O<|G O<|yY [none,none,none,none,none,none,none,none,none,none,some 2,none,some 13] O zr62 pl62<|zR O (qY [0] O ok137 (mk_fold b d dims red body 1 (.mk 3 d.Name ⟨0,0⟩ zTy ⟨0,[]⟩ ((ixT dims).set ((ixT dims).length-1) ⟨(addL (varL x.Name) ⟨-1,[]⟩).1,bs [],[]⟩) [])) ⟨zB,O,zB,O,zB,O,T⟩ O)<|zZ O O (qF [none,none,none,none,none,some 4,none,none,none,none,none,none,none,none,none,none,some 2,some 4,some 13,some 20] O zr64 O) ?_
 rintro _ _ ⟨b2,rfl,rfl⟩
 refine D 0 sz64 O<|zA<|zH<|yP 17 0 [⟨0,.q []⟩,⟨1,.q []⟩,⟨2,.q []⟩,⟨3,.q []⟩,⟨4,.q [1]⟩,⟨5,.q [1]⟩,⟨6,.q []⟩,⟨7,.q []⟩,⟨8,.q []⟩,⟨9,.q [1]⟩,⟨10,.q []⟩,⟨11,.q []⟩,⟨12,.q []⟩,⟨13,.q []⟩,⟨14,.q []⟩,⟨15,.q [0]⟩,⟨16,.q []⟩] mixed (by kernel_rfl) (by kernel_rfl) O O O<|zO O<|zO O<|zO O<|zO O<|zO O<|zO O<|zO O<|zO O<|zO O<|zO O<|zO O<|zO O<|zO O<|zO O<|zO O<|zO O<|zO O<|wR<|zX O (by decide) O O (zS O O)<|zX O (by decide) O O (zS O O)<|zX O (by decide) O O (qG O O)<|zX O (by decide) O O (zJ O fd80_3 O)<|zX O (by decide) O O (qA O kD O (J 0 O) O)<|zX O (by decide) O O (qY [0] O ok75 (mk_set b d dims red body body) ⟨zB,O,zB,O,T⟩ O)<|zX O (by decide) O O (zS O O)<|zX O (by decide) O O (qG O O)<|zX O (by decide) O O (zJ O zNi O)<|zX O (by decide) O O (zK O zBr O (J 0 O) O)<|zX O (by decide) O O (zS O O)<|zX O (by decide) O O (qU O el52 O O (by omega) (last_get hix))<|zX O (by decide) O O (qI O zEl O)<|zX O (by decide) O O (qA O kE O qH O)<|zX O (by decide) O O (qR O ok138 (zJa (varL x.Name)) ⟨zB,O,T⟩)<|zX O (by decide) O O (qA O zNt O (J 0 O) O)<|zX O (by decide) O O (qS O L zr64 O O O O)<|wQ O<|yY [none,none,none,none,none,some 4,none,none,none,none,none,none,none,none,none,none,none,none,none,none] O zr64 pl64<|zR O (qS O L zr64 O O O O)<|G O<|zA<|zU _ (Weak.mem [false,true] O)<|zG<|zV O ?_
 rw [scn_is hix]
 first|exact ⟨zIj _ _ _,[],rfl⟩|exact ⟨zIj _ _ _,[_],rfl⟩|exact ⟨zIj _ _ _,[_,_],rfl⟩|exact ⟨zIj _ _ _,[_,_,_],rfl⟩|exact ⟨zIj _ _ _,[_,_,_,_],rfl⟩|exact ⟨zIj _ _ _,[_,_,_,_,_],rfl⟩
end Go.W
end
section
set_option maxRecDepth 10000
namespace Go.W
open Go Go.Eng Go.Proofs Go.L41 Go.Br
attribute [local irreducible] AWP RWP TD finQ
theorem fd80_1:fieldT Tryz.prog 80 1=some (22,31):=by kernel_rfl
theorem ok8:callOk Tryz.prog 8=true:=by kernel_rfl
theorem ok76:callOk Tryz.prog 76=true:=by kernel_rfl
theorem ok77:callOk Tryz.prog 77=true:=by kernel_rfl
theorem sm83:smapT Tryz.prog 83=some (Value.string (ByteArray.mk #[])):=by kernel_rfl
theorem zPj (mb:Nat) (d:ByteArray) (l:List Ax) (ext:List Int) (m:SmM) (hd:d.size<=100000) (hl:l.length<=1000000) (hs:∀x,x∈l->x.Name.size<=100000) (hel:ext.length=l.length):
    Con cfg 26 [vS d,.c (.sl 3 (l.map Ax.cells)),vIs ext,.c (.lit (.map (some mb)))] [E.blk mb (MapR vS m)] fun r μ'=>r=.tup [vBds (nmdB d l ext),vI (nmdE d l)]/\μ'=[E.blk mb (MapR vS (nmdM d l m))]:=by
 refine Con.drop<|zW Tryz.func26 O Tryz.ntmps26 Tryz.results26 O ?_
 intro z hz
 refine Y O<|qT 2 O<|G O<|zA<|Y O<|G O<|yK _ (kI 50 2)<|zA<|zH<|Y O<|G O<|qB O el68<|G O<|zA<|zT<|zU ⟨[(16,.c _),(10,.c _),(0,.c _),(2,.c _),(3,.c _),(14,.c _),(15,.c _)],[_,_]⟩ (Weak.mk [true,true] ⟨zB,zB,zB,zB,zB,zB,zB,T⟩ O)<|qJ 2 2 O O (Nat×Value×SmM) (fun ⟨k,sv,q⟩=>[(16,vI k),(10,.c (.lit sv))]) (fun ⟨k,sv,q⟩=>[E.vec sv 50 2 ((nmdL d (l.take k) ext).map Bd.cells),E.blk mb (MapR vS q)]) (fun ⟨k,sv,q⟩=>k<=l.length/\((l.take k).any (fun x=>decide (lnT d x.Name=bs []))=false)/\(nmdM d l m=nmdM d (l.drop k) q)) (fun ⟨k,sv,q⟩=>l.length-k) ⟨⟨0,(.slice none 0 0),m⟩,⟨by omega,O,O⟩,Weak.mk [true,true] ⟨zB,zB,zB,zB,zB,zB,zB,T⟩ O⟩ ?_
 rintro ⟨k,sv,q⟩ ⟨hk,hp,hq⟩
 show AWP _ _ _ _ _ ⟨[(16,vI k),(10,.c (.lit sv))]++_,[E.vec sv 50 2 ((nmdL d (l.take k) ext).map Bd.cells),E.blk mb (MapR vS q)]++_⟩
 refine Y O<|yB O<|zA<|zH<|zE O (fun c1=>?_) (fun c1=>?_)
 ·try simp only [sx] at c1
  obtain ⟨x,hx⟩:=yD l k (by omega)
  obtain ⟨n,hn⟩:=yD ext k (by omega)
  refine zF<|zH<|zT<|Y O<|G O<|qD O el68 (by omega) (getm hx)<|zM agg99 qH O<|zZ O O (qF [none,none,some 2] O zr99 O) ?_
  rintro _ _ ⟨b2,rfl,rfl⟩
  refine G O<|D 0 sz99 O<|zA<|Y O<|G O<|zD O zPv<|zI one9 (J 0 O) O<|qK O ok8 (zEw d x.Name hd (hs x (qC hx))) ⟨zB,O,zB,O,T⟩<|G O<|zA<|zH<|Y O<|G O<|kY O<|zA<|zE O (fun c2=>?_) (fun c2=>?_)
  ·try simp only [sx] at c2
   have hE:=nmd_stop hx c2
   have hM:=nmdM_stop hx hq c2
   refine Y O<|qT 2 O<|G O<|zA<|zU _ (Weak.mem [false,false,true] O)<|zG<|fin2 (N O) (N O) ?_
   rw [nmdB_no hE,hE,hM]
   exact s5
  ·try simp only [sx] at c2
   refine zF<|Y O<|G O<|zD O zPv<|zI one9 (J 0 O) O<|G O<|zAj O O (zFl 2 (lnT d x.Name) O sm83 O O O (zB) O)<|zA<|zP O<|G O<|G O<|G O<|G O<|qD O el46 (by omega) (getm hn)<|zI one3 qH O<|yF O zr50 pl50<|zR O (qS O el31 zr50 O O O O)<|zZ O O (yH 1 O el31 O O O (by simp [nmdL];omega) (by simp [nmdL];omega)) ?_
   rintro _ _ ⟨sv3,rfl,rfl⟩
   refine G O<|zA<|zP O<|qM O ⟨by omega,by omega⟩<|G O<|zA ?_
   refine ⟨⟨k+1,sv3,mput q x.Name (lnT d x.Name)⟩,⟨by omega,nmd_go hx hp c2,nmdM_next hx hq c2⟩,(by show l.length-(k+1)<l.length-k;omega),Weak.mk [false,true,true] ⟨zB,zB,zB,zB,zB,zB,zB,T⟩ (by show _=[E.vec sv3 _ 2 ((nmdL d (l.take (k+1)) ext).map Bd.cells),E.blk mb (MapR vS (mput q x.Name (lnT d x.Name)))]++_;rw [nmdL_next hx hn,List.map_append];rfl)⟩
 ·try simp only [sx] at c1
  rw [yC (l:=l) (k:=k) (by omega)]
  rw [yC (l:=l) (k:=k) (by omega)] at hp
  have hE:=nmd_end hp
  have hM:=nmdM_end hq (show l.length<=k by omega)
  refine zU _ (yJ 0 O (regs':=[(10,_)]) (μ':=[_]) ⟨FLe.sl,T⟩ ⟨EFle.refl _,T⟩)<|qP<|Y O<|G O<|G O<|G O<|zA<|zG<|fin2 (N O) (N O) ?_
  rw [nmdB_ok hE,hE,hM]
  exact s5
theorem mk_statements (b:Nat) (d:Df) (dims red:List Bd) (body:Ex) (hdl:dims.length<=1000000) (hrl:red.length<=1000000) (hbw:body.wt<=1000000) (hbr:body.allF Lf.rng) (h5:d.Fold=5->0<dims.length):
    Con cfg 32 [vPt b] [E.row b 80 (mkC d dims red body (ixT dims))] fun r μ'=>r=.tup [vSts (outL (stT d dims red body)),vI (errL (stT d dims red body))]/\μ'=[E.row b 80 (mkC d dims red body (ixT dims))]:=by
 refine Con.drop<|zW Tryz.func32 O Tryz.ntmps32 Tryz.results32 O ?_
 intro z hz
 refine Y O<|qT 20 O<|G O<|zA<|zH<|Y O<|G O<|zN O<|zD O zDg<|zD O fd70_4<|zI one3 (J 0 O) O<|zA<|zT<|Y O<|yX O<|G O<|zA<|zE O (fun c1=>?_) (fun c1=>?_)
 ·try simp only [sx] at c1
  have hD:=st_ok (inn_0 (at_:=ixT dims) (red:=red) (body:=body) c1)
  refine zH<|yP 11 0 [⟨0,.q []⟩,⟨1,.q []⟩,⟨2,.q []⟩,⟨3,.q [0]⟩,⟨4,.q []⟩,⟨5,.q []⟩,⟨6,.q []⟩,⟨7,.q []⟩,⟨8,.q [0]⟩,⟨9,.q [0]⟩,⟨10,.q []⟩] mixed (by kernel_rfl) (by kernel_rfl) O O O<|zO O<|zO O<|zO O<|zO O<|zO O<|zO O<|zO O<|zO O<|zO O<|zO O<|zO O<|wR<|zX O (by decide) O O (zS O O)<|zX O (by decide) O O (qG O O)<|zX O (by decide) O O (zJ O fd80_1 O)<|zX O (by decide) O O (zK O one31 O (J 0 O) O)<|zX O (by decide) O O (zS O O)<|zX O (by decide) O O (zS O O)<|zX O (by decide) O O (qG O O)<|zX O (by decide) O O (zJ O fd80_3 O)<|zX O (by decide) O O (qA O kD O (J 0 O) O)<|zX O (by decide) O O (qY [0] O ok75 (mk_set b d dims red body body) ⟨zB,O,zB,O,T⟩ O)<|zX O (by decide) O O (qS O L zr64 O O O O)<|wQ O<|qK O ok74 (zDw dims [lSet d (ixT dims) body] (by omega)) ⟨zB,O,VLe.of_eq (one_rows _),O,T⟩<|G O<|G O<|zA<|zG<|fin2 (N O) (N O) ?_
  rw [hD]
  exact s5
 ·try simp only [sx] at c1
  refine Y O<|yX O<|G O<|zA<|zE O (fun c2=>?_) (fun c2=>?_)
  ·try simp only [sx] at c2
   have hD:=st_ok (inn_5 (at_:=ixT dims) (red:=red) (body:=body) c2)
   refine zH<|yP 6 0 [⟨0,.q []⟩,⟨1,.q []⟩,⟨2,.q []⟩,⟨3,.q [0]⟩,⟨4,.q []⟩,⟨5,.q [0]⟩] mixed (by kernel_rfl) (by kernel_rfl) O O O<|zO O<|zO O<|zO O<|zO O<|zO O<|zO O<|wR<|zX O (by decide) O O (zS O O)<|zX O (by decide) O O (qG O O)<|zX O (by decide) O O (zJ O fd80_1 O)<|zX O (by decide) O O (zK O one31 O (J 0 O) O)<|zX O (by decide) O O (zS O O)<|zX O (by decide) O O (qY [0] O ok76 (mk_scan b d dims red body hdl (h5 c2)) ⟨zB,O,T⟩ O)<|wQ O<|qK O ok74 (zDw dims (scnT d (ixT dims) body) (by omega)) ⟨zB,O,zB,O,T⟩<|G O<|G O<|zA<|zG<|fin2 (N O) (N O) ?_
   rw [hD]
   exact s5
  ·try simp only [sx] at c2
   have hI:=inn_r (at_:=ixT dims) (red:=red) (body:=body) c1 c2
   refine zF<|Y O<|G O<|zR O (qY [0] O ok77 (mk_reduce b d dims red body hrl hbw hbr) ⟨zB,O,T⟩ O)<|qV O<|yI O<|yI O<|G O<|G O<|zA<|zH<|Y O<|G O<|yM O<|zA<|zE O (fun c3=>?_) (fun c3=>?_)
   ·try simp only [sx] at c3
    obtain ⟨x,hx⟩:=errL_er c3
    have hD:=st_e (hI.trans hx)
    rw [hx]
    refine Y O<|G O<|qT 20 O<|G O<|zA<|zG<|fin2 (N O) (N O) ?_
    rw [hD]
    exact s5
   ·try simp only [sx] at c3
    obtain ⟨x,hx⟩:=errL_0 (fun x hx=>red_ne hx) c3
    have hD:=st_ok (hI.trans hx)
    rw [hx]
    refine zF<|Y O<|G O<|zN O<|zD O fd80_1<|zI one31 (J 0 O) O<|G O<|qK O ok74 (zDw dims x (by omega)) ⟨zB,O,zB,O,T⟩<|G O<|G O<|zA<|zG<|fin2 (N O) (N O) ?_
    rw [hD]
    exact s5
end Go.W
end
