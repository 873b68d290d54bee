/-
  What functions compute.
  What functions compute.
  What functions compute.
  Conditions: none.
-/
import Derived.Test.YtgfomfnjionbeaaGreatDoorNI
import Derived.Test.YtgfomfnjionbeaaGreatDoorPlainL
import Derived.Test.YtgfomfnjionbeaaGreatDoorEngZ
import Derived.Test.YtgfomfnjionbeaaGreatDoorPlain2
set_option linter.unusedSimpArgs false
set_option linter.unusedVariables false
section
set_option maxRecDepth 10000
namespace Go.W
open Go Go.Eng Go.Proofs Go.L41 Go.Br
attribute [local irreducible] AWP RWP TD fQ
abbrev vPt (b:Nat):V:=.c (.lit (.pointer (some ⟨b,0,none⟩)))
abbrev vBd (x:Bd):V:=.agg x.cells
theorem agg50:mJ Tryz.prog 50=some 2:=by kernel_rfl
theorem fd50_1:bD Tryz.prog 50 1=some (1,2):=by kernel_rfl
theorem fd123_1:bD Tryz.prog 123 1=some (2,4):=by kernel_rfl
theorem yQ:bD Tryz.prog 184 0=some (0,154):=by kernel_rfl
theorem kN:bD Tryz.prog 184 1=some (1,154):=by kernel_rfl
theorem zDq:bD Tryz.prog 184 2=some (2,154):=by kernel_rfl
theorem ok22:bA Tryz.prog 22=true:=by kernel_rfl
theorem ok23:bA Tryz.prog 23=true:=by kernel_rfl
theorem ok63:bA Tryz.prog 63=true:=by kernel_rfl
theorem ok64:bA Tryz.prog 64=true:=by kernel_rfl
theorem ok65:bA Tryz.prog 65=true:=by kernel_rfl
theorem ok66:bA Tryz.prog 66=true:=by kernel_rfl
theorem ok67:bA Tryz.prog 67=true:=by kernel_rfl
theorem ok68:bA Tryz.prog 68=true:=by kernel_rfl
theorem ok120:bA Tryz.prog 120=true:=by kernel_rfl
theorem ok121:bA Tryz.prog 121=true:=by kernel_rfl
theorem ok123:bA Tryz.prog 123=true:=by kernel_rfl
theorem ok125:bA Tryz.prog 125=true:=by kernel_rfl
theorem ok127:bA Tryz.prog 127=true:=by kernel_rfl
theorem ok191:bA Tryz.prog 191=true:=by kernel_rfl
theorem ok192:bA Tryz.prog 192=true:=by kernel_rfl
theorem kC:gB Tryz.prog 154=true:=by kernel_rfl
theorem wW:(Tryz.prog.info? 154).map (·.size)=some 1:=by kernel_rfl
theorem zr184:dO Tryz.prog 184=some [(Value.int IntKind.u64 0),(Value.int IntKind.u64 0),(Value.int IntKind.u64 0)]:=by kernel_rfl
theorem wide_add (b:Nat) (w:W3) (hi lo:Nat) (neg:Bool) (hw:w.ok) (h1:hi<18446744073709551616) (h2:lo<18446744073709551616):
    Con cfg 123 [vPt b,vUn hi,vUn lo,vB neg] [E.row b 184 (w3C w)] fun r μ'=>r=.tup []/\μ'=[E.row b 184 (w3C (w3a w (w3x hi lo neg)))]:=by
 refine zV Tryz.func123 O Tryz.ntmps123 Tryz.results123 O ?_
 intro z hz
 obtain ⟨hwh,hwm,hwl⟩:=hw
 refine Y O<|G O<|zA<|zH<|Y O<|G O<|zA<|zE O (fun c1=>?_) (fun c1=>?_)
 ·try simp only [sx] at c1
  have hx:=w3x_t hi lo c1
  refine Y O<|G O<|zW O (det_unot O O (a:=0) uA)<|G O<|zW O (det_unot O O h1)<|G O<|zW O (det_unot O O h2)<|G O<|G O<|G O<|zA<|Y O<|G O<|zW O (qI O O O )<|G O<|zA<|Y O<|G O<|yJ O<|zA<|zE O (fun c2=>?_) (fun c2=>?_)
  ·try simp only [sx] at c2
   refine Y O<|G O<|zW O (qI O O O )<|G O<|zA<|Y O<|G O<|yJ O<|zA<|zE O (fun c3=>?_) (fun c3=>?_)
   ·try simp only [sx] at c3
    have hx:=hx.trans (w3n_2 c2 c3)
    refine zO O<|G O<|zW O (qI O O O )<|G O<|zA<|Y O<|G O<|zS O<|zD O zDq<|zG kC (J 0 O) O<|G O<|zW O (qI O O O )<|zS O<|zD O zDq<|D 0 wW O<|zA<|Y O<|G O<|zA<|zH<|Y O<|G O<|zS O<|zD O zDq<|zG kC (J 0 O) O<|G O<|yA O<|zA<|zE O (fun c4=>?_) (fun c4=>?_)
    ·exact v38
    ·exact v44
   ·try simp only [sx] at c3
    have hx:=hx.trans (w3n_1 c2 c3)
    exact q8
  ·try simp only [sx] at c2
   have hx:=hx.trans (w3n_0 c2)
   exact q8
 ·try simp only [sx] at c1
  have hx:=w3x_f hi lo c1
  exact q8
theorem wide_narrow (b:Nat) (w:W3) (hw:w.ok):
    Con cfg 127 [vPt b] [E.row b 184 (w3C w)] fun r μ'=>r=.tup [vI (w64 (w.l:Int)),vB (decide ((w.m:Int)=(w3s w.l:Nat))&&decide ((w.h:Int)=(w3s w.l:Nat)))]/\μ'=[E.row b 184 (w3C w)]:=by
 refine zV Tryz.func127 O Tryz.ntmps127 Tryz.results127 O ?_
 intro z hz
 refine Y O<|G O<|G O<|zA<|Y O<|G O<|zS O<|zD O zDq<|zG kC (J 0 O) O<|zW O (zCb O us154 ik2 O)<|G O<|zA<|Y O<|G O<|zW O (det_shrE O O O uA (w3_shr hw.2.2))<|zW O (det_convE O us2 ik154 O (w3_sgn hw.2.2))<|G O<|zA<|zH<|yE 17 mixed uC O O<|zN O O (zP O O)<|zN O O (zP O O)<|zN O O (qK O O)<|zN O O (zF O kN O)<|zN O O (zK O kC O (J 0 O) O)<|zN O O (zP O O)<|zN O O (yR O O O)<|zN O O (zP O O)<|qP [] O O O O gv1 T (fun g3_7=>zP O O) O<|qP [(22,_)] O O O O gv1 ⟨O,O,T⟩ (fun g3_7=>qK O O) O<|qP [(23,_)] O O O O gv1 ⟨O,O,T⟩ (fun g3_7=>zF O yQ O) O<|qP [(24,_)] O O O O gv1 ⟨O,O,T⟩ (fun g3_7=>zK O kC O (J 0 O) O) O<|qP [] O O O O gv1 T (fun g3_7=>zP O O) O<|qP [(25,_),(26,_)] O O O O gv1 ⟨O,O,O,O,T⟩ (fun g3_7=>yR O O O) O<|zN O O (zAc O O O (fun h=>h) O)<|zN O O (yL O O)<|zN O O (yL O O)<|kE<|zA<|zJ<|fin2 (rs_c O) (rs_c O) ?_
 exact ⟨O,O⟩
theorem linEval_1 (x:Bd) (m:Mono):
    Pur cfg 125 [vBd x,.c (.iptr m.cells)] (vB (decide (x.Name=m.Name))):=by
 refine zV Tryz.func125 O Tryz.ntmps125 Tryz.results125 O ?_
 intro z hz
 refine Y O<|zY O O (qL O O) ?_
 rintro _ _ ⟨b1,rfl,rfl⟩
 refine G O<|zA<|Y O<|zD O zQc<|zG one9 (J 0 O) O<|qW O wV<|zG one9 qD O<|wD O<|G O<|zA<|zJ<|zT O ?_
 exact O
theorem zFd (l:List Bd) (c:C) (p:Bd->Bool) (hl:l.length<=4294967296) (hc:∀x,x∈l->FnPur cfg c [vBd x] (vB (p x))):
    Pur cfg 63 [jT l,.c c] (vI (dJ p l)):=by
 refine zV Tryz.func63 O Tryz.ntmps63 Tryz.results63 O ?_
 intro z hz
 refine Y O<|G O<|zA<|zH<|Y O<|G O<|qB O el31<|G O<|zA<|zR<|zU ⟨[(8,.c _),(0,.c _),(1,.c _),(7,.c _)],[]⟩ (Weak.mk [] ⟨zB,zB,zB,zB,T⟩ O)<|qF 1 0 O O (Nat) (fun k=>[(8,vI k)]) (fun k=>[]) (fun k=>k<=l.length/\((l.take k).any p=false)) (fun k=>l.length-k) ⟨0,⟨zC,O⟩,Weak.mk [] ⟨zB,zB,zB,zB,T⟩ O⟩ ?_
 rintro k ⟨hk,hp⟩
 refine Y O<|yA O<|zA<|zH<|zE O (fun c1=>?_) (fun c1=>?_)
 ·try simp only [sx] at c1
  obtain ⟨x,hx⟩:=qV l k zC
  refine zI<|zH<|zR<|Y O<|G O<|G O<|zA<|Y O<|G O<|G O<|G O<|qE O el31 zC (getm uD)<|zM agg50 qD O<|zW O (kX O O (hc _ (qC hx)) ⟨zB,O,T⟩)<|zA<|zE O (fun c2=>?_) (fun c2=>?_)
  ·exact v37
  ·exact m8
 ·exact v15
theorem lin_Eval (l:Lf) (env:List Bd) (hel:env.length<=1000000) (her:∀x,x∈env->r64 x.Val) (hl:l.L.length<=5864062014805) (hr:l.rng):
    Pur cfg 68 [dP l,jT env] (.tup [vI (fK l env).1,vI (fK l env).2]):=by
 refine zV Tryz.func68 O Tryz.ntmps68 Tryz.results68 O ?_
 intro z hz
 refine Y O<|zY O O (qL O O) ?_
 rintro _ _ ⟨b1,rfl,rfl⟩
 refine G O<|G O<|zA<|zH<|Y O<|zM kD (J 0 O) O<|qJ O ok122 (zAn l zC) ⟨zB,O,T⟩<|yN O<|zA<|zE O (fun c1=>?_) (fun c1=>?_)
 ·try simp only [sx] at c1
  have hE:fK l env=(0,1):=ev_bad c1
  refine Y O<|G O<|G O<|zA<|zJ<|fin2 (rs_c O) (rs_c O) ?_
  rw [hE]
 ·try simp only [sx] at c1
  refine zI<|Y O<|zY O O (yC O zr184) ?_
  rintro _ _ ⟨b2,rfl,rfl⟩
  refine zA<|zH<|yE 6 mixed uC O O<|zN O O (zF O zEd O)<|zN O O (zK O W O (J 1 O) O)<|zN O O (qS O ok124 (zDe l.K hr.1) ⟨zB,O,T⟩)<|zN O O (zF O zEd O)<|zN O O (zK O W O (J 1 O) O)<|zN O O (zDk O O O)<|kE<|zW O (yY [0] O ok123 (wide_add b2 ⟨0,0,0⟩ 0 l.K.natAbs (decide (l.K<0)) ⟨uA,uA,uA⟩ uA (by have:=zGe hr.1;omega)) ⟨zB,O,zB,O,zB,O,zB,O,T⟩ O)<|zA<|zH<|Y O<|zD O wC<|zG zBe (J 1 O) O<|qB O U<|G O<|zA<|zR<|zU ⟨[(28,.c _),(1,.c _),(6,.c _),(26,.c _),(27,.c _)],[_]⟩ (Weak.mk [true,false] ⟨zB,zB,zB,zB,zB,T⟩ O)<|qF 1 1 O O (Nat×W3×Int) (fun ⟨k,w,z⟩=>[(28,vI k)]) (fun ⟨k,w,z⟩=>[E.row b2 184 (w3C w)]) (fun ⟨k,w,z⟩=>k<=l.L.length/\(EvJ l env k w z)) (fun ⟨k,w,z⟩=>l.L.length-k) ⟨⟨0,w3a ⟨0,0,0⟩ (w3x 0 l.K.natAbs (decide (l.K<0))),0⟩,⟨zC,ev_first hr.1⟩,Weak.mk [true] ⟨zB,zB,zB,zB,zB,T⟩ O⟩ ?_
  rintro ⟨k,w,z⟩ ⟨hk,hj⟩
  show AWP _ _ _ _ _ ⟨[(28,vI k)]++_,[E.row b2 184 (w3C w)]++_⟩
  refine Y O<|yA O<|zA<|zH<|zE O (fun c2=>?_) (fun c2=>?_)
  ·try simp only [sx] at c2
   obtain ⟨m,hm⟩:=qV l.L k zC
   refine zI<|zH<|zR<|Y O<|qE O U zC (getm hm)<|zM zEf qD O<|zY O O (yC O zGb) ?_
   rintro _ _ ⟨b3,rfl,rfl⟩
   refine D 0 sz139 O<|zA<|Y O<|G O<|yT _ (kG 0 O 8 _ PLe.ptr)<|zW O (zDw O O O O O)<|qJ O ok63 (zFd env _ (fun y=>decide (y.Name=m.Name)) zC (fun y _=>FnPur.of_pur (first:=[]) (cap:=[.iptr m.cells]) ok125 (linEval_1 y m))) ⟨zB,O,zB,O,T⟩<|G O<|zA<|zH<|Y O<|G O<|yA O<|zA<|zE O (fun c3=>?_) (fun c3=>?_)
   ·try simp only [sx] at c3
    have hE:=ev_none c1 hm (env_no (idx_lt c3))
    refine Y O<|G O<|G O<|zA<|zJ<|fin2 (rs_c O) (rs_c O) ?_
    rw [hE]
   ·try simp only [sx] at c3
    obtain ⟨i,x,hi,hci,hhit,hbef⟩:=idx_le (show 0<=dJ (fun y:Bd=>decide (y.Name=m.Name)) env by omega)
    rw [hi]
    have hil:=get_len hci
    have hv:=env_at hci (of_decide_eq_true hhit) hbef
    have hxr:=her x (qC hci)
    have hbr:=hr.2 m (qC hm)
    have h1:=zGe hbr
    have h2:=zGe hxr
    have h3:=hi_le h1 h2
    refine zI<|Y O<|G O<|G O<|qE O el31 zC (getm hci)<|qW O fd50_1<|zG W qD O<|G O<|zA<|Y O<|qW O zEi<|zG W qD O<|qJ O ok124 (zDe m.By hbr) ⟨zB,O,T⟩<|G O<|qJ O ok124 (zDe x.Val hxr) ⟨zB,O,T⟩<|qJ O ok126 (zTg m.By.natAbs x.Val.natAbs zC zC) ⟨zB,O,zB,O,T⟩<|qU O<|yK O<|yK O<|G O<|G O<|zA<|zO O<|G O<|G O<|qW O zEi<|zG W qD O<|yA O<|G O<|yA O<|zW O (zRf O un4 O O)<|zW O (yY [0] O ok123 (wide_add b2 w (hiN m.By.natAbs x.Val.natAbs) (m.By.natAbs*x.Val.natAbs%18446744073709551616) (!(decide (m.By<0)==decide (x.Val<0))) hj.ok zC (Nat.mod_lt _ uA)) ⟨zB,O,zB,O,zB,O,zB,O,T⟩ O)<|zA<|zO O<|qH O ⟨zC,zC⟩<|G O<|zA ?_
    refine ⟨⟨k+1,w3a w (w3x (hiN m.By.natAbs x.Val.natAbs) (m.By.natAbs*x.Val.natAbs%18446744073709551616) (!(decide (m.By<0)==decide (x.Val<0)))),z+m.By*x.Val⟩,⟨zC,ev_next hr hm hv hxr hj⟩,(by show l.L.length-(k+1)<l.L.length-k;omega),Weak.mk [true] ⟨zB,zB,zB,zB,zB,T⟩ O⟩
  ·try simp only [sx] at c2
   have hE:=ev_end (show l.L.length<=k by omega) zC c1 hj
   refine qM<|Y O<|zW O (yG [0] O ok127 (wide_narrow b2 w hj.ok) ⟨zB,O,T⟩ O)<|qU O<|yK O<|yK O<|G O<|G O<|zA<|zH<|Y O<|G O<|kZ O<|zA<|zE O (fun c4=>?_) (fun c4=>?_)
   ·rw [if_neg (ev_cond c4)] at hE
    refine Y O<|G O<|G O<|zA<|zJ<|fin2 (rs_c O) (rs_c O) ?_
    rw [hE]
   ·rw [if_pos (ev_cond2 c4)] at hE
    refine zI<|Y O<|G O<|G O<|G O<|zA<|zJ<|fin2 (rs_c O) (rs_c O) ?_
    rw [hE]
theorem zQp (c:Cn) (env:List Bd) (hel:env.length<=1000000) (her:∀x,x∈env->r64 x.Val) (hl:c.Lin.L.length<=5864062014805) (hr:c.Lin.rng):
    Pur cfg 65 [vCn c,jT env] (.tup [vB (if (fK c.Lin env).2=0 then eA c (fK c.Lin env).1 else false),vI (fK c.Lin env).2]):=by
 refine zV Tryz.func65 O Tryz.ntmps65 Tryz.results65 O ?_
 intro z hz
 refine Y O<|zY O O (qL O O) ?_
 rintro _ _ ⟨b1,rfl,rfl⟩
 refine G O<|G O<|zA<|Y O<|zD O fd123_0<|zM kD (J 0 O) O<|G O<|qJ O ok68 (lin_Eval c.Lin env hel her hl hr) ⟨zB,O,zB,O,T⟩<|qU O<|yK O<|yK O<|G O<|G O<|zA<|zH<|Y O<|G O<|yN O<|zA<|zE O (fun c1=>?_) (fun c1=>?_)
 ·try simp only [sx] at c1
  refine Y O<|G O<|G O<|G O<|zA<|zJ<|fin2 (rs_c O) (rs_c O) ?_
  rw [if_neg c1]
 ·try simp only [sx] at c1
  refine zI<|Y O<|G O<|yJ O<|G O<|rL0 O (fun g4_2=>zP O O) O<|rL1 21 O (fun g4_2=>yF O O O) O<|rL1 22 O (fun g4_2=>zP O O) O<|rLz [] O gv2 T (fun g4_5=>zF O fd123_1 O) O<|rLz [(24,_)] O gv2 ⟨O,O,T⟩ (fun g4_5=>zK O one4 O (J 0 O) O) O<|rLz [(25,_)] O gv2 ⟨O,O,T⟩ (fun g4_5=>wJ O O) O<|rL1 23 O (fun g4_2=>zAc O O O (fun h=>kM uD h) O) O<|r_or O (fun h=>(lzf h))<|G O<|G O<|zA<|zJ<|fin2 (rs_c O) (rs_c O) ?_
  rw [if_pos c1,c1];rfl
theorem CheckSizes_1 (x:Bd) (s:ByteArray):
    Pur cfg 64 [vBd x,.c (.iptr [cS s])] (vB (decide (x.Name=s))):=by
 refine zV Tryz.func64 O Tryz.ntmps64 Tryz.results64 O ?_
 intro z hz
 refine Y O<|zY O O (qL O O) ?_
 rintro _ _ ⟨b1,rfl,rfl⟩
 refine G O<|zA<|Y O<|zD O zQc<|zG one9 (J 0 O) O<|zG one9 qD O<|wD O<|G O<|zA<|zJ<|zT O ?_
 exact O
theorem zFr (p:Pg) (env:List Bd) (hel:env.length<=1000000) (her:∀x,x∈env->r64 x.Val) (hP:p.Ok) (hR:p.Rng):
    Pur cfg 23 [vPg p,jT env] (vI (lQ p env)):=by
 refine zV Tryz.func23 O Tryz.ntmps23 Tryz.results23 O ?_
 intro z hz
 have hps:=hP.sizes
 have hpw:=hP.wh
 refine Y O<|zY O O (qL O O) ?_
 rintro _ _ ⟨b1,rfl,rfl⟩
 refine G O<|zA<|zH<|Y O<|G O<|qB O el31<|zD O zTq<|zG zFu (J 0 O) O<|qB O el25<|yN O<|zA<|zE O (fun c1=>?_) (fun c1=>?_)
 ·try simp only [sx] at c1
  refine Y O<|G O<|zA<|zJ<|zT O ?_
  rw [chk_len zC]
 ·try simp only [sx] at c1
  have hpl:env.length=p.Sizes.length:=by omega
  refine zI<|zH<|Y O<|zD O zTq<|zG zFu (J 0 O) O<|qB O el25<|G O<|zA<|zR<|zU ⟨[(21,.c _),(1,.c _),(2,.c _),(19,.c _),(20,.c _)],[_]⟩ (Weak.mk [true] ⟨zB,zB,zB,zB,zB,T⟩ O)<|qF 1 0 O O (Nat) (fun k=>[(21,vI k)]) (fun k=>[]) (fun k=>k<=p.Sizes.length/\((p.Sizes.take k).all (nT env)=true)) (fun k=>p.Sizes.length-k) ⟨0,⟨zC,O⟩,Weak.mk [true] ⟨zB,zB,zB,zB,zB,T⟩ O⟩ ?_
  rintro k ⟨hk,hp⟩
  refine Y O<|yA O<|zA<|zH<|zE O (fun c2=>?_) (fun c2=>?_)
  ·try simp only [sx] at c2
   obtain ⟨s,hs⟩:=qV p.Sizes k zC
   refine zI<|zH<|zR<|Y O<|qE O el25 zC (getm hs)<|zG one9 qD O<|zY O O (yC O zr9) ?_
   rintro _ _ ⟨b2,rfl,rfl⟩
   refine D 0 sz9 O<|zA<|Y O<|G O<|yT _ (kG 0 O 6 _ PLe.ptr)<|zW O (zDw O O O O O)<|qJ O ok63 (zFd env _ (fun y=>decide (y.Name=s)) zC (fun y _=>FnPur.of_pur (first:=[]) (cap:=[.iptr [cS s]]) ok64 (CheckSizes_1 y s))) ⟨zB,O,zB,O,T⟩<|G O<|zA<|Y O ?_
   obtain ⟨x,hci,hgd⟩:=sz_at env s
   refine G O<|yA O<|G O<|rL0 O (fun g7_2=>zP O O) O<|rL0 O (fun g7_2=>zP O O) O<|rLz [(31,_),(32,_)] O gv1 ⟨O,O,O,O,T⟩ (fun g7_2=>qN O el31 O O (by simp only [Lz,cond_true,cond_false,Bool.and_eq_true,Bool.or_eq_true,Bool.not_eq_true',Bool.not_eq_false',Bool.or_eq_false_iff,Bool.and_eq_false_iff,decide_eq_true_eq,decide_eq_false_iff_not,Bool.not_eq_true,Bool.not_eq_false] at g7_2;omega) (getm (hci (by simp only [Lz,cond_true,cond_false,Bool.and_eq_true,Bool.or_eq_true,Bool.not_eq_true',Bool.not_eq_false',Bool.or_eq_false_iff,Bool.and_eq_false_iff,decide_eq_true_eq,decide_eq_false_iff_not,Bool.not_eq_true,Bool.not_eq_false] at g7_2;omega)))) O<|rL1 33 O (fun g7_2=>qQ O fd50_1 O) O<|rL1 34 O (fun g7_2=>zK O W O qD O) O<|rL1 35 O (fun g7_2=>zDk O O O) O<|r_or O (fun h=>(lzf h))<|G O<|rL0 O (fun g7_10=>zP O O) O<|rL0 O (fun g7_10=>zP O O) O<|rLz [(39,_),(40,_)] O gv1 ⟨O,O,O,O,T⟩ (fun g7_10=>qN O el31 O O (by simp only [Lz,cond_true,cond_false,Bool.and_eq_true,Bool.or_eq_true,Bool.not_eq_true',Bool.not_eq_false',Bool.or_eq_false_iff,Bool.and_eq_false_iff,decide_eq_true_eq,decide_eq_false_iff_not,Bool.not_eq_true,Bool.not_eq_false] at g7_10;omega) (getm (hci (by simp only [Lz,cond_true,cond_false,Bool.and_eq_true,Bool.or_eq_true,Bool.not_eq_true',Bool.not_eq_false',Bool.or_eq_false_iff,Bool.and_eq_false_iff,decide_eq_true_eq,decide_eq_false_iff_not,Bool.not_eq_true,Bool.not_eq_false] at g7_10;omega)))) O<|rL1 41 O (fun g7_10=>qQ O fd50_1 O) O<|rL1 42 O (fun g7_10=>zK O W O qD O) O<|rL1 43 O (fun g7_10=>yF O O O) O<|r_or O (fun h=>(lzf h))<|zA<|zE O (fun c3=>?_) (fun c3=>?_)
   ·have hG:=chk_bad hpl hs (by have h9:=hgd.symm.trans c3;simpa using h9)
    refine Y O<|G O<|zA<|zJ<|zT O ?_
    rw [hG]
   ·have hG:nT env s=true:=by have h9:=hgd.symm.trans c3;simpa using h9
    refine zI<|zO O<|qH O ⟨zC,zC⟩<|G O<|zA ?_
    refine ⟨k+1,⟨zC,allz_next hs hp hG⟩,zC,Weak.mk [true] ⟨zB,zB,zB,zB,zB,T⟩ O⟩
  ·try simp only [sx] at c2
   rw [yD zC] at hp
   have hZ:=chk_wh hpl hp
   refine qM<|zH<|Y O<|zD O fd30_1<|zG one26 (J 0 O) O<|qB O el26<|G O<|zA<|zR<|zU ⟨[(50,.c _),(1,.c _),(48,.c _),(49,.c _)],[]⟩ (Weak.mk [false] ⟨zB,zB,zB,zB,T⟩ O)<|qF 1 0 O O (Nat) (fun j=>[(50,vI j)]) (fun j=>[]) (fun j=>j<=p.Where.length/\(whE env p.Where=whE env (p.Where.drop j))) (fun j=>p.Where.length-j) ⟨0,⟨zC,O⟩,Weak.mk [] ⟨zB,zB,zB,zB,T⟩ O⟩ ?_
   rintro j ⟨hj,hq⟩
   refine Y O<|yA O<|zA<|zH<|zE O (fun c4=>?_) (fun c4=>?_)
   ·try simp only [sx] at c4
    obtain ⟨c,hc⟩:=qV p.Where j zC
    refine zI<|zH<|zR<|Y O<|qE O el26 zC (getm hc)<|zM agg123 qD O<|zY O O (qG [none,some 2,none] O zr123 O) ?_
    rintro _ _ ⟨b3,rfl,rfl⟩
    refine D 0 sz123 O<|zA<|Y O<|zM agg123 (J 0 O) O<|G O<|qJ O ok65 (zQp c env hel her (hP.whs c (qC hc)) (hR.wh c (qC hc))) ⟨zB,O,zB,O,T⟩<|qU O<|yK O<|yK O<|G O<|G O<|zA<|zH<|Y O<|G O<|yN O<|zA<|zE O (fun c5=>?_) (fun c5=>?_)
    ·try simp only [sx] at c5
     have hW:=wh_err hc hq c5
     refine Y O<|G O<|G O<|zA<|zJ<|zT O ?_
     rw [hZ,hW]
    ·try simp only [sx] at c5
     refine zI<|Y O<|G O<|kZ O<|zA<|zE O (fun c6=>?_) (fun c6=>?_)
     ·try simp only [sx] at c6
      rw [if_pos c5] at c6
      have hW:=wh_no hc hq c5 c6
      refine Y O<|G O<|zA<|zJ<|zT O ?_
      rw [hZ,hW]
     ·try simp only [sx] at c6
      rw [if_pos c5] at c6
      refine zI<|zO O<|qH O ⟨zC,zC⟩<|G O<|zA ?_
      refine ⟨j+1,⟨zC,wh_next hc hq c5 c6⟩,zC,Weak.mk [false] ⟨zB,zB,zB,zB,T⟩ O⟩
   ·try simp only [sx] at c4
    have hW:=wh_end (show p.Where.length<=j by omega) hq
    refine qM<|Y O<|G O<|zA<|zJ<|zT O ?_
    rw [hZ,hW]
theorem zPb (p:Pg) (env:List Bd) (hel:env.length<=1000000) (her:∀x,x∈env->r64 x.Val) (hP:p.Ok) (hR:p.Rng):
    Pur cfg 66 [vPg p,jT env] (vI (if (bK p).2=0 then lQ p env else (bK p).2)):=by
 refine zV Tryz.func66 O Tryz.ntmps66 Tryz.results66 O ?_
 intro z hz
 refine Y O<|zY O O (qL O O) ?_
 rintro _ _ ⟨b1,rfl,rfl⟩
 refine G O<|zA<|zH<|Y O<|zM zEk (J 0 O) O<|qJ O ok22 (zEh p hP) ⟨zB,O,T⟩<|qU O<|yK O<|yK O<|G O<|G O<|zA<|Y O<|G O<|yN O<|zA<|zE O (fun c1=>?_) (fun c1=>?_)
 ·try simp only [sx] at c1
  refine Y O<|G O<|G O<|zA<|zJ<|zT O ?_
  rw [if_neg c1]
 ·try simp only [sx] at c1
  refine zI<|Y O<|zM zEk (J 0 O) O<|G O<|qJ O ok23 (zFr p env hel her hP hR) ⟨zB,O,zB,O,T⟩<|G O<|zA<|zJ<|zT O ?_
  rw [if_pos c1]
theorem eval_extents (l:List Lf) (env:List Bd) (hel:env.length<=1000000) (her:∀x,x∈env->r64 x.Val) (hl:l.length<=4294967296) (hf:∀f,f∈l->f.L.length<=5864062014805/\f.rng):
    Pur cfg 120 [nI l,jT env] (.tup [vIs (cQ env l),vI (gA env l)]):=by
 refine zV Tryz.func120 O Tryz.ntmps120 Tryz.results120 O ?_
 intro z hz
 refine Y O<|qX 1 O<|G O<|zA<|Y O<|G O<|yT _ (kO 3 1)<|zA<|zH<|Y O<|G O<|qB O el72<|G O<|zA<|zR<|zU ⟨[(13,.c _),(6,.c _),(1,.c _),(11,.c _),(12,.c _)],[_]⟩ (Weak.mk [true] ⟨zB,zB,zB,zB,zB,T⟩ O)<|qF 2 1 O O (Nat×Value) (fun ⟨k,sv⟩=>[(13,vI k),(6,.c (.lit sv))]) (fun ⟨k,sv⟩=>[E.vec sv 3 1 ((gT env (l.take k)).map fun n=>[cI n])]) (fun ⟨k,sv⟩=>k<=l.length/\(gA env l=gA env (l.drop k))) (fun ⟨k,sv⟩=>l.length-k) ⟨⟨0,(.slice none 0 0)⟩,⟨zC,O⟩,Weak.mk [true] ⟨zB,zB,zB,zB,zB,T⟩ O⟩ ?_
 rintro ⟨k,sv⟩ ⟨hk,hp⟩
 show AWP _ _ _ _ _ ⟨[(13,vI k),(6,.c (.lit sv))]++_,[E.vec sv 3 1 ((gT env (l.take k)).map fun n=>[cI n])]++_⟩
 refine Y O<|yA O<|zA<|zH<|zE O (fun c1=>?_) (fun c1=>?_)
 ·try simp only [sx] at c1
  obtain ⟨f,hx⟩:=qV l k zC
  refine zI<|zH<|zR<|Y O<|qE O el72 zC (getm hx)<|zM kD qD O<|zY O O (qG [none,some 2] O zr59 O) ?_
  rintro _ _ ⟨b2,rfl,rfl⟩
  refine D 0 sz59 O<|zA<|Y O<|zM kD (J 0 O) O<|G O<|qJ O ok68 (lin_Eval f env hel her (hf f (qC hx)).1 (hf f (qC hx)).2) ⟨zB,O,zB,O,T⟩<|qU O<|yK O<|yK O<|G O<|G O<|zA<|zH<|Y O<|G O<|yN O<|zA<|zE O (fun c2=>?_) (fun c2=>?_)
  ·try simp only [sx] at c2
   have hE:=ext_err hx hp c2
   refine Y O<|G O<|qX 1 O<|G O<|zA<|zJ<|fin2 (rs_c O) (rs_c O) ?_
   rw [ext_no (by rw [hE];exact c2),hE];rfl
  ·try simp only [sx] at c2
   refine zI<|zH<|Y O<|G O<|yA O<|G O<|rL0 O (fun g8_2=>zP O O) O<|rL1 29 O (fun g8_2=>yF O O O) O<|r_or O (fun h=>(lzf h))<|zA<|zE O (fun c3=>?_) (fun c3=>?_)
   ·try simp only [sx] at c3
    have hE:=ext_bad hx hp c2 (by simpa using c3)
    refine Y O<|qX 1 O<|G O<|zA<|zJ<|fin2 (rs_c O) (rs_c O) ?_
    rw [ext_no (by rw [hE];decide),hE];rfl
   ·try simp only [sx] at c3
    have hn:=ext_next hx hp c2 (by simpa using c3)
    refine zI<|zO O<|G O<|G O<|kA O el46 zr3<|zY O O (yH 1 O el46 O O O (by simp [gT];omega) (by simp [gT];omega)) ?_
    rintro _ _ ⟨sv3,rfl,rfl⟩
    refine G O<|zA<|zO O<|qH O ⟨zC,zC⟩<|G O<|zA ?_
    refine ⟨⟨k+1,sv3⟩,⟨zC,hn⟩,(by show l.length-(k+1)<l.length-k;omega),Weak.mk [false,true] ⟨zB,zB,zB,zB,zB,T⟩ (by exact zHk (by rw [yB hx];unfold gT;rw [List.map_append,List.map_append];rfl))⟩
 ·try simp only [sx] at c1
  have hE:=ext_end (show l.length<=k by omega) hp
  rw [yD (l:=l) (k:=k) zC]
  refine zU _ (yO 0 O (regs':=[(6,_)]) (μ':=[]) ⟨FLe.sl,T⟩ T)<|qM<|Y O<|G O<|G O<|G O<|zA<|zJ<|fin2 (rs_c O) (rs_c O) ?_
  rw [ext_ok hE,hE]
theorem eval_count (l:List Int) (hl:l.length<=4294967296) (h:∀n,n∈l->1<=n/\n<=4096):
    Pur cfg 121 [vIs l,vI 4096] (vI ((bJ 1 l).getD 4097)):=by
 refine zV Tryz.func121 O Tryz.ntmps121 Tryz.results121 O ?_
 intro z hz
 refine Y O<|G O<|zA<|Y O<|G O<|zA<|zH<|Y O<|G O<|qB O el46<|G O<|zA<|zR<|zU ⟨[(10,.c _),(5,.c _),(1,.c _),(8,.c _),(9,.c _)],[]⟩ (Weak.mk [] ⟨zB,zB,zB,zB,zB,T⟩ O)<|qF 2 0 O O (Nat×Int) (fun ⟨k,s⟩=>[(10,vI k),(5,vI s)]) (fun ⟨k,s⟩=>[]) (fun ⟨k,s⟩=>k<=l.length/\(1<=s/\s<=4096)/\(bJ 1 l=bJ s (l.drop k))) (fun ⟨k,s⟩=>l.length-k) ⟨⟨0,1⟩,⟨zC,⟨uA,uA⟩,O⟩,Weak.mk [] ⟨zB,zB,zB,zB,zB,T⟩ O⟩ ?_
 rintro ⟨k,s⟩ ⟨hk,hs,hp⟩
 show AWP _ _ _ _ _ ⟨[(10,vI k),(5,vI s)]++_,[]++_⟩
 refine Y O<|yA O<|zA<|zH<|zE O (fun c1=>?_) (fun c1=>?_)
 ·try simp only [sx] at c1
  obtain ⟨n,hn⟩:=qV l k zC
  have hnb:=h n (qC hn)
  have hmb:=Int.mul_le_mul hs.2 hnb.2 zC zC
  have hmb2:=Int.mul_le_mul (show 1<=s from hs.1) hnb.1 zC zC
  rw [qO hn,bJ] at hp
  refine zI<|zH<|zR<|Y O<|qE O el46 zC (getm hn)<|zG one3 qD O<|G O<|zA<|Y O<|G O<|G O<|zW O (zPd O O O ⟨zC,zC⟩)<|G O<|zA<|Y O<|G O<|G O<|zW O (yF O O O)<|zA<|zE O (fun c2=>?_) (fun c2=>?_)
  ·try simp only [sx] at c2
   rw [if_pos zC] at hp
   refine Y O<|G O<|qH O ⟨zC,zC⟩<|G O<|zA<|zJ<|zT O ?_
   rw [hp];rfl
  ·try simp only [sx] at c2
   rw [if_neg zC] at hp
   refine zI<|zO O<|qH O ⟨zC,zC⟩<|G O<|zA ?_
   refine ⟨⟨k+1,s*n⟩,⟨zC,⟨zC,zC⟩,hp⟩,(by show l.length-(k+1)<l.length-k;omega),Weak.mk [] ⟨zB,zB,zB,zB,zB,T⟩ O⟩
 ·try simp only [sx] at c1
  rw [zDv zC,bJ] at hp
  refine qM<|Y O<|G O<|G O<|zA<|zJ<|zT O ?_
  rw [hp];rfl
theorem eval_dims (p:Pg) (s:ByteArray) (env:List Bd) (hel:env.length<=1000000) (her:∀x,x∈env->r64 x.Val) (hP:p.Ok) (hR:p.Rng):
    Pur cfg 67 [vPg p,jT env,vS s] (.tup [vIs (mU p env s).1,vTy (p.en.find s).ty,vI (mU p env s).2]):=by
 refine zV Tryz.func67 O Tryz.ntmps67 Tryz.results67 O ?_
 intro z hz
 have hfd:=find_fit hP hR s
 refine Y O<|zY O O (qL O O) ?_
 rintro _ _ ⟨b1,rfl,rfl⟩
 refine qX 1 O<|zY O O (yC O zr56) ?_
 rintro _ _ ⟨b2,rfl,rfl⟩
 refine G O<|zA<|Y O<|zM zEk (J 1 O) O<|G O<|qJ O ok119 (zIw p s hP) ⟨zB,O,zB,O,T⟩<|qU O<|zW O (qY O O O)<|yK O<|yK O<|zY O O (yC O zr56) ?_
 rintro _ _ ⟨b3,rfl,rfl⟩
 refine D 0 v O<|G O<|G O<|zA<|zH<|Y O<|G O<|kZ O<|zA<|zE O (fun c1=>?_) (fun c1=>?_)
 ·try simp only [sx] at c1
  refine zH<|yE 2 mixed uC O O<|zN O O (qA O qZ O (J 0 O) O)<|zN O O (zHs 1 O O)<|kE<|D 1 v O<|G O<|zA<|zJ<|fin3 (rs_c O) (zZ qZ O (J 1 O) O) (rs_c O) ?_
  rw [dim_no c1];rfl
 ·try simp only [sx] at c1
  refine zI<|Y O<|G O<|G O<|qJ O ok120 (eval_extents (p.en.find s).dims env hel her hfd.1 hfd.2) ⟨zB,O,zB,O,T⟩<|qU O<|yK O<|yK O<|G O<|G O<|zA<|zH<|Y O<|G O<|yN O<|zA<|zE O (fun c2=>?_) (fun c2=>?_)
  ·try simp only [sx] at c2
   refine zH<|yS 4 0 [⟨0,.q [0]⟩,⟨1,.q []⟩,⟨2,.q []⟩,⟨3,.e 1 []⟩] mixed uC uC O O O<|zQ O<|zQ O<|zQ O<|zQ O<|wS<|zX O uA O O (qA O qZ O (J 0 O) O)<|zX O uA O O (zP O O)<|zX O uA O O (zHs 1 O O)<|zDx O O uA O O (yX O v O O O (zDb 0 O O)) ?_
   rintro _ _ ⟨rfl,rfl⟩
   refine ⟨_,O,?_⟩
   refine wR O<|G O<|zA<|zJ<|fin3 (rs_c O) (zZ qZ O (J 1 O) O) (rs_c O) ?_
   rw [dim_e c1 c2];rfl
  ·try simp only [sx] at c2
   refine zI<|zH<|Y O<|G O<|qJ O ok121 (show Pur cfg 121 [vIs (cQ env (p.en.find s).dims),vI 4096] (vI ((bJ 1 (gT env (p.en.find s).dims)).getD 4097)) by rw [ext_ok c2];exact eval_count _ (by unfold gT;rw [List.length_map];exact hfd.1) (ext_all c2)) ⟨zB,O,zB,O,T⟩<|zW O (yF O O O)<|zA<|zE O (fun c3=>?_) (fun c3=>?_)
   ·try simp only [sx] at c3
    refine zH<|yE 2 mixed uC O O<|zN O O (qA O qZ O (J 0 O) O)<|zN O O (zHs 1 O O)<|kE<|D 1 v O<|G O<|zA<|zJ<|fin3 (rs_c O) (zZ qZ O (J 1 O) O) (rs_c O) ?_
    rw [dim_b c1 c2 (cnt_big c3)];rfl
   ·try simp only [sx] at c3
    refine zI<|zH<|yE 3 mixed uC O O<|zN O O (zP O O)<|zN O O (qA O qZ O (J 0 O) O)<|zN O O (yL O O)<|kE<|D 1 v O<|G O<|zA<|zJ<|fin3 (rs_c O) (zZ qZ O (J 1 O) O) (rs_c O) ?_
    rw [dim_ok c1 c2 (cnt_fit zC),ext_ok c2];rfl
theorem zTv (p:Pg) (s:ByteArray) (env:List Bd) (hel:env.length<=1000000) (her:∀x,x∈env->r64 x.Val) (hP:p.Ok) (hR:p.Rng):
    Pur cfg 24 [vPg p,jT env,vS s] (.tup [vIs (rT p env s).1,vI (rT p env s).2]):=by
 refine zV Tryz.func24 O Tryz.ntmps24 Tryz.results24 O ?_
 intro z hz
 refine Y O<|zY O O (qL O O) ?_
 rintro _ _ ⟨b1,rfl,rfl⟩
 refine qX 1 O<|G O<|zA<|zH<|Y O<|zM zEk (J 0 O) O<|G O<|qJ O ok66 (zPb p env hel her hP hR) ⟨zB,O,zB,O,T⟩<|G O<|zA<|Y O<|G O<|yN O<|zA<|zE O (fun c1=>?_) (fun c1=>?_)
 ·try simp only [sx] at c1
  refine Y O<|G O<|qX 1 O<|G O<|zA<|zJ<|fin2 (rs_c O) (rs_c O) ?_
  rw [dmT_no c1];rfl
 ·try simp only [sx] at c1
  refine zI<|Y O<|zM zEk (J 0 O) O<|G O<|G O<|qJ O ok67 (eval_dims p s env hel her hP hR) ⟨zB,O,zB,O,zB,O,T⟩<|qU O<|yK O<|zW O (qY O O O)<|yK O<|zY O O (yC O zr56) ?_
  rintro _ _ ⟨b2,rfl,rfl⟩
  refine G O<|D 0 v O<|G O<|zA<|Y O<|G O<|G O<|G O<|G O<|zA<|zJ<|fin2 (rs_c O) (rs_c O) ?_
  rw [dmT_ok c1]
theorem value_One (t:Ty):
    Pur cfg 192 [vTy t] (.tup [vN (gB t).1,vI (gB t).2]):=by
 refine zV Tryz.func192 O Tryz.ntmps192 Tryz.results192 O ?_
 intro z hz
 refine Y O<|zY O O (qL O O) ?_
 rintro _ _ ⟨b1,rfl,rfl⟩
 refine zY O O (yC O zr54) ?_
 rintro _ _ ⟨b2,rfl,rfl⟩
 refine G O<|zA<|zH<|zR<|Y O<|zM qZ (J 1 O) O<|qJ O ok167 (wH _) ⟨zB,O,T⟩<|yN O<|G O<|zA<|zE O (fun c1=>?_) (fun c1=>?_)
 ·try simp only [sx] at c1
  refine Y O<|yI O zr54 pl54<|D 0 sz54 O<|G O<|zA<|zJ<|fin2 (zZ zFt O (J 0 O) O) (rs_c O) ?_
  rw [one_no c1];rfl
 ·try simp only [sx] at c1
  refine Y O<|zD O zFq<|zG one3 (J 1 O) O<|yN O<|G O<|zA<|zE O (fun c2=>?_) (fun c2=>?_)
  ·try simp only [sx] at c2
   refine Y O<|yI O zr54 pl54<|D 0 sz54 O<|G O<|zA<|zJ<|fin2 (zZ zFt O (J 0 O) O) (rs_c O) ?_
   rw [one_p c1 c2];rfl
  ·try simp only [sx] at c2
   refine zI<|Y O<|zD O zQb<|zG one3 (J 1 O) O<|zW O (det_shlE O O O (one_sh c1 c2).1 (one_sh c1 c2).2)<|yI O zr54 pl54<|zY O O (yC O zr54) ?_
   rintro _ _ ⟨b3,rfl,rfl⟩
   refine D 0 sz54 O<|zA<|zH<|Y O<|zM qZ (J 2 O) O<|zM zFt (J 0 O) O<|qJ O ok238 (zTm t ⟨2^t.Frac.toNat,1⟩) ⟨zB,O,zB,O,T⟩<|kZ O<|zA<|zE O (fun c3=>?_) (fun c3=>?_)
   ·refine Y O<|yI O zr54 pl54<|D 1 sz54 O<|G O<|zA<|zJ<|fin2 (zZ zFt O (J 1 O) O) (rs_c O) ?_
    rw [one_r c1 c2 (notT c3)];rfl
   ·refine zI<|Y O<|zM zFt (J 0 O) O<|D 1 sz54 O<|G O<|zA<|zJ<|fin2 (zZ zFt O (J 1 O) O) (rs_c O) ?_
    rw [one_ok c1 c2 (notF c3)];rfl
theorem value_Identity (f:Int) (t:Ty):
    Pur cfg 139 [vI f,vTy t] (.tup [vN (idT f t).1,vB (idT f t).2]):=by
 refine zV Tryz.func139 O Tryz.ntmps139 Tryz.results139 O ?_
 intro z hz
 refine Y O<|zY O O (qL O O) ?_
 rintro _ _ ⟨b1,rfl,rfl⟩
 refine zY O O (yC O zr54) ?_
 rintro _ _ ⟨b2,rfl,rfl⟩
 refine G O<|zA<|zH<|Y O<|zM qZ (J 1 O) O<|qJ O ok167 (wH _) ⟨zB,O,T⟩<|yN O<|zA<|zE O (fun c1=>?_) (fun c1=>?_)
 ·try simp only [sx] at c1
  refine Y O<|yI O zr54 pl54<|D 0 sz54 O<|G O<|zA<|zJ<|fin2 (zZ zFt O (J 0 O) O) (rs_c O) ?_
  exact m7
 ·try simp only [sx] at c1
  refine zI<|zH<|Y O<|G O<|zA<|zR<|zH<|Y O<|yJ O<|G O<|zA<|zE O (fun c2=>?_) (fun c2=>?_)
  ·try simp only [sx] at c2
   refine zI<|zE O (fun c3=>?_) (fun c3=>?_)
   ·try simp only [sx] at c3
    refine Y O<|zM qZ (J 1 O) O<|qJ O ok191 (value_Zero _) ⟨zB,O,T⟩<|D 0 sz54 O<|G O<|zA<|zJ<|fin2 (zZ zFt O (J 0 O) O) (rs_c O) ?_
    exact m7
   ·try simp only [sx] at c3
    exact absurd c2 c3
  ·try simp only [sx] at c2
   refine zO O<|yJ O<|G O<|zA<|zE O (fun c3=>?_) (fun c3=>?_)
   ·try simp only [sx] at c3
    refine Y O<|zM qZ (J 1 O) O<|qJ O ok191 (value_Zero _) ⟨zB,O,T⟩<|D 0 sz54 O<|G O<|zA<|zJ<|fin2 (zZ zFt O (J 0 O) O) (rs_c O) ?_
    exact m7
   ·try simp only [sx] at c3
    refine Y O<|yJ O<|G O<|zA<|zE O (fun c4=>?_) (fun c4=>?_)
    ·try simp only [sx] at c4
     refine Y O<|zM qZ (J 1 O) O<|qJ O ok192 (value_One _) ⟨zB,O,T⟩<|qU O<|zW O (qY O O O)<|yK O<|zY O O (yC O zr54) ?_
     rintro _ _ ⟨b3,rfl,rfl⟩
     refine D 0 sz54 O<|G O<|zA<|Y O<|zM zFt (J 0 O) O<|G O<|yJ O<|D 1 sz54 O<|G O<|zA<|zJ<|fin2 (zZ zFt O (J 1 O) O) (rs_c O) ?_
     exact m7
    ·try simp only [sx] at c4
     refine zI<|Y O<|yI O zr54 pl54<|D 0 sz54 O<|G O<|zA<|zJ<|fin2 (zZ zFt O (J 0 O) O) (rs_c O) ?_
     exact m7
end Go.W
end
section
set_option maxRecDepth 10000
namespace Go.W
open Go Go.Eng Go.Proofs Go.L41 Go.Br
attribute [local irreducible] AWP RWP TD fQ
theorem rwp_show {X:Cfg} {n:Nat} {z:Z} {Q:Exit->S->Prop} {ops:Array Oper} {l:List Oper} {regs:List (Nat×V)} {μ μ':List E} (h:μ=μ') (k:RWP X n z ops l Q ⟨regs,μ'⟩):RWP X n z ops l Q ⟨regs,μ⟩:=h ▸ k
theorem zEm:bD Tryz.prog 80 0=some (0,70):=by kernel_rfl
theorem fd80_2:bD Tryz.prog 80 2=some (23,31):=by kernel_rfl
theorem fd80_3:bD Tryz.prog 80 3=some (24,62):=by kernel_rfl
theorem zPv:bD Tryz.prog 80 4=some (37,52):=by kernel_rfl
theorem ok27:bA Tryz.prog 27=true:=by kernel_rfl
theorem ok28:bA Tryz.prog 28=true:=by kernel_rfl
theorem ok31:bA Tryz.prog 31=true:=by kernel_rfl
theorem ok74:bA Tryz.prog 74=true:=by kernel_rfl
theorem ok75:bA Tryz.prog 75=true:=by kernel_rfl
theorem ok137:bA Tryz.prog 137=true:=by kernel_rfl
theorem ok138:bA Tryz.prog 138=true:=by kernel_rfl
theorem ok139:bA Tryz.prog 139=true:=by kernel_rfl
theorem one31:gB Tryz.prog 31=true:=by kernel_rfl
theorem pl64:dL Tryz.prog 64=some [(0,1),(1,1),(2,1),(3,1),(4,1),(5,1),(6,13),(19,1)]:=by kernel_rfl
theorem sz50:(Tryz.prog.info? 50).map (·.size)=some 2:=by kernel_rfl
theorem zKx (d a:ByteArray) (hs:d.size<=100000) (hs2:a.size<=100000):
    Pur cfg 8 [vS d,vS a] (vS (lnT d a)):=by
 refine zV Tryz.func8 O Tryz.ntmps8 Tryz.results8 O ?_
 intro z hz
 refine Y O<|G O<|zA<|Y O<|G O<|zW O (det_sadd O O O (by show d.size+1<=_;omega))<|G O<|zW O (det_sadd O O O (by rw [ByteArray.size_append];show d.size+1+a.size<=_;omega))<|G O<|zA<|zH<|Y O<|G O<|qJ O ok19 (zBr (d++bs [95]++a)) ⟨zB,O,T⟩<|kZ O<|zA<|zE O (fun c1=>?_) (fun c1=>?_)
 ·try simp only [sx] at c1
  refine Y O<|G O<|zA<|zJ<|zT O ?_
  rw [ln_no (by rw [c1];simp)]
 ·try simp only [sx] at c1
  refine zI<|Y O<|G O<|G O<|zA<|zJ<|zT O ?_
  rw [ln_ne c1]
theorem lower_bound (env:List Bd) (s:ByteArray) (hel:env.length<=1000000):
    Pur cfg 29 [jT env,vS s] (vI (lP env s)):=by
 refine zV Tryz.func29 O Tryz.ntmps29 Tryz.results29 O ?_
 intro z hz
 refine Y O<|G O<|zA<|zH<|Y O<|G O<|qB O el31<|G O<|zA<|zR<|zU ⟨[(9,.c _),(1,.c _),(7,.c _),(8,.c _)],[]⟩ (Weak.mk [] ⟨zB,zB,zB,zB,T⟩ O)<|qF 1 0 O O (Nat) (fun k=>[(9,vI k)]) (fun k=>[]) (fun k=>k<=env.length/\((env.take k).any (fun y=>decide (y.Name=s))=false)) (fun k=>env.length-k) ⟨0,⟨zC,O⟩,Weak.mk [] ⟨zB,zB,zB,zB,T⟩ O⟩ ?_
 rintro k ⟨hk,hp⟩
 refine Y O<|yA O<|zA<|zH<|zE O (fun c1=>?_) (fun c1=>?_)
 ·try simp only [sx] at c1
  obtain ⟨x,hx⟩:=qV env k zC
  refine zI<|zH<|zR<|Y O<|qE O el31 zC (getm hx)<|zM agg50 qD O<|zY O O (yC O zr50) ?_
  rintro _ _ ⟨b1,rfl,rfl⟩
  refine D 0 sz50 O<|zA<|Y O<|zD O zQc<|zG one9 (J 0 O) O<|G O<|wD O<|zA<|zE O (fun c2=>?_) (fun c2=>?_)
  ·try simp only [sx] at c2
   refine Y O<|zD O fd50_1<|zG W (J 0 O) O<|G O<|zA<|zJ<|zT O ?_
   rw [envD_at hx c2 hp]
  ·exact v48
 ·try simp only [sx] at c1
  refine qM<|Y O<|G O<|zA<|zJ<|zT O ?_
  rw [yD zC] at hp
  rw [envD_no hp]
theorem zFj (l:List Bd) (b:List St) (hl:l.length<=4294967296):
    Pur cfg 74 [jT l,fP b] (fP (fN l b)):=by
 refine zV Tryz.func74 O Tryz.ntmps74 Tryz.results74 O ?_
 intro z hz
 refine Y O<|qX 20 O<|zA<|zH<|Y O<|G O<|qB O el31<|zW O (yM O O O ⟨zC,zC⟩)<|G O<|zA<|zR<|zU ⟨[(5,.c _),(1,.c _),(0,.c _)],[]⟩ (Weak.mk [] ⟨zB,zB,zB,T⟩ O) ?_
 refine qF 2 0 O O (Nat) (fun q=>[(5,vI ((q:Int)-1)),(1,fP (fN (l.drop q) b))]) (fun q=>[]) (fun q=>q<=l.length) (fun q=>q) ⟨l.length,(Nat.le_refl _),Weak.mk [] ⟨zB,VLe.of_eq ((congrArg fP (loops_end l b).symm)),zB,T⟩ O⟩ ?_
 rintro q hq
 refine zH<|Y O<|G O<|zW O (wQ O O O)<|zA<|zE O (fun c1=>?_) (fun c1=>?_)
 ·try simp only [sx] at c1
  obtain ⟨j,rfl⟩:∃j,q=j+1:=⟨q-1,zC⟩
  obtain ⟨x,hx⟩:=qV l j zC
  rw [show (((j+1:Nat):Int)-1)=(j:Int) by omega]
  refine zI<|zH<|zR<|yE 14 mixed uC O O<|zN O O (zP O O)<|zN O O (zP O O)<|zN O O (qN O el31 O O zC (getm hx))<|zN O O (qQ O zQc O)<|zN O O (zK O one9 O qD O)<|zN O O (zP O O)<|zN O O (zP O O)<|zN O O (qN O el31 O O zC (getm hx))<|zN O O (qQ O fd50_1 O)<|zN O O (zK O W O qD O)<|zN O O (zP O O)<|zN O O (zDa [none,none,none,none,none,some 4,none,none,none,none,none,none,none,none,none,none,some 2,some 4,some 13,none] O zr64 pl64 O O)<|zN O O (wL O L zr64 O O O O)<|zN O O (yL O O)<|kE<|zA<|zO O<|G O<|zW O (yM O O O ⟨zC,zC⟩)<|G O<|zA ?_
  refine ⟨j,zC,zC,Weak.mk [] ⟨VLe.of_eq ((congrArg vI zC)),VLe.of_eq ((by rw [loops_back hx,←one_rows];rfl)),zB,T⟩ O⟩
 ·try simp only [sx] at c1
  obtain rfl:q=0:=by omega
  refine qM<|Y O<|G O<|G O<|zA<|zJ<|zT O ?_
  rfl
theorem mk_set (b:Nat) (d:Df) (dims red:List Bd) (body:Ex) (e:Ex):
    Con cfg 75 [vPt b,vE e] [E.row b 80 (mkC d dims red body (ixT dims))] fun r μ'=>r=vSt (nO d (ixT dims) e)/\μ'=[E.row b 80 (mkC d dims red body (ixT dims))]:=by
 refine Con.drop<|zV Tryz.func75 O Tryz.ntmps75 Tryz.results75 O ?_
 intro z hz
 refine Y O<|zY O O (qL O O) ?_
 rintro _ _ ⟨b1,rfl,rfl⟩
 refine zY O O (qG [none,none,none,none,none,some 4,none,none,none,none,none,none,none,none,none,none,some 2,some 4,some 13,some 20] O zr64 O) ?_
 rintro _ _ ⟨b2,rfl,rfl⟩
 refine zA<|zH<|yE 11 mixed uC O O<|zN O O (zP O O)<|zN O O (qK O O)<|zN O O (zF O zEm O)<|zN O O (zF O zJo O)<|zN O O (zK O one9 O (J 2 O) O)<|zN O O (zP O O)<|zN O O (qK O O)<|zN O O (zF O zPv O)<|zN O O (zK O wG O (J 2 O) O)<|zN O O (qA O yU O (J 1 O) O)<|zN O O (zDa [none,none,none,none,none,none,none,none,none,none,none,none,none,none,none,none,none,none,none,some 20] O zr64 pl64 O O)<|kE<|D 0 sz64 O<|zA<|zU _ (Weak.mem [true,false,true] O)<|zJ<|fin1 (zZ zLr O (J 0 O) O) ?_
 exact s8
theorem mk_fold (b:Nat) (d:Df) (dims red:List Bd) (body:Ex) (f:Int) (e:Ex):
    Con cfg 137 [vPt b,vI f,vE e] [E.row b 80 (mkC d dims red body (ixT dims))] fun r μ'=>r=vSt (jU d (ixT dims) f e)/\μ'=[E.row b 80 (mkC d dims red body (ixT dims))]:=by
 refine Con.drop<|zV Tryz.func137 O Tryz.ntmps137 Tryz.results137 O ?_
 intro z hz
 refine Y O<|zY O O (qL O O) ?_
 rintro _ _ ⟨b1,rfl,rfl⟩
 refine zY O O (qG [none,none,none,none,none,some 4,none,none,none,none,none,none,none,none,none,none,some 2,some 4,some 13,some 20] O zr64 O) ?_
 rintro _ _ ⟨b2,rfl,rfl⟩
 refine zA<|zH<|yE 12 mixed uC O O<|zN O O (zP O O)<|zN O O (qK O O)<|zN O O (zF O zEm O)<|zN O O (zF O zJo O)<|zN O O (zK O one9 O (J 2 O) O)<|zN O O (zP O O)<|zN O O (zP O O)<|zN O O (qK O O)<|zN O O (zF O zPv O)<|zN O O (zK O wG O (J 2 O) O)<|zN O O (qA O yU O (J 1 O) O)<|zN O O (zDa [none,none,none,none,none,none,none,none,none,none,none,none,none,none,none,none,none,none,none,some 20] O zr64 pl64 O O)<|kE<|D 0 sz64 O<|zA<|zU _ (Weak.mem [true,false,true] O)<|zJ<|fin1 (zZ zLr O (J 0 O) O) ?_
 exact s8
theorem zKw (l:Lf):
    Pur cfg 138 [dP l] (vE (pF l)):=by
 refine zV Tryz.func138 O Tryz.ntmps138 Tryz.results138 O ?_
 intro z hz
 refine Y O<|zY O O (qL O O) ?_
 rintro _ _ ⟨b1,rfl,rfl⟩
 refine zY O O (qG [none,none,none,none,none,none,none,none,none,none,some 2,some 4,some 13] O zr62 O) ?_
 rintro _ _ ⟨b2,rfl,rfl⟩
 refine zA<|Y O<|yZ [none,none,none,none,none,none,none,none,none,none,some 2,some 4,some 13] O zr62 pl62<|zM kD (J 1 O) O<|yZ [none,none,none,none,none,none,none,none,none,none,none,some 4,some 13] O zr62 pl62<|kA O el60 zr62<|yZ [none,none,none,none,none,none,none,none,none,none,some 2,some 4,none] O zr62 pl62<|D 0 sz62 O<|zA<|zJ<|fin1 (zZ yU O (J 0 O) O) ?_
 exact O
theorem mk_reduce (b:Nat) (d:Df) (dims red:List Bd) (body:Ex) (hrl:red.length<=1000000) (hbw:body.wt<=1000000) (hbr:body.allF Lf.rng):
    Con cfg 77 [vPt b] [E.row b 80 (mkC d dims red body (ixT dims))] fun r μ'=>r=.tup [fP (nV (sX d (ixT dims) red body)),vI (xS (sX d (ixT dims) red body))]/\μ'=[E.row b 80 (mkC d dims red body (ixT dims))]:=by
 refine Con.drop<|zV Tryz.func77 O Tryz.ntmps77 Tryz.results77 O ?_
 intro z hz
 refine Y O<|qX 20 O<|G O<|zA<|zH<|zH<|yS 16 1 [⟨0,.q []⟩,⟨1,.q []⟩,⟨2,.q []⟩,⟨3,.q []⟩,⟨4,.q [1]⟩,⟨5,.q []⟩,⟨6,.q []⟩,⟨7,.q []⟩,⟨8,.q []⟩,⟨9,.q [1]⟩,⟨10,.q []⟩,⟨11,.q []⟩,⟨12,.q []⟩,⟨13,.q []⟩,⟨14,.e 0 []⟩,⟨15,.e 0 []⟩] mixed uC uC O O O<|zQ O<|zQ O<|zQ O<|zQ O<|zQ O<|zQ O<|zQ O<|zQ O<|zQ O<|zQ O<|zQ O<|zQ O<|zQ O<|zQ O<|zQ O<|zQ O<|wS<|zX O uA O O (zP O O)<|zX O uA O O (qK O O)<|zX O uA O O (zF O zEm O)<|zX O uA O O (zF O fd70_4 O)<|zX O uA O O (zK O one3 O (J 0 O) O)<|zX O uA O O (zP O O)<|zX O uA O O (qK O O)<|zX O uA O O (zF O zEm O)<|zX O uA O O (zF O fd70_1 O)<|zX O uA O O (qA O qZ O (J 0 O) O)<|zX O uA O O (qS O ok139 (value_Identity d.Fold d.T) ⟨zB,O,zB,O,T⟩)<|zX O uA O O (yW O O)<|zX O uA O O (qY O O O)<|zX O uA O O (kT O O O)<|zGj O O uA O O (yC O zr54) ?_
 rintro _ _ ⟨b1,rfl,rfl⟩
 refine ⟨_,O,?_⟩
 refine zDx O O uA O O (yX O sz54 O O O (zDb 0 O O)) ?_
 rintro _ _ ⟨rfl,rfl⟩
 refine ⟨_,O,?_⟩
 refine wR O<|G O<|zA<|Y O<|G O<|zA<|zE O (fun c1=>?_) (fun c1=>?_)
 ·try simp only [sx] at c1
  have hD:=red_id (at_:=ixT dims) (red:=red) (body:=body) c1
  refine zH<|yS 10 1 [⟨0,.q []⟩,⟨1,.q []⟩,⟨2,.q []⟩,⟨3,.q []⟩,⟨4,.q []⟩,⟨5,.q [2]⟩,⟨6,.q [1]⟩,⟨7,.q []⟩,⟨8,.q [2]⟩,⟨9,.f 0⟩] mixed uC uC O O O<|zQ O<|zQ O<|zQ O<|zQ O<|zQ O<|zQ O<|zQ O<|zQ O<|zQ O<|zHn O O (zAf (qG [none,none,none,none,none,some 4,none,none,none,none,none,none,none,none,none,none,some 2,some 4,some 13,some 20] O zr64 O)) ⟨_,_,0,O,O⟩<|wS<|zX O uA O O (zP O O)<|zX O uA O O (zP O O)<|zX O uA O O (qK O O)<|zX O uA O O (zF O zEm O)<|zX O uA O O (zF O fd70_1 O)<|zX O uA O O (qA O qZ O (J 0 O) O)<|zX O uA O O (qA O zFt O (J 0 O) O)<|zX O uA O O (zDa [none,none,none,none,none,none,none,none,none,none,some 2,some 4,some 13] O zr62 pl62 O O)<|zX O uA O O (yG [0] O ok75 (mk_set b d dims red body (.mk 1 (bs []) (idT d.Fold d.T).1 d.T ⟨0,[]⟩ [] [])) ⟨zB,O,zB,O,T⟩ O)<|zHc O O ?_
  rintro _ _ ⟨b2,rfl,rfl⟩
  refine wR O<|D 0 sz64 O<|zA<|zH<|yS 19 1 [⟨0,.q [1]⟩,⟨2,.q []⟩,⟨3,.q []⟩,⟨4,.q []⟩,⟨5,.q [3]⟩,⟨6,.q []⟩,⟨7,.q []⟩,⟨8,.q []⟩,⟨9,.q []⟩,⟨10,.q []⟩,⟨11,.q [3]⟩,⟨12,.q []⟩,⟨13,.q []⟩,⟨14,.q []⟩,⟨15,.q [3]⟩,⟨16,.q [3]⟩,⟨17,.q []⟩,⟨18,.q []⟩,⟨1,.e 0 []⟩] mixed uC uC O O O<|zQ O<|zQ O<|zQ O<|zQ O<|zQ O<|zQ O<|zQ O<|zQ O<|zQ O<|zQ O<|zQ O<|zQ O<|zQ O<|zQ O<|zQ O<|zQ O<|zQ O<|zQ O<|zQ O<|wS<|zX O uA O O (qA O zLr O (J 0 O) O)<|zX O uA O O (zP O O)<|zX O uA O O (qK O O)<|zX O uA O O (zF O fd80_2 O)<|zX O uA O O (zK O one31 O (J 0 O) O)<|zX O uA O O (zP O O)<|zX O uA O O (zP O O)<|zX O uA O O (qK O O)<|zX O uA O O (zF O zEm O)<|zX O uA O O (zF O fd70_4 O)<|zX O uA O O (zK O one3 O (J 0 O) O)<|zX O uA O O (zP O O)<|zX O uA O O (qK O O)<|zX O uA O O (zF O fd80_3 O)<|zX O uA O O (qA O yU O (J 0 O) O)<|zX O uA O O (yG [0] O ok137 (mk_fold b d dims red body d.Fold body) ⟨zB,O,zB,O,zB,O,T⟩ O)<|zX O uA O O (wL O L zr64 O O O O)<|zX O uA O O (qS O ok74 (zFj red [jU d (ixT dims) d.Fold body] zC) ⟨zB,O,VLe.of_eq (one_rows _),O,T⟩)<|zGj O O uA O O (zBx O L zr64 O O O O) ?_
  rintro _ _ ⟨sv3,rfl,rfl⟩
  refine ⟨_,O,?_⟩
  refine wR O<|zY O O (yH 0 O L O O O (by have:=zMp red [jU d (ixT dims) d.Fold body];simp only [List.length_map,List.length_append,List.length_cons,List.length_nil] at this⊢;omega) (by have:=zMp red [jU d (ixT dims) d.Fold body];simp only [List.length_map,List.length_append,List.length_cons,List.length_nil] at this⊢;omega)) ?_
  rintro _ _ ⟨sv4,rfl,rfl⟩
  refine G O<|G O<|zA<|zU _ (yO 0 O (regs':=[(2,_),(57,_)]) (μ':=[_,_,_]) ⟨FLe.sl,FLe.sl,T⟩ ⟨EFle.refl _,EFle.refl _,EFle.refl _,T⟩)<|zU _ (Weak.mem [false,false,true] O)<|zJ<|fin2 (rs_c O) (rs_c O) ?_
  exact k7
 ·try simp only [sx] at c1
  refine zI<|Y O<|G O<|zS O<|zD O fd80_3<|zM yU (J 1 O) O<|yZ [none,some 2] O zr59 pl59<|zY O O (qG [none,none,none,none,none,none,none,none,none,none,some 2,some 4,some 13] O zr62 O) ?_
  rintro _ _ ⟨b5,rfl,rfl⟩
  refine zY O O (qG [none,some 2] O zr59 O) ?_
  rintro _ _ ⟨b6,rfl,rfl⟩
  refine D 1 sz62 O<|D 0 sz59 O<|zA<|zH<|Y O<|G O<|zS O<|zD O fd80_2<|zG one31 (J 3 O) O<|qB O el31<|G O<|zA<|zR<|zU ⟨[(68,.c _),(0,.c _),(7,.c _),(8,.c _),(66,.c _),(67,.c _)],[_,_,_]⟩ (Weak.mk [true,true,false,true] ⟨zB,zB,zB,zB,zB,zB,T⟩ O)<|qF 1 2 O O (Nat×Ex×Lf) (fun ⟨k,e,s⟩=>[(68,vI k)]) (fun ⟨k,e,s⟩=>[E.row b6 59 s.cells,E.row b5 62 e.cs]) (fun ⟨k,e,s⟩=>k<=red.length/\(SbJ (fun _:ByteArray=>(⟨0,[]⟩:Lf)) (red.map Bd.Name) body k e)/\(SmJ red k s)) (fun ⟨k,e,s⟩=>red.length-k) ⟨⟨0,body,⟨0,[]⟩⟩,⟨zC,sbJ_first hbr,smJ_first red⟩,Weak.mk [true,true,true] ⟨zB,zB,zB,zB,zB,zB,T⟩ O⟩ ?_
  rintro ⟨k,e,s⟩ ⟨hk,hs1,hs2⟩
  show AWP _ _ _ _ _ ⟨[(68,vI k)]++_,[E.row b6 59 s.cells,E.row b5 62 e.cs]++_⟩
  refine Y O<|yA O<|zA<|zH<|zE O (fun c2=>?_) (fun c2=>?_)
  ·try simp only [sx] at c2
   obtain ⟨x,hx⟩:=qV red k zC
   refine zI<|zH<|zR<|Y O<|qE O el31 zC (getm hx)<|zM agg50 qD O<|zY O O (yC O zr50) ?_
   rintro _ _ ⟨b7,rfl,rfl⟩
   refine D 0 sz50 O<|zA<|Y O<|zM yU (J 2 O) O<|zD O zQc<|zG one9 (J 0 O) O<|yZ [none,some 2] O zr59 pl59<|qJ O ok27 (zJr e x.Name ⟨0,[]⟩ (by have:=hs1.wt;omega) hs1.rg (Nat.zero_le _) (smJ_first []).rg) ⟨zB,O,zB,O,zB,O,T⟩<|qU O<|zW O (qY O O O)<|yK O<|zY O O (qG [none,none,none,none,none,none,none,none,none,none,some 2,some 4,some 13] O zr62 O) ?_
   rintro _ _ ⟨b8,rfl,rfl⟩
   refine D 0 sz62 O<|G O<|zA<|zH<|Y O<|G O<|yN O<|zA<|zE O (fun c3=>?_) (fun c3=>?_)
   ·try simp only [sx] at c3
    have hD:=red_e (at_:=ixT dims) c1 (sbJ_err (u:=(fun _:ByteArray=>(⟨0,[]⟩:Lf))) hs1 (map_get hx) c3)
    refine Y O<|G O<|qX 20 O<|G O<|zA<|zU _ (Weak.mem [false,false,false,false,true] O)<|zJ<|fin2 (rs_c O) (rs_c O) ?_
    rw [hD]
    exact s8
   ·try simp only [sx] at c3
    refine zI<|Y O<|zM yU (J 0 O) O<|D 3 sz62 O<|zA<|yS 9 0 [⟨0,.q [2]⟩,⟨1,.q []⟩,⟨2,.q [1]⟩,⟨3,.q []⟩,⟨4,.q []⟩,⟨5,.q []⟩,⟨6,.q []⟩,⟨7,.q []⟩,⟨8,.e 2 []⟩] mixed uC uC O O O<|zQ O<|zQ O<|zQ O<|zQ O<|zQ O<|zQ O<|zQ O<|zQ O<|zQ O<|wS<|zX O uA O O (qA O kD O (J 0 O) O)<|zX O uA O O (zF O zQc O)<|zX O uA O O (zK O one9 O (J 0 O) O)<|zX O uA O O (qS O ok31 (lin_Var x.Name) ⟨zB,O,T⟩)<|zX O uA O O (qS O ok132 (lin_Add s (gV x.Name) (by have:=hs2.ln;omega) (by have:=varL_len x.Name;omega) hs2.rg (varL_rng _)) ⟨zB,O,zB,O,T⟩)<|zX O uA O O (yW O O)<|zX O uA O O (qY O O O)<|zX O uA O O (kT O O O)<|zDx O O uA O O (yX O sz59 O O O (zDb 0 O O)) ?_
    rintro _ _ ⟨rfl,rfl⟩
    refine ⟨_,O,?_⟩
    refine wR O<|zA<|zO O<|qH O ⟨zC,zC⟩<|G O<|zA ?_
    refine ⟨⟨k+1,nW (mEx (fun l=>fC l x.Name ⟨0,[]⟩) e),(lE s (gV x.Name)).1⟩,⟨zC,sbJ_next (u:=(fun _:ByteArray=>(⟨0,[]⟩:Lf))) (fun _=>O) hs1 (map_get hx) c3,smJ_next hs2 hx⟩,(by show red.length-(k+1)<red.length-k;omega),Weak.mk [false,false,true,true,true] ⟨zB,zB,zB,zB,zB,zB,T⟩ O⟩
  ·try simp only [sx] at c2
   have hD:=red_ok (at_:=ixT dims) c1 (sbJ_end hs1 (by rw [List.length_map];omega)) (smJ_end hs2 zC)
   refine qM<|zH<|yS 16 1 [⟨0,.q [1]⟩,⟨1,.q []⟩,⟨2,.q []⟩,⟨3,.q []⟩,⟨4,.q []⟩,⟨5,.q []⟩,⟨6,.q []⟩,⟨7,.q [3]⟩,⟨8,.q []⟩,⟨9,.q []⟩,⟨10,.q []⟩,⟨11,.q [3]⟩,⟨12,.q [3]⟩,⟨13,.q []⟩,⟨14,.q []⟩,⟨15,.f 0⟩] mixed uC uC O O O<|zQ O<|zQ O<|zQ O<|zQ O<|zQ O<|zQ O<|zQ O<|zQ O<|zQ O<|zQ O<|zQ O<|zQ O<|zQ O<|zQ O<|zQ O<|zHn O O (zAf (qG [none,none,none,none,none,some 4,none,none,none,none,none,none,none,none,none,none,some 2,some 4,some 13,some 20] O zr64 O)) ⟨_,_,0,O,O⟩<|wS<|zX O uA O O (qA O kD O (J 0 O) O)<|zX O uA O O (qS O ok138 (zKw s) ⟨zB,O,T⟩)<|zX O uA O O (zP O O)<|zX O uA O O (zP O O)<|zX O uA O O (qK O O)<|zX O uA O O (zF O zEm O)<|zX O uA O O (zF O fd70_4 O)<|zX O uA O O (zK O one3 O (J 0 O) O)<|zX O uA O O (zP O O)<|zX O uA O O (qK O O)<|zX O uA O O (zF O fd80_3 O)<|zX O uA O O (qA O yU O (J 0 O) O)<|zX O uA O O (yG [0] O ok137 (mk_fold b d dims red body d.Fold body) ⟨zB,O,zB,O,zB,O,T⟩ O)<|zX O uA O O (wL O L zr64 O O O O)<|zX O uA O O (zDa [none,none,none,none,none,some 4,none,none,none,none,none,none,none,none,none,none,none,none,none,none] O zr64 pl64 O O)<|zHc O O ?_
   rintro _ _ ⟨b9,rfl,rfl⟩
   refine wR O<|D 0 sz64 O<|zA<|zH<|yS 11 1 [⟨0,.q []⟩,⟨1,.q [3]⟩,⟨2,.q [4]⟩,⟨4,.q []⟩,⟨5,.q []⟩,⟨6,.q []⟩,⟨7,.q [4]⟩,⟨8,.q [1]⟩,⟨9,.q []⟩,⟨10,.q []⟩,⟨3,.e 0 []⟩] mixed uC uC O O O<|zQ O<|zQ O<|zQ O<|zQ O<|zQ O<|zQ O<|zQ O<|zQ O<|zQ O<|zQ O<|zQ O<|wS<|zX O uA O O (zP O O)<|zX O uA O O (qA O yU O (J 0 O) O)<|zX O uA O O (yG [0] O ok75 (mk_set b d dims red body e) ⟨zB,O,zB,O,T⟩ O)<|zX O uA O O (zP O O)<|zX O uA O O (qK O O)<|zX O uA O O (zF O fd80_2 O)<|zX O uA O O (zK O one31 O (J 0 O) O)<|zX O uA O O (qA O zLr O (J 0 O) O)<|zX O uA O O (wL O L zr64 O O O O)<|zX O uA O O (qS O ok74 (zFj red [lIf (pF s) [jU d (ixT dims) d.Fold body]] zC) ⟨zB,O,VLe.of_eq (if_rows _ _),O,T⟩)<|zGj O O uA O O (zBx O L zr64 O O O O) ?_
   rintro _ _ ⟨sv10,rfl,rfl⟩
   refine ⟨_,O,?_⟩
   refine wR O<|zY O O (yH 0 O L O O O (by have:=zMp red [lIf (pF s) [jU d (ixT dims) d.Fold body]];simp only [List.length_map,List.length_append,List.length_cons,List.length_nil] at this⊢;omega) (by have:=zMp red [lIf (pF s) [jU d (ixT dims) d.Fold body]];simp only [List.length_map,List.length_append,List.length_cons,List.length_nil] at this⊢;omega)) ?_
   rintro _ _ ⟨sv11,rfl,rfl⟩
   refine G O<|G O<|zA<|zU _ (yO 0 O (regs':=[(119,_),(2,_)]) (μ':=[_,_,_,_]) ⟨FLe.sl,FLe.sl,T⟩ ⟨EFle.refl _,EFle.refl _,EFle.refl _,EFle.refl _,T⟩)<|zU _ (Weak.mem [false,false,false,true] O)<|zJ<|fin2 (rs_c O) (rs_c O) ?_
   exact k7
theorem mk_scan (b:Nat) (d:Df) (dims red:List Bd) (body:Ex) (hdl:dims.length<=1000000) (hd0:0<dims.length):
    Con cfg 76 [vPt b] [E.row b 80 (mkC d dims red body (ixT dims))] fun r μ'=>r=fP (cF d (ixT dims) body)/\μ'=[E.row b 80 (mkC d dims red body (ixT dims))]:=by
 refine Con.drop<|zV Tryz.func76 O Tryz.ntmps76 Tryz.results76 O ?_
 intro z hz
 obtain ⟨x,hx⟩:=qV dims (dims.length-1) zC
 have hix:=ix_at hx
 have hil:(ixT dims).length=dims.length:=by unfold ixT;rw [List.length_map]
 refine Y O<|qX 20 O<|zA<|Y O<|G O<|zS O<|zD O zPv<|zG wG (J 0 O) O<|qB O N<|zW O (yM O O O ⟨zC,zC⟩)<|G O<|zA<|Y O<|G O<|zS O<|zD O zPv<|zG wG (J 0 O) O<|yT _ (kO 93 4)<|zY O O (yH 0 O N O O O uE uE) ?_
 rintro _ _ ⟨sv1,rfl,rfl⟩
 refine G O<|zA<|zH<|yS 18 0 [⟨0,.q []⟩,⟨1,.q []⟩,⟨2,.q []⟩,⟨3,.q []⟩,⟨4,.q []⟩,⟨5,.q [1]⟩,⟨6,.q []⟩,⟨7,.q []⟩,⟨8,.q []⟩,⟨9,.q []⟩,⟨10,.q []⟩,⟨11,.q []⟩,⟨12,.q []⟩,⟨13,.q []⟩,⟨14,.q []⟩,⟨15,.q [0]⟩,⟨16,.q []⟩,⟨17,.e 0 []⟩] mixed uC uC O O O<|zQ O<|zQ O<|zQ O<|zQ O<|zQ O<|zQ O<|zQ O<|zQ O<|zQ O<|zQ O<|zQ O<|zQ O<|zQ O<|zQ O<|zQ O<|zQ O<|zQ O<|zQ O<|wS<|zX O uA O O (zP O O)<|zX O uA O O (zP O O)<|zX O uA O O (zP O O)<|zX O uA O O (qK O O)<|zX O uA O O (zF O zPv O)<|zX O uA O O (zK O wG O (J 0 O) O)<|zX O uA O O (zP O O)<|zX O uA O O (qN O N O O zC (last_get hix))<|zX O uA O O (qQ O zCi O)<|zX O uA O O (qA O kD O qD O)<|zX O uA O O (qS O ok28 (lin_Const (-1)) ⟨zB,O,T⟩)<|zX O uA O O (qS O ok132 (lin_Add (gV x.Name) ⟨-1,[]⟩ (by have:=varL_len x.Name;omega) uA (varL_rng _) m1_rng) ⟨zB,O,zB,O,T⟩)<|zX O uA O O (yW O O)<|zX O uA O O (qY O O O)<|zX O uA O O (kT O O O)<|zX O uA O O (qR 0 O N O O O zC (by simp only [List.nil_append,List.length_map];omega))<|zX O uA O O (kS O zCi O)<|zDx O O uA O O (yX O sz59 O O O (zEl 0 O (last_get hix) O)) ?_
 rintro _ _ ⟨rfl,rfl⟩
 refine ⟨_,O,?_⟩
 refine wR O<|zA<|Y O<|rwp_show (μ':=[E.vec sv1 93 4 (((ixT dims).set ((ixT dims).length-1) ⟨(lE (gV x.Name) ⟨-1,[]⟩).1,bs [],[]⟩).map Ix.cells),E.row b 80 (mkC d dims red body (ixT dims))]) (by rw [←scn_rows];rfl)<|yT _ (yO 0 O (regs':=[(16,_),(4,_),(18,_)]) (μ':=[_]) ⟨FLe.sl,FLe.sl,FLe.sl,T⟩ ⟨EFle.refl _,T⟩)<|G O<|G O<|zS O<|zD O zEm<|zD O zJo<|zG one9 (J 0 O) O<|G O<|yZ [none,none,none,none,none,none,none,none,none,none,some 2,none,some 13] O zr62 pl62<|zW O (yG [0] O ok137 (mk_fold b d dims red body 1 (.mk 3 d.Name ⟨0,0⟩ zTy ⟨0,[]⟩ ((ixT dims).set ((ixT dims).length-1) ⟨(lE (gV x.Name) ⟨-1,[]⟩).1,bs [],[]⟩) [])) ⟨zB,O,zB,O,zB,O,T⟩ O)<|zY O O (qG [none,none,none,none,none,some 4,none,none,none,none,none,none,none,none,none,none,some 2,some 4,some 13,some 20] O zr64 O) ?_
 rintro _ _ ⟨b2,rfl,rfl⟩
 refine D 0 sz64 O<|zA<|zH<|yS 17 0 [⟨0,.q []⟩,⟨1,.q []⟩,⟨2,.q []⟩,⟨3,.q []⟩,⟨4,.q [1]⟩,⟨5,.q [1]⟩,⟨6,.q []⟩,⟨7,.q []⟩,⟨8,.q []⟩,⟨9,.q [1]⟩,⟨10,.q []⟩,⟨11,.q []⟩,⟨12,.q []⟩,⟨13,.q []⟩,⟨14,.q []⟩,⟨15,.q [0]⟩,⟨16,.q []⟩] mixed uC uC O O O<|zQ O<|zQ O<|zQ O<|zQ O<|zQ O<|zQ O<|zQ O<|zQ O<|zQ O<|zQ O<|zQ O<|zQ O<|zQ O<|zQ O<|zQ O<|zQ O<|zQ O<|wS<|zX O uA O O (zP O O)<|zX O uA O O (zP O O)<|zX O uA O O (qK O O)<|zX O uA O O (zF O fd80_3 O)<|zX O uA O O (qA O yU O (J 0 O) O)<|zX O uA O O (yG [0] O ok75 (mk_set b d dims red body body) ⟨zB,O,zB,O,T⟩ O)<|zX O uA O O (zP O O)<|zX O uA O O (qK O O)<|zX O uA O O (zF O zPv O)<|zX O uA O O (zK O wG O (J 0 O) O)<|zX O uA O O (zP O O)<|zX O uA O O (qN O N O O zC (last_get hix))<|zX O uA O O (qQ O zCi O)<|zX O uA O O (qA O kD O qD O)<|zX O uA O O (qS O ok138 (zKw (gV x.Name)) ⟨zB,O,T⟩)<|zX O uA O O (qA O zLr O (J 0 O) O)<|zX O uA O O (wL O L zr64 O O O O)<|wR O<|yZ [none,none,none,none,none,some 4,none,none,none,none,none,none,none,none,none,none,none,none,none,none] O zr64 pl64<|kA O L zr64<|G O<|zA<|zU _ (Weak.mem [false,true] O)<|zJ<|zT O ?_
 rw [scn_is hix]
 first|exact ⟨zKa _ _ _,[],rfl⟩|exact ⟨zKa _ _ _,[_],rfl⟩|exact ⟨zKa _ _ _,[_,_],rfl⟩|exact ⟨zKa _ _ _,[_,_,_],rfl⟩|exact ⟨zKa _ _ _,[_,_,_,_],rfl⟩|exact ⟨zKa _ _ _,[_,_,_,_,_],rfl⟩
end Go.W
end
section
set_option maxRecDepth 10000
namespace Go.W
open Go Go.Eng Go.Proofs Go.L41 Go.Br
attribute [local irreducible] AWP RWP TD fQ
theorem fd80_1:bD Tryz.prog 80 1=some (22,31):=by kernel_rfl
theorem ok8:bA Tryz.prog 8=true:=by kernel_rfl
theorem ok76:bA Tryz.prog 76=true:=by kernel_rfl
theorem ok77:bA Tryz.prog 77=true:=by kernel_rfl
theorem sm83:pX Tryz.prog 83=some (Value.string (ByteArray.mk #[])):=by kernel_rfl
theorem zTb (mb:Nat) (d:ByteArray) (l:List Ax) (ext:List Int) (m:SmM) (hd:d.size<=100000) (hl:l.length<=1000000) (hs:∀x,x∈l->x.Name.size<=100000) (hel:ext.length=l.length):
    Con cfg 26 [vS d,.c (.sl 3 (l.map Ax.cells)),vIs ext,.c (.lit (.map (some mb)))] [E.blk mb (MapR vS m)] fun r μ'=>r=.tup [jT (cW d l ext),vI (lF d l)]/\μ'=[E.blk mb (MapR vS (mR d l m))]:=by
 refine Con.drop<|zV Tryz.func26 O Tryz.ntmps26 Tryz.results26 O ?_
 intro z hz
 refine Y O<|qX 2 O<|G O<|zA<|Y O<|G O<|yT _ (kO 50 2)<|zA<|zH<|Y O<|G O<|qB O el68<|G O<|zA<|zR<|zU ⟨[(16,.c _),(10,.c _),(0,.c _),(2,.c _),(3,.c _),(14,.c _),(15,.c _)],[_,_]⟩ (Weak.mk [true,true] ⟨zB,zB,zB,zB,zB,zB,zB,T⟩ O)<|qF 2 2 O O (Nat×Value×SmM) (fun ⟨k,sv,q⟩=>[(16,vI k),(10,.c (.lit sv))]) (fun ⟨k,sv,q⟩=>[E.vec sv 50 2 ((pG d (l.take k) ext).map Bd.cells),E.blk mb (MapR vS q)]) (fun ⟨k,sv,q⟩=>k<=l.length/\((l.take k).any (fun x=>decide (lnT d x.Name=bs []))=false)/\(mR d l m=mR d (l.drop k) q)) (fun ⟨k,sv,q⟩=>l.length-k) ⟨⟨0,(.slice none 0 0),m⟩,⟨zC,O,O⟩,Weak.mk [true,true] ⟨zB,zB,zB,zB,zB,zB,zB,T⟩ O⟩ ?_
 rintro ⟨k,sv,q⟩ ⟨hk,hp,hq⟩
 show AWP _ _ _ _ _ ⟨[(16,vI k),(10,.c (.lit sv))]++_,[E.vec sv 50 2 ((pG d (l.take k) ext).map Bd.cells),E.blk mb (MapR vS q)]++_⟩
 refine Y O<|yA O<|zA<|zH<|zE O (fun c1=>?_) (fun c1=>?_)
 ·try simp only [sx] at c1
  obtain ⟨x,hx⟩:=qV l k zC
  obtain ⟨n,hn⟩:=qV ext k zC
  refine zI<|zH<|zR<|Y O<|G O<|qE O el68 zC (getm hx)<|zM agg99 qD O<|zY O O (qG [none,none,some 2] O zr99 O) ?_
  rintro _ _ ⟨b2,rfl,rfl⟩
  refine G O<|D 0 sz99 O<|zA<|Y O<|G O<|zD O zTn<|zG one9 (J 0 O) O<|qJ O ok8 (zKx d x.Name hd (hs x (qC hx))) ⟨zB,O,zB,O,T⟩<|G O<|zA<|zH<|Y O<|G O<|wD O<|zA<|zE O (fun c2=>?_) (fun c2=>?_)
  ·try simp only [sx] at c2
   have hE:=nmd_stop hx c2
   have hM:=nmdM_stop hx hq c2
   refine Y O<|qX 2 O<|G O<|zA<|zU _ (Weak.mem [false,false,true] O)<|zJ<|fin2 (rs_c O) (rs_c O) ?_
   rw [nmdB_no hE,hE,hM]
   exact s8
  ·try simp only [sx] at c2
   refine zI<|Y O<|G O<|zD O zTn<|zG one9 (J 0 O) O<|G O<|zBd O O (zGw 2 (lnT d x.Name) O sm83 O O O (zB) O)<|zA<|zO O<|G O<|G O<|G O<|G O<|qE O el46 zC (getm hn)<|zG one3 qD O<|yI O zr50 pl50<|kA O el31 zr50<|zY O O (yH 1 O el31 O O O (by simp [pG];omega) (by simp [pG];omega)) ?_
   rintro _ _ ⟨sv3,rfl,rfl⟩
   refine G O<|zA<|zO O<|qH O ⟨zC,zC⟩<|G O<|zA ?_
   refine ⟨⟨k+1,sv3,dY q x.Name (lnT d x.Name)⟩,⟨zC,nmd_go hx hp c2,nmdM_next hx hq c2⟩,(by show l.length-(k+1)<l.length-k;omega),Weak.mk [false,true,true] ⟨zB,zB,zB,zB,zB,zB,zB,T⟩ (by show _=[E.vec sv3 _ 2 ((pG d (l.take (k+1)) ext).map Bd.cells),E.blk mb (MapR vS (dY q x.Name (lnT d x.Name)))]++_;rw [nmdL_next hx hn,List.map_append];rfl)⟩
 ·try simp only [sx] at c1
  rw [yD (l:=l) (k:=k) zC]
  rw [yD (l:=l) (k:=k) zC] at hp
  have hE:=nmd_end hp
  have hM:=nmdM_end hq (show l.length<=k by omega)
  refine zU _ (yO 0 O (regs':=[(10,_)]) (μ':=[_]) ⟨FLe.sl,T⟩ ⟨EFle.refl _,T⟩)<|qM<|Y O<|G O<|G O<|G O<|zA<|zJ<|fin2 (rs_c O) (rs_c O) ?_
  rw [nmdB_ok hE,hE,hM]
  exact s8
theorem mk_statements (b:Nat) (d:Df) (dims red:List Bd) (body:Ex) (hdl:dims.length<=1000000) (hrl:red.length<=1000000) (hbw:body.wt<=1000000) (hbr:body.allF Lf.rng) (h5:d.Fold=5->0<dims.length):
    Con cfg 32 [vPt b] [E.row b 80 (mkC d dims red body (ixT dims))] fun r μ'=>r=.tup [fP (nV (stT d dims red body)),vI (xS (stT d dims red body))]/\μ'=[E.row b 80 (mkC d dims red body (ixT dims))]:=by
 refine Con.drop<|zV Tryz.func32 O Tryz.ntmps32 Tryz.results32 O ?_
 intro z hz
 refine Y O<|qX 20 O<|G O<|zA<|zH<|Y O<|G O<|zS O<|zD O zEm<|zD O fd70_4<|zG one3 (J 0 O) O<|zA<|zR<|Y O<|yJ O<|G O<|zA<|zE O (fun c1=>?_) (fun c1=>?_)
 ·try simp only [sx] at c1
  have hD:=st_ok (inn_0 (at_:=ixT dims) (red:=red) (body:=body) c1)
  refine zH<|yS 11 0 [⟨0,.q []⟩,⟨1,.q []⟩,⟨2,.q []⟩,⟨3,.q [0]⟩,⟨4,.q []⟩,⟨5,.q []⟩,⟨6,.q []⟩,⟨7,.q []⟩,⟨8,.q [0]⟩,⟨9,.q [0]⟩,⟨10,.q []⟩] mixed uC uC O O O<|zQ O<|zQ O<|zQ O<|zQ O<|zQ O<|zQ O<|zQ O<|zQ O<|zQ O<|zQ O<|zQ O<|wS<|zX O uA O O (zP O O)<|zX O uA O O (qK O O)<|zX O uA O O (zF O fd80_1 O)<|zX O uA O O (zK O one31 O (J 0 O) O)<|zX O uA O O (zP O O)<|zX O uA O O (zP O O)<|zX O uA O O (qK O O)<|zX O uA O O (zF O fd80_3 O)<|zX O uA O O (qA O yU O (J 0 O) O)<|zX O uA O O (yG [0] O ok75 (mk_set b d dims red body body) ⟨zB,O,zB,O,T⟩ O)<|zX O uA O O (wL O L zr64 O O O O)<|wR O<|qJ O ok74 (zFj dims [nO d (ixT dims) body] zC) ⟨zB,O,VLe.of_eq (one_rows _),O,T⟩<|G O<|G O<|zA<|zJ<|fin2 (rs_c O) (rs_c O) ?_
  rw [hD]
  exact s8
 ·try simp only [sx] at c1
  refine Y O<|yJ O<|G O<|zA<|zE O (fun c2=>?_) (fun c2=>?_)
  ·try simp only [sx] at c2
   have hD:=st_ok (inn_5 (at_:=ixT dims) (red:=red) (body:=body) c2)
   refine zH<|yS 6 0 [⟨0,.q []⟩,⟨1,.q []⟩,⟨2,.q []⟩,⟨3,.q [0]⟩,⟨4,.q []⟩,⟨5,.q [0]⟩] mixed uC uC O O O<|zQ O<|zQ O<|zQ O<|zQ O<|zQ O<|zQ O<|wS<|zX O uA O O (zP O O)<|zX O uA O O (qK O O)<|zX O uA O O (zF O fd80_1 O)<|zX O uA O O (zK O one31 O (J 0 O) O)<|zX O uA O O (zP O O)<|zX O uA O O (yG [0] O ok76 (mk_scan b d dims red body hdl (h5 c2)) ⟨zB,O,T⟩ O)<|wR O<|qJ O ok74 (zFj dims (cF d (ixT dims) body) zC) ⟨zB,O,zB,O,T⟩<|G O<|G O<|zA<|zJ<|fin2 (rs_c O) (rs_c O) ?_
   rw [hD]
   exact s8
  ·try simp only [sx] at c2
   have hI:=inn_r (at_:=ixT dims) (red:=red) (body:=body) c1 c2
   refine zI<|Y O<|G O<|zW O (yG [0] O ok77 (mk_reduce b d dims red body hrl hbw hbr) ⟨zB,O,T⟩ O)<|qU O<|yK O<|yK O<|G O<|G O<|zA<|zH<|Y O<|G O<|yN O<|zA<|zE O (fun c3=>?_) (fun c3=>?_)
   ·try simp only [sx] at c3
    obtain ⟨x,hx⟩:=errL_er c3
    have hD:=st_e (hI.trans hx)
    rw [hx]
    refine Y O<|G O<|qX 20 O<|G O<|zA<|zJ<|fin2 (rs_c O) (rs_c O) ?_
    rw [hD]
    exact s8
   ·try simp only [sx] at c3
    obtain ⟨x,hx⟩:=errL_0 (fun x hx=>red_ne hx) c3
    have hD:=st_ok (hI.trans hx)
    rw [hx]
    refine zI<|Y O<|G O<|zS O<|zD O fd80_1<|zG one31 (J 0 O) O<|G O<|qJ O ok74 (zFj dims x zC) ⟨zB,O,zB,O,T⟩<|G O<|G O<|zA<|zJ<|fin2 (rs_c O) (rs_c O) ?_
    rw [hD]
    exact s8
end Go.W
end
