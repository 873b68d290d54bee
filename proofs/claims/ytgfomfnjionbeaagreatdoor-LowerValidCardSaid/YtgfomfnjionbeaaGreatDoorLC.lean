/-
  What functions compute.
  Conditions: none.
-/
import Derived.Test.YtgfomfnjionbeaaGreatDoorLR
set_option linter.unusedSimpArgs false
set_option linter.unusedVariables false
set_option maxRecDepth 10000
namespace Go.W
open Go Go.Eng Go.Proofs Go.L41 Go.Br
attribute [local irreducible] AWP RWP TD fQ
theorem ok11:bA Tryz.prog 11=true:=by kernel_rfl
theorem ok24:bA Tryz.prog 24=true:=by kernel_rfl
theorem ok25:bA Tryz.prog 25=true:=by kernel_rfl
theorem ok26:bA Tryz.prog 26=true:=by kernel_rfl
theorem ok29:bA Tryz.prog 29=true:=by kernel_rfl
theorem ok32:bA Tryz.prog 32=true:=by kernel_rfl
theorem ok33:bA Tryz.prog 33=true:=by kernel_rfl
theorem ok43:bA Tryz.prog 43=true:=by kernel_rfl
theorem ok45:bA Tryz.prog 45=true:=by kernel_rfl
theorem ok78:bA Tryz.prog 78=true:=by kernel_rfl
theorem pl41:dL Tryz.prog 41=some [(0,1),(1,1)]:=by kernel_rfl
theorem pl80:dL Tryz.prog 80=some [(0,22),(22,1),(23,1),(24,13),(37,1)]:=by kernel_rfl
theorem sz31:(Tryz.prog.info? 31).map (·.size)=some 1:=by kernel_rfl
theorem sz39:(Tryz.prog.info? 39).map (·.size)=some 1:=by kernel_rfl
theorem sz41:(Tryz.prog.info? 41).map (·.size)=some 2:=by kernel_rfl
theorem zr41:dO Tryz.prog 41=some [(Value.slice none 0 0),(Value.slice none 0 0)]:=by kernel_rfl
theorem zr80:dO Tryz.prog 80=some [(Value.string (ByteArray.mk #[])),(Value.int IntKind.i64 0),(Value.int IntKind.i64 0),(Value.int IntKind.i64 0),(Value.int IntKind.i64 0),(Value.int IntKind.i64 0),(Value.slice none 0 0),(Value.slice none 0 0),(Value.int IntKind.i64 0),(Value.int IntKind.i64 0),(Value.string (ByteArray.mk #[])),(Value.int IntKind.i64 0),(Value.int IntKind.i64 0),(Value.int IntKind.i64 0),(Value.int IntKind.i64 0),(Value.int IntKind.i64 0),(Value.int IntKind.i64 0),(Value.int IntKind.i64 0),(Value.int IntKind.i64 0),(Value.slice none 0 0),(Value.slice none 0 0),(Value.slice none 0 0),(Value.slice none 0 0),(Value.slice none 0 0),(Value.int IntKind.i64 0),(Value.string (ByteArray.mk #[])),(Value.int IntKind.i64 0),(Value.int IntKind.i64 0),(Value.int IntKind.i64 0),(Value.int IntKind.i64 0),(Value.int IntKind.i64 0),(Value.int IntKind.i64 0),(Value.int IntKind.i64 0),(Value.int IntKind.i64 0),(Value.slice none 0 0),(Value.slice none 0 0),(Value.slice none 0 0),(Value.slice none 0 0)]:=by kernel_rfl
theorem loopnest_Copy (n:Ns) (hn:n.Ok):
    Pur cfg 33 [vNs n] (vNs n):=by
 refine zV Tryz.func33 O Tryz.ntmps33 Tryz.results33 O ?_
 intro z hz
 have hnb:=hn.bufs
 have hnw:=hn.body
 refine Y O<|zY O O (qL O O) ?_
 rintro _ _ ⟨b1,rfl,rfl⟩
 refine zY O O (qG [some 8,some 20] O zr41 O) ?_
 rintro _ _ ⟨b2,rfl,rfl⟩
 refine zA<|Y O<|zD O zBt<|zG zBg (J 1 O) O<|qJ O ok78 (zMr n.Body zC) ⟨zB,O,T⟩<|yI O zr41 pl41<|zY O O (qG [some 8,some 20] O zr41 O) ?_
 rintro _ _ ⟨b3,rfl,rfl⟩
 refine D 0 sz41 O<|zA<|zH<|Y O<|yT _ (kO 66 8)<|zD O zAx<|zG zFg (J 3 O) O<|qB O el39<|G O<|zA<|zR<|zU ⟨[(12,.c _),(1,.c _),(2,.c _),(3,.c _),(11,.c _)],[_,_,_,_]⟩ (Weak.mk [true,true,true,true] ⟨zB,zB,zB,zB,zB,T⟩ O)<|qF 1 2 O O (Nat×Value) (fun ⟨k,sv⟩=>[(12,vI k)]) (fun ⟨k,sv⟩=>[E.vec sv 66 8 ((n.Bufs.take k).map Bf.cells),E.row b3 41 [.lit sv,.sl 20 (n.Body.map St.cells)]]) (fun ⟨k,sv⟩=>k<=n.Bufs.length) (fun ⟨k,sv⟩=>n.Bufs.length-k) ⟨⟨0,(.slice none 0 0)⟩,zC,Weak.mk [true,true,true,true] ⟨zB,zB,zB,zB,zB,T⟩ O⟩ ?_
 rintro ⟨k,sv⟩ hk
 show AWP _ _ _ _ _ ⟨[(12,vI k)]++_,[E.vec sv 66 8 ((n.Bufs.take k).map Bf.cells),E.row b3 41 [.lit sv,.sl 20 (n.Body.map St.cells)]]++_⟩
 refine Y O<|yA O<|zA<|zH<|zE O (fun c1=>?_) (fun c1=>?_)
 ·try simp only [sx] at c1
  obtain ⟨b,hb⟩:=qV n.Bufs k zC
  have hbd:=hn.dims b (qC hb)
  refine zI<|zH<|zR<|Y O<|G O<|G O<|zA<|yE 9 mixed uC O O<|zN O O (zF O zAx O)<|zN O O (zK O zFg O (J 1 O) O)<|zN O O (zF O zAx O)<|zN O O (zK O zFg O (J 3 O) O)<|zN O O (zP O O)<|zN O O (qN O el39 O O zC (getm uD))<|zN O O (qA O zNs O qD O)<|zN O O (qS O ok79 (zFk b zC) ⟨zB,O,T⟩)<|zN O O (wL O el39 zr66 O O O O)<|kE<|zY O O (yH 0 O el39 O O O uE uE) ?_
  rintro _ _ ⟨sv4,rfl,rfl⟩
  refine zD O zAx<|D 1 sz39 O<|zA<|zO O<|qH O ⟨zC,zC⟩<|G O<|zA ?_
  refine ⟨⟨k+1,sv4⟩,zC,(by show n.Bufs.length-(k+1)<n.Bufs.length-k;omega),Weak.mk [true,true,true,true] ⟨zB,zB,zB,zB,zB,T⟩ (by exact zMo (by rw [yB hb,List.map_append];rfl))⟩
 ·try simp only [sx] at c1
  rw [yD (l:=n.Bufs) (k:=k) zC]
  refine zU _ (yO 0 O (regs':=[]) (μ':=[_,_,_]) T ⟨EFle.row (ds:=[_,_]) ⟨.inr ⟨O,O⟩,.inl O,T⟩,EFle.refl _,EFle.refl _,T⟩)<|qM<|Y O<|zM zBm (J 0 O) O<|D 1 sz41 O<|zA<|zJ<|fin1 (zZ zBm O (J 1 O) O) ?_
  rfl
theorem lower_extents (l:List Ax) (env:List Bd) (hel:env.length<=1000000) (her:∀x,x∈env->r64 x.Val) (hl:l.length<=4294967296) (hf:∀x,x∈l->x.Size.L.length<=5864062014805/\x.Size.rng):
    Pur cfg 25 [.c (.sl 3 (l.map Ax.cells)),jT env] (.tup [vIs (cQ env (l.map Ax.Size)),vI (gA env (l.map Ax.Size))]):=by
 refine zV Tryz.func25 O Tryz.ntmps25 Tryz.results25 O ?_
 intro z hz
 refine Y O<|qX 1 O<|G O<|zA<|Y O<|G O<|yT _ (kO 3 1)<|zA<|zH<|Y O<|G O<|qB O el68<|G O<|zA<|zR<|zU ⟨[(13,.c _),(6,.c _),(1,.c _),(11,.c _),(12,.c _)],[_]⟩ (Weak.mk [true] ⟨zB,zB,zB,zB,zB,T⟩ O)<|qF 2 1 O O (Nat×Value) (fun ⟨k,sv⟩=>[(13,vI k),(6,.c (.lit sv))]) (fun ⟨k,sv⟩=>[E.vec sv 3 1 ((gT env ((l.take k).map Ax.Size)).map fun n=>[cI n])]) (fun ⟨k,sv⟩=>k<=l.length/\(gA env (l.map Ax.Size)=gA env ((l.map Ax.Size).drop k))) (fun ⟨k,sv⟩=>l.length-k) ⟨⟨0,(.slice none 0 0)⟩,⟨zC,O⟩,Weak.mk [true] ⟨zB,zB,zB,zB,zB,T⟩ O⟩ ?_
 rintro ⟨k,sv⟩ ⟨hk,hp⟩
 show AWP _ _ _ _ _ ⟨[(13,vI k),(6,.c (.lit sv))]++_,[E.vec sv 3 1 ((gT env ((l.take k).map Ax.Size)).map fun n=>[cI n])]++_⟩
 refine Y O<|yA O<|zA<|zH<|zE O (fun c1=>?_) (fun c1=>?_)
 ·try simp only [sx] at c1
  obtain ⟨x,hx⟩:=qV l k zC
  have hxx:(l.map Ax.Size)[k]? =some x.Size:=map_get hx
  refine zI<|zH<|zR<|Y O<|qE O el68 zC (getm hx)<|zM agg99 qD O<|zY O O (qG [none,none,some 2] O zr99 O) ?_
  rintro _ _ ⟨b2,rfl,rfl⟩
  refine D 0 sz99 O<|zA<|Y O<|zD O fd99_1<|zM kD (J 0 O) O<|G O<|qJ O ok68 (lin_Eval x.Size env hel her (hf x (qC hx)).1 (hf x (qC hx)).2) ⟨zB,O,zB,O,T⟩<|qU O<|yK O<|yK O<|G O<|G O<|zA<|zH<|Y O<|G O<|yN O<|zA<|zE O (fun c2=>?_) (fun c2=>?_)
  ·try simp only [sx] at c2
   have hE:=ext_err hxx hp c2
   refine Y O<|G O<|qX 1 O<|G O<|zA<|zJ<|fin2 (rs_c O) (rs_c O) ?_
   rw [ext_no (by rw [hE];exact c2),hE];rfl
  ·try simp only [sx] at c2
   refine zI<|zH<|Y O<|G O<|yA O<|G O<|rL0 O (fun g8_2=>zP O O) O<|rL1 30 O (fun g8_2=>yF O O O) O<|r_or O (fun h=>(lzf h))<|zA<|zE O (fun c3=>?_) (fun c3=>?_)
   ·try simp only [sx] at c3
    have hE:=ext_bad hxx hp c2 (by simpa using c3)
    refine Y O<|qX 1 O<|G O<|zA<|zJ<|fin2 (rs_c O) (rs_c O) ?_
    rw [ext_no (by rw [hE];decide),hE];rfl
   ·try simp only [sx] at c3
    have hn:=ext_next hxx hp c2 (by simpa using c3)
    refine zI<|zO O<|G O<|G O<|kA O el46 zr3<|zY O O (yH 1 O el46 O O O (by simp [gT];omega) (by simp [gT];omega)) ?_
    rintro _ _ ⟨sv3,rfl,rfl⟩
    refine G O<|zA<|zO O<|qH O ⟨zC,zC⟩<|G O<|zA ?_
    refine ⟨⟨k+1,sv3⟩,⟨zC,hn⟩,(by show l.length-(k+1)<l.length-k;omega),Weak.mk [false,true] ⟨zB,zB,zB,zB,zB,T⟩ (by exact zHk (by rw [yB hx,List.map_append];unfold gT;rw [List.map_append,List.map_append];rfl))⟩
 ·try simp only [sx] at c1
  have hE:=ext_end (show (l.map Ax.Size).length<=k by rw [List.length_map];omega) hp
  rw [yD (l:=l) (k:=k) zC]
  refine zU _ (yO 0 O (regs':=[(6,_)]) (μ':=[]) ⟨FLe.sl,T⟩ T)<|qM<|Y O<|G O<|G O<|G O<|zA<|zJ<|fin2 (rs_c O) (rs_c O) ?_
  rw [ext_ok hE,hE]
theorem lower_Def (p:Pg) (env:List Bd) (hel:env.length<=1000000) (her:∀x,x∈env->r64 x.Val) (hP:p.Ok) (hR:p.Rng) (hS:p.Sm) (i:Int):
    Pur cfg 11 [vPg p,jT env,vI i] (.tup [fP (nV (tN p env i)),vI (xS (tN p env i))]):=by
 refine zV Tryz.func11 O Tryz.ntmps11 Tryz.results11 O ?_
 intro z hz
 have hps:=hP.sizes
 refine Y O<|zY O O (qL O O) ?_
 rintro _ _ ⟨b1,rfl,rfl⟩
 refine qX 20 O<|G O<|zA<|zH<|Y O<|zM zEk (J 0 O) O<|qJ O ok22 (zEh p hP) ⟨zB,O,T⟩<|qU O<|yK O<|yK O<|G O<|G O<|zA<|Y O<|G O<|yN O<|zA<|zE O (fun c1=>?_) (fun c1=>?_)
 ·try simp only [sx] at c1
  have hE:=lowD_v (env:=env) (i:=i) c1
  exact j4
 ·try simp only [sx] at c1
  refine zI<|zH<|Y O<|zM zEk (J 0 O) O<|G O<|qJ O ok23 (zFr p env hel her hP hR) ⟨zB,O,zB,O,T⟩<|G O<|zA<|Y O<|G O<|yN O<|zA<|zE O (fun c2=>?_) (fun c2=>?_)
  ·try simp only [sx] at c2
   have hE:=lowD_z (i:=i) c1 c2
   exact j4
  ·try simp only [sx] at c2
   refine zI<|zH<|Y O<|G O<|yA O<|G O<|rL0 O (fun g7_2=>zP O O) O<|rL0 O (fun g7_2=>zF O zEe O) O<|rL1 40 O (fun g7_2=>zK O zKr O (J 0 O) O) O<|rL1 41 O (fun g7_2=>qT O el28 O) O<|rLz [(39,_),(42,_)] O gv1 ⟨O,O,O,O,T⟩ (fun g7_2=>wQ O O O) O<|r_or O (fun h=>(lzf h))<|zA<|zE O (fun c3=>?_) (fun c3=>?_)
   ·try simp only [sx] at c3
    have hE:=lowD_n c1 c2 (by simpa using c3)
    refine Y O<|qX 20 O<|G O<|zA<|zJ<|fin2 (rs_c O) (rs_c O) ?_
    rw [hE];rfl
   ·try simp only [sx] at c3
    obtain ⟨di,rfl⟩:∃di:Nat,i=di:=⟨i.toNat,zC⟩
    obtain ⟨d,hd⟩:=qV p.Defs di zC
    have hdm:=qC hd
    have hdR:=(hR.ds d hdm).2.2
    have hsm:=hS.ds d hdm
    have hnz:d.Name.size<=100000:=Nat.le_trans (name_size (valid_defs c1 d hdm)) uA
    have hax:∀x,x∈d.Dims++d.Red->x.Name.size<=100000:=fun x hx=>Nat.le_trans (axn_size c1 hdm x hx) uA
    have hE0:=lowD_at c1 c2 hd
    refine zI<|Y O<|zD O zEe<|zG zKr (J 0 O) O<|G O<|qE O el28 zC (getm hd)<|zM agg70 qD O<|yI O zr80 pl80<|zY O O (qL O O) ?_
    rintro _ _ ⟨b2,rfl,rfl⟩
    refine G O<|zA<|zH<|yE 13 mixed uC O O<|zN O O (qA O zEk O (J 1 O) O)<|zN O O (zP O O)<|zN O O (zP O O)<|zN O O (qK O O)<|zN O O (zF O zEm O)<|zN O O (zF O zJo O)<|zN O O (zK O one9 O (J 0 O) O)<|zN O O (qS O ok24 (show Pur cfg 24 [vPg p,jT env,vS d.Name] (.tup [vIs (mU p env d.Name).1,vI (jH p env d.Name)]) by have h9:=zTv p d.Name env hel her hP hR;rw [dimsT_is c1 c2] at h9;exact h9) ⟨zB,O,zB,O,zB,O,T⟩)<|zN O O (yW O O)<|zN O O (kT O O O)<|zN O O (kT O O O)<|zN O O (yL O O)<|zN O O (yL O O)<|kE<|zA<|zH<|Y O<|G O<|yN O<|zA<|zE O (fun c4=>?_) (fun c4=>?_)
    ·try simp only [sx] at c4
     have hE:=hE0.trans (lowE_d c4)
     exact j4
    ·try simp only [sx] at c4
     rw [dimL_1 c4]
     refine zI<|Y O<|G O<|zS O<|zD O zEm<|zD O zFo<|zG zDp (J 0 O) O<|G O<|qJ O ok25 (lower_extents d.Red env hel her zC (fun x hx=>⟨(hP.ds d hdm).2.2.2.1 x hx,(hR.ds d hdm).2.1 x hx⟩)) ⟨zB,O,zB,O,T⟩<|qU O<|yK O<|yK O<|G O<|G O<|zA<|zH<|Y O<|G O<|yN O<|zA<|zE O (fun c5=>?_) (fun c5=>?_)
     ·try simp only [sx] at c5
      have hE:=hE0.trans (lowE_e c4 c5)
      exact j4
     ·try simp only [sx] at c5
      rw [ext_ok c5]
      refine zI<|Y O<|zY O O (zMe vS O O) ?_
      rintro _ _ ⟨b3,rfl,rfl⟩
      refine G O<|zA<|zH<|zH<|yS 20 0 [⟨0,.q []⟩,⟨1,.q []⟩,⟨2,.q []⟩,⟨3,.q []⟩,⟨4,.q []⟩,⟨5,.q [1]⟩,⟨6,.q []⟩,⟨7,.q []⟩,⟨8,.q []⟩,⟨9,.q []⟩,⟨10,.q [1]⟩,⟨11,.q []⟩,⟨12,.q []⟩,⟨13,.e 0 []⟩,⟨14,.q []⟩,⟨15,.q []⟩,⟨16,.q []⟩,⟨17,.q []⟩,⟨18,.q []⟩,⟨19,.e 1 []⟩] mixed uC uC O O O<|zQ O<|zQ O<|zQ O<|zQ O<|zQ O<|zQ O<|zQ O<|zQ O<|zQ O<|zQ O<|zQ O<|zQ O<|zQ O<|zQ O<|zQ O<|zQ O<|zQ O<|zQ O<|zQ O<|zQ O<|wS<|zX O uA O O (zP O O)<|zX O uA O O (zP O O)<|zX O uA O O (qK O O)<|zX O uA O O (zF O zEm O)<|zX O uA O O (zF O zJo O)<|zX O uA O O (zK O one9 O (J 0 O) O)<|zX O uA O O (zP O O)<|zX O uA O O (qK O O)<|zX O uA O O (zF O zEm O)<|zX O uA O O (zF O zKz O)<|zX O uA O O (zK O zDp O (J 0 O) O)<|zX O uA O O (zP O O)<|zX O uA O O (zP O O)<|zGj O O uA O O (yY [0] O ok26 (zTb b3 d.Name d.Dims (gT env (p.en.find d.Name).dims) [] hnz zC (fun x hx=>hax x (List.mem_append_left _ hx)) (by unfold gT;rw [valid_find c1 hd,List.length_map,List.length_map])) ⟨zB,O,zB,O,zB,O,zB,O,T⟩ O) ?_
      rintro _ _ ⟨rfl,rfl⟩
      refine ⟨_,O,?_⟩
      refine zX O uA O O (yW O O)<|zX O uA O O (kT O O O)<|zX O uA O O (kT O O O)<|zX O uA O O (qK O O)<|zX O uA O O (zF O fd80_1 O)<|zDx O O uA O O (yX O sz31 O O O (zDb 0 O O)) ?_
      rintro _ _ ⟨rfl,rfl⟩
      refine ⟨_,O,?_⟩
      refine wR O<|G O<|zA<|Y O<|G O<|yN O<|zA<|zE O (fun c6=>?_) (fun c6=>?_)
      ·try simp only [sx] at c6
       have h7:=nmd_7 c6
       have hE:=hE0.trans (lowE_1 c4 c5 c6)
       refine Y O<|G O<|qX 20 O<|G O<|zA<|zJ<|fin2 (rs_c O) (rs_c O) ?_
       rw [hE,h7];rfl
      ·try simp only [sx] at c6
       rw [nmdB_ok c6]
       refine zI<|zH<|zH<|yS 20 0 [⟨0,.q []⟩,⟨1,.q []⟩,⟨2,.q []⟩,⟨3,.q []⟩,⟨4,.q []⟩,⟨5,.q [1]⟩,⟨6,.q []⟩,⟨7,.q []⟩,⟨8,.q []⟩,⟨9,.q []⟩,⟨10,.q [1]⟩,⟨11,.q []⟩,⟨12,.q []⟩,⟨13,.e 0 []⟩,⟨14,.q []⟩,⟨15,.q []⟩,⟨16,.q []⟩,⟨17,.q []⟩,⟨18,.q []⟩,⟨19,.e 1 []⟩] mixed uC uC O O O<|zQ O<|zQ O<|zQ O<|zQ O<|zQ O<|zQ O<|zQ O<|zQ O<|zQ O<|zQ O<|zQ O<|zQ O<|zQ O<|zQ O<|zQ O<|zQ O<|zQ O<|zQ O<|zQ O<|zQ O<|wS<|zX O uA O O (zP O O)<|zX O uA O O (zP O O)<|zX O uA O O (qK O O)<|zX O uA O O (zF O zEm O)<|zX O uA O O (zF O zJo O)<|zX O uA O O (zK O one9 O (J 0 O) O)<|zX O uA O O (zP O O)<|zX O uA O O (qK O O)<|zX O uA O O (zF O zEm O)<|zX O uA O O (zF O zFo O)<|zX O uA O O (zK O zDp O (J 0 O) O)<|zX O uA O O (zP O O)<|zX O uA O O (zP O O)<|zGj O O uA O O (yY [0] O ok26 (zTb b3 d.Name d.Red (gT env (d.Red.map Ax.Size)) (mR d.Name d.Dims []) hnz zC (fun x hx=>hax x (List.mem_append_right _ hx)) (by unfold gT;rw [List.length_map,List.length_map])) ⟨zB,O,zB,O,zB,O,zB,O,T⟩ O) ?_
       rintro _ _ ⟨rfl,rfl⟩
       refine ⟨_,O,?_⟩
       refine zX O uA O O (yW O O)<|zX O uA O O (kT O O O)<|zX O uA O O (kT O O O)<|zX O uA O O (qK O O)<|zX O uA O O (zF O fd80_2 O)<|zDx O O uA O O (yX O sz31 O O O (zDb 0 O O)) ?_
       rintro _ _ ⟨rfl,rfl⟩
       refine ⟨_,O,?_⟩
       refine wR O<|G O<|zA<|Y O<|G O<|yN O<|zA<|zE O (fun c7=>?_) (fun c7=>?_)
       ·try simp only [sx] at c7
        have h7:=nmd_7 c7
        have hE:=hE0.trans (lowE_2 c4 c5 c6 c7)
        refine Y O<|G O<|qX 20 O<|G O<|zA<|zJ<|fin2 (rs_c O) (rs_c O) ?_
        rw [hE,h7];rfl
       ·try simp only [sx] at c7
        rw [nmdB_ok c7]
        have hE1:=hE0.trans (lowE_b c4 c5 c6 c7)
        have hgd:=good_all c6 c7
        have hna:=valid_axes c1 d hdm
        have hll:=lDims_len (env:=env) c1 hdm
        have hll2:(pG d.Name d.Dims (gT env (p.en.find d.Name).dims)).length=d.Dims.length:=hll
        have hlr:=lRed_len (env:=env) (d:=d)
        refine zI<|Y O<|G O<|zS O<|zD O zEm<|zD O fd70_5<|zM yU (J 1 O) O<|zY O O (qG [none,none,none,none,none,none,none,none,none,none,some 2,some 4,some 13] O zr62 O) ?_
        rintro _ _ ⟨b4,rfl,rfl⟩
        refine D 0 sz62 O<|zA<|zH<|Y O<|zD O zTq<|zG zFu (J 3 O) O<|qB O el25<|G O<|zA<|zR<|zU ⟨[(132,.c _),(1,.c _),(11,.c _),(15,.c _),(16,.c _),(130,.c _),(131,.c _)],[_,_,_]⟩ (Weak.mk [true,true,true,false] ⟨zB,zB,zB,zB,zB,zB,zB,T⟩ O)<|qF 1 1 O O (Nat×Ex) (fun ⟨k,e1⟩=>[(132,vI k)]) (fun ⟨k,e1⟩=>[E.row b4 62 e1.cs]) (fun ⟨k,e1⟩=>k<=p.Sizes.length/\(SbJ (fun s:ByteArray=>(⟨lP env s,[]⟩:Lf)) p.Sizes d.Body k e1)) (fun ⟨k,e1⟩=>p.Sizes.length-k) ⟨⟨0,d.Body⟩,⟨zC,sbJ_first hdR⟩,Weak.mk [true,true,true] ⟨zB,zB,zB,zB,zB,zB,zB,T⟩ O⟩ ?_
        rintro ⟨k,e1⟩ ⟨hk,hs1⟩
        show AWP _ _ _ _ _ ⟨[(132,vI k)]++_,[E.row b4 62 e1.cs]++_⟩
        refine Y O<|yA O<|zA<|zH<|zE O (fun c8=>?_) (fun c8=>?_)
        ·try simp only [sx] at c8
         obtain ⟨s,hs⟩:=qV p.Sizes k zC
         refine zI<|zH<|zR<|Y O<|qE O el25 zC (getm hs)<|zG one9 qD O<|G O<|zA<|zH<|yS 11 0 [⟨0,.q [0]⟩,⟨1,.q []⟩,⟨2,.q []⟩,⟨3,.q []⟩,⟨4,.q []⟩,⟨5,.q []⟩,⟨6,.q []⟩,⟨7,.q []⟩,⟨8,.q []⟩,⟨9,.q []⟩,⟨10,.e 0 []⟩] mixed uC uC O O O<|zQ O<|zQ O<|zQ O<|zQ O<|zQ O<|zQ O<|zQ O<|zQ O<|zQ O<|zQ O<|zQ O<|wS<|zX O uA O O (qA O yU O (J 0 O) O)<|zX O uA O O (zP O O)<|zX O uA O O (zP O O)<|zX O uA O O (zP O O)<|zX O uA O O (qS O ok29 (lower_bound env s zC) ⟨zB,O,zB,O,T⟩)<|zX O uA O O (qS O ok28 (lin_Const (lP env s)) ⟨zB,O,T⟩)<|zX O uA O O (qS O ok27 (zJr e1 s ⟨lP env s,[]⟩ (by have:=hs1.wt;omega) hs1.rg (Nat.zero_le _) (k_rng (env_rng her s))) ⟨zB,O,zB,O,zB,O,T⟩)<|zX O uA O O (yW O O)<|zX O uA O O (qY O O O)<|zX O uA O O (kT O O O)<|zDx O O uA O O (yX O sz62 O O O (zDb 0 O O)) ?_
         rintro _ _ ⟨rfl,rfl⟩
         refine ⟨_,O,?_⟩
         refine wR O<|G O<|zA<|Y O<|G O<|yN O<|zA<|zE O (fun c9=>?_) (fun c9=>?_)
         ·try simp only [sx] at c9
          have hE:=hE1.trans (lowB_e (sbJ_err (u:=(fun s:ByteArray=>(⟨lP env s,[]⟩:Lf))) hs1 hs c9))
          exact j4
         ·try simp only [sx] at c9
          refine zI<|zO O<|qH O ⟨zC,zC⟩<|G O<|zA ?_
          refine ⟨⟨k+1,nW (mEx (fun l=>fC l s ⟨lP env s,[]⟩) e1)⟩,⟨zC,sbJ_next (u:=(fun s:ByteArray=>(⟨lP env s,[]⟩:Lf))) (fun _=>O) hs1 hs c9⟩,(by show p.Sizes.length-(k+1)<p.Sizes.length-k;omega),Weak.mk [true,true,true] ⟨zB,zB,zB,zB,zB,zB,zB,T⟩ O⟩
        ·try simp only [sx] at c8
         have hB1:=sbJ_end hs1 (show p.Sizes.length<=k by omega)
         have hB2:=lowB_s hB1
         have hzf:=body_szF c1 hdm hdR hB1
         have hmap:∀s,(fD (mR d.Name d.Red (mR d.Name d.Dims [])) s).getD s=lW ((bH d).map (lnT d.Name)) (bH d) s:=by rw [nmdM_ok c6,nmdM_ok c7];exact mapN_sw hna.1
         refine qM<|Y O<|G O<|zM yU (J 0 O) O<|G O<|zW O (yG [1] O ok30 (lower_rename ((bH d).map (lnT d.Name)) (bH d) b3 _ hmap (lnT_nodup hna.1 hgd) hna.1 (by rw [List.length_map]) e1 (by have:=hs1.wt;omega) (body_swp _ hzf)) ⟨zB,O,zB,O,T⟩ O)<|zS O<|zD O fd80_3<|D 2 sz62 O<|zA<|zH<|Y O<|yT _ (kO 93 4)<|G O<|zS O<|zD O fd80_1<|zG one31 (J 3 O) O<|qB O el31<|G O<|zA<|zR<|zU ⟨[(161,.c _),(11,.c _),(159,.c _),(160,.c _)],[_,_]⟩ (Weak.mk [true,false,false,true] ⟨zB,zB,zB,zB,T⟩ O)<|qF 1 2 O O (Nat×Value) (fun ⟨j,sv⟩=>[(161,vI j)]) (fun ⟨j,sv⟩=>[E.vec sv 93 4 ((ixT ((jZ p env d).take j)).map Ix.cells),E.row b2 80 (mkS d (jZ p env d) (vV env d) (gEx (jF ((bH d).map (lnT d.Name)) (bH d)) e1) (.lit sv))]) (fun ⟨j,sv⟩=>j<=(jZ p env d).length) (fun ⟨j,sv⟩=>(jZ p env d).length-j) ⟨⟨0,(.slice none 0 0)⟩,zC,Weak.mk [true,true] ⟨zB,zB,zB,zB,T⟩ O⟩ ?_
         rintro ⟨j,sv⟩ hj
         show AWP _ _ _ _ _ ⟨[(161,vI j)]++_,[E.vec sv 93 4 ((ixT ((jZ p env d).take j)).map Ix.cells),E.row b2 80 (mkS d (jZ p env d) (vV env d) (gEx (jF ((bH d).map (lnT d.Name)) (bH d)) e1) (.lit sv))]++_⟩
         refine Y O<|yA O<|zA<|zH<|zE O (fun c10=>?_) (fun c10=>?_)
         ·try simp only [sx] at c10
          obtain ⟨y,hy⟩:=qV (jZ p env d) j zC
          refine zI<|zH<|zR<|Y O<|qE O el31 zC (getm hy)<|zM agg50 qD O<|zY O O (yC O zr50) ?_
          rintro _ _ ⟨b5,rfl,rfl⟩
          refine D 0 sz50 O<|zA<|yS 11 0 [⟨0,.q []⟩,⟨1,.q []⟩,⟨2,.q []⟩,⟨3,.q []⟩,⟨4,.q [2]⟩,⟨5,.q []⟩,⟨6,.q [0]⟩,⟨7,.q []⟩,⟨8,.q []⟩,⟨9,.q []⟩,⟨10,.e 1 []⟩] mixed uC uC O O O<|zQ O<|zQ O<|zQ O<|zQ O<|zQ O<|zQ O<|zQ O<|zQ O<|zQ O<|zQ O<|zQ O<|wS<|zX O uA O O (zP O O)<|zX O uA O O (zP O O)<|zX O uA O O (qK O O)<|zX O uA O O (zF O zPv O)<|zX O uA O O (zK O wG O (J 0 O) O)<|zX O uA O O (zF O zQc O)<|zX O uA O O (zK O one9 O (J 0 O) O)<|zX O uA O O (qS O ok31 (lin_Var y.Name) ⟨zB,O,T⟩)<|zX O uA O O (zDa [none,none,none,some 2] O zr93 pl93 O O)<|zX O uA O O (wL O N zr93 O O O O)<|zGj O O uA O O (yH 0 O N O O O (by simp [ixT];omega) (by simp [ixT];omega)) ?_
          rintro _ _ ⟨sv6,rfl,rfl⟩
          refine ⟨_,O,?_⟩
          refine wR O<|zS O<|zD O zPv<|D 2 sz52 O<|zA<|zO O<|qH O ⟨zC,zC⟩<|G O<|zA ?_
          refine ⟨⟨j+1,sv6⟩,zC,(by show (jZ p env d).length-(j+1)<(jZ p env d).length-j;omega),Weak.mk [false,true,true] ⟨zB,zB,zB,zB,T⟩ (by exact zMo (by unfold ixT;rw [yB hy,List.map_append,List.map_append];rfl))⟩
         ·try simp only [sx] at c10
          refine zU _ (yO 0 O (regs':=[]) (μ':=[_]) T ⟨EFle.row (ds:=[_,_,_,_,_,_,_,_,_,_,_,_,_,_,_,_,_,_,_,_,_,_,_,_,_,_,_,_,_,_,_,_,_,_,_,_,_,_]) ⟨.inl O,.inl O,.inl O,.inl O,.inl O,.inl O,.inl O,.inl O,.inl O,.inl O,.inl O,.inl O,.inl O,.inl O,.inl O,.inl O,.inl O,.inl O,.inl O,.inl O,.inl O,.inl O,.inl O,.inl O,.inl O,.inl O,.inl O,.inl O,.inl O,.inl O,.inl O,.inl O,.inl O,.inl O,.inl O,.inl O,.inl O,.inr ⟨O,O⟩,T⟩,T⟩) ?_
          rw [yD (l:=jZ p env d) (k:=j) zC]
          refine qM<|Y O<|G O<|zW O (yG [0] O ok32 (mk_statements b2 d (jZ p env d) (vV env d) (gEx (jF ((bH d).map (lnT d.Name)) (bH d)) e1) zC zC (by have:=lw_ren (A:=((bH d).map (lnT d.Name))) (B:=(bH d)) e1;have:=hs1.wt;omega) (allF_g (allF_up hs1.rg fun l hl=>renF_rng hl)) (fun h5=>by have:=valid_five c1 hdm h5;omega)) ⟨zB,O,T⟩ O)<|qU O<|yK O<|yK O<|G O<|G O<|zA<|zH<|Y O<|G O<|yN O<|zA<|zE O (fun c11=>?_) (fun c11=>?_)
          ·try simp only [sx] at c11
           obtain ⟨x,hx⟩:=errL_er c11
           have hE:=hE1.trans (hB2.trans hx)
           rw [hx]
           exact j4
          ·try simp only [sx] at c11
           obtain ⟨x,hx⟩:=errL_0 (fun x hx=>st_ne hx) c11
           have hBx:=hB2.trans hx
           have hE:=hE1.trans hBx
           rw [hx]
           refine zI<|Y O<|G O<|yZ [some 8,none] O zr41 pl41<|qJ O ok33 (loopnest_Copy ⟨[],x⟩ (one_ok_ns hS hdm c1 hdR hBx)) ⟨zB,O,T⟩<|zW O (det_part_one O zBt zBg O O)<|G O<|G O<|zA<|zJ<|fin2 (rs_c O) (rs_c O) ?_
           rw [hE];rfl
theorem lower_isParam (p:Pg) (s:ByteArray) (hl:p.Params.length<=4294967296):
    Pur cfg 43 [vPg p,vS s] (vB (p.Params.any fun x=>decide (x.Name=s))):=by
 refine zV Tryz.func43 O Tryz.ntmps43 Tryz.results43 O ?_
 intro z hz
 refine Y O<|zY O O (qL O O) ?_
 rintro _ _ ⟨b1,rfl,rfl⟩
 refine G O<|zA<|zH<|Y O<|zD O zMy<|zG one27 (J 0 O) O<|qB O el27<|G O<|zA<|zR<|zU ⟨[(10,.c _),(1,.c _),(8,.c _),(9,.c _)],[]⟩ (Weak.mk [false] ⟨zB,zB,zB,zB,T⟩ O)<|qF 1 0 O O (Nat) (fun k=>[(10,vI k)]) (fun k=>[]) (fun k=>k<=p.Params.length/\((p.Params.take k).any (fun x=>decide (x.Name=s))=false)) (fun k=>p.Params.length-k) ⟨0,⟨zC,O⟩,Weak.mk [] ⟨zB,zB,zB,zB,T⟩ O⟩ ?_
 rintro k ⟨hk,hp⟩
 refine Y O<|yA O<|zA<|zH<|zE O (fun c1=>?_) (fun c1=>?_)
 ·try simp only [sx] at c1
  obtain ⟨x,hx⟩:=qV p.Params k zC
  refine zI<|zH<|zR<|Y O<|qE O el27 zC (getm hx)<|zM agg74 qD O<|zY O O (qG [none,none,none,none,none,none,some 2] O zr74 O) ?_
  rintro _ _ ⟨b2,rfl,rfl⟩
  refine D 0 sz74 O<|zA<|Y O<|zD O fd74_0<|zG one9 (J 0 O) O<|G O<|wD O<|zA<|zE O (fun c2=>?_) (fun c2=>?_)
  ·try simp only [sx] at c2
   refine Y O<|G O<|zA<|zJ<|zT O ?_
   rw [List.any_eq_true.2 ⟨x,qC hx,decide_eq_true c2⟩]
  ·exact v48
 ·try simp only [sx] at c1
  refine qM<|Y O<|G O<|zA<|zJ<|zT O ?_
  rw [yD zC] at hp
  rw [hp]
theorem zOq (p:Pg) (env:List Bd) (hel:env.length<=1000000) (her:∀x,x∈env->r64 x.Val) (hP:p.Ok) (hR:p.Rng) (hS:p.Sm):
    Pur cfg 14 [vPg p,jT env] (.tup [vNs (jJ p env).1,vI (jJ p env).2]):=by
 refine zV Tryz.func14 O Tryz.ntmps14 Tryz.results14 O ?_
 intro z hz
 have hq1:=hS.outs
 have hq2:=hS.params
 have hq3:=hS.defs
 have hdR:∀d,d∈p.Defs->d.Body.allF Lf.rng:=fun d hd=>(hR.ds d hd).2.2
 refine Y O<|zY O O (qL O O) ?_
 rintro _ _ ⟨b1,rfl,rfl⟩
 refine zY O O (qG [some 8,some 20] O zr41 O) ?_
 rintro _ _ ⟨b2,rfl,rfl⟩
 refine G O<|zA<|zH<|Y O<|zM zEk (J 1 O) O<|qJ O ok22 (zEh p hP) ⟨zB,O,T⟩<|qU O<|yK O<|yK O<|G O<|G O<|zA<|Y O<|G O<|yN O<|zA<|zE O (fun c1=>?_) (fun c1=>?_)
 ·try simp only [sx] at c1
  have hE:=lowP_v (env:=env) c1
  refine Y O<|yZ [some 8,some 20] O zr41 pl41<|G O<|D 0 sz41 O<|G O<|zA<|zJ<|fin2 (zZ zBm O (J 0 O) O) (rs_c O) ?_
  rw [hE];rfl
 ·try simp only [sx] at c1
  refine zI<|zH<|Y O<|zM zEk (J 1 O) O<|G O<|qJ O ok23 (zFr p env hel her hP hR) ⟨zB,O,zB,O,T⟩<|G O<|zA<|Y O<|G O<|yN O<|zA<|zE O (fun c2=>?_) (fun c2=>?_)
  ·try simp only [sx] at c2
   have hE:=lowP_z c1 c2
   refine Y O<|yZ [some 8,some 20] O zr41 pl41<|G O<|D 0 sz41 O<|G O<|zA<|zJ<|fin2 (zZ zBm O (J 0 O) O) (rs_c O) ?_
   rw [hE];rfl
  ·try simp only [sx] at c2
   refine zI<|Y O<|yI O zr41 pl41<|zY O O (yC O zr41) ?_
   rintro _ _ ⟨b3,rfl,rfl⟩
   refine D 0 sz41 O<|zA<|zH<|Y O<|yT _ (kO 66 8)<|yT _ (kO 64 20)<|zD O fd30_4<|zG zFu (J 4 O) O<|qB O el25<|G O<|zA<|zR<|zU ⟨[(45,.c _),(1,.c _),(2,.c _),(4,.c _),(9,.c _),(43,.c _),(44,.c _)],[_,_,_,_,_]⟩ (Weak.mk [true,true,true,true,true] ⟨zB,zB,zB,zB,zB,zB,zB,T⟩ O)<|qF 1 0 O O (Nat) (fun k=>[(45,vI k)]) (fun k=>[]) (fun k=>k<=p.Outs.length/\((p.Outs.take k).any (fun s=>p.Params.any fun x=>decide (x.Name=s))=false)) (fun k=>p.Outs.length-k) ⟨0,⟨zC,O⟩,Weak.mk [true,true,true,true,true] ⟨zB,zB,zB,zB,zB,zB,zB,T⟩ O⟩ ?_
   rintro k ⟨hk,hp⟩
   refine Y O<|yA O<|zA<|zH<|zE O (fun c3=>?_) (fun c3=>?_)
   ·try simp only [sx] at c3
    obtain ⟨s,hs⟩:=qV p.Outs k zC
    refine zI<|zH<|zR<|Y O<|qE O el25 zC (getm hs)<|zG one9 qD O<|G O<|zA<|Y O<|zM zEk (J 4 O) O<|G O<|qJ O ok43 (lower_isParam p s (by have:=hS.params;omega)) ⟨zB,O,zB,O,T⟩<|zA<|zE O (fun c4=>?_) (fun c4=>?_)
    ·try simp only [sx] at c4
     have hE:=lowP_a c1 c2 hs c4
     refine Y O<|yZ [some 8,some 20] O zr41 pl41<|D 3 sz41 O<|G O<|zA<|zJ<|fin2 (zZ zBm O (J 3 O) O) (rs_c O) ?_
     rw [hE];rfl
    ·try simp only [sx] at c4
     refine zI<|zO O<|qH O ⟨zC,zC⟩<|G O<|zA ?_
     refine ⟨k+1,⟨zC,zEu hs hp c4⟩,zC,Weak.mk [true,true,true,true,true] ⟨zB,zB,zB,zB,zB,zB,zB,T⟩ O⟩
   ·try simp only [sx] at c3
    rw [yD zC] at hp
    refine qM<|zH<|Y O<|zD O zMy<|zG one27 (J 4 O) O<|qB O el27<|G O<|zA<|zR<|zU ⟨[(57,.c _),(1,.c _),(2,.c _),(4,.c _),(9,.c _),(55,.c _),(56,.c _)],[_,_,_,_,_]⟩ (Weak.mk [true,true,true,true,true] ⟨zB,zB,zB,zB,zB,zB,zB,T⟩ O)<|qF 1 3 O O (Nat×Value) (fun ⟨i,sv⟩=>[(57,vI i)]) (fun ⟨i,sv⟩=>[E.vec (.slice none 0 0) 64 20 ([]),E.vec sv 66 8 (((p.Params.take i).map (rP p env)).map Bf.cells),E.row b3 41 [.lit sv,.lit (.slice none 0 0)]]) (fun ⟨i,sv⟩=>i<=p.Params.length/\(mH p env p.Params=mH p env (p.Params.drop i))) (fun ⟨i,sv⟩=>p.Params.length-i) ⟨⟨0,(.slice none 0 0)⟩,⟨zC,O⟩,Weak.mk [true,true,true,true,true] ⟨zB,zB,zB,zB,zB,zB,zB,T⟩ O⟩ ?_
    rintro ⟨i,sv⟩ ⟨hi,hq⟩
    show AWP _ _ _ _ _ ⟨[(57,vI i)]++_,[E.vec (.slice none 0 0) 64 20 ([]),E.vec sv 66 8 (((p.Params.take i).map (rP p env)).map Bf.cells),E.row b3 41 [.lit sv,.lit (.slice none 0 0)]]++_⟩
    refine Y O<|yA O<|zA<|zH<|zE O (fun c5=>?_) (fun c5=>?_)
    ·try simp only [sx] at c5
     obtain ⟨x,hx⟩:=qV p.Params i zC
     refine zI<|zH<|zR<|Y O<|qE O el27 zC (getm hx)<|zM agg74 qD O<|zY O O (qG [none,none,none,none,none,none,some 2] O zr74 O) ?_
     rintro _ _ ⟨b4,rfl,rfl⟩
     refine D 0 sz74 O<|zA<|Y O<|zM zEk (J 5 O) O<|G O<|zD O fd74_0<|zG one9 (J 0 O) O<|qJ O ok24 (show Pur cfg 24 [vPg p,jT env,vS x.Name] (.tup [vIs (mU p env x.Name).1,vI (jH p env x.Name)]) by have h9:=zTv p x.Name env hel her hP hR;rw [dimsT_is c1 c2] at h9;exact h9) ⟨zB,O,zB,O,zB,O,T⟩<|qU O<|yK O<|yK O<|G O<|G O<|zA<|zH<|Y O<|G O<|yN O<|zA<|zE O (fun c6=>?_) (fun c6=>?_)
     ·try simp only [sx] at c6
      have hE:=lowP_p c1 c2 hp (prm_err hx hq c6) c6
      refine Y O<|yZ [some 8,some 20] O zr41 pl41<|G O<|D 4 sz41 O<|G O<|zA<|zJ<|fin2 (zZ zBm O (J 4 O) O) (rs_c O) ?_
      rw [hE];rfl
     ·try simp only [sx] at c6
      rw [dimL_1 c6]
      refine zI<|zO O<|zD O zAx<|zG zFg (J 3 O) O<|zD O fd74_0<|zG one9 (J 0 O) O<|zD O fd74_1<|zM qZ (J 0 O) O<|G O<|yI O zr66 pl66<|kA O el39 zr66<|zY O O (yH 2 O el39 O O O uF uF) ?_
      rintro _ _ ⟨sv5,rfl,rfl⟩
      refine zD O zAx<|D 3 sz39 O<|zA<|zO O<|qH O ⟨zC,zC⟩<|G O<|zA ?_
      refine ⟨⟨i+1,sv5⟩,⟨zC,prm_next hx hq c6⟩,(by show p.Params.length-(i+1)<p.Params.length-i;omega),Weak.mk [false,true,true,true,true,true] ⟨zB,zB,zB,zB,zB,zB,zB,T⟩ (by show _=[E.vec (.slice none 0 0) _ 20 [],E.vec sv5 _ 8 (((p.Params.take (i+1)).map (rP p env)).map Bf.cells),E.row b3 _ [.lit sv5,.lit (.slice none 0 0)]]++_;rw [yB hx,List.map_append,List.map_append];rfl)⟩
    ·try simp only [sx] at c5
     have hQ:=prm_end hq (show p.Params.length<=i by omega)
     rw [yD (l:=p.Params) (k:=i) zC]
     refine qM<|zH<|Y O<|zD O zEe<|zG zKr (J 4 O) O<|qB O el28<|G O<|zA<|zR<|zU ⟨[(88,.c _),(1,.c _),(2,.c _),(4,.c _),(9,.c _),(86,.c _),(87,.c _)],[_,_,_,_,_]⟩ (Weak.mk [true,true,true,true,true] ⟨zB,zB,zB,zB,zB,zB,zB,T⟩ O)<|qF 1 3 O O (Nat×Value×Value) (fun ⟨j,sw,sx9⟩=>[(88,vI j)]) (fun ⟨j,sw,sx9⟩=>[E.vec sw 64 20 (((p.Defs.take j).flatMap fun d=>nV (gQ p env d)).map St.cells),E.vec sx9 66 8 (((p.Params.map (rP p env))++(p.Defs.take j).map (mG p env)).map Bf.cells),E.row b3 41 [.lit sx9,.lit sw]]) (fun ⟨j,sw,sx9⟩=>j<=p.Defs.length/\(lY p env p.Defs=lY p env (p.Defs.drop j))/\(bI ((p.Defs.take j).flatMap fun d=>nV (gQ p env d))<=j*3200)) (fun ⟨j,sw,sx9⟩=>p.Defs.length-j) ⟨⟨0,(.slice none 0 0),sv⟩,⟨zC,O,Nat.zero_le _⟩,Weak.mk [true,true,true,true,true] ⟨zB,zB,zB,zB,zB,zB,zB,T⟩ (by show _=[E.vec (.slice none 0 0) _ 20 [],E.vec sv _ 8 ((p.Params.map (rP p env)++[]).map Bf.cells),E.row b3 _ [.lit sv,.lit (.slice none 0 0)]]++_;rw [List.append_nil];rfl)⟩ ?_
     rintro ⟨j,sw,sx9⟩ ⟨hj,hr,hr9⟩
     show AWP _ _ _ _ _ ⟨[(88,vI j)]++_,[E.vec sw 64 20 (((p.Defs.take j).flatMap fun d=>nV (gQ p env d)).map St.cells),E.vec sx9 66 8 (((p.Params.map (rP p env))++(p.Defs.take j).map (mG p env)).map Bf.cells),E.row b3 41 [.lit sx9,.lit sw]]++_⟩
     refine Y O<|yA O<|zA<|zH<|zE O (fun c7=>?_) (fun c7=>?_)
     ·try simp only [sx] at c7
      obtain ⟨d,hd⟩:=qV p.Defs j zC
      refine zI<|zH<|zR<|Y O<|G O<|qE O el28 zC (getm hd)<|zM agg70 qD O<|zY O O (qG [none,none,none,none,none,none,some 3,some 3,none,none,none,none,none,none,none,none,none,none,none,some 2,some 4,some 13] O zr70 O) ?_
      rintro _ _ ⟨b6,rfl,rfl⟩
      refine G O<|D 0 sz70 O<|zA<|Y O<|zM zEk (J 5 O) O<|G O<|G O<|qJ O ok11 (show Pur cfg 11 [vPg p,jT env,vI (j:Int)] (.tup [fP (nV (gQ p env d)),vI (xS (gQ p env d))]) by rw [←lowD_at c1 c2 hd];exact lower_Def p env hel her hP hR hS j) ⟨zB,O,zB,O,zB,O,T⟩<|qU O<|yK O<|yK O<|G O<|G O<|zA<|zH<|Y O<|G O<|yN O<|zA<|zE O (fun c8=>?_) (fun c8=>?_)
      ·try simp only [sx] at c8
       obtain ⟨x9,hx9⟩:=errL_er c8
       have hE:=lowP_d c1 c2 hp hQ (def_err hd hr hx9) (lowE_ne hx9)
       rw [hx9]
       refine Y O<|yZ [some 8,some 20] O zr41 pl41<|G O<|D 4 sz41 O<|G O<|zA<|zJ<|fin2 (zZ zBm O (J 4 O) O) (rs_c O) ?_
       rw [hE];rfl
      ·try simp only [sx] at c8
       obtain ⟨x9,hx9⟩:=errL_0 (fun x hx=>lowE_ne hx) c8
       have hd0:=lowE_dim hx9
       rw [hx9]
       have hlw:=sts_lenW hS c1 hdR hr9 hd hx9
       have hl7:=sts_one hS c1 hdR (qC hd) hx9
       have hl8:=zAt ((p.Defs.take j).flatMap fun d=>nV (gQ p env d))
       have hl9:(nV (Except.ok x9)).length<=bI x9:=zAt x9
       refine zI<|Y O<|zM zEk (J 5 O) O<|G O<|zD O zJo<|zG one9 (J 0 O) O<|qJ O ok24 (show Pur cfg 24 [vPg p,jT env,vS d.Name] (.tup [vIs (mU p env d.Name).1,vI (jH p env d.Name)]) by have h9:=zTv p d.Name env hel her hP hR;rw [dimsT_is c1 c2] at h9;exact h9) ⟨zB,O,zB,O,zB,O,T⟩<|qU O<|yK O<|yK O<|G O<|G O<|zA<|Y O<|zD O zJo<|zG one9 (J 0 O) O<|zD O fd70_1<|zM qZ (J 0 O) O<|G O<|yI O zr66 pl66<|zY O O (qG [none,none,none,none,none,none,some 1,none] O zr66 O) ?_
       rintro _ _ ⟨b7,rfl,rfl⟩
       refine D 0 sz66 O<|zA<|zH<|Y O<|zD O fd30_4<|zG zFu (J 6 O) O<|zD O zJo<|zG one9 (J 1 O) O<|qJ O ok44 (zAh p.Outs d.Name (by have:=hS.outs;omega)) ⟨zB,O,zB,O,T⟩<|zA<|zE O (fun c9=>?_) (fun c9=>?_)
       ·try simp only [sx] at c9
        rw [dimL_1 hd0]
        have hbf:=buf_2 (p:=p) (env:=env) c9
        refine zO O<|zD O zMw<|D 0 sz3 O<|zA<|Y O<|zD O zAx<|zG zFg (J 4 O) O<|zM zNs (J 0 O) O<|kA O el39 zr66<|zY O O (yH 3 O el39 O O O uF uF) ?_
        rintro _ _ ⟨sv8,rfl,rfl⟩
        refine zD O zAx<|D 4 sz39 O<|zA<|zO O<|zD O zBt<|zG zBg (J 4 O) O<|G O<|zY O O (yH 2 O L O O O uI uI) ?_
        rintro _ _ ⟨sv9,rfl,rfl⟩
        refine zD O zBt<|D 4 sz33 O<|zA<|zO O<|qH O ⟨zC,zC⟩<|G O<|zA ?_
        refine ⟨⟨j+1,sv9,sv8⟩,⟨zC,def_next hd hr hx9,hlw⟩,(by show p.Defs.length-(j+1)<p.Defs.length-j;omega),Weak.mk [false,false,true,true,true,true,true] ⟨zB,zB,zB,zB,zB,zB,zB,T⟩ (by show _=[E.vec sv9 _ 20 (((p.Defs.take (j+1)).flatMap fun d=>nV (gQ p env d)).map St.cells),E.vec sv8 _ 8 ((p.Params.map (rP p env)++(p.Defs.take (j+1)).map (mG p env)).map Bf.cells),E.row b3 _ [.lit sv8,.lit sv9]]++_;rw [low_r1 hd hx9,low_r2 hd hbf];rfl)⟩
       ·try simp only [sx] at c9
        rw [dimL_1 hd0]
        have hbf:=buf_3 (p:=p) (env:=env) c9
        refine zI<|Y O<|zD O zAx<|zG zFg (J 4 O) O<|zM zNs (J 0 O) O<|kA O el39 zr66<|zY O O (yH 3 O el39 O O O uF uF) ?_
        rintro _ _ ⟨sv10,rfl,rfl⟩
        refine zD O zAx<|D 4 sz39 O<|zA<|zO O<|zD O zBt<|zG zBg (J 4 O) O<|G O<|zY O O (yH 2 O L O O O uI uI) ?_
        rintro _ _ ⟨sv11,rfl,rfl⟩
        refine zD O zBt<|D 4 sz33 O<|zA<|zO O<|qH O ⟨zC,zC⟩<|G O<|zA ?_
        refine ⟨⟨j+1,sv11,sv10⟩,⟨zC,def_next hd hr hx9,hlw⟩,(by show p.Defs.length-(j+1)<p.Defs.length-j;omega),Weak.mk [false,false,true,true,true,true,true] ⟨zB,zB,zB,zB,zB,zB,zB,T⟩ (by show _=[E.vec sv11 _ 20 (((p.Defs.take (j+1)).flatMap fun d=>nV (gQ p env d)).map St.cells),E.vec sv10 _ 8 ((p.Params.map (rP p env)++(p.Defs.take (j+1)).map (mG p env)).map Bf.cells),E.row b3 _ [.lit sv10,.lit sv11]]++_;rw [low_r1 hd hx9,low_r2 hd hbf];rfl)⟩
     ·try simp only [sx] at c7
      have hD:=def_end hr (show p.Defs.length<=j by omega)
      rw [yD (l:=p.Defs) (k:=j) zC]
      refine zU _ (yO 0 O (regs':=[]) (μ':=[_,_,_,_]) T ⟨EFle.refl _,EFle.row (ds:=[_,_]) ⟨.inl O,.inr ⟨O,O⟩,T⟩,EFle.refl _,EFle.refl _,T⟩)<|zU _ (yO 0 O (regs':=[]) (μ':=[_,_,_]) T ⟨EFle.row (ds:=[_,_]) ⟨.inr ⟨O,O⟩,.inl O,T⟩,EFle.refl _,EFle.refl _,T⟩) ?_
      have hok:=low_ok (env:=env) hS c1 hdR
      refine qM<|zH<|Y O<|zM zBm (J 0 O) O<|qJ O ok45 (zOs (pH p env) hok.1) ⟨zB,O,T⟩<|qU O<|yK O<|yK O<|G O<|G O<|zA<|Y O<|G O<|yN O<|zA<|zE O (fun c10=>?_) (fun c10=>?_)
      ·try simp only [sx] at c10
       have hE:=lowP_n c1 c2 hp hQ hD c10
       refine Y O<|yZ [some 8,some 20] O zr41 pl41<|G O<|D 1 sz41 O<|G O<|zA<|zJ<|fin2 (zZ zBm O (J 1 O) O) (rs_c O) ?_
       rw [hE];rfl
      ·try simp only [sx] at c10
       have hE:=lowP_ok c1 c2 hp hQ hD c10
       refine zI<|Y O<|zM zBm (J 0 O) O<|D 1 sz41 O<|G O<|zA<|zJ<|fin2 (zZ zBm O (J 1 O) O) (rs_c O) ?_
       rw [hE];rfl
end Go.W
