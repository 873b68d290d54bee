/-
  What functions compute.
  Conditions: none.
-/
import Derived.Test.YtdldhbfgfkebjaaGreatDoorHL
set_option linter.unusedSimpArgs false
set_option linter.unusedVariables false
set_option maxRecDepth 10000
namespace Go.W
open Go Go.Eng Go.Proofs Go.L41 Go.Br
attribute [local irreducible] AWP RWP TD fP
theorem agg39:lK Tryz.prog 39=some 4:=by kernel_rfl
theorem ok11:bA Tryz.prog 11=true:=by kernel_rfl
theorem ok18:bA Tryz.prog 18=true:=by kernel_rfl
theorem ok32:bA Tryz.prog 32=true:=by kernel_rfl
theorem ok33:bA Tryz.prog 33=true:=by kernel_rfl
theorem ok34:bA Tryz.prog 34=true:=by kernel_rfl
theorem ok74:bA Tryz.prog 74=true:=by kernel_rfl
theorem ok75:bA Tryz.prog 75=true:=by kernel_rfl
theorem ok124:bA Tryz.prog 124=true:=by kernel_rfl
theorem pl39:dN Tryz.prog 39=some [(0,1),(1,1),(2,1),(3,1)]:=by kernel_rfl
theorem pl90:dN Tryz.prog 90=some [(0,2),(2,1),(3,1),(4,1),(5,1),(6,1)]:=by kernel_rfl
theorem sz39:(Tryz.prog.info? 39).map (·.size)=some 4:=by kernel_rfl
theorem zr39:dL Tryz.prog 39=some [(Value.slice none 0 0),(Value.slice none 0 0),(Value.slice none 0 0),(Value.int IntKind.i64 0)]:=by kernel_rfl
theorem zr90:dL Tryz.prog 90=some [(Value.slice none 0 0),(Value.slice none 0 0),(Value.slice none 0 0),(Value.slice none 0 0),(Value.slice none 0 0),(Value.slice none 0 0),(Value.bool false)]:=by kernel_rfl
theorem r48_wide (f:Lf) (hl:f.L.length<=6000000000000):
    Pur cfg 124 [jU f] (vB (!hM f)):=by
 refine zW Tryz.func124 O Tryz.ntmps124 Tryz.results124 O ?_
 intro z hz
 refine R O<|zS O O (qP O O) ?_
 rintro _ _ ⟨b1,rfl,rfl⟩
 refine G O<|zA<|zF<|R O<|zJ O zFp<|zE one2 (A 0 O) O<|zZ O (yH O O O)<|G O<|rL0 O (fun g1_3=>zH O zFp O) O<|B 8 O (fun g1_3=>zC O one2 O (A 0 O) O) O<|B 9 O (fun g1_3=>kM O O O) O<|r_or O (fun h=>(lzf h))<|zA<|zD O (fun c1=>?_) (fun c1=>?_)
 ·refine R O<|G O<|zA<|zN<|zV O ?_
  have h9:=(zHq f.K).symm.trans c1
  have h8:nN f.K=false:=by simpa using h9
  unfold hM;rw [h8];rfl
 ·have h8:nN f.K=true:=by have h9:=(zHq f.K).symm.trans c1;simpa using h9
  refine zI<|zF<|R O<|G O<|zA<|zP<|zU ⟨[(3,.c _),(1,.c _)],[_]⟩ (Weak.mk [true] ⟨zB,zB,T⟩ O)<|qF 1 0 O O (Nat) (fun k=>[(3,vI k)]) (fun k=>[]) (fun k=>k<=f.L.length/\((f.L.take k).all (fun m=>nN m.By)=true)) (fun k=>f.L.length-k) ⟨0,⟨by omega,O⟩,Weak.mk [true] ⟨zB,zB,T⟩ O⟩ ?_
  rintro k ⟨hk,hp⟩
  refine zF<|R O<|G O<|zJ O zAg<|zE zCj (A 0 O) O<|qD O el52<|yC O<|zA<|zD O (fun c2=>?_) (fun c2=>?_)
  ·try simp only [sx] at c2
   obtain ⟨m,hm⟩:=qU f.L k (by omega)
   refine zI<|zF<|zP<|R O<|zJ O zAg<|zE zCj (A 0 O) O<|G O<|zY O el52 (by omega) (v hm)<|zT O zFz<|zE one2 zO O<|zZ O (yH O O O)<|G O<|rL0 O (fun g6_7=>zH O zAg O) O<|B 27 O (fun g6_7=>zC O zCj O (A 0 O) O) O<|rL0 O (fun g6_7=>zM O O) O<|rLz [(28,_),(29,_)] O gv1 ⟨O,O,O,O,T⟩ (fun g6_7=>qH O el52 O O (by omega) (v hm)) O<|B 30 O (fun g6_7=>qB O zFz O) O<|B 31 O (fun g6_7=>zC O one2 O zO O) O<|B 32 O (fun g6_7=>kM O O O) O<|r_or O (fun h=>(lzf h))<|zA<|zD O (fun c3=>?_) (fun c3=>?_)
   ·have h7:nN m.By=false:=by have h9:=(zHq m.By).symm.trans c3;simpa using h9
    refine R O<|G O<|zA<|zN<|zV O ?_
    unfold hM;rw [zFc (p:=fun m=>nN m.By) hm h7,Bool.and_false];rfl
   ·have h7:nN m.By=true:=by have h9:=(zHq m.By).symm.trans c3;simpa using h9
    refine zI<|zK O<|G O<|qA O ⟨by omega,by omega⟩<|G O<|zA ?_
    refine ⟨k+1,⟨by omega,by rw [yD hm,List.all_append,hp];simp [h7]⟩,(by omega),Weak.mk [true] ⟨zB,zB,T⟩ O⟩
  ·try simp only [sx] at c2
   refine qK<|R O<|G O<|zA<|zN<|zV O ?_
   rw [qX (l:=f.L) (k:=k) (by omega)] at hp
   unfold hM;rw [h8,hp];rfl
theorem zMk (l:List Ix) (hl:l.length<=1000000000) (hw:fQ l<=1000000000):
    Pur cfg 74 [jQ l] (vB (!l.all lM)):=by
 refine zW Tryz.func74 O Tryz.ntmps74 Tryz.results74 O ?_
 intro z hz
 refine R O<|G O<|zA<|zF<|R O<|G O<|zA<|zP<|zU ⟨[(3,.c _),(0,.c _)],[]⟩ (Weak.mk [] ⟨zB,zB,T⟩ O)<|qF 1 0 O O (Nat) (fun k=>[(3,vI k)]) (fun k=>[]) (fun k=>k<=l.length/\((l.take k).all lM=true)) (fun k=>l.length-k) ⟨0,⟨by omega,O⟩,Weak.mk [] ⟨zB,zB,T⟩ O⟩ ?_
 rintro k ⟨hk,hp⟩
 refine zF<|R O<|G O<|G O<|qD O el51<|yC O<|zA<|zD O (fun c1=>?_) (fun c1=>?_)
 ·try simp only [sx] at c1
  obtain ⟨x,hx⟩:=qU l k (by omega)
  have hxw:=zBa (qE hx)
  unfold Ix.wt at hxw
  refine zI<|zF<|zP<|zF<|R O<|G O<|G O<|zY O el51 (by omega) (v hx)<|zT O zBx<|zQ zAj zO O<|qS O ok124 (r48_wide x.Lin (by have:=zBa (qE hx);unfold Ix.wt at this;omega)) ⟨zB,O,T⟩<|zA<|zD O (fun c2=>?_) (fun c2=>?_)
  ·try simp only [sx] at c2
   refine R O<|G O<|zA<|zN<|zV O ?_
   have h8:hM x.Lin=false:=by simpa using c2
   rw [zFc hx (by unfold lM;rw [h8];rfl)];rfl
  ·try simp only [sx] at c2
   refine zI<|R O<|G O<|zA<|zP<|zU ⟨[(4,.c _),(0,.c _),(3,.c _)],[]⟩ (Weak.mk [] ⟨zB,zB,zB,T⟩ O)<|qF 1 0 O O (Nat) (fun j=>[(4,vI j)]) (fun j=>[]) (fun j=>j<=x.At.length/\((x.At.take j).all hM=true)) (fun j=>x.At.length-j) ⟨0,⟨by omega,O⟩,Weak.mk [] ⟨zB,zB,zB,T⟩ O⟩ ?_
   rintro j ⟨hj,hq⟩
   refine zF<|R O<|G O<|G O<|G O<|zY O el51 (by omega) (v hx)<|zT O wU<|zE zAx zO O<|qD O zAk<|yC O<|zA<|zD O (fun c3=>?_) (fun c3=>?_)
   ·try simp only [sx] at c3
    obtain ⟨f,hf⟩:=qU x.At j (by omega)
    refine zI<|zF<|zP<|R O<|G O<|G O<|zY O el51 (by omega) (v hx)<|zT O wU<|zE zAx zO O<|G O<|zY O zAk (by omega) (v hf)<|zQ zAj zO O<|qS O ok124 (r48_wide f (by have:=zBa (qE hx);have:=zAy (qE hf);unfold Ix.wt at *;omega)) ⟨zB,O,T⟩<|zA<|zD O (fun c4=>?_) (fun c4=>?_)
    ·try simp only [sx] at c4
     refine R O<|G O<|zA<|zN<|zV O ?_
     have h8:hM f=false:=by simpa using c4
     rw [zFc hx (by unfold lM;rw [zFc hf h8,Bool.and_false])];rfl
    ·try simp only [sx] at c4
     refine zI<|zK O<|G O<|qA O ⟨by omega,by omega⟩<|G O<|zA ?_
     refine ⟨j+1,⟨by omega,by rw [yD hf,List.all_append,hq];simp;simpa using c4⟩,(by omega),Weak.mk [] ⟨zB,zB,zB,T⟩ O⟩
   ·try simp only [sx] at c3
    rw [qX (l:=x.At) (k:=j) (by omega)] at hq
    have h8:hM x.Lin=true:=by simpa using c2
    have hfx:lM x=true:=by unfold lM;rw [h8,hq];rfl
    refine qK<|zK O<|G O<|qA O ⟨by omega,by omega⟩<|G O<|zA ?_
    refine ⟨k+1,⟨by omega,by rw [yD hx,List.all_append,hp];simp [hfx]⟩,(by omega),Weak.mk [] ⟨zB,zB,T⟩ O⟩
 ·try simp only [sx] at c1
  refine qK<|R O<|G O<|zA<|zN<|zV O ?_
  rw [qX (l:=l) (k:=k) (by omega)] at hp
  rw [hp];rfl
theorem zOm (e:Ex) (hw:e.wt<=1000000000) (ih:∀a,a∈e.Args->Pur cfg 75 [vE a] (vB (!lH a))):
    Pur cfg 75 [vE e] (vB (!lH e)):=by
 refine zW Tryz.func75 O Tryz.ntmps75 Tryz.results75 O ?_
 intro z hz
 have hwt:=e.wt_eq
 have hal:=zGx e.Args
 refine R O<|zS O O (qP O O) ?_
 rintro _ _ ⟨b1,rfl,rfl⟩
 refine G O<|zA<|zF<|R O<|zJ O zEd<|zQ zAj (A 0 O) O<|qS O ok124 (r48_wide e.Lin (by omega)) ⟨zB,O,T⟩<|G O<|rL0 O (fun g1_3=>zH O kQ O) O<|B 8 O (fun g1_3=>zC O wI O (A 0 O) O) O<|B 9 O (fun g1_3=>qR O ok74 (zMk e.Idx (by omega) (by omega)) ⟨zB,O,T⟩) O<|r_or O (fun h=>(lzf h))<|zA<|zD O (fun c1=>?_) (fun c1=>?_)
 ·refine R O<|G O<|zA<|zN<|zV O ?_
  have h8:(hM e.Lin&&e.Idx.all lM)=false:=by cases h1:hM e.Lin<;>cases h2:e.Idx.all lM<;>simp [h1,h2] at c1⊢
  rw [zLp,h8];rfl
 ·have h8:hM e.Lin=true/\e.Idx.all lM=true:=by cases h1:hM e.Lin<;>cases h2:e.Idx.all lM<;>simp [h1,h2] at c1⊢
  refine zI<|zF<|R O<|G O<|zA<|zP<|zU ⟨[(3,.c _),(1,.c _)],[_]⟩ (Weak.mk [true] ⟨zB,zB,T⟩ O)<|qF 1 0 O O (Nat) (fun k=>[(3,vI k)]) (fun k=>[]) (fun k=>k<=e.Args.length/\((e.Args.take k).all lH=true)) (fun k=>e.Args.length-k) ⟨0,⟨by omega,O⟩,Weak.mk [true] ⟨zB,zB,T⟩ O⟩ ?_
  rintro k ⟨hk,hp⟩
  refine zF<|R O<|G O<|zJ O yU<|zE kW (A 0 O) O<|qD O el55<|yC O<|zA<|zD O (fun c2=>?_) (fun c2=>?_)
  ·try simp only [sx] at c2
   obtain ⟨a,ha⟩:=qU e.Args k (by omega)
   refine zI<|zF<|zP<|R O<|zJ O yU<|zE kW (A 0 O) O<|G O<|zY O el55 (by omega) (wF ha)<|zQ yN zO O<|qS O ok75 (ih a (qE ha)) ⟨zB,O,T⟩<|zA<|zD O (fun c3=>?_) (fun c3=>?_)
   ·try simp only [sx] at c3
    refine R O<|G O<|zA<|zN<|zV O ?_
    have h7:lH a=false:=by simpa using c3
    rw [zLp,zFc ha h7,Bool.and_false];rfl
   ·try simp only [sx] at c3
    refine zI<|zK O<|G O<|qA O ⟨by omega,by omega⟩<|G O<|zA ?_
    refine ⟨k+1,⟨by omega,by rw [yD ha,List.all_append,hp];simp;simpa using c3⟩,(by omega),Weak.mk [true] ⟨zB,zB,T⟩ O⟩
  ·try simp only [sx] at c2
   refine qK<|R O<|G O<|zA<|zN<|zV O ?_
   rw [qX (l:=e.Args) (k:=k) (by omega)] at hp
   rw [zLp,h8.1,h8.2,hp];rfl
theorem r48_wideExpr (e:Ex) (hw:e.wt<=1000000000):Pur cfg 75 [vE e] (vB (!lH e)):=by
  induction e using Ex.ind with
  |_ e ih=>exact zOm e hw fun a ha=>ih a ha (by have:=kF ha;have:=e.wt_eq;omega)
theorem zFj (l:List St) (hw:bE l<=1000000000) (ih:∀s,s∈l->Pur cfg 33 [dM s.Body] (vB (!gA s.Body))):
    Pur cfg 33 [dM l] (vB (!gA l)):=by
 refine zW Tryz.func33 O Tryz.ntmps33 Tryz.results33 O ?_
 intro z hz
 have hll:=wH l
 refine R O<|G O<|zA<|zF<|R O<|G O<|zA<|zP<|zU ⟨[(3,.c _),(0,.c _)],[]⟩ (Weak.mk [] ⟨zB,zB,T⟩ O)<|qF 1 0 O O (Nat) (fun k=>[(3,vI k)]) (fun k=>[]) (fun k=>k<=l.length/\((l.take k).all sE=true)) (fun k=>l.length-k) ⟨0,⟨by omega,O⟩,Weak.mk [] ⟨zB,zB,T⟩ O⟩ ?_
 rintro k ⟨hk,hp⟩
 refine zF<|R O<|G O<|G O<|qD O el23<|yC O<|zA<|zD O (fun c1=>?_) (fun c1=>?_)
 ·try simp only [sx] at c1
  obtain ⟨s,hs⟩:=qU l k (by omega)
  have hsw:=kC (qE hs)
  have hse:=St.wt_eq s
  refine zI<|zF<|zP<|R O<|G O<|G O<|zY O el23 (by omega) (zCc hs)<|zT O zEz<|zE wI zO O<|qS O ok74 (zMk s.Idx (by omega) (by omega)) ⟨zB,O,T⟩<|G O<|rL0 O (fun g4_6=>zM O O) O<|rL0 O (fun g4_6=>zM O O) O<|rLz [(17,_),(18,_)] O gv1 ⟨O,O,O,O,T⟩ (fun g4_6=>qH O el23 O O (by omega) (zCc hs)) O<|B 19 O (fun g4_6=>qB O zBi O) O<|B 20 O (fun g4_6=>qC O yN O zO O) O<|B 21 O (fun g4_6=>qR O ok75 (r48_wideExpr s.E (by omega)) ⟨zB,O,T⟩) O<|r_or O (fun h=>(lzf h))<|G O<|rL0 O (fun g4_14=>zM O O) O<|rL0 O (fun g4_14=>zM O O) O<|rLz [(25,_),(26,_)] O gv1 ⟨O,O,O,O,T⟩ (fun g4_14=>qH O el23 O O (by omega) (zCc hs)) O<|B 27 O (fun g4_14=>qB O zBb O) O<|B 28 O (fun g4_14=>zC O zAh O zO O) O<|B 29 O (fun g4_14=>qR O ok33 (ih s (qE hs)) ⟨zB,O,T⟩) O<|r_or O (fun h=>(lzf h))<|zA<|zD O (fun c2=>?_) (fun c2=>?_)
  ·have h7:sE s=false:=by rw [fitT_eq];cases h1:s.Idx.all lM<;>cases h2:lH s.E<;>cases h3:gA s.Body<;>simp [h1,h2,h3] at c2⊢
   refine R O<|G O<|zA<|zN<|zV O ?_
   rw [fitTs_eq,zFc hs h7];rfl
  ·have h7:sE s=true:=by rw [fitT_eq];cases h1:s.Idx.all lM<;>cases h2:lH s.E<;>cases h3:gA s.Body<;>simp [h1,h2,h3] at c2⊢
   refine zI<|zK O<|G O<|qA O ⟨by omega,by omega⟩<|G O<|zA ?_
   refine ⟨k+1,⟨by omega,by rw [yD hs,List.all_append,hp];simp [h7]⟩,(by omega),Weak.mk [] ⟨zB,zB,T⟩ O⟩
 ·try simp only [sx] at c1
  refine qK<|R O<|G O<|zA<|zN<|zV O ?_
  rw [qX (l:=l) (k:=k) (by omega)] at hp
  rw [fitTs_eq,hp];rfl
theorem r48_wideStmts (l:List St) (hw:bE l<=1000000000):Pur cfg 33 [dM l] (vB (!gA l)):=by
  have key:∀s:St,bE s.Body<=1000000000->Pur cfg 33 [dM s.Body] (vB (!gA s.Body)):=fun s=>by
    induction s using St.ind with
    |_ s ih=>exact fun hs=>zFj s.Body hs fun a ha=>ih a ha (by have:=kC ha;have:=St.wt_eq a;omega)
  exact zFj l hw fun a ha=>key a (by have:=kC ha;have:=St.wt_eq a;omega)
set_option maxHeartbeats 4000000 in
theorem r48_Compile (n:Ns) (hn:n.Ok) (hw:bE n.Body<=800000) (hl:n.Bufs.length<=40):
    Pur cfg 13 [vNs n] (.tup [vUn (lJ n).1,vI (lJ n).2]):=by
 refine zW Tryz.func13 O Tryz.ntmps13 Tryz.results13 O ?_
 intro z hz
 have hbl:=wH n.Body
 refine R O<|zS O O (qP O O) ?_
 rintro _ _ ⟨b1,rfl,rfl⟩
 refine qT _ (qM 0 O 1 _ PLe.ptr)<|zS O O (qQ [some 11,some 5,some 3,none] O zr39 O) ?_
 rintro _ _ ⟨b2,rfl,rfl⟩
 refine G O<|zA<|zF<|R O<|zQ zAm zO O<|qS O ok31 (zKr n hn (by omega)) ⟨zB,O,T⟩<|zZ O (yA O O)<|kP O<|kP O<|G O<|G O<|zA<|R O<|G O<|wA O<|zA<|zD O (fun c1=>?_) (fun c1=>?_)
 ·try simp only [sx] at c1
  refine R O<|zZ O (kT [some 11,some 5,some 3,none] O zr39 pl39 O O)<|G O<|Y 0 sz39 O<|G O<|zA<|zN<|fin2 (qN agg39 O (A 0 O) O) (D O) ?_
  have hv:¬(bY n).2=0:=by simpa using c1
  rw [cmp_1 hv];rfl
 ·try simp only [sx] at c1
  have hv:(bY n).2=0:=by simpa using c1
  refine zI<|R O<|zQ zAm zO O<|qS O ok18 (ref41_Analyze n hn (by omega)) ⟨zB,O,T⟩<|zZ O (yA O O)<|kP O<|kP O<|G O<|G O<|zA<|zF ?_
  rw [zGy hv]
  refine zK O<|G O<|qS O ok32 (r42_Plan (bL n) (by rw [zDs];omega) (zHo hv)) ⟨zB,O,T⟩<|zZ O (yA O O)<|kP O<|kP O<|kP O<|G O<|G O<|G O<|zA<|zF<|R O<|G O<|wA O<|zA<|zD O (fun c2=>?_) (fun c2=>?_)
  ·exact absurd c2 (by decide)
  ·refine zI<|zF<|yL 4 1 [⟨0,.q []⟩,⟨1,.q []⟩,⟨3,.q []⟩,⟨2,.e 0 []⟩] mixed (by kernel_rfl) (by kernel_rfl) O O O<|J O<|J O<|J O<|J O<|wQ<|zX O (by decide) O O (qC O zAm O zO O)<|zX O (by decide) O O (qC O zAm O zO O)<|zX O (by decide) O O (zM O O)<|zEs O O (by decide) O O (zIz O ok11 (r48_Types n (by omega) (by omega)) ⟨zB,O,T⟩) ?_
   rintro _ _ ⟨sv3,rfl,rfl⟩
   refine ⟨_,O,?_⟩
   refine wP O<|yS O zr90 pl90<|zS O O (qP O O) ?_
   rintro _ _ ⟨b4,rfl,rfl⟩
   refine G O<|zA<|zF<|zF<|zU _ (kZ 9 1)<|zU _ (kZ 46 11)<|zU _ (yT 3 O (regs':=[(40,_),(42,.agg [_,_,_,_,_,_,_])]) (μ':=[_,_,_,_]) ⟨FLe.sl,FLe.agg ⟨.inl O,.inl O,.inr ⟨O,O⟩,.inl O,.inl O,.inl O,.inl O,T⟩,T⟩ ⟨EFle.refl _,EFle.refl _,EFle.row (ds:=[_,_,_,_,_,_,_]) ⟨.inl O,.inl O,.inr ⟨O,O⟩,.inl O,.inl O,.inl O,.inl O,T⟩,EFle.refl _,T⟩)<|zK O<|G O<|qI O<|zJ O fd90_1<|zE one28 (A 2 O) O<|zZ O (zPb O el28 O)<|zZ O (yH O O O)<|zA<|zD O (fun c3=>?_) (fun c3=>?_)
   ·try simp only [sx] at c3
    have h3:256<(jB n).length:=by omega
    refine R O<|zZ O (kT [some 11,some 5,some 3,none] O zr39 pl39 O O)<|Y 3 sz39 O<|G O<|zA<|zN<|fin2 (qN agg39 O (A 3 O) O) (D O) ?_
    rw [cmp_2 hv h3];rfl
   ·try simp only [sx] at c3
    have h3:¬256<(jB n).length:=by omega
    refine zI<|zF<|R O<|zT O zBs<|zE zAh zO O<|qS O ok33 (r48_wideStmts n.Body (by omega)) ⟨zB,O,T⟩<|zA<|zD O (fun c4=>?_) (fun c4=>?_)
    ·try simp only [sx] at c4
     have h4:gA n.Body=false:=by simpa using c4
     refine R O<|zZ O (kT [some 11,some 5,some 3,none] O zr39 pl39 O O)<|Y 3 sz39 O<|G O<|zA<|zN<|fin2 (qN agg39 O (A 3 O) O) (D O) ?_
     rw [cmp_3 hv h3 h4];rfl
    ·try simp only [sx] at c4
     have h4:gA n.Body=true:=by simpa using c4
     have hG:=gnN_ok hn hv hl (by omega)
     have hR:mG (gnN n) n.Body []:=valid_rdy (g:=gnN n) hv rfl
     refine zI<|zF<|R O<|G O<|zA<|zP<|zU ⟨[(12,.c _),(1,.c _),(2,.c _),(6,.c _),(8,.c _),(9,.c _),(11,.c _)],[_,_,_,_]⟩ (Weak.mk [true,true,true,true] ⟨zB,zB,zB,zB,zB,zB,zB,T⟩ O)<|qF 1 3 O O (Nat×Value×Value×List In×Bool) (fun ⟨k,sw,lw,cw,fw⟩=>[(12,vI k)]) (fun ⟨k,sw,lw,cw,fw⟩=>[E.vec sw 46 11 (cw.map In.cells),E.vec lw 9 1 (([]:List ByteArray).map fun s=>[cS s]),E.row b4 90 [.sl 8 (n.Bufs.map Bf.cells),.sl 20 (n.Body.map St.cells),.sl 5 ((jB n).map tyC),.sl 3 ((hC (bL n)).1.map Sl.cells),.lit lw,.lit sw,.lit (.bool fw)]]) (fun ⟨k,sw,lw,cw,fw⟩=>k<=n.Body.length/\(Em (lD 0 (fR (sL (gnN n) (bL n)) 0 (n.Body.take k))) cw fw)) (fun ⟨k,sw,lw,cw,fw⟩=>n.Body.length-k) ⟨⟨0,(.slice none 0 0),(.slice none 0 0),[],false⟩,⟨by omega,(by rw [List.take_zero,fR];exact Em.nil)⟩,Weak.mk [true,true,true,true] ⟨zB,zB,zB,zB,zB,zB,zB,T⟩ O⟩ ?_
     rintro ⟨k,sw,lw,cw,fw⟩ ⟨hk,hq⟩
     show AWP _ _ _ _ _ ⟨[(12,vI k)]++_,[E.vec sw 46 11 (cw.map In.cells),E.vec lw 9 1 (([]:List ByteArray).map fun s=>[cS s]),E.row b4 90 [.sl 8 (n.Bufs.map Bf.cells),.sl 20 (n.Body.map St.cells),.sl 5 ((jB n).map tyC),.sl 3 ((hC (bL n)).1.map Sl.cells),.lit lw,.lit sw,.lit (.bool fw)]]++_⟩
     refine zF<|R O<|G O<|zT O zBs<|zE zAh zO O<|qD O el23<|yC O<|zA<|zD O (fun c5=>?_) (fun c5=>?_)
     ·try simp only [sx] at c5
      obtain ⟨s,hs⟩:=qU n.Body k (by omega)
      have hsm:=qE hs
      have hsw:=kC hsm
      refine zI<|zF<|zP<|zF<|R O<|G O<|zA<|zP<|zU ⟨[(13,.c _),(1,.c _),(2,.c _),(6,.c _),(8,.c _),(9,.c _),(11,.c _),(12,.c _)],[_,_,_,_]⟩ (Weak.mk [true,true,true,true] ⟨zB,zB,zB,zB,zB,zB,zB,zB,T⟩ O)<|qF 1 3 O O (Nat×Value×Value×List In×Bool) (fun ⟨j,su,lu,cu,fu0⟩=>[(13,vI j)]) (fun ⟨j,su,lu,cu,fu0⟩=>[E.vec su 46 11 (cu.map In.cells),E.vec lu 9 1 (([]:List ByteArray).map fun s=>[cS s]),E.row b4 90 [.sl 8 (n.Bufs.map Bf.cells),.sl 20 (n.Body.map St.cells),.sl 5 ((jB n).map tyC),.sl 3 ((hC (bL n)).1.map Sl.cells),.lit lu,.lit su,.lit (.bool fu0)]]) (fun ⟨j,su,lu,cu,fu0⟩=>j<=n.Bufs.length/\(Em (lD 0 (fR (sL (gnN n) (bL n)) 0 (n.Body.take k)++fR (sV (gnN n) (bL n) k) 0 (n.Bufs.take j))) cu fu0)) (fun ⟨j,su,lu,cu,fu0⟩=>n.Bufs.length-j) ⟨⟨0,sw,lw,cw,fw⟩,⟨by omega,(by rw [List.take_zero,fR,List.append_nil];exact hq)⟩,Weak.mk [true,true,true,true] ⟨zB,zB,zB,zB,zB,zB,zB,zB,T⟩ O⟩ ?_
      rintro ⟨j,su,lu,cu,fu0⟩ ⟨hj,hx⟩
      show AWP _ _ _ _ _ ⟨[(13,vI j)]++_,[E.vec su 46 11 (cu.map In.cells),E.vec lu 9 1 (([]:List ByteArray).map fun s=>[cS s]),E.row b4 90 [.sl 8 (n.Bufs.map Bf.cells),.sl 20 (n.Body.map St.cells),.sl 5 ((jB n).map tyC),.sl 3 ((hC (bL n)).1.map Sl.cells),.lit lu,.lit su,.lit (.bool fu0)]]++_⟩
      refine zF<|R O<|G O<|zT O zAn<|zE zDg zO O<|qD O el22<|yC O<|zA<|zD O (fun c6=>?_) (fun c6=>?_)
      ·try simp only [sx] at c6
       obtain ⟨y,hy⟩:=qU n.Bufs j (by omega)
       have hlv:(bL n)[j]? =some (dU n.Body y):=by unfold bL;rw [List.getElem?_map,hy];rfl
       refine zI<|zF<|zP<|R O<|G O<|G O<|zY O el62 (by omega) (v hlv)<|zT O zIa<|zE one3 zO O<|G O<|yE O<|G O<|rL0 O (fun g19_7=>qB O zAn O) O<|B 77 O (fun g19_7=>zC O zDg O zO O) O<|rL0 O (fun g19_7=>zM O O) O<|rLz [(78,_),(79,_)] O gv1 ⟨O,O,O,O,T⟩ (fun g19_7=>qH O el22 O O (by omega) (v hy)) O<|B 80 O (fun g19_7=>qB O zIb O) O<|B 81 O (fun g19_7=>zC O one3 O zO O) O<|B 82 O (fun g19_7=>zAi O O O) O<|yW O (fun h=>h)<|zA<|zD O (fun c7=>?_) (fun c7=>?_)
       ·try simp only [sx] at c7
        refine zK O<|G O<|zT O zAn<|zE zDg zO O<|G O<|zY O el22 (by omega) (v hy)<|zT O zEc<|zE one9 zO O<|zS O O (yF [2,0,0] O ok34 (r48_clear hx y.Name hG (zQy hy O)) ⟨zB,O,zB,O,T⟩ O) ?_
        rintro _ _ ⟨_,⟨rfl,sv21,cd21,fu21,hE21,rfl⟩,rfl⟩
        refine zA<|zK O<|G O<|qA O ⟨by omega,by omega⟩<|G O<|zA ?_
        refine ⟨⟨j+1,sv21,lu,cd21,fu21⟩,⟨by omega,(by rw [wS _ hy,sV,if_pos (by rw [zLo hlv];exact ⟨c7.2,c7.1⟩),←List.append_assoc,zJu,Int.zero_add];exact hE21)⟩,(by show n.Bufs.length-(j+1)<n.Bufs.length-j;omega),Weak.mk [true,true,true,true] ⟨zB,zB,zB,zB,zB,zB,zB,zB,T⟩ O⟩
       ·try simp only [sx] at c7
        refine zI<|zK O<|G O<|qA O ⟨by omega,by omega⟩<|G O<|zA ?_
        refine ⟨⟨j+1,su,lu,cu,fu0⟩,⟨by omega,(by rw [wS _ hy,sV,if_neg (by rw [zLo hlv];exact fun h=>c7.elim (fun q=>q h.2) fun q=>h.1 q),List.append_nil];exact hx)⟩,(by show n.Bufs.length-(j+1)<n.Bufs.length-j;omega),Weak.mk [true,true,true,true] ⟨zB,zB,zB,zB,zB,zB,zB,zB,T⟩ O⟩
      ·try simp only [sx] at c6
       rw [qX (l:=n.Bufs) (k:=j) (by omega)] at hx
       refine qK<|zK O<|G O<|zT O zBs<|zE zAh zO O<|G O<|zY O el23 (by omega) (zCc hs)<|zQ zEi zO O<|zS O O (yF [2,0,0] O ok35 (r48_stmt hx hG s (zNz hR hsm) (by simp only [List.length_nil];omega) (r48_body b4 (gnN n) hG s)) ⟨zB,O,zB,O,T⟩ O) ?_
       rintro _ _ ⟨_,⟨rfl,sv22,cd22,fu22,sl22,hE22,rfl⟩,rfl⟩
       refine zA<|zK O<|G O<|qA O ⟨by omega,by omega⟩<|G O<|zA ?_
       refine ⟨⟨k+1,sv22,sl22,cd22,fu22⟩,⟨by omega,(by rw [wS _ hs,sL,←List.append_assoc,zJu,Int.zero_add];exact hE22)⟩,(by show n.Body.length-(k+1)<n.Body.length-k;omega),Weak.mk [true,true,true,true] ⟨zB,zB,zB,zB,zB,zB,zB,T⟩ O⟩
     ·try simp only [sx] at c5
      rw [qX (l:=n.Body) (k:=k) (by omega)] at hq
      refine qK<|R O<|G O<|zS O O (yF [2,0,0] O ok36 (kV (g:=gnN n) hq 0 0 0 0 _ (fun _=>O)) ⟨zB,O,zB,O,zB,O,zB,O,zB,O,T⟩ O) ?_
      rintro _ _ ⟨_,⟨rfl,sv24,cd24,fu24,hE24,rfl⟩,rfl⟩
      refine zA<|zF<|R O<|G O<|qI O<|zJ O fd90_5<|zE one4 (A 2 O) O<|zA<|zD O (fun c8=>?_) (fun c8=>?_)
      ·try simp only [sx] at c8
       refine R O<|zZ O (kT [some 11,some 5,some 3,none] O zr39 pl39 O O)<|Y 3 sz39 O<|G O<|zA<|zN<|fin2 (qN agg39 O (A 3 O) O) (D O) ?_
       rw [cmp_4 hv h3 h4 hE24 (by simpa using c8)];rfl
      ·try simp only [sx] at c8
       refine zI<|zF<|zU _ (yT 0 O (regs':=[]) (μ':=[_,_,_]) T ⟨EFle.refl _,EFle.row (ds:=[_,_,_,_,_,_,_]) ⟨.inl O,.inl O,.inl O,.inl O,.inl O,.inr ⟨O,O⟩,.inl O,T⟩,EFle.refl _,T⟩)<|qW 11 mixed (by kernel_rfl) O O<|zL O O (zM O O)<|zL O O (qL O O)<|zL O O (zH O zTm O)<|zL O O (zC O zIk O (A 1 O) O)<|zL O O (zM O O)<|zL O O (qL O O)<|zL O O (zH O fd90_1 O)<|zL O O (zC O one28 O (A 1 O) O)<|zL O O (zM O O)<|zL O O (zM O O)<|zL O O (kU O zr39 pl39 O)<|yM<|Y 2 sz39 O<|G O<|zA<|zN<|fin2 (qN agg39 O (A 2 O) O) (D O) ?_
       rw [cmp_5 hv h3 h4 hE24 (by simpa using c8)];rfl
end Go.W
